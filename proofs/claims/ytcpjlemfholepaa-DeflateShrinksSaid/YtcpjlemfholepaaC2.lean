/- Part C2. -/
import Derived.Test.YtcpjlemfholepaaC1
set_option linter.unusedSimpArgs false
set_option linter.unusedVariables false
namespace Ab
open Go
theorem dt {p:Prop} [Decidable p] (h:p):decide p=true:=Si h
theorem df {p:Prop} [Decidable p] (h:¬p):decide p=false:=Sf h
theorem Q6 {a b:Int} (h:a=b):(a==b)=true:=by simp [h]
theorem Q5 {a b:Int} (h:¬a=b):(a==b)=false:=by simp [h]
theorem Ra {a b:Int} (h:¬a=b):(a !=b)=true:=by simp [h]
theorem Q9 {a b:Int} (h:a=b):(a !=b)=false:=by simp [h]
theorem wi {n:Int} (h: -9223372036854775808≤n∧n<9223372036854775808):IntKind.wrap .i64 n=n:=tD h.1 (by omega)
theorem wb {n:Int} (h:0≤n∧n<256):IntKind.wrap .u8 n=n:=by
 simp [IntKind.wrap,IntKind.bits,IntKind.signed];omega
theorem Pc {i:Int} {n:Nat} (h:0≤i∧i<n):cI (.int .i64 i) n=some i.toNat:=by
 simp [cI,nB,h]
def at_:Nat→aF→aF
 |0,.seq a _=>a
 |0,c=>c
 |n+1,.seq _ b=>at_ n b
 |_+1,c=>c
def Ls:Nat→aF→aF
 |0,c=>c
 |n+1,.seq _ b=>Ls n b
 |_+1,c=>c
theorem Ad (a b:aF):at_ 0 (.seq a b)=a:=rfl
theorem AL (n:Nat) (a b:aF):at_ (n+1) (.seq a b)=at_ n b:=rfl
theorem Lb (c:aF):Ls 0 c=c:=rfl
theorem La (n:Nat) (a b:aF):Ls (n+1) (.seq a b)=Ls n b:=rfl
theorem AX {h:H} {id i:Nat} (e:¬i=id):(h.del id).get i=h.get i:=by rw[H.dL,if_neg e]
theorem Bd (h:H):h.dI.next=h.next:=uG rfl rfl
theorem AY (h:H):h.dI.floor=h.next:=uG rfl rfl
theorem A3 (h:H) (i:Nat):h.dI.get i=h.get i:=uG rfl rfl
theorem E8 (h:H) (i:Nat):(h.del i).next=h.next:=uG rfl rfl
theorem EY (h:H) (i:Nat):(h.del i).floor=h.floor:=uG rfl rfl
theorem vx {h:H} {cs:List AV} {i:Nat} (e:i=h.next):(h.alloc cs).get i=some cs:=by rw[H.aV,if_pos e]
theorem vu {h:H} {cs:List AV} {i:Nat} (e:¬i=h.next):(h.alloc cs).get i=h.get i:=by rw[H.aV,if_neg e]
theorem vA {h:H} {cs:List AV} {id i:Nat} (e:i=id):(h.set id cs).get i=(h.get i).map fun _=>cs:=by rw[H.dg,if_pos e,e]
theorem vi {h:H} {cs:List AV} {id i:Nat} (e:¬i=id):(h.set id cs).get i=h.get i:=by rw[H.dg,if_neg e]
def xk {α:Type} (b:Bool) (x:α):Option α:=if b then some x else none
theorem H3 {α:Type} (x:α):xk true x=some x:=rfl
theorem K2 (h:H) (id off n:Nat) (v cs:List AV):tS h id off n v (some cs)=xk (decide (h.floor≤id)&&(decide (v.length=n)&&(decide (off+n≤cs.length)&&AV.aB v))) (h.set id (setFrom cs off v)):=by
 simp only[tS,uJ,xk]
 by_cases c:h.floor≤id∧v.length=n∧off+n≤cs.length∧AV.aB v=true
 · rw[if_pos c];obtain⟨c1,c2,c3,c4⟩:=c;simp [c1,c2,c3,c4]
 · rw[if_neg c,if_neg];simpa using c
theorem Lr (n:Nat) (cs:List AV) (off:Nat):gQ true n cs off=xk (decide (off+n≤cs.length)) (.agg ((cs.drop off).take n)):=by
 simp only[gQ,xk,if_true,decide_eq_true_eq]
theorem J9 (z:List AV):dJ z []=some z:=rfl
def F7 (r:List (Nat×Nat×AV)) (p:Option (List AV)):Option (List AV):=p.bind fun z=>dJ z r
theorem Ic (r:List (Nat×Nat×AV)) (z:List AV):F7 r (some z)=dJ z r:=rfl
theorem J8 (z:List AV) (o n:Nat) (v:AV) (r:List (Nat×Nat×AV)):dJ z ((o,n,v)::r)=F7 r (xk (decide (v.cells.length=n)&&(decide (o+n≤z.length)&&AV.aB v.cells)) (setFrom z o v.cells)):=by
 simp only[dJ,xk]
 by_cases c:v.cells.length=n∧o+n≤z.length∧AV.aB v.cells=true
 · rw[if_pos c];obtain⟨c1,c2,c3⟩:=c;simp [c1,c2,c3,F7]
 · rw[if_neg c,if_neg]; · rfl
   simpa using c
def FK (p:Option (List AV)) (f:Nat→AV):Option (List AV×(Nat→AV)):=p.bind fun cs=>some (cs,f)
theorem JU (cs:List AV) (f:Nat→AV):FK (some cs) f=some (cs,f):=rfl
theorem DW (e:Env) (z:List AV):aX e (.alloc z)=FK (xk (AV.aB z) z) (fun i=>.aC i 0):=by
 simp only[aX,xk];split<;>rfl
theorem HZ (e:Env) (n:Nat) (x:X):aX e (.box n x)=FK (xk (decide ((x.ev e).cells.length=n)&&AV.aB (x.ev e).cells) (x.ev e).cells) (fun i=>.aC i 0):=by
 simp only[aX,xk]
 by_cases c:(x.ev e).cells.length=n∧AV.aB (x.ev e).cells=true
 · rw[if_pos c];simp [c,FK]
 · rw[if_neg c,if_neg]; · rfl
   simpa using c
theorem Cz (e:Env) (sz len:Nat) (z:List AV) (ps:List (Nat×X)):aX e (.cy sz len z ps)=FK (F7 (ps.map fun p=>(p.1* sz,sz,p.2.ev e)) (xk (decide (z.length=sz)&&(decide (0<sz)&&AV.aB z)) (dz len z))) (fun i=>.aD i 0 len sz):=by
 simp only[aX,xk]
 by_cases c:z.length=sz∧0<sz∧AV.aB z=true
 · rw[if_pos c];simp [c,FK,F7]
 · rw[if_neg c,if_neg]; · rfl
   simpa using c
theorem KN (z:List AV):dz 0 z=[]:=rfl
theorem KM (n:Nat) (z:List AV):dz (n+1) z=z++dz n z:=rfl
def OH (vY:List Nat) (e:Env) (h:H) (b:Bool):dq:=if b then some (.normal,ax e vY,h)else none
theorem Ki (vY:List Nat) (e:Env) (h:H):OH vY e h true=some (.normal,ax e vY,h):=rfl
def Q7 (c:ae) (ops:List aj) (fl:List (Nat×List Nat)) (vY:List Nat) (p:Option (Env×H×List H)):dq:=p.bind fun q=>OH vY q.1 q.2.1 (aY c ops q.1 q.2.2 fl)
theorem Ml (c:ae) (ops:List aj) (fl:List (Nat×List Nat)) (vY:List Nat) (e:Env) (h:H) (gs:List H):Q7 c ops fl vY (some (e,h,gs))=OH vY e h (aY c ops e gs fl):=rfl
theorem HW (c:ae) (l:bG) (ord:List Nat) (ops:List aj) (x:Nat×List Nat) (fl:List (Nat×List Nat)) (vY:List Nat) (e:Env) (h:H):aK c l (.iH ord ops (x::fl) vY) e h=Q7 c ops (x::fl) vY (aM c ops e h):=by
 rw[aK];rfl
theorem MH (c:ae) (ops:List aj) (e:Env) (gs:List H):aY c ops e gs []=true:=rfl
def QH (c:ae) (ops:List aj) (e:Env) (gs:List H) (i:Nat) (ks:List Nat):Bool:=ks.all (bE c ops e gs i)
theorem MG (c:ae) (ops:List aj) (e:Env) (gs:List H) (i:Nat) (ks:List Nat) (r:List (Nat×List Nat)):aY c ops e gs ((i,ks)::r)=(QH c ops e gs i ks&&aY c ops e gs r):=rfl
theorem ME (c:ae) (ops:List aj) (e:Env) (gs:List H) (i:Nat):QH c ops e gs i []=true:=rfl
def O3 (c : ae) (e : Env) (o : Option aj) (g : Option H) : Bool := match o, g with
 | some o, some g =>
   if o.op.aH then
    match o.dst.map (look e)with
    |some (.bL [])=>true
    | some v => (match v.id?, aX e o.op with
      |some id,some b=>(match g.get id with|some cs=>AV.fM cs b.1|none=>false)
      |_,_=>false)
    |none=>false
   else match o.dst.map (look e)with
    |some v=>(match ai c o e g with|some (u,_)=>AV.beq u v|none=>false)
    |none=>false
 |_,_=>false
theorem MD (c:ae) (ops:List aj) (e:Env) (gs:List H) (i k:Nat) (r:List Nat):QH c ops e gs i (k::r)=(O3 c e (ops[i]?) (gs[k]?)&&QH c ops e gs i r):=by
 unfold QH
 rw[List.all_cons]
 congr 1
def Q1 (v:AV) (p:Option (AV×H)):Bool:=match p with|some (u,_)=>AV.beq u v|none=>false
theorem MF (v u:AV) (h:H):Q1 v (some (u,h))=AV.beq u v:=rfl
def O8 (b:Bool) (x y:Bool):Bool:=if b then x else y
theorem MB (x y:Bool):O8 false x y=y:=rfl
def DS (c:ae) (e:Env) (o:Option aj) (g:Option H):Bool:=O3 c e o g
theorem MA (c:ae) (e:Env) (d:Nat) (op:bT) (g:H):O3 c e (some ⟨some d,op,none⟩) (some g)=O8 op.aH (DS c e (some ⟨some d,op,none⟩) (some g)) (Q1 (look e d) (ah c e g op)):=by
 unfold DS O3 O8
 dsimp only
 cases op.aH<;>rfl
theorem My (c:ae) (e:Env) (d:Nat) (op:bT) (k:Nat) (w:Bool) (g:H):O3 c e (some ⟨some d,op,some (k,w)⟩) (some g)=O8 op.aH (DS c e (some ⟨some d,op,some (k,w)⟩) (some g)) (Q1 (look e d) (kP w c e g op (look e k))):=by
 unfold DS O3 O8
 dsimp only
 cases op.aH with
 |true=>rfl
 |false=>rw[mJ];rfl
mutual
theorem beq_refl:∀a:AV,AV.beq a a=true
 | .bot=>rfl
 | .bool b=>by simp [AV.beq]
 | .int k n=>by simp [AV.beq]
 | .str s=>Cn s
 | .cg=>rfl
 | .aC i o=>by simp [AV.beq]
 | .aJ c o=>by simp [AV.beq,wZ c]
 | .aO=>rfl
 | .aD i o l z=>by simp [AV.beq]
 | .aU t c o l z=>by simp [AV.beq,wZ c]
 | .fn f a b=>by simp [AV.beq,wZ a,wZ b]
 | .eG=>rfl
 | .iface t v=>by simp [AV.beq,beq_refl v]
 | .eH=>rfl
 | .agg c=>by simp [AV.beq,wZ c]
 | .bL c=>by simp [AV.beq,wZ c]
theorem wZ:∀l:List AV,AV.fM l l=true
 |[]=>rfl
 |a::l=>by simp [AV.fM,beq_refl a,wZ l]
end
theorem MC (x y:Bool):O8 true x y=x:=rfl
def Pf (c:Option (List AV)) (d:List AV):Bool:=match c with|some cs=>AV.fM cs d|none=>false
theorem Mj (c d:List AV):Pf (some c) d=AV.fM c d:=rfl
def Fs (v : AV) (b : Option (List AV × (Nat → AV))) (g : H) : Bool := match v with
 | .bL []=>true
 | v => match v.id?, b with
   |some id,some b=>Pf (g.get id) b.1
   |_,_=>false
theorem K0 (b:Option (List AV×(Nat→AV))) (g:H):Fs (.bL []) b g=true:=rfl
theorem KZ (i o:Nat) (cs:List AV) (f:Nat→AV) (g:H):Fs (.aC i o) (some (cs,f)) g=Pf (g.get i) cs:=rfl
theorem KY (i o l z:Nat) (cs:List AV) (f:Nat→AV) (g:H):Fs (.aD i o l z) (some (cs,f)) g=Pf (g.get i) cs:=rfl
theorem Cv {c : ae} {e : Env} {d : Nat} {op : bT} {gd : Option (Nat × Bool)} {g : H} (hb : op.aH = true) : DS c e (some ⟨some d, op, gd⟩) (some g) = Fs (look e d) (aX e op) g := by
 unfold DS O3
 dsimp only
 rw[hb,if_pos rfl]
 show (match some (look e d) with
  |some (.bL [])=>true
  | some v => (match v.id?, aX e op with
    |some id,some b=>(match g.get id with|some cs=>AV.fM cs b.1|none=>false)
    |_,_=>false)
  |none=>false)=_
 generalize look e d=v
 unfold Fs Pf
 cases v with
 |bL vs=>cases vs<;>rfl
 |_=>cases aX e op<;>rfl
theorem Dw (c:ae) (e:Env) (d:Nat) (z:List AV) (gd:Option (Nat×Bool)) (g:H):DS c e (some ⟨some d,.alloc z,gd⟩) (some g)=Fs (look e d) (aX e (.alloc z)) g:=Cv rfl
theorem GX (c:ae) (e:Env) (d n:Nat) (x:X) (gd:Option (Nat×Bool)) (g:H):DS c e (some ⟨some d,.box n x,gd⟩) (some g)=Fs (look e d) (aX e (.box n x)) g:=Cv rfl
theorem Cd (c:ae) (e:Env) (d n m:Nat) (z:List AV) (ps:List (Nat×X)) (gd:Option (Nat×Bool)) (g:H):DS c e (some ⟨some d,.cy n m z ps,gd⟩) (some g)=Fs (look e d) (aX e (.cy n m z ps)) g:=Cv rfl
theorem EC (c:ae) (e:Env) (d n m:Nat) (z:List AV) (x y:X) (gd:Option (Nat×Bool)) (g:H):DS c e (some ⟨some d,.iJ n m z x y,gd⟩) (some g)=Fs (look e d) (aX e (.iJ n m z x y)) g:=Cv rfl
theorem FE (b:Bool):AV.beq (.bool b) (.bool b)=true:=by simp [AV.beq]
theorem FI:AV.beq (.bL []) (.bL [])=true:=rfl
theorem FG:AV.beq .aO .aO=true:=rfl
theorem DU:AV.beq .cg .cg=true:=rfl
theorem Kn (sz id off len:Nat) (i:AV):fJ sz (.aD id off len sz) i=uc id off sz (cI i len):=by simp [fJ,uc]
theorem Km (t:Bool) (cells:List AV) (sz off len:Nat) (i:AV):fJ sz (.aU t cells off len sz) i=ud cells off sz (cI i len):=by simp [fJ,ud]
def xW (n:Nat) (z:List AV):List AV:=dz n z
def Mp (sz bytes:Nat) (zero:List AV) (l c:AV):Option (List AV×(Nat→AV)):=
 match l,c with
 | .int .i64 l,.int .i64 c=>FK (xk (decide (0≤l)&&(decide (l≤c)&&(decide (c≤9223372036854775807)&&(decide ((bytes:Int)* c≤281474976710656)&&(decide (zero.length=sz)&&(decide (0<sz)&&AV.aB zero)))))) (xW c.toNat zero)) (fun i=>.aD i 0 l.toNat sz)
 |_,_=>none
theorem E6 (sz bytes:Nat) (zero:List AV) (l c:Int):Mp sz bytes zero (.int .i64 l) (.int .i64 c)=FK (xk (decide (0≤l)&&(decide (l≤c)&&(decide (c≤9223372036854775807)&&(decide ((bytes:Int)* c≤281474976710656)&&(decide (zero.length=sz)&&(decide (0<sz)&&AV.aB zero)))))) (xW c.toNat zero)) (fun i=>.aD i 0 l.toNat sz):=rfl
theorem FM (e : Env) (sz bytes : Nat) (zero : List AV) (l c : X) : aX e (.iJ sz bytes zero l c) = Mp sz bytes zero (l.ev e) (c.ev e) := by
 simp only[aX]
 cases l.ev e with
 | int k l => cases k <;> cases c.ev e with
   | int k2 c => cases k2 <;> first
     |rfl
     | (simp only [E6, xk]
        by_cases q:0≤l∧l≤c∧c≤9223372036854775807∧(bytes:Int)* c≤281474976710656∧zero.length=sz∧0<sz∧AV.aB zero=true
        · rw[if_pos q];obtain⟨q1,q2,q3,q4,q5,q6,q7⟩:=q
          rw[if_pos]
          · rfl
          · simp [q1,q2,q3,q4,q5,q6,q7]
        · rw[if_neg q,if_neg]
          · rfl
          · simpa using q)
   |_=>rfl
 |_=>cases c.ev e<;>rfl
theorem zt (i o l z:Nat):iV false (.aD i o l z)=some (.int .i64 l):=rfl
theorem EL:iV false .aO=some (.int .i64 0):=rfl
theorem Hi (t:Bool) (c:List AV) (o l z:Nat):iV false (.aU t c o l z)=some (.int .i64 l):=rfl
theorem wy (s:ByteArray):iV true (.str s)=some (.int .i64 s.size):=rfl
theorem Ld (a b:Nat):((a:Int)+(b:Int)).toNat=a+b:=by omega
theorem HO (a:Nat):((a:Int)).toNat=a:=by omega
def xi (s:ByteArray) (i:Nat):Nat:=((s[i]?).map (·.toNat)).getD 0
theorem CC (s:ByteArray) (i:Nat):xi s i<256:=by
 unfold xi
 cases s[i]? with
 |none=>simp
 |some b=>simp;exact b.toNat_lt
theorem zS {s:ByteArray} {i:Int} (h:0≤i∧i<s.size):lV (.str s) (.int .i64 i)=some (.int .u8 (xi s i.toNat:Nat)):=by
 have hi:i.toNat<s.size:=by omega
 simp [lV,Pc h,xi,hi]
def BL {α:Type} (b:Bool) (x y:Option α):Option α:=if b then x else y
theorem KS {α:Type} (x y:Option α):BL true x y=x:=rfl
theorem KR {α:Type} (x y:Option α):BL false x y=y:=rfl
def O2 (n o k:Nat) (p:Option (List AV)):Option (Nat×List AV):=p.bind fun cs=>xk (decide (o+k* n≤cs.length)) (k,(cs.drop o).take (k* n))
theorem KX (n o k:Nat) (cs:List AV):O2 n o k (some cs)=xk (decide (o+k* n≤cs.length)) (k,(cs.drop o).take (k* n)):=rfl
theorem Mw (h:H) (n p o k:Nat):aR h n (.aD p o k n)=O2 n o k (h.get p):=by
 simp only[aR,if_true,O2]
 cases h.get p with
 |none=>rfl
 |some cs=>simp only[uJ,xk,decide_eq_true_eq]
theorem Mu (h:H) (t:Bool) (n o k:Nat) (cs:List AV):aR h n (.aU t cs o k n)=xk (decide (o+k* n≤cs.length)) (k,(cs.drop o).take (k* n)):=by
 simp only[aR,if_true,xk,decide_eq_true_eq]
theorem Mv (h:H) (n:Nat):aR h n .aO=some (0,[]):=uG rfl rfl
theorem Mx (h:H) (s:ByteArray):aR h 1 (.str s)=some (s.size,s.data.toList.map fun b=>.int .u8 b.toNat):=uG rfl rfl
def Pd (h:H) (n z:Nat) (a:AV) (p:Option (Nat×List AV)):Option (AV×H):=p.bind fun r=>dE h n z a r.1 r.2
theorem JQ (h:H) (n z:Nat) (a:AV) (m:Nat) (bs:List AV):Pd h n z a (some (m,bs))=dE h n z a m bs:=rfl
theorem Mi (h:H) (n z:Nat) (a b:AV):kA h n z a b=Pd h n z a (aR h n b):=uG rfl rfl
def QP (h:H) (n z p o k m:Nat) (bs:List AV) (q:Option (List AV)):Option (AV×H):=q.bind fun cs=>
 BL (decide (o+(k+m)* n≤cs.length)) (some (.aD p o (k+m) n,h.set p (setFrom cs (o+k* n) bs))) (BL (decide (o+k* n=cs.length)&&roomy z (k+m)) (some (.aD h.next 0 (k+m) n,(h.del p).alloc (cs.drop o++bs))) none)
theorem Mf (h:H) (n z p o k m:Nat) (bs cs:List AV):QP h n z p o k m bs (some cs)=BL (decide (o+(k+m)* n≤cs.length)) (some (.aD p o (k+m) n,h.set p (setFrom cs (o+k* n) bs))) (BL (decide (o+k* n=cs.length)&&roomy z (k+m)) (some (.aD h.next 0 (k+m) n,(h.del p).alloc (cs.drop o++bs))) none):=rfl
theorem Mh (h : H) (n z p o k m : Nat) (bs : List AV) : dE h n z (.aD p o k n) m bs = BL (decide (m = 0)) (some (.aD p o k n, h)) (BL (AV.aB bs && (decide (0 < n) && decide (h.floor ≤ p))) (QP h n z p o k m bs (h.get p)) none) := by
 unfold dE BL
 by_cases c:m=0
 · simp [c]
 · rw [if_neg c]
   simp only[decide_eq_true_eq,if_neg c]
   by_cases c1:AV.aB bs=false∨n=0
   · rw[if_pos c1,if_neg]
     rcases c1 with c1|c1
     · simp [c1]
     · simp [c1]
   · rw[if_neg c1]
     have q1:AV.aB bs=true:=by cases q:AV.aB bs with|true=>rfl|false=>exact absurd (.inl q) c1
     by_cases c2:h.floor≤p
     · have qq:(AV.aB bs&&(decide (0<n)&&decide (h.floor≤p)))=true:=by simp [q1,c2];omega
       simp only[true_and,if_pos c2,qq,if_true,QP,BL]
       cases h.get p with
       |none=>rfl
       |some cs=>simp only[uJ,decide_eq_true_eq,uN]
     · have qq:(AV.aB bs&&(decide (0<n)&&decide (h.floor≤p)))=false:=by simp [c2]
       simp only[true_and,if_neg c2,qq];rfl
theorem Mg (h:H) (n z m:Nat) (bs:List AV):dE h n z .aO m bs=BL (decide (m=0)) (some (.aO,h)) (BL (AV.aB bs&&(decide (0<n)&&roomy z m)) (some (.aD h.next 0 m n,h.alloc bs)) none):=by
 unfold dE BL
 by_cases c:m=0
 · simp [c]
 · rw[if_neg c]
   simp only[decide_eq_true_eq,if_neg c]
   by_cases c1:AV.aB bs=false∨n=0
   · rw[if_pos c1,if_neg]
     rcases c1 with c1|c1
     · simp [c1]
     · simp [c1]
   · rw[if_neg c1]
     have q1:AV.aB bs=true:=by cases q:AV.aB bs with|true=>rfl|false=>exact absurd (.inl q) c1
     have q2:0<n:=by omega
     simp [q1,q2]
theorem zW {b n:Nat} (h:1≤b∧(n+n/4+512)* b≤281474976710656):roomy b n=true:=by simp only[roomy,h.1,h.2,and_self,decide_true]
theorem Mt {h:H} {n p o k:Nat} {m:Int} {cs:List AV} (hg:h.get p=some cs) (hn:0<n) (hk:o+k* n≤cs.length) (hm:0≤m∧m.toNat≤(cs.length-o)/n):rP h n (.aD p o k n) none (some (.int .i64 m)) none=some (.aD p o m.toNat n):=by
 have h1:k≤(cs.length-o)/n:=by rw[Nat.le_div_iff_mul_le hn];omega
 simp only[rP,hn,and_self,if_true,hg,uJ,aA]
 rw[if_pos ⟨by omega,h1⟩]
 have h3:j2 (.int .i64 m) ((cs.length-o)/n)=some m.toNat:=by
  simp only[j2,nB,uJ]
  rw[if_pos]
  omega
 simp [h3]
theorem Kd {α:Type} {C:α→List AV} {n:Nat} (hC:∀x,(C x).length=n):∀{l:List α} {i f:Nat} {x:α},l[i]?=some x→f<n→(l.flatMap C)[i* n+f]?=(C x)[f]?
 |[],i,f,x,h,_=>by simp at h
 | y :: l, 0, f, x, h, hf => by
   obtain rfl:y=x:=by simpa using h
   rw[Sj,Nat.zero_mul,uR,Sn (by rw[hC];exact hf)]
 | y :: l, i + 1, f, x, h, hf => by
   rw[Sj,So (by rw[hC,u5];omega),hC]
   rw[show(i+1)* n+f-n=i* n+f by rw[u5];omega]
   exact Kd hC (by simpa using h) hf
theorem Bw {α:Type} {C:α→List AV} {n:Nat} (hC:∀x,(C x).length=n):∀l:List α,(l.flatMap C).length=l.length* n
 |[]=>by simp
 |y::l=>by rw[Sj,vb,hC,Bw hC l,Sc,u5];omega
theorem EZ {α:Type} {C:α→List AV} {n:Nat} (hC:∀x,(C x).length=n):∀{l:List α} {i:Nat} {x:α},l[i]?=some x→((l.flatMap C).drop (i* n)).take n=C x
 |[],i,x,h=>by simp at h
 | y :: l, 0, x, h => by
   obtain rfl:y=x:=by simpa using h
   rw[Sj,Nat.zero_mul,Sy,List.take_append_of_le_length (by rw[hC];omega),u4 (by rw[hC];omega)]
 | y :: l, i + 1, x, h => by
   rw[Sj,List.drop_append,List.drop_of_length_le (by rw[hC,u5];omega),List.nil_append,hC,show(i+1)* n-n=i* n by rw[u5];omega]
   exact EZ hC (by simpa using h)
def yI (n:Nat) (h:H) (v:AV) (k:Nat) (cs:List AV):Prop:=aR h n v=some (k,cs)∧cs.length=k* n∧∀s,v≠.str s
theorem Rd.Rb {h:H} {v:AV} {cs:List AV} (r:Rd h v cs):yI 1 h v cs.length cs:=⟨r.1,by omega,r.2⟩
theorem yI.len {n:Nat} {h:H} {v:AV} {k:Nat} {cs:List AV} (r:yI n h v k cs):iV false v=some (.int .i64 k):=by
 obtain⟨r,_,hs⟩:=r
 unfold aR at r
 split at r
 · obtain⟨h1,h2⟩:=uE (uC r);subst h1;rfl
 · exact absurd rfl (hs _)
 · split at r
   · simp only[uz]at r
     obtain⟨c,_,r⟩:=r
     split at r
     · obtain⟨h1,h2⟩:=uE (uC r);simp [iV,h1]
     · cases r
   · cases r
 · split at r
   · split at r
     · obtain⟨h1,h2⟩:=uE (uC r);simp [iV,h1]
     · cases r
   · cases r
 · cases r
theorem yI.mono {n:Nat} {h g:H} {v:AV} {k:Nat} {cs:List AV} (r:yI n h v k cs) (hg:∀id c,h.get id=some c→g.get id=some c):yI n g v k cs:=by
 obtain⟨r,hl,hs⟩:=r
 refine⟨?_,hl,hs⟩
 unfold aR at r ⊢
 split at r
 · exact r
 · exact r
 · split at r
   · rename_i q;simp only[if_pos q,uz]at r ⊢
     obtain⟨c,h1,r⟩:=r
     exact⟨c,hg _ _ h1,r⟩
   · cases r
 · exact r
 · cases r
theorem yI.at_ {n : Nat} {h : H} {v : AV} {k : Nat} {cs : List AV} (r : yI n h v k cs) : ∃ ad : Int → Nat → AV,
 (∀i:Int,0≤i∧i<k→fJ n v (.int .i64 i)=some (ad i 0))∧
 (∀(i:Int) (f g:Nat),0≤i∧i<k→eX g (ad i f)=some (ad i (f+g)))∧
 (∀(i:Int) (f:Nat) (g:H),0≤i∧i<k→js g (ad i f)=some (ad i f,g))∧
 (∀g:H,(∀id c,h.get id=some c→g.get id=some c)→(∀(i:Int) (f:Nat) (c:AV),0≤i∧i<k→cs[i.toNat* n+f]?=some c→bP false 1 (ad i f) g=some c)∧
   ∀i:Int,0≤i∧i<k→bP true n (ad i 0) g=some (.agg ((cs.drop (i.toNat* n)).take n))):=by
 obtain⟨r,hl,hs⟩:=r
 unfold aR at r
 split at r
 · obtain⟨h1,h2⟩:=uE (uC r);subst h1
   exact⟨fun _ _=>.bot,fun i hi=>by omega,fun i f g hi=>by omega,fun i f g hi=>by omega,fun g _=>⟨fun i f c hi=>by omega,fun i hi=>by omega⟩⟩
 · exact absurd rfl (hs _)
 · rename_i id off len s
   split at r
   · rename_i q
     subst q
     simp only[uz]at r
     obtain⟨d,hd,r⟩:=r
     split at r
     · rename_i hle
       obtain⟨h1,h2⟩:=uE (uC r)
       subst h1
       have bnd:∀i:Int,0≤i∧i<len→i.toNat* s+s≤len* s:=fun i hi=>by
        have:=uP s (show i.toNat+1≤len by omega);rw[u5]at this;omega
       refine⟨fun i f=>.aC id (off+i.toNat* s+f),fun i hi=>by simp [fJ,Pc hi],fun i f g _=>by simp [eX];omega,fun i f g _=>rfl,fun g hg=>⟨fun i f c hi hc=> ?_,fun i hi=> ?_⟩⟩
       · simp only[bP,hg _ _ hd,uJ,gQ,uK,ve]
         rw[←h2,u9]at hc
         split at hc
         · rw[uX]at hc;rw[uL];exact hc
         · cases hc
       · have:=bnd i hi
         simp only[bP,hg _ _ hd,uJ,gQ,if_true,Nat.add_zero]
         rw[if_pos (by omega),←h2,List.drop_take,List.take_take,List.drop_drop,Nat.min_eq_left (by omega)]
     · cases r
   · cases r
 · rename_i t cells off len s
   split at r
   · rename_i q
     subst q
     split at r
     · rename_i hle
       obtain⟨h1,h2⟩:=uE (uC r)
       subst h1
       have bnd:∀i:Int,0≤i∧i<len→i.toNat* s+s≤len* s:=fun i hi=>by
        have:=uP s (show i.toNat+1≤len by omega);rw[u5]at this;omega
       refine⟨fun i f=>.aJ cells (off+i.toNat* s+f),fun i hi=>by simp [fJ,Pc hi],fun i f g _=>by simp [eX];omega,fun i f g _=>rfl,fun g hg=>⟨fun i f c hi hc=> ?_,fun i hi=> ?_⟩⟩
       · simp only[bP,gQ,uK,ve]
         rw[←h2,u9]at hc
         split at hc
         · rw[uX]at hc;rw[uL];exact hc
         · cases hc
       · have:=bnd i hi
         simp only[bP,gQ,if_true,Nat.add_zero]
         rw[if_pos (by omega),←h2,List.drop_take,List.take_take,List.drop_drop,Nat.min_eq_left (by omega)]
     · cases r
   · cases r
 · cases r
def wm (n:Nat) (h:H) (v:AV) (k:Nat) (cs:List AV):Prop:=cs.length=k* n∧((v=.aO∧k=0)∨∃id,v=.aD id 0 k n∧h.get id=some cs∧h.floor≤id∧0<k)
theorem wm.nil {n:Nat} {h:H}:wm n h .aO 0 []:=⟨by simp,.inl ⟨rfl,rfl⟩⟩
theorem wm.mono {n:Nat} {h g:H} {v:AV} {k:Nat} {cs:List AV} (o:wm n h v k cs) (hf:g.floor=h.floor) (hg:∀i,v.id?=some i→g.get i=h.get i):wm n g v k cs:=by
 obtain⟨l,o⟩:=o
 refine⟨l, ?_⟩
 rcases o with o|⟨id,rfl,h1,h2,h3⟩
 · exact .inl o
 · exact .inr ⟨id,rfl,by rw[hg id rfl];exact h1,by rw[hf];exact h2,h3⟩
theorem wm.sc {n:Nat} {h:H} {v:AV} {k:Nat} {cs:List AV} (o:wm n h v k cs):v.sc=true:=by
 rcases o.2 with ⟨rfl,_⟩|⟨id,rfl,_⟩<;>rfl
theorem wm.lt {n:Nat} {h:H} {v:AV} {k:Nat} {cs:List AV} (o:wm n h v k cs) {i:Nat} (hi:v.id?=some i):h.floor≤i∧i<h.next:=by
 rcases o.2 with ⟨rfl,_⟩|⟨id,rfl,h1,h2⟩
 · cases hi
 · obtain rfl:=uC hi;exact⟨h2.1,h.lt _ _ h1⟩
theorem wm.rd {n:Nat} {h:H} {v:AV} {k:Nat} {cs:List AV} (o:wm n h v k cs):yI n h v k cs:=by
 obtain⟨l,o⟩:=o
 rcases o with ⟨rfl,rfl⟩|⟨id,rfl,h1,h2⟩
 · have:cs=[]:=SA (by omega)
   subst this
   exact⟨rfl,by simp,fun _=>by simp⟩
 · refine⟨?_,l,fun _=>by simp⟩
   simp only[aR,if_true,h1,uJ,uR]
   rw[if_pos (by omega),Sy,u4 (by omega)]
theorem wm.app {n:Nat} {h:H} {v:AV} {k:Nat} {cs:List AV} (o:wm n h v k cs) (hfn:h.floor≤h.next) {z m:Nat} (hm:0<m) (hn:0<n) (bs:List AV) (hb:bs.length=m* n) (hc:AV.aB bs=true) (hr:roomy z (k+m)=true):
 ∃v' h',dE h n z v m bs=some (v',h')∧wm n h' v' (k+m) (cs++bs)∧h'.floor=h.floor∧h.next≤h'.next∧(∀i,v.id?≠some i→i≠h.next→h'.get i=h.get i)∧v'.id?=some h.next:=by
 obtain⟨hl,o⟩:=o
 have hll:(cs++bs).length=(k+m)* n:=by rw[vb,hl,hb,u5]
 rcases o with ⟨rfl,rfl⟩|⟨id,rfl,hg,hf,_⟩
 · have:cs=[]:=SA (by omega)
   subst this
   refine⟨.aD h.next 0 m n,h.alloc bs, ?_,⟨hll,.inr ⟨h.next,by simp,by simp [H.aV],by simp;omega,by omega⟩⟩,by simp,by simp,fun i _ hi=>by rw[H.aV,if_neg hi],rfl⟩
   unfold dE
   rw[if_neg (by omega),if_neg (by simp [hc];omega)]
   rw[uR]at hr
   simp only[hr,if_true]
 · have hmn:0<m* n:=Nat.mul_pos hm hn
   have hnot:¬0+(k+m)* n≤cs.length:=by rw[hl,u5];omega
   refine⟨.aD h.next 0 (k+m) n,(h.del id).alloc (cs++bs), ?_,⟨hll,.inr ⟨h.next,by simp,by simp [H.aV], ?_,by omega⟩⟩,by simp,by simp,fun i h1 h2=> ?_,rfl⟩
   · unfold dE
     rw[if_neg (by omega),if_neg (by simp [hc];omega)]
     simp only[hf,and_self,if_true,hg,uJ]
     rw[if_neg hnot,if_pos ⟨by omega,hr⟩]
     simp
   · have:=h.lt id cs hg;simp;omega
   · rw[H.aV,H.jq,if_neg h2,H.dL,if_neg]
     intro e;subst e;exact h1 rfl
theorem wm.push {n:Nat} {h:H} {v:AV} {k:Nat} {cs:List AV} (o:wm n h v k cs) (hfn:h.floor≤h.next) {z m:Nat} (hm:0<m) (hn:0<n) (bs:List AV) (hb:bs.length=m* n) (hc:AV.aB bs=true) (hr:roomy z (k+m)=true):
 ∃v' h',kA (h.alloc bs) n z v (.aD h.next 0 m n)=some (v',h')∧wm n h' v' (k+m) (cs++bs)∧h'.floor=h.floor∧h.next+1≤h'.next∧(∀i,v.id?≠some i→i<h.next→h'.get i=h.get i)∧v'.id?=some (h.next+1):=by
 have o1:wm n (h.alloc bs) v k cs:=o.mono (by simp) fun i q=>by rw[H.aV,if_neg];have:=o.lt q;omega
 obtain⟨v',h',p1,p2,p3,p4,p5,p6⟩:=o1.app (z:=z) (by simp;omega) hm hn bs hb hc hr
 refine⟨v',h', ?_,p2,by rw[p3];simp,by simpa using p4,fun i q1 q2=> ?_,by simpa using p6⟩
 · have src:aR (h.alloc bs) n (.aD h.next 0 m n)=some (m,bs):=by
    simp only[aR,if_true,H.aV,uJ,uR]
    rw[if_pos (by omega),Sy,u4 (by omega)]
   unfold kA;rw[src,uJ];exact p1
 · rw[p5 i q1 (by simp;omega),H.aV,if_neg (by omega)]
def zr (n k:Nat) (cs:List AV):AV:=if k=0 then .aO else .aU false cs 0 k n
theorem HM {n k:Nat} {h:H} {cs:List AV} (hl:cs.length=k* n):yI n h (zr n k cs) k cs:=by
 unfold zr
 by_cases hk:k=0
 · subst hk
   have:cs=[]:=SA (by omega)
   subst this
   exact⟨rfl,by simp,fun _=>by simp⟩
 · rw[if_neg hk]
   refine⟨?_,hl,fun _=>by simp⟩
   simp only[aR,if_true,uR]
   rw[if_pos (by omega),Sy,u4 (by omega)]
theorem wm.zX {n:Nat} {h:H} {v:AV} {k:Nat} {l:List Int} {fl m:Nat} {t:Bool} (o:wm n h v k (ints l)) (hf:fl≤h.floor):snap h.get fl (m+2) t v=some (zr n k (ints l)):=by
 obtain⟨hl,o⟩:=o
 rw[pF]at hl
 rcases o with ⟨rfl,rfl⟩|⟨id,rfl,q,h2,hk⟩
 · rfl
 · unfold snap
   rw[if_neg (by omega),q,uJ,if_pos (by rw[pF];omega)]
   rw[Sy,u4 (by rw[pF];omega),xO]
   unfold zr
   rw[if_neg (by omega)];rfl
attribute [go_sem] List.map_cons List.map_nil Bool.and_true Bool.true_and Bool.and_self List.append_nil Option.map_some Option.map_none Bool.and_false Bool.false_and Bool.or_false Bool.or_true Bool.true_or Bool.false_or Bool.or_self bT.aN bT.aH Int.reduceAdd Int.reduceSub Int.reduceMul Int.reduceNeg Int.reduceToNat List.take_succ_cons List.take_zero List.drop_zero List.drop_succ_cons Int.cast_ofNat_Int Int.natCast_one Int.natCast_zero List.length_set
theorem vD:type_of% @dt∧type_of% @df∧type_of% @Q6∧type_of% @Q5∧type_of% @Ra∧type_of% @Q9∧type_of% @wi∧type_of% @wb∧type_of% @wy∧type_of% @zS∧type_of% @Ld∧type_of% @HO∧type_of% @Pc∧type_of% @vx∧type_of% @vu∧type_of% @vA∧type_of% @vi∧type_of% @H.jh∧type_of% @H.jX∧type_of% @H.kO∧type_of% @H.jr∧type_of% @K2∧type_of% @H3∧type_of% @J9∧type_of% @J8∧type_of% @Ic∧type_of% @Cz∧type_of% @DW∧type_of% @HZ∧type_of% @JU∧type_of% @KM∧type_of% @KN∧type_of% @pN∧type_of% @oX∧type_of% @rk∧type_of% @pW∧type_of% @Kn∧type_of% @Km∧type_of% @sE∧type_of% @sF∧type_of% @FM∧type_of% @E6∧type_of% @zt∧type_of% @EL∧type_of% @Hi∧type_of% @HW∧type_of% @Ml∧type_of% @Ki∧type_of% @MH∧type_of% @MG∧type_of% @ME∧type_of% @MD∧type_of% @MF∧type_of% @MB∧type_of% @EP∧type_of% @FE∧type_of% @FI∧type_of% @FG∧type_of% @DU∧type_of% @Cn∧type_of% @Cx∧type_of% @FH∧type_of% @Be∧type_of% @Fb∧type_of% @Kw∧type_of% @E0∧type_of% @Fi∧type_of% @Fh∧type_of% @MA∧type_of% @My∧type_of% @tK∧type_of% @beq_refl∧type_of% @wZ∧type_of% @MC∧type_of% @Mj∧type_of% @K0∧type_of% @KZ∧type_of% @KY∧type_of% @Dw∧type_of% @GX∧type_of% @Cd∧type_of% @EC:=⟨@dt, @df, @Q6, @Q5, @Ra, @Q9, @wi, @wb, @wy, @zS, @Ld, @HO, @Pc, @vx, @vu, @vA, @vi, @H.jh, @H.jX, @H.kO, @H.jr, @K2, @H3, @J9, @J8, @Ic, @Cz, @DW, @HZ, @JU, @KM, @KN, @pN, @oX, @rk, @pW, @Kn, @Km, @sE, @sF, @FM, @E6, @zt, @EL, @Hi, @HW, @Ml, @Ki, @MH, @MG, @ME, @MD, @MF, @MB, @EP, @FE, @FI, @FG, @DU, @Cn, @Cx, @FH, @Be, @Fb, @Kw, @E0, @Fi, @Fh, @MA, @My, @tK, @beq_refl, @wZ, @MC, @Mj, @K0, @KZ, @KY, @Dw, @GX, @Cd, @EC⟩
theorem Ck:type_of% @Bd∧type_of% @A3∧type_of% @AY∧type_of% @E8∧type_of% @EY∧type_of% @AX∧type_of% @Lr∧type_of% @KS∧type_of% @KR∧type_of% @KX∧type_of% @Mw∧type_of% @Mu∧type_of% @Mv∧type_of% @Mx∧type_of% @JQ∧type_of% @Mi∧type_of% @Mf∧type_of% @Mh∧type_of% @Mg∧type_of% @zW∧type_of% @Ad∧type_of% @AL∧type_of% @Lb∧type_of% @La:=⟨@Bd, @A3, @AY, @E8, @EY, @AX, @Lr, @KS, @KR, @KX, @Mw, @Mu, @Mv, @Mx, @JQ, @Mi, @Mf, @Mh, @Mg, @zW, @Ad, @AL, @Lb, @La⟩
theorem wT:type_of% @H.jX∧type_of% @H.jr∧type_of% @E8∧type_of% @Bd∧type_of% @H.jh∧type_of% @H.kO∧type_of% @EY∧type_of% @AY:=⟨@H.jX, @H.jr, @E8, @Bd, @H.jh, @H.kO, @EY, @AY⟩
theorem Cm:type_of% @vx∧type_of% @vu∧type_of% @vA∧type_of% @vi∧type_of% @AX∧type_of% @A3:=⟨@vx, @vu, @vA, @vi, @AX, @A3⟩
end Ab
set_option maxRecDepth 100000
namespace Ab
open Go
def NH (c:Nat):Nat:=if c%2=1 then(c/2)^^^3988292384 else c/2
def H5:Nat→Nat→Nat
 |0,c=>c
 |n+1,c=>H5 n (NH c)
def LJ (c b:Nat):Nat:=H5 8 (c^^^b)
def J0 (s:ByteArray):Nat→Nat→Nat→Nat
 |0,_,c=>c
 |n+1,i,c=>J0 s n (i+1) (LJ c (xi s i))
def Qz (a:Nat) (s:ByteArray):Nat:=4294967295-J0 s s.size 0 (4294967295-a)
def PU (s:ByteArray):Nat:=Qz 0 s
theorem GW {a s:Nat} (hs:s≤64):oY .shr .i64 (a:Int) (s:Int)=some (.int .i64 ((a/2^s:Nat):Int)):=by
 unfold oY
 rw[if_neg (by omega)]
 simp only[IntKind.bits,Int.toNat_natCast,Nat.min_eq_left hs]
 rw[Int.fdiv_eq_ediv_of_nonneg _ (Int.pow_nonneg (by omega))]
 simp
theorem FD {h:H} {v:AV} {k:Nat} {l:List Nat} (o:wm 1 h v k (ya l)):tI h v (aR h 1 v)=some (.str (bytesOf l),h):=by
 rw[o.rd.1]
 simp only[tI,uJ,EN]
 rcases o.2 with ⟨rfl,_⟩|⟨id,rfl,_⟩<;>rfl
def xL (s:ByteArray) (i j:Nat):Nat→Nat→Nat
 |0,k=>k
 |f+1,k=>if k<258∧i+k<s.size∧xi s (i+k)=xi s (j+k)then xL s i j f (k+1)else k
def same (s:ByteArray) (i j:Nat):Nat:=xL s i j 258 0
def vR (s:ByteArray) (i:Nat):Nat→Nat×Nat→Nat×Nat
 |0,b=>b
 |j+1,b=>vR s i j (if b.1<same s i j then(same s i j,i-j)else b)
theorem GV (s:ByteArray) (i j:Nat):∀f k,xL s i j f k≤k+f
 |0,k=>by simp [xL]
 | f + 1, k => by
   unfold xL
   split
   · have:=GV s i j f (k+1);omega
   · omega
theorem IB (s:ByteArray) (i j:Nat):same s i j≤258:=by have:=GV s i j 258 0;unfold same;omega
theorem Dq (s:ByteArray) (i j:Nat) (hi:i≤s.size):∀f k,i+k≤s.size→i+xL s i j f k≤s.size
 |0,k,h=>by simpa [xL]using h
 | f + 1, k, h => by
   unfold xL
   split
   · rename_i q;exact Dq s i j hi f (k+1) (by omega)
   · exact h
theorem EA (s:ByteArray) (i j:Nat) (hi:i≤s.size):i+same s i j≤s.size:=Dq s i j hi 258 0 (by omega)
theorem Cy (s:ByteArray) (i:Nat) (hi:i≤s.size):∀(j:Nat) (b:Nat×Nat),i+b.1≤s.size→i+(vR s i j b).1≤s.size
 |0,b,h=>h
 | j + 1, b, h => by
   unfold vR
   refine Cy s i hi j _ ?_
   split
   · exact EA s i j hi
   · exact h
structure Tok where
 lit:Int
 len:Int
 vU:Int
deriving DecidableEq
def Mc (t:Tok):List Int:=[t.lit,t.len,t.vU]
def Hb (t:Tok):List AV:=ints (Mc t)
def MI (ts:List Tok):List Int:=ts.flatMap Mc
def wv (ts:List Tok):List AV:=ts.flatMap Hb
theorem DE (t:Tok):(Hb t).length=3:=rfl
theorem JD (ts:List Tok):(wv ts).length=ts.length* 3:=Bw DE ts
theorem AG:∀ts:List Tok,wv ts=ints (MI ts)
 |[]=>rfl
 | t :: ts => by
   have:=AG ts
   unfold wv MI at *
   rw[Sj,Sj,pE,this];rfl
theorem HR (ts:List Tok) (t:Tok):wv (ts++[t])=wv ts++Hb t:=by simp [wv]
def wo (s:ByteArray) (i:Nat):Tok×Nat:=
 if(vR s i i (0,0)).1<3 then(⟨xi s i,0,0⟩,i+1)else(⟨0,(vR s i i (0,0)).1,(vR s i i (0,0)).2⟩,i+(vR s i i (0,0)).1)
def yf (s:ByteArray):Nat→Nat→List Tok
 |0,_=>[]
 |f+1,i=>if i<s.size then(wo s i).1::yf s f (wo s i).2 else []
theorem Ha (s:ByteArray) (i:Nat):i<(wo s i).2:=by
 unfold wo;split<;>simp<;>omega
theorem G9 (s:ByteArray) (i:Nat) (hi:i<s.size):(wo s i).2≤s.size:=by
 unfold wo;split
 · exact hi
 · exact Cy s i (by omega) i (0,0) (by show i+0≤_;omega)
def Ci (ts:List Tok):AV:=zr 3 ts.length (wv ts)
def tokens (s:ByteArray):List Tok:=yf s s.size 0
def Ext (h g:H):Prop:=∀id c,h.get id=some c→g.get id=some c
theorem Ext.refl (h:H):Ext h h:=fun _ _ q=>q
theorem Ext.trans {a b c:H} (x:Ext a b) (y:Ext b c):Ext a c:=fun i d q=>y i d (x i d q)
theorem Ext.alloc {a h:H} (x:Ext a h) (cs:List AV):Ext a (h.alloc cs):=fun i d q=>by
 have:=h.lt _ _ (x i d q)
 rw[H.aV,if_neg (by omega)];exact x i d q
theorem Ext.set {a h:H} (x:Ext a h) {id:Nat} (hid:a.next≤id) (cs:List AV):Ext a (h.set id cs):=fun i d q=>by
 have:=a.lt _ _ q
 rw[H.dg,if_neg (by omega)];exact x i d q
theorem yI.O7 {h:H} {v:AV} {ts:List Tok} (r:yI 3 h v ts.length (wv ts)):∃ad:Int→Nat→AV,
 (∀i:Int,0≤i∧i<ts.length→fJ 3 v (.int .i64 i)=some (ad i 0))∧
 (∀(i:Int) (f g:Nat),0≤i∧i<ts.length→eX g (ad i f)=some (ad i (f+g)))∧
 ∀ g : H, Ext h g → ∀ (i : Nat) (t : Tok), ts[i]? = some t → bP false 1 (ad i 0) g = some (.int .i64 t.lit) ∧ bP false 1 (ad i 1) g = some (.int .i64 t.len) ∧ bP false 1 (ad i 2) g = some (.int .i64 t.vU) ∧
   bP true 3 (ad i 0) g=some (.agg [.int .i64 t.lit,.int .i64 t.len,.int .i64 t.vU]):=by
 obtain⟨ad,a1,a2,_,a3⟩:=r.at_
 refine⟨ad,a1,a2,fun g hg i t ht=> ?_⟩
 obtain⟨b1,b2⟩:=a3 g hg
 have hi:i<ts.length:=(uI.1 ht).1
 have hI:(0:Int)≤(i:Int)∧(i:Int)<ts.length:=⟨by omega,by omega⟩
 have ti:((i:Int)).toNat=i:=by omega
 have q:∀f,f<3→(wv ts)[((i:Int)).toNat* 3+f]?=(Hb t)[f]?:=fun f hf=>by rw[ti];exact Kd DE ht hf
 refine⟨b1 i 0 _ hI (q 0 (by omega)),b1 i 1 _ hI (q 1 (by omega)),b1 i 2 _ hI (q 2 (by omega)), ?_⟩
 rw[b2 i hI,ti,wv,EZ DE ht];rfl
def wq (size:Int) (t:Tok):Option Int:=
 if t.len=0 then(if t.lit<0∨255<t.lit∨t.vU≠0 then none else some (size+1))
 else if t.len<3∨258<t.len∨t.vU<1∨32768<t.vU∨size<t.vU∨t.lit≠0 then none else some (size+t.len)
def vL : Int → List Tok → Bool
 |_,[]=>true
 | s, t :: r => match wq s t with
   |none=>false
   |some s'=>if 8192<s' then false else vL s' r
theorem Rd.xu {h:H} {v:AV} {l:List Int} (r:Rd h v (ints l)):∃ad:Int→AV,(∀i:Int,0≤i∧i<l.length→fJ 1 v (.int .i64 i)=some (ad i))∧
 ∀g:H,Ext h g→∀(i:Nat) (n:Int),l[i]?=some n→bP false 1 (ad i) g=some (.int .i64 n):=by
 have r2:=r.Rb
 rw[pF]at r2
 obtain⟨ad,a1,_,_,a3⟩:=r2.at_
 refine⟨fun i=>ad i 0,a1,fun g hg i n hn=> ?_⟩
 have hi:i<l.length:=(uI.1 hn).1
 refine(a3 g hg).1 i 0 _ ⟨by omega,by omega⟩ ?_
 rw[HO,Nat.mul_one,Nat.add_zero]
 exact sG hn
structure O9 where
 name:ByteArray
 gone:Bool
 vec:List Int
 K3:Int
 node:Int
 method:Int
 packed:ByteArray
 size:Int
 Rx:Int
structure PE (h:H) (p:AV) (cs:List AV):Prop where
 nil:∀g:H,js g p=some (p,g)
 te:∃q:Nat→AV,(∀k,eX k p=some (q k))∧∀g:H,Ext h g→∀(k:Nat) (c:AV),cs[k]?=some c→bP false 1 (q k) g=some c
abbrev Pa:=O9×AV
structure QM (h:H) (x:Pa):Prop where
 vec:Rd h x.2 (ints x.1.vec)
 vl:x.1.vec.length<1125899906842624
 nl:x.1.name.size<1125899906842624
 pl:x.1.packed.size<1125899906842624
theorem QM.mono {h g:H} {x:Pa} (o:QM h x) (e:Ext h g):QM g x:=⟨o.vec.mono fun i c q=>e i c q,o.vl,o.nl,o.pl⟩
def yg (method : Int) (s : ByteArray) (size : Int) : Option ByteArray :=
 if size<0∨300<size then none
 else if method=0 then(if(s.size:Int)=size then some s else none)
 else if method=8 then(match vX s size with
  | .ok (o,took)=>if(o.length:Int)=size∧took=s.size then some (bytesOf o)else none
  | .error _=>none)
 else none
def QK:Option ByteArray→AV
 |some t=>.bL [.str t,.int .i64 0]
 |none=>.bL [.str ⟨#[]⟩,.int .i64 900]
theorem DJ (h : H) (hf : h.floor ≤ h.next) (m : Int) (s : ByteArray) (z : Int) (hs : s.size < 1125899906842624) : aQ AP.A 114 [.int .i64 m, .str s, .int .i64 z] h = some (QK (yg m s z), h) := by
 unfold yg
 by_cases c1:z<0
 · rw[if_pos (.inl c1)]
   refine tQ (fn:=AP.f114) (h2:=h.dI) (e:=[(6,.str ⟨#[]⟩),(7,.int .i64 900)]) rfl rfl rfl ?_ rfl rfl
   simp (disch:=omega)only[go_sem,vD,AP.f114]
 by_cases c2:300<z
 · rw[if_pos (.inr c2)]
   refine tQ (fn:=AP.f114) (h2:=h.dI) (e:=[(6,.str ⟨#[]⟩),(7,.int .i64 900)]) rfl rfl rfl ?_ rfl rfl
   simp (disch:=omega)only[go_sem,vD,AP.f114]
 rw[if_neg (by omega)]
 by_cases c3:m=0
 · rw[if_pos c3]
   by_cases c4:(s.size:Int)=z
   · rw[if_pos c4]
     refine tQ (fn:=AP.f114) (h2:=h.dI) (e:=[(6,.str s),(7,.int .i64 0)]) rfl rfl rfl ?_ rfl rfl
     simp (disch:=omega)only[go_sem,vD,AP.f114]
   · rw[if_neg c4]
     refine tQ (fn:=AP.f114) (h2:=h.dI) (e:=[(6,.str ⟨#[]⟩),(7,.int .i64 900)]) rfl rfl rfl ?_ rfl rfl
     simp (disch:=omega)only[go_sem,vD,AP.f114]
 rw[if_neg c3]
 by_cases c5:m=8
 · rw [if_pos c5]
   have k1:=Je h.dI (by simp) s z hs
   simp only[I]at k1
   cases hi:vX s z with
   | error k =>
     rw[hi]at k1
     simp only[OL,I]at k1
     have hk:=E3 hi
     have hk':¬k=0:=by rcases hk with rfl|rfl<;>decide
     clear hk
     refine tQ (fn:=AP.f114) (h2:=h.dI) (e:=[(6,.str ⟨#[]⟩),(7,.int .i64 900)]) rfl rfl rfl ?_ rfl rfl
     simp (disch:=omega)only[go_sem,vD,AP.f114,k1]
   | ok r =>
     obtain⟨o,took⟩:=r
     rw[hi]at k1
     simp only[OL,I]at k1
     dsimp only
     have sz:=vW o
     by_cases c6:(o.length:Int)=z
     · by_cases c7:took=s.size
       · rw[if_pos ⟨c6,c7⟩]
         refine tQ (fn:=AP.f114) (h2:=h.dI) (e:=[(6,.str (bytesOf o)),(7,.int .i64 0)]) rfl rfl rfl ?_ rfl rfl
         simp (disch:=omega)only[go_sem,vD,AP.f114,k1,sz]
       · rw[if_neg (fun q=>c7 q.2)]
         refine tQ (fn:=AP.f114) (h2:=h.dI) (e:=[(6,.str ⟨#[]⟩),(7,.int .i64 900)]) rfl rfl rfl ?_ rfl rfl
         simp (disch:=omega)only[go_sem,vD,AP.f114,k1,sz]
     · rw[if_neg (fun q=>c6 q.1)]
       refine tQ (fn:=AP.f114) (h2:=h.dI) (e:=[(6,.str ⟨#[]⟩),(7,.int .i64 900)]) rfl rfl rfl ?_ rfl rfl
       simp (disch:=omega)only[go_sem,vD,AP.f114,k1,sz]
 · rw[if_neg c5]
   refine tQ (fn:=AP.f114) (h2:=h.dI) (e:=[(6,.str ⟨#[]⟩),(7,.int .i64 900)]) rfl rfl rfl ?_ rfl rfl
   simp (disch:=omega)only[go_sem,vD,AP.f114]
theorem HF (c:ae) (e:Env) (h:H) (x y:X):ah c e h (.mx [x,y])=cY h (lX (x.ev e) (y.ev e)):=by
 simp only[ah,aW,Sl,SY,fW]
 cases lX (x.ev e) (y.ev e)<;>rfl
def De (a b:Int):Int:=if a<b then b else a
theorem EM (k:IntKind) (a b:Int):lX (.int k a) (.int k b)=some (.int k (De a b)):=rfl
theorem Rd.QY {h:H} {v:AV} {cs:List AV} (r:Rd h v cs) (hc:cs≠[]):fu 1 v .aO=some false:=by
 obtain⟨r,hs⟩:=r
 unfold aR at r
 split at r
 · obtain⟨_,h2⟩:=uE (uC r);exact absurd h2.symm hc
 · exact absurd rfl (hs _)
 · rfl
 · rfl
 · cases r
theorem IY {n:Nat} {h:H} {v:AV} {k:Nat} {cs:List AV} (r:yI n h v k cs) (hfn:h.floor≤h.next) (hn:0<n) (hk:0<k) {z:Nat} (hr:roomy z k=true) (hc:AV.aB cs=true):
 kA (h.alloc []) n z (.aD h.next 0 0 n) v=some (.aD (h.next+1) 0 k n,((h.alloc []).del h.next).alloc cs):=by
 have r2:yI n (h.alloc []) v k cs:=r.mono fun i c q=>by rw[H.aV,if_neg (by have:=h.lt _ _ q;omega)];exact q
 unfold kA
 rw[r2.1,uJ]
 have hkn:0<k* n:=Nat.mul_pos hk hn
 unfold dE
 rw[if_neg (by omega),if_neg (by simp [hc];omega)]
 simp only[H.jh,hfn,and_self,if_true]
 rw[vx rfl,uJ,if_neg (by simp;omega),if_pos ⟨by simp,by simpa using hr⟩]
 simp
theorem C4:∀l:List Int,AV.aB (ints l)=true
 |[]=>rfl
 | n :: l => by
   have:=C4 l
   show AV.aB (I n::ints l)=true
   rw[pW,this];rfl
theorem LG (h:H) (v:AV) (l:List Int) (rd:Rd h v (ints l)) (hl:0<l.length) (hb:l.length<1000000) (hfn:h.floor≤h.next):aQ AP.A 118 [v] h=some (.aD (h.next+1) 0 l.length 1,((h.alloc []).del h.next).alloc (ints l)):=by
 have r2:=rd.Rb
 rw[pF]at r2
 have ap:=IY r2 hfn (by omega) hl (z:=8) (by simp [roomy];omega) (C4 l)
 have nn:=rd.QY (fun q=>by
  have q2:(ints l).length=0:=by rw[q];rfl
  rw[pF]at q2
  omega)
 refine tz (fn:=AP.f118) (h2:=((h.alloc []).del h.next).alloc (ints l)) (e:=[(2,.aD (h.next+1) 0 l.length 1)]) (vs:=[.aD (h.next+1) 0 l.length 1]) rfl rfl rfl ?_ rfl
 clear rd r2
 simp (disch:=omega)only[go_sem,vD,AP.f118,nn,ap]
def KV (name:ByteArray) (node:Nat) (K3:Int) (text:ByteArray):O9:=⟨name,false,[0,0,0,0].set node K3,K3,node,0,text,text.size,PU text⟩
def nA:ByteArray:=⟨#[97]⟩
def Rc:ByteArray:=⟨#[104,105]⟩
def RB:ByteArray:=⟨#[104,111]⟩
def eA:O9:=KV nA 0 1 Rc
def eB:O9:=KV nA 2 1 RB
def eD:O9:={eA with Rx:=(PU Rc^^^1:Nat)}
def Hw:Ty:=.int .i64
theorem KT {B:Nat} {avs:List AV} (h:Sh B Hw avs):∃n,avs=[.int .i64 n]∧(-9223372036854775808≤n∧n<9223372036854775808):=by
 cases h with
 |int h=>exact⟨_,rfl,tu h⟩
theorem Q0 {P:Ty×List AV→Prop} {a b:Ty} {r:List (Ty×List AV)} (h:r.map (·.1)=[a,b]) (hp:∀x∈r,P x):∃x y,r=[(a,x),(b,y)]∧P (a,x)∧P (b,y):=by
 match r,h with
 |[(a',x),(b',y)],h=>simp at h;obtain⟨rfl,rfl⟩:=h;exact⟨x,y,rfl,hp _ (by simp),hp _ (by simp)⟩
def O5 (s:ByteArray):List Nat:=s.data.toList.map (·.toNat)
theorem II (s:ByteArray):(O5 s).length=s.size:=by unfold O5;rw[List.length_map,Array.length_toList];rfl
theorem O6 (s:ByteArray):∀b∈O5 s,b<256:=by
 intro b hb
 obtain⟨x,_,rfl⟩:=Sm.1 hb
 exact x.toNat_lt
theorem BX (s:ByteArray):bytesOf (O5 s)=s:=by
 unfold O5 bytesOf;rw[SX];apply ByteArray.ext;simp [Function.comp_def]
theorem IX (x:Int) (k:Nat) (hk:k≤62):bits .and .i64 x ((2^k-1:Nat):Int)=x%((2^k:Nat):Int):=by
 have h2:2^k≤2^62:=Sv (by omega) hk
 have h3:0<2^k:=Nat.pow_pos (by omega)
 show IntKind.wrap .i64 (((BitVec.ofInt 64 x&&&BitVec.ofInt 64 ((2^k-1:Nat):Int)).toNat:Nat):Int)=_
 rw[BitVec.toNat_and,ym 64 (2^k-1) (by omega),BitVec.toNat_ofInt,Nat.and_two_pow_sub_one_eq_mod,vk (by
  have:=Nat.mod_lt (x%((2^64:Nat):Int)).toNat h3
  omega)]
 have e:(((x%((2^64:Nat):Int)).toNat:Nat):Int)=x%((2^64:Nat):Int):=Int.toNat_of_nonneg (Int.emod_nonneg _ (by decide))
 rw[Int.natCast_emod,e]
 refine Int.emod_emod_of_dvd x ?_
 refine Int.natCast_dvd_natCast.2 (Nat.pow_dvd_pow 2 (by omega))
theorem Q4 (x:Int) (n:Nat) (hn:0<n):∃r:Nat,r<n∧(IntKind.wrap .u64 x).tmod (n:Int)=r:=by
 have h0:0≤IntKind.wrap .u64 x:=by simp only[IntKind.wrap,IntKind.signed,IntKind.bits];simp;omega
 obtain⟨m,hm⟩:∃m:Nat,IntKind.wrap .u64 x=m:=⟨(IntKind.wrap .u64 x).toNat,by omega⟩
 rw[hm]
 exact⟨m%n,Nat.mod_lt _ hn,by rw[Int.tmod_eq_emod_of_nonneg (by omega)];omega⟩
theorem Rt {n:Nat} (h:n<256):IntKind.wrap .u8 (n:Int)=n:=wb (by omega)
theorem QJ {a n:Nat} (hn:0<n):bm .rem (.int .i64 ((a:Nat):Int)) (.int .i64 (n:Int))=some (.int .i64 ((a%n:Nat):Int)):=by
 show(if(n:Int)=0 then none else some (AV.int .i64 ((a:Int).tmod n)))=_
 rw[if_neg (by omega),Int.tmod_eq_emod_of_nonneg (by omega)];rfl
theorem Az:∀(l cs:List AV) (off:Nat),off+l.length≤cs.length→setFrom cs off l=cs.take off++(l++cs.drop (off+l.length))
 |[],cs,off,h=>by simp [setFrom]
 | v :: l, cs, off, h => by
   rw[Sc]at h
   rw[setFrom,Az l (cs.set off v) (off+1) (by rw[Sz];omega)]
   rw[List.take_set,List.drop_set_of_lt (by omega),Sc,show off+1+l.length=off+(l.length+1)by omega]
   rw[List.take_succ_eq_append_getElem (by omega),List.set_append_right _ _ (by simp;omega)]
   simp [show min off cs.length=off by omega]
def vN (bs:List Nat):List Nat:=wW bs 0 []
theorem Au:∀(a b:List Nat) (i:Nat) (out:List Nat),wW (a++b) i out=wW b (i+a.length) (wW a i out)
 |[],b,i,out=>rfl
 | x :: a, b, i, out => by
   show wW (a++b) (i+1) (v7 out i x)=_
   rw[Au a b]
   show wW b (i+1+a.length) _=wW b (i+(a.length+1)) _
   rw[show i+1+a.length=i+(a.length+1)by omega];rfl
theorem Ep (bs:List Nat) (b:Nat):vN (bs++[b])=v7 (vN bs) bs.length b:=by
 unfold vN;rw[Au,uR];rfl
theorem xP (bs:List Nat):(vN bs).length=(bs.length+7)/8:=by
 have:∀(l:List Nat) (i:Nat) (out:List Nat),out.length=(i+7)/8→(wW l i out).length=(i+l.length+7)/8:=by
  intro l
  induction l with
  |nil=>intro i out h;exact h
  |cons x l ih=>intro i out h;rw[wW,ih (i+1) _ (by rw[B8 h]),Sc];congr 1;omega
 have:=this bs 0 [] rfl
 rw[vN,this,uR]
structure Wr (h:H) (w:Nat) (bs:List Nat) (ov:AV):Prop where
 get:h.get w=some [ov,.int .i64 (bs.length:Nat)]
 own:wm 1 h ov (vN bs).length (ya (vN bs))
 fl:h.floor≤w
 JI:h.floor≤h.next
 ne:ov.id?≠some w
 H0:JK (vN bs)
structure Hf (h:H) (w:Nat) (ov:AV) (h':H) (ov':AV):Prop where
 floor:h'.floor=h.floor
 next:h.next≤h'.next
 vY:∀i,i<h.next→i≠w→ov.id?≠some i→h'.get i=h.get i
 ids:∀j,ov'.id?=some j→ov.id?=some j∨h.next≤j
theorem Hf.refl (h:H) (w:Nat) (ov:AV):Hf h w ov h ov:=⟨rfl,uM _,fun _ _ _ _=>rfl,fun _ h=>.inl h⟩
theorem Hf.trans {h1 h2 h3:H} {w:Nat} {o1 o2 o3:AV} (a:Hf h1 w o1 h2 o2) (b:Hf h2 w o2 h3 o3):Hf h1 w o1 h3 o3:=
 ⟨by rw [b.floor, a.floor], u7 a.next b.next, fun i h hw ho => by
   rw[b.vY i (by have:=a.next;omega) hw (fun q=>by rcases a.ids i q with q|q;exact ho q;omega),a.vY i h hw ho],
  fun j h=>by
   rcases b.ids j h with q|q
   · exact a.ids j q
   · exact .inr (u7 a.next q)⟩
theorem Mb {b k:Nat} (hb:b≤1) (hk:k<8):oY .shl .i64 (b:Int) ((k:Nat):Int)=some (.int .i64 ((b* 2^k:Nat):Int)):=by
 unfold oY
 rw[if_neg (by omega)]
 simp only[IntKind.bits,Int.toNat_natCast,show min k 64=k by omega]
 have h1:2^k≤2^7:=Sv (by omega) (by omega)
 have h2:b* 2^k≤1* 2^7:=Nat.mul_le_mul hb h1
 have:(b:Int)* 2^k=((b* 2^k:Nat):Int):=by rw[Int.natCast_mul,Int.natCast_pow];rfl
 rw[this,wi (by omega)]
theorem Pj {l:List Nat} {i x:Nat} (h:l[i]?=some x):(ya l)[i]?=some (.int .u8 (x:Int)):=by simp [ya,h]
theorem QR (l:List Nat) (i x:Nat):(ya l).set i (.int .u8 (x:Int))=ya (l.set i x):=by simp [ya,List.map_set]
theorem MK (l:List Nat):(ya l).length=l.length:=by simp [ya]
theorem FP (P:List Nat) (x:Nat):ya (P++[x])=ya P++[.int .u8 (x:Int)]:=by simp [ya]
def BJ (v:Nat):Nat→Nat→List Nat
 |_,0=>[]
 |i,m+1=>v/2^i%2::BJ v (i+1) m
def vz (v n:Nat):List Nat:=BJ v 0 n
def yn (v:Nat):Nat→List Nat
 |0=>[]
 |m+1=>v/2^m%2::yn v m
theorem vH (v:Nat):∀m i,(BJ v i m).length=m
 |0,_=>rfl
 |m+1,i=>by simp [BJ,vH v m]
theorem wg (v:Nat):∀m,(yn v m).length=m
 |0=>rfl
 |m+1=>by simp [yn,wg v m]
theorem FB {n:Nat} (h:n<1000000000):bits .and .i64 (n:Int) 1=((n%2:Nat):Int):=by
 have:=IX (n:Int) 1 (by omega)
 exact this.trans (by omega)
def vy (o:Option (Nat×Nat)):Nat:=(o.getD (0,0)).1
def wF (o:Option (Nat×Nat)):Nat:=(o.getD (0,0)).2
def yY (f:Nat→Option (Nat×Nat)) (k:Nat):Nat→Nat
 |0=>0
 |s+1=>if vy (f (s+1))≤k then s+1 else yY f k s
def xn (k:Nat):Nat:=yY lenOf k 285
def zm (k:Nat):Nat:=wF (lenOf (xn k))
def z5 (k:Nat):Nat:=k-vy (lenOf (xn k))
def xN (k:Nat):Nat:=yY vK k 29
def zk (k:Nat):Nat:=wF (vK (xN k))
def Aj (k:Nat):Nat:=k-vy (vK (xN k))
theorem Aq {s:Nat} (h1:257≤s) (h2:s≤285):∃a b,lenOf s=some (a,b):=by
 unfold lenOf;rw[if_neg (by omega)];split;exact⟨_,_,rfl⟩;split<;>exact⟨_,_,rfl⟩
theorem zC {s:Nat} (h2:s≤29):∃a b,vK s=some (a,b):=by
 unfold vK;rw[if_neg (by omega)];split<;>exact⟨_,_,rfl⟩
theorem Im:∀s,257≤s→s<285→vy (lenOf (s+1))≤vy (lenOf s)+2^wF (lenOf s):=by
 intro s h1 h2
 have:∀s<285,257≤s→vy (lenOf (s+1))≤vy (lenOf s)+2^wF (lenOf s):=by decide+kernel
 exact this s h2 h1
theorem F4:∀s,s<29→vy (vK (s+1))≤vy (vK s)+2^wF (vK s):=by decide+kernel
theorem yk {k : Nat} (h1 : 3 ≤ k) (h2 : k ≤ 258) : 257 ≤ xn k ∧ xn k ≤ 285 ∧ vy (lenOf (xn k)) ≤ k ∧ k < vy (lenOf (xn k)) + 2 ^ wF (lenOf (xn k)) := by
 have key:∀n s,s=257+n→s≤285→(s=285∨k<vy (lenOf (s+1)))→257≤yY lenOf k s∧yY lenOf k s≤285∧vy (lenOf (yY lenOf k s))≤k∧k<vy (lenOf (yY lenOf k s))+2^wF (lenOf (yY lenOf k s)):=by
  intro n
  induction n with
  | zero =>
    intro s hs h hk
    obtain rfl:s=257:=hs
    have e:yY lenOf k 257=257:=by rw[yY,if_pos (show vy (lenOf (256+1))≤k from h1)]
    have g:=Im 257 (by omega) (by omega)
    rw[e]
    refine⟨by omega,by omega,h1, ?_⟩
    rcases hk with q|q
    · omega
    · omega
  | succ n ih =>
    intro s hs h hk
    obtain⟨s,rfl⟩:∃t,s=t+1:=⟨s-1,by omega⟩
    by_cases c:vy (lenOf (s+1))≤k
    · rw [yY, if_pos c]
      refine⟨by omega,by omega,c, ?_⟩
      rcases hk with q|q
      · obtain rfl:s=284:=by omega
        have:vy (lenOf (284+1))=258:=rfl
        have:0<2^wF (lenOf (284+1)):=Nat.pow_pos (by omega)
        omega
      · by_cases c2:s+1=285
        · obtain rfl:s=284:=by omega
          have:vy (lenOf (284+1))=258:=rfl
          have:0<2^wF (lenOf (284+1)):=Nat.pow_pos (by omega)
          omega
        · have:=Im (s+1) (by omega) (by omega);omega
    · rw[yY,if_neg c]
      exact ih s (by omega) (by omega) (.inr (by omega))
 exact key 28 285 (by omega) (by omega) (.inl rfl)
theorem yh {k : Nat} (h1 : 1 ≤ k) (h2 : k ≤ 32768) : xN k ≤ 29 ∧ vy (vK (xN k)) ≤ k ∧ k < vy (vK (xN k)) + 2 ^ wF (vK (xN k)) := by
 have l0:vy (vK 0)=1:=rfl
 have key:∀s,s≤29→(s=29∨k<vy (vK (s+1)))→yY vK k s≤29∧vy (vK (yY vK k s))≤k∧k<vy (vK (yY vK k s))+2^wF (vK (yY vK k s)):=by
  intro s
  induction s with
  | zero =>
    intro h hk
    rw[yY]
    have g:=F4 0 (by omega)
    refine⟨by omega,by omega, ?_⟩
    rcases hk with q|q<;>omega
  | succ s ih =>
    intro h hk
    by_cases c:vy (vK (s+1))≤k
    · rw[yY,if_pos c]
      refine⟨by omega,c, ?_⟩
      by_cases c2:s+1=29
      · obtain rfl:s=28:=by omega
        have a1:vy (vK (28+1))=24577:=rfl
        have a2:2^wF (vK (28+1))=8192:=rfl
        omega
      · have:=F4 (s+1) (by omega)
        rcases hk with q|q<;>omega
    · rw[yY,if_neg c]
      exact ih (by omega) (.inr (by omega))
 exact key 29 (by omega) (.inl rfl)
def I8 (d:Nat):Nat→List Nat→List Nat
 |0,o=>o
 |n+1,o=>I8 d n (o++[o.getD (o.length-d) 0])
theorem Co (d:Nat):∀n o,(I8 d n o).length=o.length+n
 |0,o=>rfl
 |n+1,o=>by rw[I8,Co d n];simp;omega
def vS (o:List Nat) (t:Tok):List Nat:=if t.len=0 then o++[t.lit.toNat]else I8 t.vU.toNat t.len.toNat o
def xC:List Tok→List Nat→List Nat
 |[],o=>o
 |t::r,o=>xC r (vS o t)
def yC (ts:List Tok):Option ByteArray:=if vL 0 ts=true then some (bytesOf (xC ts []))else none
def NK:Option ByteArray→AV
 |some t=>.bL [.str t,.int .i64 0]
 |none=>.bL [.str ⟨#[]⟩,.int .i64 500]
def DP (ts:List Tok):Bool:=match yC ts with
 |some t=>decide (t.size≤300)
 |none=>false
theorem Cq {p q:Prop} [Decidable p] [Decidable q] {α:Type} {a b:α} (h:p↔q):(if p then a else b)=if q then a else b:=by
 by_cases c:p
 · rw[if_pos c,if_pos (h.1 c)]
 · rw[if_neg c,if_neg (fun x=>c (h.2 x))]
def wO (p:Int×Int):List AV:=[.int .i64 p.1,.int .i64 p.2]
theorem yT (p:Int×Int):(wO p).length=2:=rfl
theorem Ke {α:Type} {C:α→List AV} {n:Nat} (hC:∀x,(C x).length=n):∀(l:List α) (i:Nat) (x:α),i<l.length→setFrom (l.flatMap C) (i* n) (C x)=(l.set i x).flatMap C
 |[],i,x,h=>by simp at h
 | y :: l, 0, x, h => by
   have:=yF (C y) (C x) [] (l.flatMap C) (by rw[hC,hC])
   simpa using this
 | y :: l, i + 1, x, h => by
   have ih:=Ke hC l i x (by simpa using h)
   rw[Sj,List.set_cons_succ,Sj,←ih]
   have e:=Bw hC l
   have:i<l.length:=by simpa using h
   have hi:i* n+n≤l.length* n:=by
    have:=uP n (show i+1≤l.length from this)
    rwa [Nat.succ_mul]at this
   have hs:(i+1)* n=n+i* n:=by rw[Nat.succ_mul];omega
   rw[Az _ _ _ (by rw[vb,hC,hC,e,hs];omega),Az _ _ _ (by rw[hC,e];omega),hs,hC]
   rw[List.take_append,List.drop_append,hC]
   rw[u4 (by rw[hC];omega),List.drop_of_length_le (by rw[hC];omega)]
   rw[show n+i* n-n=i* n by omega,show n+i* n+n-n=i* n+n by omega]
   simp
def yM (l:List Int) (i:Nat):Int×Int:=if 1≤l.getD i 0 then(l.getD i 0,vt l (l.getD i 0).toNat+wR (l.take i) (l.getD i 0).toNat)else(0,0)
def vh (l:List Int):List (Int×Int):=(List.range l.length).map (yM l)
def wJ (l:List Int) (b i:Nat):List (Int×Int):=(List.range l.length).map fun j=>if 1≤l.getD j 0∧(l.getD j 0<b∨(l.getD j 0=b∧j<i))then yM l j else(0,0)
theorem Br (l:List Int) (b i:Nat):(wJ l b i).length=l.length:=by simp [wJ]
theorem I6 {l:List Int} {b i:Nat} (hi:i<l.length) (hb:1≤b) (hl:l.getD i 0=(b:Int)):(wJ l b i).set i ((b:Int),vt l b+wR (l.take i) b)=wJ l b (i+1):=by
 apply List.ext_getElem?
 intro j
 rw[Sr]
 by_cases e:i=j
 · subst e
   rw[if_pos rfl,if_pos (by rw[Br];exact hi)]
   simp only[wJ,uV,SG hi,Sg]
   rw[if_pos ⟨by omega,.inr ⟨hl,by omega⟩⟩,yM,if_pos (by omega),hl];rfl
 · rw[if_neg e]
   simp only[wJ,uV]
   by_cases hj:j<l.length
   · rw[SG hj]
     simp only[Sg]
     exact SI some (Cq (by omega))
   · rw[Sq (by simp;omega)];rfl
theorem Hm {l:List Int} {b i:Nat} (hl:¬l.getD i 0=(b:Int)):wJ l b (i+1)=wJ l b i:=by
 unfold wJ
 refine SD fun j hj=> ?_
 by_cases e:j=i
 · subst e
   exact Cq (by omega)
 · exact Cq (by omega)
theorem Hn (l:List Int) (b:Nat):wJ l (b+1) 0=wJ l b l.length:=by
 unfold wJ
 refine SD fun j hj=> ?_
 have hj':j<l.length:=SU.1 hj
 exact Cq (by omega)
theorem I5 {l:List Int} (hr:∀y∈l,0≤y∧y<16):wJ l 16 0=vh l:=by
 unfold wJ vh
 refine SD fun j hj=> ?_
 have hj':j<l.length:=SU.1 hj
 have hm:=hr (l.getD j 0) (by rw[Sb,Sd hj'];simp)
 by_cases c:1≤l.getD j 0
 · rw[if_pos ⟨c,.inl (by omega)⟩]
 · rw[if_neg (fun q=>c q.1),yM,if_neg c]
theorem Ho (l:List Int):wJ l 1 0=List.replicate l.length (0,0):=by
 unfold wJ
 have:(List.range l.length).map (fun j=>if 1≤l.getD j 0∧(l.getD j 0<(1:Nat)∨(l.getD j 0=(1:Nat)∧j<0))then yM l j else((0:Int),(0:Int)))=(List.range l.length).map (fun _=>((0:Int),(0:Int))):=by
  refine SD fun j hj=> ?_
  rw[if_neg (by omega)]
 rw[this,List.map_const',List.length_range]
theorem DN {l:List Int} {i:Nat} (hi:i<l.length) (b:Nat) (hb:1≤b):wR (l.take (i+1)) b=wR (l.take i) b+if l.getD i 0=(b:Int)then 1 else 0:=by
 have e:l.take (i+1)=l.take i++[l.getD i 0]:=by
  rw[List.take_add_one,Sd hi,Sb,Sd hi];rfl
 rw[e,zw]
 congr 1
 by_cases c:l.getD i 0=(b:Int)
 · rw[if_pos ⟨by omega,c⟩,if_pos c]
 · rw[if_neg (fun q=>c q.2),if_neg c]
theorem Av:∀E:List (Int×Int),E.flatMap wO=ints (E.flatMap fun p=>[p.1,p.2])
 |[]=>rfl
 |p::E=>by rw[Sj,Sj,pE,Av E];rfl
theorem Cb:∀n,xW n [.int .i64 0,.int .i64 0]=(List.replicate n ((0:Int),(0:Int))).flatMap wO
 |0=>rfl
 | n + 1 => by
   have:=Cb n
   unfold xW at *
   rw[dz,this,List.replicate_succ,Sj];rfl
def zy (l:List Int):AV:=zr 2 l.length ((vh l).flatMap wO)
def vO (l:List Int) (least:Nat):Nat→Nat
 |0=>least
 |i+1=>if i+1≤least then least else if 0<l.getD i 0 then i+1 else vO l least i
structure WX (h0 h:H) (w:Nat) (bs:List Nat) (ov:AV):Prop where
 wr:Wr h w bs ov
 ext:Ext h0 h
 lw:h0.next≤w
 ln:h0.next≤h.next
 lo:∀j,ov.id?=some j→h0.next≤j
theorem WX.step {h0 h h':H} {w:Nat} {bs bs':List Nat} {ov ov':AV} (x:WX h0 h w bs ov) (wr:Wr h' w bs' ov') (f:Hf h w ov h' ov'):WX h0 h' w bs' ov':=
 ⟨wr,fun i c hi=>by
  have:=h0.lt _ _ hi
  have:=x.ln
  have:=x.lw
  rw[f.vY i (by omega) (by omega) (fun q=>by have:=x.lo i q;omega),x.ext i c hi],x.lw,by have:=f.next;have:=x.ln;omega,fun j hj=>by
  rcases f.ids j hj with q|q
  · exact x.lo j q
  · have:=x.ln;omega⟩
theorem WX.turn {h0 h h':H} {w:Nat} {bs:List Nat} {ov:AV} (x:WX h0 h w bs ov) (hf:h'.floor=h.floor) (hn:h.next≤h'.next) (hk:∀i,i<h.next→h'.get i=h.get i):WX h0 h' w bs ov:=
 ⟨⟨by rw [hk w (h.lt _ _ x.wr.get), x.wr.get], x.wr.own.mono hf fun i q => hk i (x.wr.own.lt q).2, by rw [hf]; exact x.wr.fl, by rw [hf]; exact u7 x.wr.JI hn, x.wr.ne, x.wr.H0⟩,
   fun i c hi=>by have:=h0.lt _ _ hi;have:=x.ln;rw[hk i (by omega),x.ext i c hi],x.lw,u7 x.ln hn,x.lo⟩
def AH (E:List (Int×Int)) (s:Nat):Prop:=∃n v:Nat,E[s]?=some ((n:Int),(v:Int))∧1≤n∧n≤15∧v<2^n
def vn (E:List (Int×Int)) (s:Nat):List Nat:=yn (E.getD s (0,0)).2.toNat (E.getD s (0,0)).1.toNat
theorem AH.bits {E:List (Int×Int)} {s:Nat} (o:AH E s):∃n v:Nat,E[s]?=some ((n:Int),(v:Int))∧1≤n∧n≤15∧v<2^n∧vn E s=yn v n:=by
 obtain⟨n,v,h,h1,h2,h3⟩:=o
 refine⟨n,v,h,h1,h2,h3, ?_⟩
 unfold vn
 rw[Sb,h];rfl
theorem AH.lt {E:List (Int×Int)} {s:Nat} (o:AH E s):s<E.length:=by
 obtain⟨n,v,h,_⟩:=o
 exact(uI.1 h).1
theorem yI.Mr {h:H} {v:AV} {E:List (Int×Int)} (r:yI 2 h v E.length (E.flatMap wO)):∃ad:Int→AV,
 (∀i:Int,0≤i∧i<E.length→fJ 2 v (.int .i64 i)=some (ad i))∧
 ∀g:H,Ext h g→∀(i:Nat) (p:Int×Int),E[i]?=some p→bP true 2 (ad i) g=some (.agg [.int .i64 p.1,.int .i64 p.2]):=by
 obtain⟨ad,a1,a2,_,a3⟩:=r.at_
 refine⟨fun i=>ad i 0,a1,fun g hg i t ht=> ?_⟩
 obtain⟨b1,b2⟩:=a3 g hg
 have hi:i<E.length:=(uI.1 ht).1
 have hI:(0:Int)≤(i:Int)∧(i:Int)<E.length:=⟨by omega,by omega⟩
 have ti:((i:Int)).toNat=i:=by omega
 rw[b2 i hI,ti,EZ yT ht];rfl
def vI (E D:List (Int×Int)) (t:Tok):List Nat:=
 if t.len=0 then vn E t.lit.toNat
 else vn E (xn t.len.toNat)++(vz (z5 t.len.toNat) (zm t.len.toNat)++(vn D (xN t.vU.toNat)++vz (Aj t.vU.toNat) (zk t.vU.toNat)))
def vV (E D:List (Int×Int)) (ts:List Tok):List Nat:=ts.flatMap (vI E D)
def Hd (E D:List (Int×Int)) (t:Tok):Prop:=
 (t.len=0∧0≤t.lit∧AH E t.lit.toNat)∨(3≤t.len∧t.len≤258∧1≤t.vU∧t.vU≤32768∧AH E (xn t.len.toNat)∧AH D (xN t.vU.toNat))
theorem Cs {k:Nat} (h1:3≤k) (h2:k≤258):zm k≤5∧z5 k<2^zm k:=by
 obtain⟨a1,a2,a3,a4⟩:=yk h1 h2
 obtain⟨a,b,hab⟩:=Aq a1 a2
 have:=C9 hab
 refine⟨by unfold zm;rw[hab];show b≤5;omega, ?_⟩
 unfold z5 zm;omega
theorem EU {k:Nat} (h1:1≤k) (h2:k≤32768):zk k≤13∧Aj k<2^zk k:=by
 obtain⟨a2,a3,a4⟩:=yh h1 h2
 obtain⟨a,b,hab⟩:=zC a2
 have:=Bu hab
 refine⟨by unfold zk;rw[hab];show b≤13;omega, ?_⟩
 unfold Aj zk;omega
theorem Ch {E D:List (Int×Int)} {t:Tok} (o:Hd E D t):(vI E D t).length≤48:=by
 rcases o with ⟨h1,h2,h3⟩|⟨h1,h2,h3,h4,h5,h6⟩
 · obtain⟨n,v,_,q1,q2,q3,q4⟩:=h3.bits
   rw[vI,if_pos h1,q4,wg];omega
 · obtain⟨n,v,_,q1,q2,q3,q4⟩:=h5.bits
   obtain⟨n',v',_,q1',q2',q3',q4'⟩:=h6.bits
   have l:=Cs (k:=t.len.toNat) (by omega) (by omega)
   have d:=EU (k:=t.vU.toNat) (by omega) (by omega)
   rw[vI,if_neg (by omega),q4,q4']
   simp only[vb,wg,vz,vH];omega
theorem EF {E D:List (Int×Int)}:∀{ts:List Tok},(∀t∈ts,Hd E D t)→(vV E D ts).length≤48* ts.length
 |[],_=>by simp [vV]
 | t :: ts, h => by
   have a:=Ch (h t (by simp))
   have b:=EF (E:=E) (D:=D) (ts:=ts) fun u hu=>h u (by simp [hu])
   unfold vV at *
   simp only[Sj,vb,Sc];omega
structure Ro (h:H) (f:Nat) (vs:List AV) (cs:List (List AV)):Prop where
 get:h.get f=some vs
 own:∀(i:Nat) (v:AV) (c:List AV),vs[i]?=some v→cs[i]?=some c→wm 1 h v c.length c
 len:vs.length=cs.length
 ne:∀(i:Nat) (v:AV),vs[i]?=some v→v.id?≠some f
 Ll:∀(i j:Nat) (v u:AV),i≠j→vs[i]?=some v→vs[j]?=some u→∀id,v.id?=some id→u.id?≠some id
 fl:h.floor≤f
 JI:h.floor≤h.next
structure Lo (h h':H):Prop where
 floor:h'.floor=h.floor
 next:h.next≤h'.next
 vY:∀i,i<h.floor→h'.get i=h.get i
theorem Lo.refl (h:H):Lo h h:=⟨rfl,uM _,fun _ _=>rfl⟩
theorem Lo.trans {a b c:H} (x:Lo a b) (y:Lo b c):Lo a c:=⟨y.floor.trans x.floor,u7 x.next y.next,fun i hi=>(y.vY i (by rw[x.floor];exact hi)).trans (x.vY i hi)⟩
theorem Ext.lo {h0 a b:H} (x:Ext h0 a) (y:Lo a b) (hf:a.floor=h0.next):Ext h0 b:=fun i c hi=>by
 rw[y.vY i (by rw[hf];exact h0.lt _ _ hi),x i c hi]
theorem Ro.push {h : H} {f : Nat} {vs : List AV} {cs : List (List AV)} (r : Ro h f vs cs) (k : Nat) {v : AV} {c : List AV} (hv : vs[k]? = some v) (hc : cs[k]? = some c) (x : AV) (sc : x.sc = true) {z : Nat} (hz : roomy z (c.length + 1) = true) :
 ∃v' h1,kA (h.alloc [x]) 1 z v (.aD h.next 0 1 1)=some (v',h1)∧h1.get f=some vs∧h1.floor=h.floor∧Ro (h1.set f (vs.set k v')) f (vs.set k v') (cs.set k (c++[x]))∧Lo h (h1.set f (vs.set k v')):=by
 have o:=r.own k v c hv hc
 have hfl:=h.lt _ _ r.get
 obtain⟨v',h1,p1,p2,p3,p4,p5,p6⟩:=o.push r.JI (z:=z) (m:=1) (by omega) (by omega) [x] rfl (by simp [AV.aB,sc]) hz
 have hk:k<vs.length:=(uI.1 hv).1
 have gf:h1.get f=some vs:=by rw[p5 f (r.ne k v hv) hfl,r.get]
 have key:∀(i:Nat) (u:AV),(vs.set k v')[i]?=some u→(i=k∧u=v')∨(i≠k∧vs[i]?=some u):=by
  intro i u hu
  by_cases e:k=i
  · subst e
    rw[Sr,if_pos rfl,if_pos hk]at hu
    exact .inl ⟨rfl,(uC hu).symm⟩
  · rw[Sr,if_neg e]at hu
    exact .inr ⟨fun q=>e q.symm,hu⟩
 have iw:∀(i:Nat) (u:AV),vs[i]?=some u→∀id,u.id?=some id→id<h.next:=by
  intro i u hu id hid
  have hi:i<cs.length:=by rw[←r.len];exact(uI.1 hu).1
  exact((r.own i u _ hu (Sd hi)).lt hid).2
 refine⟨v',h1,p1,gf,p3,⟨?_, ?_, ?_, ?_, ?_, ?_, ?_⟩,⟨by simp [p3],by simp;omega, ?_⟩⟩
 · rw[vA rfl,gf];rfl
 · intro i u d hu hd
   rcases key i u hu with ⟨rfl,rfl⟩|⟨hne,hu⟩
   · rw[Sr,if_pos rfl,if_pos (by rw[←r.len];exact hk)]at hd
     obtain rfl:=uC hd
     have:(c++[x]).length=c.length+1:=by simp
     rw[this]
     exact p2.mono (by simp) fun j hj=>by rw[vi];rw[p6]at hj;have:=uC hj;omega
   · rw[Sr,if_neg (fun q=>hne q.symm)]at hd
     exact(r.own i u d hu hd).mono (by simp [p3]) fun j hj=>by
      rw[vi (fun q=>r.ne i u hu (by rw[hj,q])),p5 j (fun q=>r.Ll i k u v hne hu hv j hj q) (iw i u hu j hj)]
 · simp [r.len]
 · intro i u hu
   rcases key i u hu with ⟨rfl,rfl⟩|⟨hne,hu⟩
   · rw[p6];intro q;have:=uC q;omega
   · exact r.ne i u hu
 · intro i j u w hij hu hw id hid
   rcases key i u hu with ⟨e1,e2⟩|⟨hne,hu2⟩
   · rcases key j w hw with ⟨e3,e4⟩|⟨hne2,hw2⟩
     · exact absurd (e1.trans e3.symm) hij
     · intro q;have:=iw j w hw2 id q;rw[e2,p6]at hid;have:=uC hid;omega
   · rcases key j w hw with ⟨e3,e4⟩|⟨hne2,hw2⟩
     · intro q;have:=iw i u hu2 id hid;rw[e4,p6]at q;have:=uC q;omega
     · exact r.Ll i j u w hij hu2 hw2 id hid
 · simpa [p3]using r.fl
 · simp [p3];have:=r.JI;omega
 · intro i hi
   have:=r.fl
   rw[vi (by omega),p5 i (fun q=>by have:=(o.lt q).1;omega) (by have:=r.JI;omega)]
theorem Ro.put {h:H} {f:Nat} {vs:List AV} {cs:List (List AV)} (r:Ro h f vs cs) (k i:Nat) {v:AV} {c:List AV} (hv:vs[k]?=some v) (hc:cs[k]?=some c) (x:AV) (sc:x.sc=true) (hi:i<c.length):
 ∃id,v=.aD id 0 c.length 1∧h.get id=some c∧h.floor≤id∧id≠f∧(∀(j:Nat) (u:AV),j≠k→vs[j]?=some u→u.id?≠some id)∧Ro (h.set id (c.set i x)) f vs (cs.set k (c.set i x))∧Lo h (h.set id (c.set i x)):=by
 have o:=r.own k v c hv hc
 rcases o.2 with ⟨_,q⟩|⟨id,q1,q2,q3,q4⟩
 · omega
 have hid:v.id?=some id:=by rw[q1];rfl
 have hne:id≠f:=fun q=>r.ne k v hv (by rw[hid,q])
 have hk:k<vs.length:=(uI.1 hv).1
 refine⟨id,q1,q2,q3,hne,fun j u hj hu q=>r.Ll j k u v hj hu hv id q hid,⟨?_, ?_, ?_,r.ne,r.Ll,by simpa using r.fl,by simpa using r.JI⟩,⟨by simp,by simp,fun j hj=>by rw[vi (by omega)]⟩⟩
 · rw[vi hne.symm,r.get]
 · intro j u d hu hd
   by_cases e:k=j
   · subst e
     rw[hv]at hu
     obtain rfl:=uC hu
     rw[Sr,if_pos rfl,if_pos (by rw[←r.len];exact hk)]at hd
     obtain rfl:=uC hd
     have lc:(c.set i x).length=c.length:=Sz
     rw[lc]
     exact⟨by omega,.inr ⟨id,q1,by rw[vA rfl,q2];rfl,by simpa using q3,q4⟩⟩
   · rw[Sr,if_neg e]at hd
     exact(r.own j u d hu hd).mono (by simp) fun m hm=>by rw[vi];intro q;subst q;exact r.Ll j k u v (fun q=>e q.symm) hu hv m hm hid
 · simp [r.len]
def Rw (F:List Bool):List AV:=F.map .bool
abbrev Rz (W U:List Int) (F:List Bool):List (List AV):=[ints W,ints U,Rw F]
theorem wm.cells {n:Nat} {h:H} {v:AV} {k:Nat} {cs:List AV} (o:wm n h v k cs):v.cells=[v]:=by
 rcases o.2 with ⟨e,_⟩|⟨id,e,_⟩<;>rw[e]<;>rfl
def wS (W:List Int) (F:List Bool):Nat→Nat→Int→Int
 |0,_,a=>a
 |m+1,i,a=>wS W F m (i+1) (if F.getD i false=true∧(a<0∨W.getD i 0<W.getD a.toNat 0)then i else a)
def xA (W:List Int) (F:List Bool):Nat:=(wS W F W.length 0 (-1)).toNat
structure FS where
 W:List Int
 U:List Int
 F:List Bool
def FS.add (s:FS) (x:Int):FS:=⟨s.W++[x],s.U++[-1],s.F++[true]⟩
def FS.a (s:FS):Nat:=xA s.W s.F
def FS.F1 (s:FS):List Bool:=s.F.set s.a false
def FS.b (s:FS):Nat:=xA s.W s.F1
def FS.F2 (s:FS):List Bool:=s.F1.set s.b false
def FS.sum (s:FS):Int:=s.W.getD s.a 0+s.W.getD s.b 0
def FS.E4 (s:FS):FS:=FS.add ⟨s.W,(s.U.set s.a s.U.length).set s.b s.U.length,s.F2⟩ s.sum
structure FS.ok (s:FS):Prop where
 lu:s.U.length=s.W.length
 lf:s.F.length=s.W.length
 l1:0≤wS s.W s.F s.W.length 0 (-1)
 l2:0≤wS s.W s.F1 s.W.length 0 (-1)
 sm:0≤s.sum∧s.sum<1000000000000000
abbrev FS.C (s:FS):List (List AV):=Rz s.W s.U s.F
theorem yo (l:List Int) (i:Nat) (x:Int):(ints l).set i (.int .i64 x)=ints (l.set i x):=by simp [ints,List.map_set,I]
def FS.yu:Nat→FS→FS
 |0,s=>s
 |n+1,s=>FS.yu n s.E4
theorem FS.Ip (s:FS):s.E4.W.length=s.W.length+1:=by simp [FS.E4,FS.add]
theorem FS.Bb:∀(n:Nat) (s:FS),(FS.yu n s).W.length=s.W.length+n
 |0,s=>rfl
 |n+1,s=>by rw[FS.yu,FS.Bb n,FS.Ip];omega
def Cj (ws:List Int):FS:=⟨ws,List.replicate ws.length (-1),List.replicate ws.length true⟩
def BS (U:List Int):Nat→Int→Nat
 |0,_=>0
 |m+1,j=>if 0≤j then BS U m (U.getD j.toNat (-1))+1 else 0
def HU (U:List Int):Prop:=∀j:Nat,j<U.length→U.getD j (-1)= -1∨((j:Int)<U.getD j (-1)∧U.getD j (-1)<U.length)
def EW (U:List Int) (n:Nat):List Int:=(List.range n).map fun i=>((BS U U.length (U.getD i (-1)):Nat):Int)
theorem J4 (U:List Int) (n:Nat):(EW U n).length=n:=by simp [EW]
def vw (ws:List Int):List Int:=EW (FS.yu (ws.length-1) (Cj ws)).U ws.length
def JJ (u v:AV):Prop:=∀j,u.id?=some j→v.id?≠some j
theorem JJ.symm {u v:AV} (a:JJ u v):JJ v u:=fun j h q=>a j q h
def vp:Nat→List Int→List Int
 |_,[]=>[]
 |i,c::r=>if 0<c then(i:Int)::vp (i+1) r else vp (i+1) r
def vq:List Int→List Int
 |[]=>[]
 |c::r=>if 0<c then c::vq r else vq r
theorem wm.yZ {h:H} {v:AV} {cs:List AV} (o:wm 1 h v cs.length cs):Rd h v cs:=⟨o.rd.1,o.rd.2.2⟩
def vT:List Int→List Int→List Int→List Int
 |s::ss,d::ds,o=>vT ss ds (o.set s.toNat d)
 |_,_,o=>o
theorem wG:∀(ss ds o:List Int),(vT ss ds o).length=o.length
 |[],_,o=>by simp [vT]
 |s::ss,[],o=>by simp [vT]
 |s::ss,d::ds,o=>by rw[vT,wG ss ds,Sz]
def Ar:List Int→Int→Int
 |[],m=>m
 |d::ds,m=>Ar ds (De m d)
theorem Ext.IC {hb h:H} {o:Nat} (x:Ext hb h) (hn:hb.get o=none) (c:List AV):Ext hb (h.set o c):=fun i d q=>by
 have:i≠o:=fun e=>by rw[e,hn]at q;cases q
 rw[vi this,x i d q]
def yD (w:Int):Int:=(w+1)/2
def wu (ws:List Int):List Int:=ws.map yD
theorem zR (ws:List Int):(wu ws).length=ws.length:=by simp [wu]
def Iq (ws:List Int):Prop:=ws=[]∨(1≤ws.length∧ws.length≤288∧(∀k,k<ws.length-1→(FS.yu k (Cj ws)).ok)∧HU (FS.yu (ws.length-1) (Cj ws)).U∧(FS.yu (ws.length-1) (Cj ws)).U.length=(FS.yu (ws.length-1) (Cj ws)).W.length)
theorem IL (U:List Int):∀(m:Nat) (j:Int),BS U m j≤m
 |0,j=>uM _
 | m + 1, j => by
   rw[BS]
   split
   · have:=IL U m (U.getD j.toNat (-1));omega
   · omega
theorem F0 {ws:List Int} (o:Iq ws):∀d∈vw ws,0≤d∧d<1000:=by
 intro d hd
 rcases o with rfl|⟨h1,h2,_,_,h5⟩
 · simp [vw,EW]at hd
 · unfold vw EW at hd
   obtain⟨i,_,rfl⟩:=Sm.1 hd
   have:=IL (FS.yu (ws.length-1) (Cj ws)).U (FS.yu (ws.length-1) (Cj ws)).U.length ((FS.yu (ws.length-1) (Cj ws)).U.getD i (-1))
   rw[h5,FS.Bb]at this
   rw[h5,FS.Bb]
   have:(Cj ws).W.length=ws.length:=rfl
   omega
theorem wC (ws:List Int):(vw ws).length=ws.length:=J4 _ _
def yE (S:List Int):Nat→List Int→List Int→List Int
 |0,W,O=>vT S (vw W) O
 |K+1,W,O=>yE S K (wu W) (vT S (vw W) O)
theorem JM {h:H} {v:AV} {k:Nat} {cs:List AV} (o:wm 1 h v k cs) (hk:0<k):∃id,v=.aD id 0 k 1∧h.get id=some cs∧h.floor≤id:=by
 rcases o.2 with ⟨_,q⟩|⟨id,q1,q2,q3,_⟩
 · omega
 · exact⟨id,q1,q2,q3⟩
inductive wU (most:Int):Nat→List Int→Prop
 |last {W:List Int}:Iq W→Ar (vw W) 0≤most→wU most 0 W
 |more {K:Nat} {W:List Int}:Iq W→most<Ar (vw W) 0→W≠[]→wU most K (wu W)→wU most (K+1) W
def Bf (S:List Int):List Int:=if S.length=1 then(if 0<S.getD 0 0 then [0,S.getD 0 0]else S++[1])else S
def HI (S W:List Int):List Int:=if S.length=1 then(if 0<S.getD 0 0 then [1,W.getD 0 0]else W++[1])else W
theorem L7 {S W:List Int} (h:W.length=S.length):(HI S W).length=(Bf S).length:=by
 unfold HI Bf
 split
 · split
   · rfl
   · simp [h]
 · exact h
theorem vP:∀(i:Nat) (C:List Int),(vp i C).length=(vq C).length
 |i,[]=>rfl
 | i, c :: r => by
   rw[vp,vq]
   split
   · simp [vP (i+1) r]
   · exact vP (i+1) r
theorem wI:∀(i:Nat) (C:List Int),(vp i C).length≤C.length
 |i,[]=>uM _
 | i, c :: r => by
   have:=wI (i+1) r
   rw[vp]
   split<;>simp<;>omega
theorem wY:∀(i:Nat) (C:List Int),∀s∈vp i C,(i:Int)≤s∧s<i+C.length
 |i,[],s,h=>by simp [vp]at h
 | i, c :: r, s, h => by
   rw[vp]at h
   split at h
   · rcases u6.1 h with q|q
     · subst q;simp;omega
     · have:=wY (i+1) r s q;simp only[Sc];omega
   · have:=wY (i+1) r s h;simp only[Sc];omega
theorem yl:∀(C:List Int),∀y∈vq C,y∈C∧0<y
 |[],y,h=>by simp [vq]at h
 | c :: r, y, h => by
   rw[vq]at h
   split at h
   · rcases u6.1 h with q|q
     · subst q;exact⟨by simp,by assumption⟩
     · have:=yl r y q;exact⟨by simp [this.1],this.2⟩
   · have:=yl r y h;exact⟨by simp [this.1],this.2⟩
theorem Kz {S : List Int} {n : Nat} (hn : 2 ≤ n) (h : ∀ s ∈ S, 0 ≤ s ∧ s < n) : ∀ s ∈ Bf S, 0 ≤ s ∧ s < n := by
 intro s hs
 unfold Bf at hs
 split at hs
 · split at hs
   · rename_i h1 h2
     rcases u6.1 hs with q|q
     · subst q;omega
     · simp at q
       subst q
       match S,h1 with
       |[t],_=>exact h t (by simp)
   · rcases SH.1 hs with q|q
     · exact h s q
     · simp at q;subst q;omega
 · exact h s hs
theorem GJ {S:List Int} {n:Nat} (hn:2≤n) (h:S.length≤n):(Bf S).length≤n:=by
 unfold Bf
 split
 · split
   · simpa using hn
   · simp;omega
 · exact h
theorem zh (n:Nat):xW n [.int .i64 0]=ints (List.replicate n 0):=by
 unfold xW;rw[Fo];simp [ints,I]
def wD (C:List Int):List Int:=Bf (vp 0 C)
def wN (C:List Int):List Int:=HI (vp 0 C) (vq C)
theorem HA (C:List Int):(wN C).length=(wD C).length:=L7 (vP 0 C).symm
def we (C:List Int) (K:Nat):List Int:=yE (wD C) K (wN C) (List.replicate C.length 0)
theorem C7 (W : List Int) (F : List Bool) : ∀ (m i : Nat) (a : Int), (a = -1 ∧ (∀ j, j < i → F.getD j false = false)) ∨ (∃ k : Nat, a = k ∧ k < i ∧ F.getD k false = true ∧ ∀ j, j < i → F.getD j false = true → W.getD k 0 ≤ W.getD j 0) →
 (wS W F m i a= -1∧(∀j,j<i+m→F.getD j false=false))∨(∃k:Nat,wS W F m i a=k∧k<i+m∧F.getD k false=true∧∀j,j<i+m→F.getD j false=true→W.getD k 0≤W.getD j 0)
 |0,i,a,h=>by simpa [wS]using h
 | m + 1, i, a, h => by
   rw[wS]
   have e:i+(m+1)=i+1+m:=by omega
   rw[e]
   refine C7 W F m (i+1) _ ?_
   by_cases c:F.getD i false=true∧(a<0∨W.getD i 0<W.getD a.toNat 0)
   · rw [if_pos c]
     refine .inr ⟨i,rfl,by omega,c.1,fun j hj hf=> ?_⟩
     by_cases q:j=i
     · subst q;exact SO _
     · rcases h with ⟨_,h2⟩|⟨k,rfl,h1,h2,h3⟩
       · rw[h2 j (by omega)]at hf;cases hf
       · have:=h3 j (by omega) hf
         have tk:((k:Nat):Int).toNat=k:=by omega
         rw[tk]at c
         have:=c.2
         omega
   · rw [if_neg c]
     rcases h with ⟨rfl,h2⟩|⟨k,rfl,h1,h2,h3⟩
     · refine .inl ⟨rfl,fun j hj=> ?_⟩
       by_cases q:j=i
       · subst q
         cases e:F.getD j false with
         |false=>rfl
         |true=>exact absurd ⟨e,.inl (by omega)⟩ c
       · exact h2 j (by omega)
     · refine .inr ⟨k,rfl,by omega,h2,fun j hj hf=> ?_⟩
       by_cases q:j=i
       · subst q
         have tk:((k:Nat):Int).toNat=k:=by omega
         rw[tk]at c
         have:¬(W.getD j 0<W.getD k 0):=fun x=>c ⟨hf,.inr x⟩
         omega
       · exact h3 j (by omega) hf
theorem Ap {W:List Int} {F:List Bool} (hl:F.length=W.length) {i:Nat} (hi:F.getD i false=true):0≤wS W F W.length 0 (-1)∧xA W F<W.length∧F.getD (xA W F) false=true∧∀j,F.getD j false=true→W.getD (xA W F) 0≤W.getD j 0:=by
 have hiL:∀j,F.getD j false=true→j<F.length:=by
  intro j hj
  rw[Sb]at hj
  cases e:F[j]? with
  |none=>rw[e]at hj;cases hj
  |some b=>exact(uI.1 e).1
 rcases C7 W F W.length 0 (-1) (.inl ⟨rfl,fun j hj=>by omega⟩)with ⟨_,h2⟩|⟨k,h1,h2,h3,h4⟩
 · have:=h2 i (by have:=hiL i hi;omega)
   rw[hi]at this;cases this
 · have ek:xA W F=k:=by unfold xA;rw[h1];omega
   rw[ek]
   exact⟨by omega,by omega,h3,fun j hj=>h4 j (by have:=hiL j hj;omega) hj⟩
def Ma (U:List Int):Nat→Nat→Nat→Prop
 |0,i,r=>i=r
 |d+1,i,r=>∃j:Nat,U[i]?=some (j:Int)∧Ma U d j r
theorem Dl {U:List Int}:∀{d i r:Nat} {j:Nat},Ma U d i r→U[r]?=some (j:Int)→Ma U (d+1) i j
 | 0, i, r, j, h, hj => by
   have:i=r:=h
   subst this
   exact⟨j,hj,rfl⟩
 |d+1,i,r,j,⟨k,h1,h2⟩,hj=>⟨k,h1,Dl h2 hj⟩
theorem Fk {U:List Int} (up:HU U):∀{d i r:Nat},Ma U d i r→U.getD r (-1)= -1→∀m,d≤m→BS U m (U.getD i (-1))=d
 | 0, i, r, h, hr, m, hm => by
   have:i=r:=h
   subst this
   rw[hr]
   cases m with
   |zero=>rfl
   |succ m=>rw[BS,if_neg (by omega)]
 | d + 1, i, r, ⟨j, h1, h2⟩, hr, m, hm => by
   obtain⟨m,rfl⟩:∃k,m=k+1:=⟨m-1,by omega⟩
   have e:U.getD i (-1)=(j:Int):=by rw[Sb,h1];rfl
   rw[e,BS,if_pos (by omega)]
   have tj:((j:Nat):Int).toNat=j:=by omega
   rw[tj,Fk up h2 hr m (by omega)]
theorem Fj {U:List Int} (up:HU U):∀{d i r:Nat},Ma U d i r→i+d≤r
 | 0, i, r, h => by
   have:i=r:=h
   omega
 | d + 1, i, r, ⟨j, h1, h2⟩ => by
   have:=Fj up h2
   have hi:=(uI.1 h1).1
   have e:U.getD i (-1)=(j:Int):=by rw[Sb,h1];rfl
   have:=up i hi
   rw[e]at this
   omega
def yq (U:List Int) (a b:Nat):List Int:=(U.set a U.length).set b U.length++[-1]
theorem Ee (U:List Int) (a b:Nat):(yq U a b).length=U.length+1:=by simp [yq]
theorem BD {U:List Int} {a b i:Nat} (hi:i<U.length) (ha:a≠i) (hb:b≠i):(yq U a b)[i]?=U[i]?:=by
 unfold yq
 rw[Sn (by simpa using hi),Sr,if_neg hb,Sr,if_neg ha]
theorem Ii {U:List Int} {a b:Nat} (ha:a<U.length):(yq U a b)[a]?=some (U.length:Int):=by
 unfold yq
 rw[Sn (by simpa using ha),Sr]
 split
 · rename_i e;subst e;simp [ha]
 · rw[Sr,if_pos rfl,if_pos ha]
theorem Ij {U:List Int} {a b:Nat} (hb:b<U.length):(yq U a b)[b]?=some (U.length:Int):=by
 unfold yq
 rw[Sn (by simpa using hb),Sr,if_pos rfl,if_pos (by simpa using hb)]
theorem Ik {U:List Int} {a b:Nat}:(yq U a b)[U.length]?=some (-1):=by
 unfold yq
 rw[So (by simp)];simp
theorem Bg {U:List Int} {a b:Nat} (ha:U[a]?=some (-1)) (hb:U[b]?=some (-1)):∀{d i r:Nat},Ma U d i r→Ma (yq U a b) d i r
 |0,i,r,h=>h
 | d + 1, i, r, ⟨j, h1, h2⟩ => by
   refine⟨j, ?_,Bg ha hb h2⟩
   rw[BD (uI.1 h1).1 (fun e=>by rw[e,h1]at ha;have:=uC ha;omega) (fun e=>by rw[e,h1]at hb;have:=uC hb;omega),h1]
theorem JF {U : List Int} {a b : Nat} (ha : a < U.length) (hb : b < U.length) (up : HU U) : HU (yq U a b) := by
 intro j hj
 rw[Ee]at hj ⊢
 by_cases e:j=U.length
 · subst e
   left
   rw[Sb,Ik];rfl
 · by_cases ea:a=j
   · subst ea
     right
     rw[Sb,Ii ha]
     simp;omega
   · by_cases eb:b=j
     · subst eb
       right
       rw[Sb,Ij hb]
       simp;omega
     · have:=up j (by omega)
       rw[Sb,BD (by omega) ea eb,←Sb]
       omega
theorem FS.QA (s:FS):s.E4.U=yq s.U s.a s.b:=rfl
abbrev Tr:=Nat×List (Nat×Nat)
def kr (D:Nat) (l:List (Nat×Nat)):Nat:=(l.map fun p=>2^(D-p.2)).sum
structure yG (bal:Bool) (n:Nat) (tot:Int) (s:FS) (T:List Tr):Prop where
 lu:s.U.length=s.W.length
 lf:s.F.length=s.W.length
 root:∀t∈T,s.F.getD t.1 false=true∧s.U[t.1]?=some (-1)
 free:∀i,s.F.getD i false=true→∃t∈T,t.1=i
 nd:(T.map (·.1)).Nodup
 pt:∀t∈T,∀p∈t.2,Ma s.U p.2 p.1 t.1
 leaves:(T.flatMap fun t=>t.2.map (·.1)).Perm (List.range n)
 C6:∀t∈T,∀D,(∀p∈t.2,p.2≤D)→kr D t.2=2^D
 ne:∀t∈T,t.2≠[]
 HV:∀t∈T,1≤s.W.getD t.1 0
 up:HU s.U
 sum:(T.map fun t=>s.W.getD t.1 0).sum=tot
 Lx:bal=true→∀t∈T,∀u∈T,s.W.getD t.1 0≤2* s.W.getD u.1 0
 IZ:bal=true→∀t∈T,∀p∈t.2,(3:Int)^p.2≤s.W.getD t.1 0* 2^p.2
theorem Jq {l l':List Int} (p:l.Perm l'):l.sum=l'.sum:=by
 induction p with
 |nil=>rfl
 |cons x _ ih=>simp only[SF,ih]
 |swap x y l=>simp only[SF];omega
 |trans _ _ h1 h2=>exact h1.trans h2
theorem Et {l l':List Nat} (p:l.Perm l'):l.sum=l'.sum:=by
 induction p with
 |nil=>rfl
 |cons x _ ih=>simp only[SF,ih]
 |swap x y l=>simp only[SF];omega
 |trans _ _ h1 h2=>exact h1.trans h2
theorem yG.perm {bal:Bool} {n:Nat} {tot:Int} {s:FS} {T T':List Tr} (v:yG bal n tot s T) (p:T.Perm T'):yG bal n tot s T' where
 lu:=v.lu
 lf:=v.lf
 root t h:=v.root t (p.mem_iff.2 h)
 free i h:=by
  obtain⟨t,h1,h2⟩:=v.free i h
  exact⟨t,p.mem_iff.1 h1,h2⟩
 nd:=(p.map _).nodup_iff.1 v.nd
 pt t h:=v.pt t (p.mem_iff.2 h)
 leaves:=((p.flatMap_right _).symm).trans v.leaves
 C6 t h:=v.C6 t (p.mem_iff.2 h)
 ne t h:=v.ne t (p.mem_iff.2 h)
 HV t h:=v.HV t (p.mem_iff.2 h)
 up:=v.up
 sum:=by rw[←v.sum];exact(Jq (p.map _)).symm
 Lx hb t h u h2:=v.Lx hb t (p.mem_iff.2 h) u (p.mem_iff.2 h2)
 IZ hb t h:=v.IZ hb t (p.mem_iff.2 h)
def xE (l:List (Nat×Nat)):List (Nat×Nat):=l.map fun p=>(p.1,p.2+1)
theorem Jg {D:Nat} {l:List (Nat×Nat)}:kr (D+1) (xE l)=kr D l:=by
 unfold kr xE
 rw[SX]
 congr 1
 refine SD fun p _=> ?_
 show 2^(D+1-(p.2+1))=_
 rw[Nat.add_sub_add_right]
theorem OM (D:Nat) (a b:List (Nat×Nat)):kr D (a++b)=kr D a+kr D b:=by simp [kr]
theorem getD_set_ne {α:Type} {l:List α} {i j:Nat} {x d:α} (h:i≠j):(l.set i x).getD j d=l.getD j d:=by
 rw[Sb,Sr,if_neg h,←Sb]
theorem zd {l:List Bool} {i:Nat}:(l.set i false).getD i false=false:=by
 rw[Sb,Sr,if_pos rfl]
 split<;>rfl
theorem yG.two {bal:Bool} {n:Nat} {tot:Int} {s:FS} {T:List Tr} (v:yG bal n tot s T) (h2:2≤T.length):
 ∃ta tb T2,T.Perm (ta::tb::T2)∧ta.1=s.a∧tb.1=s.b∧0≤wS s.W s.F s.W.length 0 (-1)∧0≤wS s.W s.F1 s.W.length 0 (-1)∧s.W.getD s.a 0≤s.W.getD s.b 0∧(∀t∈T2,s.W.getD s.b 0≤s.W.getD t.1 0):=by
 obtain⟨t0,t1,T0,rfl⟩:∃t0 t1 T0,T=t0::t1::T0:=by
  match T,h2 with
  |t0::t1::T0,_=>exact⟨t0,t1,T0,rfl⟩
 obtain⟨l1,la,fa,ma⟩:=Ap v.lf (v.root t0 (by simp)).1
 obtain⟨ta,hta,ea⟩:=v.free _ fa
 have p1:=List.perm_cons_erase hta
 have v1:=v.perm p1
 obtain⟨T1,eT1⟩:∃T1,T1=(t0::t1::T0).erase ta:=⟨_,rfl⟩
 rw[←eT1]at p1 v1
 have lT1:T1≠[]:=by
  intro e
  have:=p1.length_eq
  rw[e]at this
  simp at this
 obtain⟨tx,hx⟩:=List.exists_mem_of_ne_nil _ lT1
 have nd1:∀t∈T1,t.1≠ta.1:=by
  intro t ht e
  have:=v1.nd
  rw[Sl,SW]at this
  exact this.1 (Sm.2 ⟨t,ht,e⟩)
 have f1:∀t∈T1,s.F1.getD t.1 false=true:=by
  intro t ht
  have:=(v1.root t (by simp [ht])).1
  show(s.F.set s.a false).getD t.1 false=true
  rw[getD_set_ne (by have:=nd1 t ht;intro e;exact this (by rw[ea,←e];rfl)),this]
 obtain⟨l2,lb,fb,mb⟩:=Ap (W:=s.W) (F:=s.F1) (by show(s.F.set s.a false).length=_;rw[Sz];exact v.lf) (f1 tx hx)
 have hnb:s.a≠s.b:=by
  intro e
  have fb':s.F1.getD s.b false=true:=fb
  rw[←e]at fb'
  have:(s.F.set s.a false).getD s.a false=true:=fb'
  rw[zd]at this;cases this
 have fb2:s.F.getD s.b false=true:=by
  have fb':(s.F.set s.a false).getD s.b false=true:=fb
  rwa [getD_set_ne hnb]at fb'
 obtain⟨tb,htb,eb⟩:=v1.free _ fb2
 have htb1:tb∈T1:=by
  rcases u6.1 htb with q|q
  · subst q;exact absurd (ea.symm.trans eb) hnb
  · exact q
 have p2:=List.perm_cons_erase htb1
 refine⟨ta,tb,T1.erase tb,p1.trans (p2.cons ta),ea,eb,l1,l2,ma _ fb2,fun t ht=>mb _ (f1 t (List.mem_of_mem_erase ht))⟩
theorem yG.K5 {bal : Bool} {n : Nat} {tot : Int} {s : FS} {T T2 : List Tr} {ta tb : Tr} (v : yG bal n tot s T) (p : T.Perm (ta :: tb :: T2)) (ea : ta.1 = s.a) (eb : tb.1 = s.b) (l1 : 0 ≤ wS s.W s.F s.W.length 0 (-1)) (l2 : 0 ≤ wS s.W s.F1 s.W.length 0 (-1)) (wab : s.W.getD s.a 0 ≤ s.W.getD s.b 0) (wbt : ∀ t ∈ T2, s.W.getD s.b 0 ≤ s.W.getD t.1 0) (ht : tot < 1000000000000000) : s.ok ∧ yG bal n tot s.E4 ((s.U.length, xE (ta.2 ++ tb.2)) :: T2) := by
 have lT:=p.length_eq
 have v1:=v.perm p
 have nd:=v1.nd
 rw[Sl,Sl,SW,SW]at nd
 obtain⟨nd1,nd2,nd3⟩:=nd
 have ra:=v1.root ta (by simp)
 have rb:=v1.root tb (by simp)
 rw[ea]at ra
 rw[eb]at rb
 have hla:s.a<s.U.length:=(uI.1 ra.2).1
 have hlb:s.b<s.U.length:=(uI.1 rb.2).1
 have wa:=v1.HV ta (by simp)
 have wb1:=v1.HV tb (by simp)
 rw[ea]at wa
 rw[eb]at wb1
 have sm:=v1.sum
 rw[Sl,Sl,SF,SF,ea,eb]at sm
 have nn:0≤(T2.map fun t=>s.W.getD t.1 0).sum:=by
  have:∀l:List Tr,(∀t∈l,1≤s.W.getD t.1 0)→0≤(l.map fun t=>s.W.getD t.1 0).sum:=by
   intro l
   induction l with
   |nil=>intro _;simp
   |cons x l ih=>intro h;have:=ih fun t ht=>h t (by simp [ht]);have:=h x (by simp);simp only[Sl,SF];omega
  exact this T2 fun t ht=>v1.HV t (by simp [ht])
 have es:s.sum=s.W.getD s.a 0+s.W.getD s.b 0:=rfl
 refine⟨⟨v.lu,v.lf,l1,l2,by omega⟩, ?_⟩
 have nT2:∀t∈T2,t.1≠s.a∧t.1≠s.b∧t.1<s.U.length:=fun t ht=>⟨fun e=>nd1 (by simp only[u6,Sm];exact .inr ⟨t,ht,by rw[e,ea]⟩),fun e=>nd2 (Sm.2 ⟨t,ht,by rw[e,eb]⟩),(uI.1 (v1.root t (by simp [ht])).2).1⟩
 have mW:∀i,i<s.W.length→s.E4.W.getD i 0=s.W.getD i 0:=fun i hi=>by
  show(s.W++[s.sum]).getD i 0=_
  rw[Sb,Sn hi,←Sb]
 have mWn:s.E4.W.getD s.U.length 0=s.sum:=by
  show(s.W++[s.sum]).getD s.U.length 0=_
  rw[v.lu,Sb,So (uM _)];simp
 have lF2:s.F2.length=s.W.length:=by show((s.F.set s.a false).set s.b false).length=_;rw[Sz,Sz,v.lf]
 have mF:∀i,i<s.W.length→s.E4.F.getD i false=s.F2.getD i false:=fun i hi=>by
  show(s.F2++[true]).getD i false=_
  rw[Sb,Sn (by omega),←Sb]
 have mFn:s.E4.F.getD s.U.length false=true:=by
  show(s.F2++[true]).getD s.U.length false=_
  rw[v.lu,Sb,So (by omega),lF2];simp
 have F2o:∀i,i≠s.a→i≠s.b→s.F2.getD i false=s.F.getD i false:=fun i h1 h2=>by
  show((s.F.set s.a false).set s.b false).getD i false=_
  rw[getD_set_ne h2.symm,getD_set_ne h1.symm]
 have F2a:s.a≠s.b→s.F2.getD s.a false=false:=fun h=>by
  show((s.F.set s.a false).set s.b false).getD s.a false=_
  rw[getD_set_ne h.symm,zd]
 have F2b:s.F2.getD s.b false=false:=zd
 have hab:s.a≠s.b:=fun e=>nd1 (by simp only[u6];exact .inl (by rw[ea,eb,e]))
 have jl:∀p∈ta.2++tb.2,Ma (yq s.U s.a s.b) (p.2+1) p.1 s.U.length:=fun q hq=>by
  rcases SH.1 hq with h|h
  · have:=v1.pt ta (by simp) q h
    rw[ea]at this
    exact Dl (Bg ra.2 rb.2 this) (Ii hla)
  · have:=v1.pt tb (by simp) q h
    rw[eb]at this
    exact Dl (Bg ra.2 rb.2 this) (Ij hlb)
 have lu:=v.lu
 have lf:=v.lf
 have getT2:∀t∈T2,s.E4.W.getD t.1 0=s.W.getD t.1 0:=fun t ht=>mW _ (by have:=(nT2 t ht).2.2;omega)
 have W2:∀t∈(s.U.length,xE (ta.2++tb.2))::T2,(t.1=s.U.length∧t.2=xE (ta.2++tb.2)∧s.E4.W.getD t.1 0=s.sum)∨(t∈T2∧s.E4.W.getD t.1 0=s.W.getD t.1 0):=fun t ht=>by
  rcases u6.1 ht with q|q
  · subst q;exact .inl ⟨rfl,rfl,mWn⟩
  · exact .inr ⟨q,getT2 t q⟩
 constructor
 · show(yq s.U s.a s.b).length=(s.W++[s.sum]).length
   rw[Ee];simp [lu]
 · show(s.F2++[true]).length=(s.W++[s.sum]).length
   simp [lF2]
 · intro t ht
   rcases u6.1 ht with q|q
   · subst q
     exact⟨mFn,Ik⟩
   · have n:=nT2 t q
     have r:=v1.root t (by simp [q])
     refine⟨by rw[mF _ (by omega),F2o _ n.1 n.2.1];exact r.1, ?_⟩
     rw[FS.QA,BD n.2.2 n.1.symm n.2.1.symm];exact r.2
 · intro i hi
   by_cases e:i=s.U.length
   · exact⟨_,List.mem_cons_self ..,e.symm⟩
   · have hiL:i<s.W.length:=by
      apply Sx
      intro c
      have:s.E4.F.length=s.W.length+1:=by show(s.F2++[true]).length=_;simp [lF2]
      rw[Sb,Sq (by omega)]at hi
      cases hi
     rw[mF i hiL]at hi
     have h1:i≠s.a:=fun q=>by rw[q,F2a hab]at hi;cases hi
     have h2:i≠s.b:=fun q=>by rw[q,F2b]at hi;cases hi
     rw[F2o i h1 h2]at hi
     obtain⟨t,ht,et⟩:=v1.free i hi
     rcases u6.1 ht with q|q
     · subst q;exact absurd (et.symm.trans ea) h1
     · rcases u6.1 q with q|q
       · subst q;exact absurd (et.symm.trans eb) h2
       · exact⟨t,SP _ q,et⟩
 · rw[Sl,SW]
   refine⟨fun hm=> ?_,nd3⟩
   obtain⟨t,ht,e⟩:=Sm.1 hm
   have:=(nT2 t ht).2.2
   rw[e]at this
   exact absurd this (by simp)
 · intro t ht
   rcases u6.1 ht with q|q
   · subst q
     intro q hq
     obtain⟨q',hq',rfl⟩:=Sm.1 hq
     exact jl q' hq'
   · intro x hx
     exact Bg ra.2 rb.2 (v1.pt t (by simp [q]) x hx)
 · have lv:=v1.leaves
   refine List.Perm.trans ?_ lv
   rw[Sj,Sj,Sj,←Sp]
   have:(xE (ta.2++tb.2)).map (·.1)=ta.2.map (·.1)++tb.2.map (·.1):=by
    unfold xE;rw[SX,List.map_append];rfl
   rw[this]
 · intro t ht
   rcases u6.1 ht with q|q
   · subst q
     intro D hD
     have hne:=v1.ne ta (by simp)
     obtain⟨x,hx⟩:=List.exists_mem_of_ne_nil _ hne
     have h1:=hD (x.1,x.2+1) (Sm.2 ⟨x,List.mem_append_left _ hx,rfl⟩)
     obtain⟨D,rfl⟩:∃E,D=E+1:=⟨D-1,by simp at h1;omega⟩
     rw[Jg,OM]
     rw[v1.C6 ta (by simp) D fun y hy=>by have:=hD (y.1,y.2+1) (Sm.2 ⟨y,List.mem_append_left _ hy,rfl⟩);simp at this;omega]
     rw[v1.C6 tb (by simp) D fun y hy=>by have:=hD (y.1,y.2+1) (Sm.2 ⟨y,List.mem_append_right _ hy,rfl⟩);simp at this;omega]
     rw[Nat.pow_succ];omega
   · exact v1.C6 t (by simp [q])
 · intro t ht
   rcases u6.1 ht with q|q
   · subst q
     have hne:=v1.ne ta (by simp)
     intro e
     have:xE (ta.2++tb.2)=[]:=e
     unfold xE at this
     rw[List.map_eq_nil_iff,List.append_eq_nil_iff]at this
     exact hne this.1
   · exact v1.ne t (by simp [q])
 · intro t ht
   rcases W2 t ht with ⟨_,_,e⟩|⟨q,e⟩
   · rw[e];omega
   · rw[e];exact v1.HV t (by simp [q])
 · exact JF hla hlb v.up
 · rw[Sl,SF,mWn,SD getT2];omega
 · intro hb t ht u hu
   have b1:=v1.Lx hb
   have ba:=b1 tb (by simp) ta (by simp)
   rw[ea,eb]at ba
   rcases W2 t ht with ⟨_,_,e⟩|⟨q,e⟩
   · rcases W2 u hu with ⟨_,_,e'⟩|⟨q',e'⟩
     · rw[e,e'];omega
     · rw[e,e'];have:=wbt u q';omega
   · rcases W2 u hu with ⟨_,_,e'⟩|⟨q',e'⟩
     · rw[e,e'];have:=b1 t (by simp [q]) ta (by simp);rw[ea]at this;omega
     · rw[e,e'];exact b1 t (by simp [q]) u (by simp [q'])
 · intro hb t ht x hx
   have b1:=v1.Lx hb
   have ba:=b1 tb (by simp) ta (by simp)
   have bb:=b1 ta (by simp) tb (by simp)
   rw[ea,eb]at ba bb
   rcases W2 t ht with ⟨_,e2,e⟩|⟨q,e⟩
   · rw[e]
     rw[e2]at hx
     obtain⟨y,hy,rfl⟩:=Sm.1 hx
     have p2:(0:Int)<2^y.2:=Int.pow_pos (by omega)
     show(3:Int)^(y.2+1)≤s.sum* 2^(y.2+1)
     rw[Int.pow_succ,Int.pow_succ]
     have key:∀w:Int,(3:Int)^y.2≤w* 2^y.2→3* w≤2* s.sum→(3:Int)^y.2* 3≤s.sum* (2^y.2* 2):=fun w h1 h2=>by
      have a1:(3:Int)^y.2* 3≤(w* 2^y.2)* 3:=Int.mul_le_mul_of_nonneg_right h1 (by omega)
      have a2:(3* w)* 2^y.2≤(2* s.sum)* 2^y.2:=Int.mul_le_mul_of_nonneg_right h2 (by omega)
      have a3:(w* 2^y.2)* 3=(3* w)* 2^y.2:=by rw[Int.mul_comm 3 w,Int.mul_assoc,Int.mul_assoc,Int.mul_comm _ 3]
      have a4:s.sum* (2^y.2* 2)=(2* s.sum)* 2^y.2:=by rw[Int.mul_comm 2 s.sum,Int.mul_assoc,Int.mul_comm 2 (2^y.2)]
      omega
     rcases SH.1 hy with h|h
     · have:=v1.IZ hb ta (by simp) y h
       rw[ea]at this
       exact key _ this (by omega)
     · have:=v1.IZ hb tb (by simp) y h
       rw[eb]at this
       exact key _ this (by omega)
   · rw[e];exact v1.IZ hb t (by simp [q]) x hx
theorem yG.step {bal:Bool} {n:Nat} {tot:Int} {s:FS} {T:List Tr} (v:yG bal n tot s T) (h2:2≤T.length) (ht:tot<1000000000000000):s.ok∧∃T',T'.length+1=T.length∧yG bal n tot s.E4 T':=by
 obtain⟨ta,tb,T2,p,ea,eb,l1,l2,wab,wbt⟩:=v.two h2
 have lT:=p.length_eq
 obtain⟨a,b⟩:=v.K5 p ea eb l1 l2 wab wbt ht
 exact⟨a,_,by rw[lT];simp,b⟩
def T0 (n:Nat):List Tr:=(List.range n).map fun i=>(i,[(i,0)])
theorem Dz:∀(ws:List Int),((List.range ws.length).map fun i=>ws.getD i 0).sum=ws.sum:=by
 intro ws
 have:(List.range ws.length).map (fun i=>ws.getD i 0)=ws:=by
  apply List.ext_getElem?
  intro i
  rw[uV]
  by_cases h:i<ws.length
  · rw[SG h,Sd h];simp [Sb,h]
  · rw[Sq (by simp;omega),Sq (by omega)];rfl
 rw[this]
theorem zV {α:Type} {n i:Nat} {x d:α} (h:i<n):(List.replicate n x).getD i d=x:=by
 rw[Sb,SE,if_pos h];rfl
theorem yG.init (ws : List Int) (bal : Bool) (pos : ∀ y ∈ ws, 1 ≤ y) (hb : bal = true → ∀ y ∈ ws, y = 1) : yG bal ws.length ws.sum (Cj ws) (T0 ws.length) := by
 have mem:∀t∈T0 ws.length,∃i,i<ws.length∧t=(i,[(i,0)]):=fun t ht=>by
  obtain⟨i,hi,rfl⟩:=Sm.1 ht
  exact⟨i,SU.1 hi,rfl⟩
 have gw:∀i,i<ws.length→ws.getD i 0∈ws:=fun i hi=>by
  rw[Sb,Sd hi];exact Su hi
 constructor
 · simp [Cj]
 · simp [Cj]
 · intro t ht
   obtain⟨i,hi,rfl⟩:=mem t ht
   exact⟨zV hi,by show(List.replicate ws.length (-1:Int))[i]?=_;rw[SE,if_pos hi]⟩
 · intro i hi
   have:i<ws.length:=by
    apply Sx
    intro c
    have e:(Cj ws).F.getD i false=false:=by
     show(List.replicate ws.length true).getD i false=false
     rw[Sb,Sq (by simp;omega)];rfl
    rw[e]at hi;cases hi
   exact⟨(i,[(i,0)]),Sm.2 ⟨i,SU.2 this,rfl⟩,rfl⟩
 · unfold T0
   rw[SX]
   have:((fun t:Tr=>t.1)∘fun i=>((i,[(i,0)]):Tr))=id:=rfl
   rw[this,List.map_id];exact List.nodup_range
 · intro t ht q hq
   obtain⟨i,hi,rfl⟩:=mem t ht
   simp at hq
   subst hq
   exact rfl
 · have:(T0 ws.length).flatMap (fun t=>t.2.map (·.1))=List.range ws.length:=by
    unfold T0
    rw[List.flatMap_map]
    have:∀l:List Nat,(l.flatMap fun i=>([(i,0)]:List (Nat×Nat)).map (·.1))=l:=by
     intro l
     induction l with
     |nil=>rfl
     |cons x l ih=>rw[Sj,ih];rfl
    exact this _
   rw[this]
 · intro t ht D _
   obtain⟨i,hi,rfl⟩:=mem t ht
   simp [kr]
 · intro t ht
   obtain⟨i,hi,rfl⟩:=mem t ht
   simp
 · intro t ht
   obtain⟨i,hi,rfl⟩:=mem t ht
   exact pos _ (gw i hi)
 · intro j hj
   have:j<ws.length:=by simpa [Cj]using hj
   exact .inl (zV this)
 · unfold T0
   rw[SX]
   exact Dz ws
 · intro h t ht u hu
   obtain⟨i,hi,rfl⟩:=mem t ht
   obtain⟨j,hj,rfl⟩:=mem u hu
   have a:=hb h _ (gw i hi)
   have b:=hb h _ (gw j hj)
   show ws.getD i 0≤2* ws.getD j 0
   omega
 · intro h t ht q hq
   obtain⟨i,hi,rfl⟩:=mem t ht
   simp at hq
   subst hq
   have a:=hb h _ (gw i hi)
   show(3:Int)^0≤ws.getD i 0* 2^0
   rw[a];simp
theorem yG.run {bal:Bool} {n:Nat} {tot:Int} (ht:tot<1000000000000000):∀(m:Nat) (s:FS) (T:List Tr),yG bal n tot s T→T.length=m+1→(∀k,k<m→(FS.yu k s).ok)∧∃t,yG bal n tot (FS.yu m s) [t]
 | 0, s, T, v, h => by
   refine⟨fun k hk=>by omega, ?_⟩
   match T,h with
   |[t],_=>exact⟨t,v⟩
 | m + 1, s, T, v, h => by
   obtain⟨ok,T',hl,v'⟩:=v.step (by omega) ht
   obtain⟨h1,t,h2⟩:=yG.run ht m s.E4 T' v' (by omega)
   refine⟨fun k hk=> ?_,t,h2⟩
   cases k with
   |zero=>exact ok
   |succ k=>exact h1 k (by omega)
theorem OJ (ws:List Int) (bal:Bool) (h1:1≤ws.length) (pos:∀y∈ws,1≤y) (hs:ws.sum<1000000000000000) (hb:bal=true→∀y∈ws,y=1):
 (∀k,k<ws.length-1→(FS.yu k (Cj ws)).ok)∧HU (FS.yu (ws.length-1) (Cj ws)).U∧(FS.yu (ws.length-1) (Cj ws)).U.length=(FS.yu (ws.length-1) (Cj ws)).W.length∧
 (∀D:Nat,(∀d∈vw ws,d≤(D:Int))→((vw ws).map fun d=>2^(D-d.toNat)).sum=2^D)∧
 (bal=true→∀d∈vw ws,(3:Int)^d.toNat≤ws.sum* 2^d.toNat)∧(2≤ws.length→∀d∈vw ws,1≤d):=by
 obtain⟨ok,t,v⟩:=yG.run hs (ws.length-1) (Cj ws) (T0 ws.length) (yG.init ws bal pos hb) (by simp [T0];omega)
 obtain⟨S,hS⟩:∃S,S=FS.yu (ws.length-1) (Cj ws):=⟨_,rfl⟩
 have eD:vw ws=EW S.U ws.length:=by rw[hS];rfl
 rw[←hS]at v ⊢
 have up:=v.up
 have rt:=(v.root t (by simp)).2
 have rtD:S.U.getD t.1 (-1)= -1:=by rw[Sb,rt];rfl
 have rl:=(uI.1 rt).1
 have lv:=v.leaves
 simp only[Sj,List.flatMap_nil,Sw]at lv
 have dep:∀q∈t.2,BS S.U S.U.length (S.U.getD q.1 (-1))=q.2:=fun q hq=>by
  have:=v.pt t (by simp) q hq
  have l:=Fj up this
  exact Fk up this rtD _ (by omega)
 have pm:(vw ws).Perm (t.2.map fun q=>((q.2:Nat):Int)):=by
  rw[eD]
  unfold EW
  have:=lv.symm.map (fun i=>((BS S.U S.U.length (S.U.getD i (-1)):Nat):Int))
  refine this.trans ?_
  rw[SX]
  have e:t.2.map ((fun i=>((BS S.U S.U.length (S.U.getD i (-1)):Nat):Int))∘fun x=>x.1)=t.2.map fun q=>((q.2:Nat):Int):=SD fun q hq=>by
   show((BS S.U S.U.length (S.U.getD q.1 (-1)):Nat):Int)=_
   rw[dep q hq]
  rw[e]
 have mem:∀d∈vw ws,∃q∈t.2,d=((q.2:Nat):Int):=fun d hd=>by
  obtain⟨q,hq,rfl⟩:=Sm.1 (pm.mem_iff.1 hd)
  exact⟨q,hq,rfl⟩
 refine⟨ok,up,v.lu,fun D hD=> ?_,fun hbt d hd=> ?_,fun h2 d hd=> ?_⟩
 · have:=Et (pm.map fun d=>2^(D-d.toNat))
   rw[this,SX]
   have kk:=v.C6 t (by simp) D fun q hq=>by
    have:=hD ((q.2:Nat):Int) (pm.mem_iff.2 (Sm.2 ⟨q,hq,rfl⟩))
    omega
   rw[←kk]
   unfold kr
   congr 1
 · obtain⟨q,hq,rfl⟩:=mem d hd
   have:=v.IZ hbt t (by simp) q hq
   have sm:=v.sum
   rw[Sl,SY,SF,List.sum_nil,Int.add_zero]at sm
   rw[←sm]
   exact this
 · obtain⟨q,hq,rfl⟩:=mem d hd
   have pq:=v.pt t (by simp) q hq
   apply Sx
   intro c
   have z:q.2=0:=by omega
   rw[z]at pq
   have e:q.1=t.1:=pq
   have ql:q.1<ws.length:=SU.1 (lv.mem_iff.1 (Sm.2 ⟨q,hq,rfl⟩))
   have rr:S.W.length=ws.length+(ws.length-1):=by rw[hS,FS.Bb];rfl
   have kk:∀D,(∀p∈t.2,p.2≤D)→kr D t.2=2^D:=v.C6 t (by simp)
   obtain⟨D,hDD⟩:∃D,∀p∈t.2,p.2≤D:=⟨t.1,fun p hp=>by have:=Fj up (v.pt t (by simp) p hp);omega⟩
   have k:=kk D hDD
   have l2:t.2.length=ws.length:=by
    have:=lv.length_eq
    simpa using this
   have pe:=List.perm_cons_erase hq
   have:kr D t.2=kr D (q::t.2.erase q):=Et (pe.map _)
   rw[this]at k
   have:kr D (q::t.2.erase q)=2^(D-q.2)+kr D (t.2.erase q):=by simp [kr]
   rw[this,z,Nat.sub_zero]at k
   have le:=pe.length_eq
   rw[Sc]at le
   cases hE:t.2.erase q with
   |nil=>rw[hE]at le;simp at le;omega
   | cons y r =>
     rw[hE]at k
     have:kr D (y::r)=2^(D-y.2)+kr D r:=by simp [kr]
     have:=Nat.pow_pos (n:=D-y.2) (show 0<2 by omega)
     omega
def wV (l:List Int) (i:Nat):List Int:=l.set i (l.getD i 0+1)
theorem xm (l:List Int) (i:Nat):(wV l i).length=l.length:=by simp [wV]
theorem yQ {l:List Int} {i:Nat} {n:Int} (h:∀y∈l,0≤y∧y≤n) (hn:0≤n):∀y∈wV l i,0≤y∧y≤n+1:=by
 intro y hy
 rcases SK hy with q|q
 · have:=h y q;omega
 · subst q
   rw[Sb]
   cases e:l[i]? with
   |none=>simp;omega
   |some z=>have:=h z (uQ e);simp;omega
def yc (t:Tok):Prop:=(t.len=0∧0≤t.lit∧t.lit≤255)∨(3≤t.len∧t.len≤258∧1≤t.vU∧t.vU≤32768)
def zu:List Tok→List Int→List Int
 |[],A=>A
 |t::r,A=>zu r (if t.len=0 then wV A t.lit.toNat else wV A (xn t.len.toNat))
def z4:List Tok→List Int→List Int
 |[],B=>B
 |t::r,B=>z4 r (if t.len=0 then B else wV B (xN t.vU.toNat))
structure Lj (h h':H) (a b:Nat):Prop where
 floor:h'.floor=h.floor
 next:h.next≤h'.next
 vY:∀i,i<h.next→i≠a→i≠b→h'.get i=h.get i
theorem Lj.refl (h:H) (a b:Nat):Lj h h a b:=⟨rfl,uM _,fun _ _ _ _=>rfl⟩
theorem Lj.trans {x y z:H} {a b:Nat} (p:Lj x y a b) (q:Lj y z a b):Lj x z a b:=⟨q.floor.trans p.floor,u7 p.next q.next,fun i h1 h2 h3=>(q.vY i (Nat.lt_of_lt_of_le h1 p.next) h2 h3).trans (p.vY i h1 h2 h3)⟩
theorem AZ {l:List Int} {i:Nat} (h:i<l.length):(ints l)[i]?=some (.int .i64 (l.getD i 0)):=sG (by rw[Sb,Sd h];rfl)
theorem CE:∀(ts:List Tok) (A:List Int),(zu ts A).length=A.length
 |[],A=>rfl
 |t::r,A=>by rw[zu,CE r];split<;>rw[xm]
theorem CG:∀(ts:List Tok) (A:List Int),(z4 ts A).length=A.length
 |[],A=>rfl
 | t :: r, A => by
   rw[z4,CG r]
   split
   · rfl
   · rw[xm]
theorem CF:∀(ts:List Tok) (A:List Int) (n:Int),0≤n→(∀y∈A,0≤y∧y≤n)→∀y∈zu ts A,0≤y∧y≤n+ts.length
 |[],A,n,hn,h=>by simpa [zu]using h
 | t :: r, A, n, hn, h => by
   intro y hy
   rw[zu]at hy
   have:=CF r _ (n+1) (by omega) (by split<;>exact yQ h hn) y hy
   simp only[Sc];omega
theorem CH:∀(ts:List Tok) (A:List Int) (n:Int),0≤n→(∀y∈A,0≤y∧y≤n)→∀y∈z4 ts A,0≤y∧y≤n+ts.length
 |[],A,n,hn,h=>by simpa [z4]using h
 | t :: r, A, n, hn, h => by
   intro y hy
   rw[z4]at hy
   have:=CH r _ (n+1) (by omega) (by
    split
    · intro z hz;have:=h z hz;omega
    · exact yQ h hn) y hy
   simp only[Sc];omega
def xj:List Int→List Int→List Int
 |[],C=>C
 |d::r,C=>xj r (wV C d.toNat)
theorem AQ:∀(ds C:List Int),(xj ds C).length=C.length
 |[],C=>rfl
 |d::r,C=>by rw[xj,AQ r,xm]
theorem AR:∀(ds A:List Int) (n:Int),0≤n→(∀y∈A,0≤y∧y≤n)→∀y∈xj ds A,0≤y∧y≤n+ds.length
 |[],A,n,hn,h=>by simpa [xj]using h
 | t :: r, A, n, hn, h => by
   intro y hy
   rw[xj]at hy
   have:=AR r _ (n+1) (by omega) (yQ h hn) y hy
   simp only[Sc];omega
def zo (R:List Int):List Nat:=R.flatMap fun y=>vz y.toNat 3
theorem Bh:∀R:List Int,(zo R).length=3* R.length
 |[]=>rfl
 | y :: R => by
   have:=Bh R
   unfold zo at *
   rw[Sj,vb,this];simp [vz,vH];omega
def yH (E:List (Int×Int)) (D:List Int):List Nat:=D.flatMap fun y=>vn E y.toNat
theorem Fz {E:List (Int×Int)}:∀{D:List Int},(∀y∈D,AH E y.toNat)→(yH E D).length≤15* D.length
 |[],_=>by simp [yH]
 | y :: D, h => by
   have:=Fz (E:=E) (D:=D) fun z hz=>h z (by simp [hz])
   obtain⟨n,v,_,q1,q2,q3,q4⟩:=(h y (by simp)).bits
   unfold yH at *
   rw[Sj,vb,q4,wg,Sc];omega
theorem wL (l:List Int) (k:Nat):∀n,k≤vO l k n∧vO l k n≤max k n
 |0=>⟨uM _,by rw[vO];omega⟩
 | n + 1 => by
   rw[vO]
   have:=wL l k n
   split
   · omega
   · split
     · omega
     · omega
theorem BE:∀(K:Nat) (S W O:List Int),(yE S K W O).length=O.length
 |0,S,W,O=>by rw[yE,wG]
 |K+1,S,W,O=>by rw[yE,BE K,wG]
theorem yR (C:List Int) (K:Nat):(we C K).length=C.length:=by unfold we;rw[BE];simp
theorem Iz (h:H) (l:List Int) {k:Nat} (hk:k≤l.length):Rd h (.aU false (ints l) 0 k 1) (ints (l.take k)):=by
 refine⟨?_,by intro s e;cases e⟩
 have:(ints (l.take k)).length=k:=by rw[pF,SM];omega
 rw[this]
 simp [aR,ints,hk,List.map_take]
def dA (ts:List Tok):List Int:=zu ts ((List.replicate 286 0).set 256 1)
def dB (ts:List Tok):List Int:=z4 ts (List.replicate 30 0)
def yA (l:List Int) (k:Nat):List Int:=l.take (vO l k l.length)
theorem AW (l:List Int) {k:Nat} (h:k≤l.length):(yA l k).length=vO l k l.length:=by
 have:=wL l k l.length
 unfold yA;rw[SM];omega
def vZ (ts:List Tok) (la lb Lc:List Int):List Nat:=
 let all:=la++lb
 let row:=vC.map (fun o=>Lc.getD o.toNat 0)
 let k:=vO row 4 19
 vz 5 3++(vz (la.length-257) 5++(vz (lb.length-1) 5++(vz (k-4) 4++(zo (row.take k)++(yH (vh Lc) all++(vV (vh la) (vh lb) ts++vn (vh la) 256))))))
structure BV (ts:List Tok) (KA KB KC:Nat) (la lb Lc:List Int):Prop where
 Ib:DP ts=true
 n:ts.length≤300
 tok:∀t∈ts,yc t
 ra:wU 15 KA (wN (dA ts))
 rb:wU 15 KB (wN (dB ts))
 ea:la=yA (we (dA ts) KA) 257
 eb:lb=yA (we (dB ts) KB) 1
 all:∀y∈la++lb,0≤y∧y<19
 rc:wU 7 KC (wN (xj (la++lb) (List.replicate 19 0)))
 ec:Lc=we (xj (la++lb) (List.replicate 19 0)) KC
 row:∀y∈Lc,0≤y∧y<8
 ca:vF la=0∨vF la=302
 cb:vF lb=0∨vF lb=302
 cc:vF Lc=0∨vF Lc=302
 zI:∀y∈la++lb,AH (vh Lc) y.toNat
 Lq:∀t∈ts,Hd (vh la) (vh lb) t
 En:AH (vh la) 256
theorem za (l:List Int):(vh l).length=l.length:=by simp [vh]
theorem zN (h:H) (l:List Int):yI 2 h (zy l) (vh l).length ((vh l).flatMap wO):=by
 have:=HM (n:=2) (k:=l.length) (h:=h) (cs:=(vh l).flatMap wO) (by rw[Bw yT,za])
 rw[za];exact this
theorem Ay (h:H) (l:List Int):Rd h (zr 1 l.length (ints l)) (ints l):=by
 have:=HM (n:=1) (k:=l.length) (h:=h) (cs:=ints l) (by rw[pF];omega)
 exact⟨by have:=this.1;rw[pF];exact this,this.2.2⟩
theorem Db {C:List Int} (h:2≤C.length):(wD C).length≤C.length:=GJ h (wI 0 C)
theorem Ms (c:Int):∀k:Nat,c* 2^k<3^k→0≤c→∀m:Nat,c* 2^(k+m)<3^(k+m)
 |k,h,hc,0=>h
 | k, h, hc, m + 1 => by
   have ih:=Ms c k h hc m
   rw[←uL,Int.pow_succ,Int.pow_succ,←Int.mul_assoc]
   have p:(0:Int)≤c* 2^(k+m):=Int.mul_nonneg hc (Int.pow_nonneg (by omega))
   omega
theorem Ba:∀(ds:List Int) (a m:Int),(∀d∈ds,d≤m)→a≤m→Ar ds a≤m
 |[],a,m,_,h=>h
 | d :: ds, a, m, hd, h => by
   rw[Ar]
   refine Ba ds _ m (fun x hx=>hd x (by simp [hx])) ?_
   have:=hd d (by simp)
   unfold De;split<;>omega
theorem Ct:∀(ds:List Int) (a:Int),a≤Ar ds a∧∀d∈ds,d≤Ar ds a
 |[],a=>⟨SO _,by simp⟩
 | d :: ds, a => by
   have⟨h1,h2⟩:=Ct ds (De a d)
   have:a≤De a d∧d≤De a d:=by unfold De;split<;>omega
   rw[Ar]
   refine⟨by omega,fun x hx=> ?_⟩
   rcases u6.1 hx with q|q
   · subst q;omega
   · exact h2 x q
theorem Gv:∀ws:List Int,(∀y∈ws,y=1)→ws.sum=ws.length
 |[],_=>rfl
 | y :: ws, h => by
   have:=Gv ws fun z hz=>h z (by simp [hz])
   have:=h y (by simp)
   rw[SF,Sc];omega
theorem Fg:∀ws:List Int,(∀y∈ws,1≤y)→(ws.length:Int)≤ws.sum
 |[],_=>by simp
 | y :: ws, h => by
   have:=Fg ws fun z hz=>h z (by simp [hz])
   have:=h y (by simp)
   rw[SF,Sc];omega
theorem BA:∀ws:List Int,(∀y∈ws,1≤y)→(wu ws).sum≤ws.sum∧((∃y∈ws,y≠1)→(wu ws).sum<ws.sum)
 |[],_=>⟨SO _,by simp⟩
 | y :: ws, h => by
   obtain⟨h1,h2⟩:=BA ws fun z hz=>h z (by simp [hz])
   have hy:=h y (by simp)
   have e:(wu (y::ws)).sum=yD y+(wu ws).sum:=by simp [wu]
   rw[e,SF]
   have a:yD y≤y:=by unfold yD;omega
   refine⟨by omega,fun ⟨z,hz,hz1⟩=> ?_⟩
   rcases u6.1 hz with q|q
   · subst q
     have:yD z<z:=by unfold yD;omega
     omega
   · have:=h2 ⟨z,q,hz1⟩;omega
theorem D8 {ws:List Int} (h:∀y∈ws,1≤y):∀y∈wu ws,1≤y:=by
 intro y hy
 obtain⟨z,hz,rfl⟩:=Sm.1 hy
 have:=h z hz
 unfold yD;omega
theorem Dg {ws:List Int} (h1:1≤ws.length) (ho:∀y∈ws,y=1) {c:Int} {k:Nat} (hc:(ws.length:Int)≤c) (hk:c* 2^(k+1)<3^(k+1)) (hs:ws.length≤288):∀d∈vw ws,d≤k:=by
 intro d hd
 have sm:=Gv ws ho
 obtain⟨_,_,_,_,hb,_⟩:=OJ ws true h1 (fun y hy=>by have:=ho y hy;omega) (by omega) (fun _=>ho)
 have b:=hb rfl d hd
 apply Sx
 intro q
 obtain⟨m,hm⟩:∃m:Nat,d.toNat=k+1+m:=⟨d.toNat-(k+1),by omega⟩
 rw[hm]at b
 have:=Ms c (k+1) hk (by omega) m
 have p:(0:Int)<2^(k+1+m):=Int.pow_pos (by omega)
 have:ws.sum* 2^(k+1+m)≤c* 2^(k+1+m):=Int.mul_le_mul_of_nonneg_right (by omega) (by omega)
 omega
theorem Gu {ws:List Int} (hl:ws.length≤288) (pos:∀y∈ws,1≤y) (hs:ws.sum<1000000000000000):Iq ws:=by
 by_cases e:ws=[]
 · exact .inl e
 · have h1:1≤ws.length:=List.length_pos_iff.2 e
   obtain⟨a,b,c,_⟩:=OJ ws false h1 pos hs (fun h=>by cases h)
   exact .inr ⟨h1,hl,a,b,c⟩
theorem Jy {most : Int} (hm : 0 ≤ most) : ∀ (f : Nat) (ws : List Int), ws.sum ≤ f → (∀ y ∈ ws, 1 ≤ y) → ws.sum < 1000000000000000 → ((13 ≤ most ∧ ws.length ≤ 288) ∨ (7 ≤ most ∧ ws.length ≤ 19)) → ∃ K, wU most K ws := by
 intro f
 induction f with
 | zero =>
   intro ws hf pos hs hl
   have:=Fg ws pos
   have:ws=[]:=List.length_eq_zero_iff.1 (by omega)
   subst this
   exact⟨0,.last (.inl rfl) hm⟩
 | succ f ih =>
   intro ws hf pos hs hl
   have o:=Gu (by omega) pos hs
   by_cases c:Ar (vw ws) 0≤most
   · exact⟨0,.last o c⟩
   · have hne:ws≠[]:=fun e=>by subst e;exact c hm
     have h1:1≤ws.length:=List.length_pos_iff.2 hne
     have ho:∃y∈ws,y≠1:=by
      apply Sx
      intro q
      have all1:∀y∈ws,y=1:=fun y hy=>Sx fun r=>q ⟨y,hy,r⟩
      rcases hl with ⟨a,b⟩|⟨a,b⟩
      · have:=Dg (c:=288) (k:=13) h1 all1 (by omega) (by decide) (by omega)
        exact c (Ba _ _ _ (fun d hd=>by have:=this d hd;omega) hm)
      · have:=Dg (c:=19) (k:=7) h1 all1 (by omega) (by decide) (by omega)
        exact c (Ba _ _ _ (fun d hd=>by have:=this d hd;omega) hm)
     have hh:=(BA ws pos).2 ho
     obtain⟨K,r⟩:=ih (wu ws) (by omega) (D8 pos) (by omega) (by rw[zR];exact hl)
     exact⟨K+1,.more o (by omega) hne r⟩
theorem wP:∀(S D O:List Int) (p:Nat),(∀s∈S,s.toNat≠p)→(vT S D O)[p]?=O[p]?
 |[],D,O,p,h=>by simp [vT]
 |s::S,[],O,p,h=>by simp [vT]
 | s :: S, d :: D, O, p, h => by
   rw[vT,wP S D _ p fun t ht=>h t (by simp [ht]),Sr,if_neg (h s (by simp))]
theorem xQ:∀(S D O:List Int) (j:Nat) (s d:Int),(S.map Int.toNat).Nodup→S[j]?=some s→D[j]?=some d→s.toNat<O.length→(vT S D O)[s.toNat]?=some d
 |[],D,O,j,s,d,nd,h1,h2,h3=>by simp at h1
 |t::S,[],O,j,s,d,nd,h1,h2,h3=>by simp at h2
 | t :: S, e :: D, O, 0, s, d, nd, h1, h2, h3 => by
   simp at h1 h2
   subst h1;subst h2
   rw[Sl,SW]at nd
   rw[vT,wP S D _ _ fun u hu q=>nd.1 (Sm.2 ⟨u,hu,q⟩),Sr,if_pos rfl,if_pos h3]
 | t :: S, e :: D, O, j + 1, s, d, nd, h1, h2, h3 => by
   rw[Sl,SW]at nd
   rw[vT]
   exact xQ S D _ j s d nd.2 (by simpa using h1) (by simpa using h2) (by rw[Sz];exact h3)
theorem xX {S D O:List Int} {n:Nat} (hl:D.length=S.length) (nd:(S.map Int.toNat).Nodup) (hO:O.length=n) (hr:∀s∈S,s.toNat<n) (hz:∀p,p<n→(∀s∈S,s.toNat≠p)→O[p]?=some 0):vT S D O=vT S D (List.replicate n 0):=by
 apply List.ext_getElem?
 intro p
 by_cases hp:p<n
 · by_cases c:∃s∈S,s.toNat=p
   · obtain⟨s,hs,rfl⟩:=c
     obtain⟨j,hj,ej⟩:=SN.1 hs
     have h1:S[j]?=some s:=by rw[Sd hj,ej]
     have h2:D[j]?=some (D[j]'(by omega)):=Sd (by omega)
     rw[xQ S D O j s _ nd h1 h2 (by omega),xQ S D _ j s _ nd h1 h2 (by simpa using hp)]
   · have c':∀s∈S,s.toNat≠p:=fun s hs q=>c ⟨s,hs,q⟩
     rw[wP _ _ _ _ c',wP _ _ _ _ c',hz p hp c',SE,if_pos hp]
 · rw[Sq (by rw[wG];omega),Sq (by rw[wG];simp;omega)]
theorem Da {most:Int} {S:List Int} {n:Nat} (nd:(S.map Int.toNat).Nodup) (hr:∀s∈S,s.toNat<n):∀(K:Nat) (W O:List Int),wU most K W→W.length=S.length→(∀y∈W,1≤y)→W.sum<1000000000000000→O.length=n→(∀p,p<n→(∀s∈S,s.toNat≠p)→O[p]?=some 0)→
 ∃W',W'.length=S.length∧(∀y∈W',1≤y)∧W'.sum<1000000000000000∧Ar (vw W') 0≤most∧yE S K W O=vT S (vw W') (List.replicate n 0)
 | 0, W, O, r, hl, pos, hs, hO, hz => by
   cases r with
   |last o c=>exact⟨W,hl,pos,hs,c,xX (by rw[wC,hl]) nd hO hr hz⟩
 | K + 1, W, O, r, hl, pos, hs, hO, hz => by
   cases r with
   | more o c hne r =>
     have:=(BA W pos).1
     exact Da nd hr K (wu W) _ r (by rw[zR,hl]) (D8 pos) (by omega) (by rw[wG,hO]) (fun p hp hq=>by rw[wP _ _ _ _ hq];exact hz p hp hq)
theorem IG (f:Int→Nat):∀(O:List Int) (i:Nat) (d:Int),i<O.length→((O.set i d).map f).sum+f (O.getD i 0)=(O.map f).sum+f d
 |[],i,d,h=>by simp at h
 |x::O,0,d,h=>by simp;omega
 | x :: O, i + 1, d, h => by
   have:=IG f O i d (by simpa using h)
   simp only[List.set_cons_succ,Sl,SF,List.getD_cons_succ];omega
theorem Du (f:Int→Nat):∀(S D O:List Int),D.length=S.length→(S.map Int.toNat).Nodup→(∀s∈S,s.toNat<O.length)→((vT S D O).map f).sum+(S.map fun s=>f (O.getD s.toNat 0)).sum=(O.map f).sum+(D.map f).sum
 | [], D, O, hl, nd, hr => by
   have:D=[]:=List.length_eq_zero_iff.1 (by simpa using hl)
   subst this
   simp [vT]
 |s::S,[],O,hl,nd,hr=>by simp at hl
 | s :: S, d :: D, O, hl, nd, hr => by
   rw[Sl,SW]at nd
   have ih:=Du f S D (O.set s.toNat d) (by simpa using hl) nd.2 (fun t ht=>by rw[Sz];exact hr t (by simp [ht]))
   have e:(S.map fun t=>f ((O.set s.toNat d).getD t.toNat 0))=S.map fun t=>f (O.getD t.toNat 0):=SD fun t ht=>by
    rw[getD_set_ne (fun q=>nd.1 (Sm.2 ⟨t,ht,q.symm⟩))]
   rw[e]at ih
   have ss:=IG f O s.toNat d (hr s (by simp))
   simp only[vT,Sl,SF]
   omega
def f15 (n:Nat) (x:Int):Nat:=if 1≤x∧x≤n then 2^(n-x.toNat)else 0
theorem Ei:∀n,vE [] n=2^n
 |0=>rfl
 | n + 1 => by
   have c:wR [] (n+1)=0:=LH _
   rw[vE,Ei n,c,Int.pow_succ];omega
theorem Eg (n:Nat):∀(q p:List Int),vE (p++q) n=vE p n-((q.map (f15 n)).sum:Nat)
 |[],p=>by simp
 | x :: q, p => by
   have e:p++x::q=(p++[x])++q:=by simp
   rw[e,Eg n q (p++[x]),C8,Sl,SF]
   unfold f15
   split
   · push_cast;omega
   · push_cast;omega
theorem zT (l:List Int) (n:Nat):vE l n=2^n-((l.map (f15 n)).sum:Nat):=by
 have:=Eg n l []
 rwa [List.nil_append,Ei]at this
theorem Eh (l:List Int):∀n,vt l n+wR l n+vE l n=2^n
 |0=>by simp [vt,vE,wR]
 | n + 1 => by
   have:=Eh l n
   rw[vt,vE,Int.pow_succ];omega
theorem Hx {l:List Int} {n:Nat} (h:0≤vE l n):∀m,m≤n→0≤vE l m:=by
 have:∀k m,m+k=n→0≤vE l m:=by
  intro k
  induction k with
  | zero =>
    intro m hm
    have:m=n:=by omega
    subst this;exact h
  | succ k ih =>
    intro m hm
    have:=ih (m+1) (by omega)
    rw[vE]at this
    omega
 exact fun m hm=>this (n-m) m (by omega)
theorem FX {l:List Int} {s:Nat} (hs:s<l.length) {n:Nat} (hn:1≤n) (e:l.getD s 0=(n:Int)):wR (l.take s) n<wR l n:=by
 have a:=DN hs n hn
 rw[if_pos e]at a
 have:∀(p q:List Int),wR p n≤wR (p++q) n:=fun p q=>by
  unfold wR;split
  · exact uM _
  · rw[List.countP_append];omega
 have b:=this (l.take (s+1)) (l.drop (s+1))
 rw[List.take_append_drop]at b
 omega
theorem Fa {l:List Int} (hl:0≤vE l 15) (hr:∀y∈l,0≤y∧y<16) {s:Nat} (hs:s<l.length) (h1:1≤l.getD s 0):AH (vh l) s:=by
 have hm:l.getD s 0∈l:=by rw[Sb,Sd hs];exact Su hs
 have r:=hr _ hm
 obtain⟨n,hn⟩:=Sk r.1
 have n1:1≤n:=by omega
 have lt:=FX hs n1 hn
 have f:=Eh l n
 have m:=Hx hl n (by omega)
 have fb:=(show 0≤vt l n from by
  have:∀n,0≤vt l n:=by
   intro n
   induction n with
   |zero=>simp [vt]
   |succ n ih=>rw[vt];omega
  exact this n)
 have tn:((n:Nat):Int).toNat=n:=by omega
 refine⟨n,(vt l n+wR (l.take s) n).toNat, ?_,n1,by omega, ?_⟩
 · unfold vh
   rw[uV,SG hs,Sg]
   unfold yM
   rw[if_pos h1,hn,tn]
   congr 2
   omega
 · have e2:((2^n:Nat):Int)=(2:Int)^n:=by push_cast;rfl
   omega
theorem BR:∀(C:List Int) (i:Nat),((vp i C).map Int.toNat).Nodup
 |[],i=>by simp [vp]
 | c :: r, i => by
   have ih:=BR r (i+1)
   rw[vp]
   split
   · rw[Sl,SW]
     refine⟨fun h=> ?_,ih⟩
     obtain⟨s,hs,e⟩:=Sm.1 h
     have:=wY (i+1) r s hs
     omega
   · exact ih
theorem AF:∀(C:List Int) (i p:Nat),0<C.getD p 0→((i+p:Nat):Int)∈vp i C
 |[],i,p,h=>by simp at h
 | c :: r, i, 0, h => by
   rw[vp,if_pos (by simpa using h)]
   simp
 | c :: r, i, p + 1, h => by
   have ih:=AF r (i+1) p (by simpa using h)
   have e:i+1+p=i+(p+1):=by omega
   rw[e]at ih
   rw[vp]
   split
   · exact SP _ ih
   · exact ih
theorem DB:∀(C:List Int) (i:Nat),(∀y∈C,¬0<y)→vp i C=[]
 |[],i,h=>rfl
 | c :: r, i, h => by
   rw[vp,if_neg (h c (by simp))]
   exact DB r (i+1) fun y hy=>h y (by simp [hy])
theorem GK {S:List Int} {s:Int} (h:s∈S):s∈Bf S:=by
 unfold Bf
 split
 · rename_i h1
   match S,h1 with
   | [t], _ =>
     simp at h;subst h
     split<;>simp
 · exact h
theorem L6 {S : List Int} (h : (S.map Int.toNat).Nodup) (hp : ∀ s ∈ S, 0 ≤ s) : ((Bf S).map Int.toNat).Nodup := by
 unfold Bf
 split
 · rename_i h1
   match S,h1 with
   | [t], _ =>
     have:=hp t (by simp)
     split
     · rename_i c
       simp at c ⊢
       omega
     · rename_i c
       simp at c ⊢
       omega
 · exact h
theorem KD {S:List Int} (h:S≠[]):2≤(Bf S).length:=by
 unfold Bf
 split
 · rename_i h1
   split
   · simp
   · simp [h1]
 · rename_i h1
   have:=List.length_pos_iff.2 h
   omega
theorem KE {S W:List Int} (hl:W.length=S.length) (h:∀y∈W,1≤y):∀y∈HI S W,1≤y:=by
 intro s hs
 unfold HI at hs
 split at hs
 · rename_i h1
   rw[←hl]at h1
   match W,h1 with
   | [t], _ =>
     have:=h t (by simp)
     split at hs
     · simp at hs;omega
     · simp at hs;omega
 · exact h s hs
theorem G0 {α:Type}:∀l:List α,(l.map fun _=>(0:Nat)).sum=0
 |[]=>rfl
 |x::l=>by rw[Sl,SF,G0 l]
theorem Jj {C:List Int} (h:∀y∈C,¬0<y):wD C=[]:=by
 unfold wD;rw[DB C 0 h];rfl
theorem AB:∀(l:List Int) (b:Int),(∀y∈l,y≤b)→l.sum≤b* l.length
 |[],b,_=>by simp
 | y :: l, b, h => by
   have:=AB l b fun z hz=>h z (by simp [hz])
   have hy:=h y (by simp)
   rw[SF,Sc]
   have e:b* ((l.length+1:Nat):Int)=b* l.length+b:=by rw[Int.natCast_add,Int.mul_add];simp
   omega
theorem Gq {C : List Int} (hC : ∀ y ∈ C, 0 ≤ y ∧ y ≤ 2147483647) (h2 : 2 ≤ C.length) (hl : C.length ≤ 288) : (∀ y ∈ wN C, 1 ≤ y) ∧ (wN C).sum < 1000000000000000 := by
 have pos:∀y∈wN C,1≤y:=KE (vP 0 C).symm fun y hy=>by have:=(yl C y hy).2;omega
 refine⟨pos, ?_⟩
 have up:∀y∈wN C,y≤2147483647:=by
  intro y hy
  have w:∀z∈vq C,z≤2147483647:=fun z hz=>(hC z (yl C z hz).1).2
  unfold wN HI at hy
  split at hy
  · rename_i h1
    rw[vP]at h1
    match hW:vq C,h1 with
    | [t], _ =>
      rw[hW]at w hy
      have:=w t (by simp)
      split at hy
      · simp at hy;omega
      · simp at hy;omega
  · exact w y hy
 have:=AB (wN C) 2147483647 up
 have l1:(wN C).length=(wD C).length:=HA C
 have l2:=Db h2
 omega
theorem zF {C:List Int} {most:Int} (hC:∀y∈C,0≤y∧y≤2147483647) (h2:2≤C.length) (hm:0≤most) (hl:(13≤most∧C.length≤288)∨(7≤most∧C.length≤19)):∃K,wU most K (wN C):=by
 obtain⟨a,b⟩:=Gq hC h2 (by omega)
 have l1:(wN C).length=(wD C).length:=HA C
 have l2:=Db h2
 exact Jy hm (wN C).sum.toNat (wN C) (by have:=Fg _ a;omega) a b (by omega)
theorem yi {C : List Int} {most : Int} {K : Nat} (hC : ∀ y ∈ C, 0 ≤ y ∧ y ≤ 2147483647) (h2 : 2 ≤ C.length) (hl : C.length ≤ 288) (hm : 0 ≤ most ∧ most ≤ 15) (r : wU most K (wN C)) :
 (we C K).length=C.length∧(∀y∈we C K,0≤y∧y≤most)∧(∀p,0<C.getD p 0→1≤(we C K).getD p 0)∧((∃y∈C,0<y)→vE (we C K) 15=0)∧((∀y∈C,¬0<y)→we C K=List.replicate C.length 0):=by
 obtain⟨a,b⟩:=Gq hC h2 hl
 have nd:((wD C).map Int.toNat).Nodup:=L6 (BR C 0) fun s hs=>by have:=wY 0 C s hs;omega
 have rg:∀s∈wD C,0≤s∧s<C.length:=Kz h2 fun s hs=>by have:=wY 0 C s hs;omega
 have rg':∀s∈wD C,s.toNat<C.length:=fun s hs=>by have:=rg s hs;omega
 obtain⟨W',w1,w2,w3,w4,w5⟩:=Da nd rg' K (wN C) (List.replicate C.length 0) r (HA C) a b (by simp) (fun p hp _=>by rw[SE,if_pos hp])
 have e:we C K=vT (wD C) (vw W') (List.replicate C.length 0):=w5
 have dl:(vw W').length=(wD C).length:=by rw[wC,w1]
 have dm:∀d∈vw W',d≤most:=fun d hd=>by have:=(Ct (vw W') 0).2 d hd;omega
 have o:=Gu (ws:=W') (by have:=Db h2;omega) w2 w3
 have d0:=F0 o
 have gin:∀(j:Nat) (s d:Int),(wD C)[j]?=some s→(vw W')[j]?=some d→(we C K)[s.toNat]?=some d:=fun j s d h1 h2=>by
  rw[e];exact xQ _ _ _ j s d nd h1 h2 (by simpa using rg' s (uQ h1))
 have gout:∀p:Nat,(∀s∈wD C,s.toNat≠p)→(we C K)[p]?=(List.replicate C.length (0:Int))[p]?:=fun p hp=>by rw[e,wP _ _ _ _ hp]
 have hu:wD C≠[]→2≤(wD C).length:=fun hne=>by
  refine KD fun q=>hne ?_
  unfold wD;rw[q];rfl
 have h1w:wD C≠[]→_:=fun hne=>OJ W' false (by have:=hu hne;omega) w2 w3 (fun h=>by cases h)
 refine⟨yR C K, ?_, ?_, ?_, ?_⟩
 · intro y hy
   obtain⟨p,hp⟩:=uY.1 hy
   by_cases c:∃s∈wD C,s.toNat=p
   · obtain⟨s,hs,rfl⟩:=c
     obtain⟨j,hj⟩:=uY.1 hs
     have jl:=(uI.1 hj).1
     have hd:(vw W')[j]?=some ((vw W')[j]'(by omega)):=Sd (by omega)
     rw[gin j s _ hj hd]at hp
     obtain rfl:=uC hp
     have m:=Su (l:=vw W') (n:=j) (by omega)
     exact⟨(d0 _ m).1,dm _ m⟩
   · rw[gout p fun s hs q=>c ⟨s,hs,q⟩,SE]at hp
     split at hp
     · obtain rfl:=uC hp;omega
     · cases hp
 · intro p hp
   have sm:=AF C 0 p hp
   rw[uR]at sm
   have hs:(p:Int)∈wD C:=GK sm
   obtain⟨j,hj⟩:=uY.1 hs
   have jl:=(uI.1 hj).1
   have hd:(vw W')[j]?=some ((vw W')[j]'(by omega)):=Sd (by omega)
   have g:=gin j _ _ hj hd
   have tp:((p:Nat):Int).toNat=p:=by omega
   rw[tp]at g
   rw[Sb,g]
   have hne:wD C≠[]:=fun q=>by rw[q]at hs;simp at hs
   exact(h1w hne).2.2.2.2.2 (by have:=hu hne;omega) _ (Su _)
 · rintro ⟨y,hy,hpos⟩
   obtain⟨p,hp⟩:=uY.1 hy
   have sm:=AF C 0 p (by rw[Sb,hp];exact hpos)
   have hs:((0+p:Nat):Int)∈wD C:=GK sm
   have hne:wD C≠[]:=fun q=>by rw[q]at hs;simp at hs
   have H:=h1w hne
   have kr:=H.2.2.2.1 15 (fun d hd=>by have:=dm d hd;omega)
   have one:=H.2.2.2.2.2 (by have:=hu hne;omega)
   have ss:=Du (f15 15) (wD C) (vw W') (List.replicate C.length 0) dl nd (fun s hs=>by simpa using rg' s hs)
   rw[←e]at ss
   have z1:((wD C).map fun s=>f15 15 ((List.replicate C.length (0:Int)).getD s.toNat 0)).sum=0:=by
    have:(wD C).map (fun s=>f15 15 ((List.replicate C.length (0:Int)).getD s.toNat 0))=(wD C).map fun _=>0:=SD fun s hs=>by
     rw[zV (rg' s hs)];rfl
    rw[this,G0]
   have z2:((List.replicate C.length (0:Int)).map (f15 15)).sum=0:=by
    rw[List.map_replicate]
    have:f15 15 0=0:=rfl
    rw[this];simp
   have z3:(vw W').map (f15 15)=(vw W').map fun d=>2^(15-d.toNat):=SD fun d hd=>by
    unfold f15
    rw[if_pos ⟨one d hd,by have:=dm d hd;omega⟩]
   rw[z1,z2,z3,kr]at ss
   rw[zT,show((we C K).map (f15 15)).sum=2^15 by omega]
   rfl
 · intro h
   rw[e,Jj h]
   simp [vT]
theorem yy (l : List Int) (k : Nat) : ∀ n p, vO l k n ≤ p → p < n → ¬ 0 < l.getD p 0
 |0,p,h1,h2=>by omega
 | n + 1, p, h1, h2 => by
   rw[vO]at h1
   split at h1
   · omega
   · split at h1
     · omega
     · by_cases e:p=n
       · subst e;assumption
       · exact yy l k n p h1 (by omega)
theorem Cp {l : List Int} (hr : ∀ y ∈ l, 0 ≤ y) (k n : Nat) : vE (yA l k) n = vE l n := by
 have e:l=yA l k++l.drop (vO l k l.length):=(List.take_append_drop _ _).symm
 have z:((l.drop (vO l k l.length)).map (f15 n)).sum=0:=by
  have:∀q:List Int,(∀y∈q,y=0)→(q.map (f15 n)).sum=0:=by
   intro q
   induction q with
   |nil=>intro _;rfl
   | cons x q ih =>
     intro h
     rw[Sl,SF,ih fun y hy=>h y (by simp [hy]),h x (by simp)]
     unfold f15;simp
  refine this _ fun y hy=> ?_
  obtain⟨j,hj⟩:=uY.1 hy
  rw[uX]at hj
  have hl:=(uI.1 hj).1
  have:=yy l k l.length (vO l k l.length+j) (by omega) hl
  rw[Sb,hj]at this
  have:=hr y (List.mem_of_mem_drop hy)
  simp at *
  omega
 rw[zT,zT]
 have:(l.map (f15 n)).sum=((yA l k).map (f15 n)).sum:=by
  conv=>lhs;rw[e]
  rw[List.map_append,List.sum_append,z,Nat.add_zero]
 rw[this]
theorem LK {l:List Int} (k:Nat) {p:Nat} (h:0<l.getD p 0):p<(yA l k).length∧(yA l k).getD p 0=l.getD p 0:=by
 have hp:p<l.length:=by
  apply Sx
  intro c
  rw[Sb,Sq (by omega)]at h
  simp at h
 have:p<vO l k l.length:=by
  apply Sx
  intro c
  exact yy l k l.length p (by omega) hp h
 unfold yA
 refine⟨by rw[SM];omega, ?_⟩
 rw[Sb,u9,if_pos this,←Sb]
theorem xS {l:List Int} (h1:1≤l.length) (h2:l.length≤288) (hr:∀y∈l,0≤y∧y<16) (h:0≤vE l 15):vF l=if vE l 15=0 then 0 else 302:=by
 have hm:At l=true:=by
  unfold At
  have:(ints l).any EO=false:=by
   rw[List.any_eq_false]
   intro x hx
   obtain⟨y,hy,rfl⟩:=Sm.1 hx
   have:=hr y hy
   simp [EO,I];omega
  rw[this];simp;omega
 unfold vF
 rw[if_neg (by rw[hm];simp),if_neg (by omega)]
 split
 · rw[if_neg (by omega)]
 · rw[if_pos (by omega)]
theorem GU (s:ByteArray) (i j:Nat):∀f k,(∀m,m<k→xi s (i+m)=xi s (j+m))→∀m,m<xL s i j f k→xi s (i+m)=xi s (j+m)
 |0,k,h=>by simpa [xL]using h
 | f + 1, k, h => by
   unfold xL
   split
   · rename_i q
     refine GU s i j f (k+1) fun m hm=> ?_
     by_cases e:m=k
     · subst e;exact q.2.2
     · exact h m (by omega)
   · exact h
theorem Ae (s:ByteArray) (i:Nat) (hi:i≤s.size):∀(n:Nat) (b:Nat×Nat),n≤i→(b.1=0∨(b.1≤258∧1≤b.2∧b.2≤i∧i+b.1≤s.size∧∀m,m<b.1→xi s (i+m)=xi s (i-b.2+m)))→
 ((vR s i n b).1=0∨((vR s i n b).1≤258∧1≤(vR s i n b).2∧(vR s i n b).2≤i∧i+(vR s i n b).1≤s.size∧∀m,m<(vR s i n b).1→xi s (i+m)=xi s (i-(vR s i n b).2+m)))
 |0,b,hn,h=>h
 | n + 1, b, hn, h => by
   unfold vR
   refine Ae s i hi n _ (by omega) ?_
   split
   · right
     refine⟨IB s i n,by show 1≤i-n;omega,by show i-n≤i;omega,EA s i n hi,fun m hm=> ?_⟩
     have:=GU s i n 258 0 (fun m hm=>by omega) m hm
     have e:i-(i-n)=n:=by omega
     show xi s (i+m)=xi s (i-(i-n)+m)
     rw[e];exact this
   · exact h
def preB (s:ByteArray) (i:Nat):List Nat:=(List.range i).map (xi s)
theorem xp (s:ByteArray) (i:Nat):(preB s i).length=i:=by simp [preB]
theorem BI (s:ByteArray) (i:Nat):preB s (i+1)=preB s i++[xi s i]:=by simp [preB,List.range_succ]
theorem GL (s:ByteArray) {i j:Nat} (h:j<i):(preB s i).getD j 0=xi s j:=by
 rw[Sb,preB,uV,SG h];rfl
theorem H4 (s:ByteArray) {d:Nat} (hd:1≤d):∀(n i:Nat),d≤i→(∀m,m<n→xi s (i+m)=xi s (i-d+m))→I8 d n (preB s i)=preB s (i+n)
 |0,i,h,_=>rfl
 | n + 1, i, h, hm => by
   have e0:=hm 0 (by omega)
   simp only[Nat.add_zero]at e0
   rw[I8,xp,GL s (by omega),←e0,←BI,H4 s hd n (i+1) (by omega) fun m h2=>by
    have:=hm (m+1) (by omega)
    have a1:i+(m+1)=i+1+m:=by omega
    have a2:i-d+(m+1)=i+1-d+m:=by omega
    rw[a1,a2]at this;exact this]
   congr 1;omega
theorem HP (s:ByteArray) {i:Nat} (hi:i<s.size):((wo s i).1.len=0∧(wo s i).1.lit=xi s i∧(wo s i).1.vU=0∧(wo s i).2=i+1)∨
 (∃L D:Nat,(wo s i).1.len=L∧(wo s i).1.vU=D∧(wo s i).1.lit=0∧3≤L∧L≤258∧1≤D∧D≤i∧(wo s i).2=i+L∧i+L≤s.size∧∀m,m<L→xi s (i+m)=xi s (i-D+m)):=by
 unfold wo
 split
 · exact .inl ⟨rfl,rfl,rfl,rfl⟩
 · rename_i c
   right
   rcases Ae s i (by omega) i (0,0) (uM _) (.inl rfl)with h|⟨h1,h2,h3,h4,h5⟩
   · omega
   · exact⟨_,_,rfl,rfl,rfl,by omega,h1,h2,h3,rfl,h4,h5⟩
theorem yX (s : ByteArray) (hs : s.size ≤ 300) : ∀ (f i : Nat), s.size - i ≤ f → i ≤ s.size → (yf s f i).length ≤ s.size - i ∧ (∀ t ∈ yf s f i, yc t) ∧ vL i (yf s f i) = true ∧ xC (yf s f i) (preB s i) = preB s s.size
 | 0, i, hf, hi => by
   have:i=s.size:=by omega
   subst this
   simp [yf,vL,xC]
 | f + 1, i, hf, hi => by
   rw[yf]
   split
   · rename_i c
     have lt:=Ha s i
     have le:=G9 s i c
     obtain⟨i1,i2,i3,i4⟩:=yX s hs f (wo s i).2 (by omega) le
     have sp:=HP s c
     refine⟨by rw[Sc];omega, ?_, ?_, ?_⟩
     · intro t ht
       rcases u6.1 ht with q|q
       · subst q
         rcases sp with ⟨a,b,_,_⟩|⟨L,D,a,b,_,c1,c2,c3,c4,_,_,_⟩
         · have:=CC s i
           exact .inl ⟨a,by omega,by omega⟩
         · exact .inr ⟨by omega,by omega,by omega,by omega⟩
       · exact i2 t q
     · rw [vL]
       rcases sp with ⟨a,b,c0,d⟩|⟨L,D,a,b,c0,c1,c2,c3,c4,d,e,_⟩
       · have hb:=CC s i
         have st:wq (i:Int) (wo s i).1=some ((i:Int)+1):=by
          unfold wq
          rw[if_pos a,if_neg (by omega)]
         rw[st]
         simp only
         rw[if_neg (by omega)]
         have e:(((wo s i).2:Nat):Int)=(i:Int)+1:=by omega
         rw[←e];exact i3
       · have st:wq (i:Int) (wo s i).1=some ((i:Int)+L):=by
          unfold wq
          rw[if_neg (by omega),if_neg (by omega),a]
         rw[st]
         simp only
         rw[if_neg (by omega)]
         have e':(((wo s i).2:Nat):Int)=(i:Int)+L:=by omega
         rw[←e'];exact i3
     · rw [xC]
       rcases sp with ⟨a,b,c0,d⟩|⟨L,D,a,b,c0,c1,c2,c3,c4,d,e,g⟩
       · have:vS (preB s i) (wo s i).1=preB s (wo s i).2:=by
          unfold vS
          rw[if_pos a,b,d,BI];rfl
         rw[this];exact i4
       · have:vS (preB s i) (wo s i).1=preB s (wo s i).2:=by
          unfold vS
          rw[if_neg (by omega),a,b,d]
          exact H4 s c3 L i c4 g
         rw[this];exact i4
   · have:i=s.size:=by omega
     subst this
     simp [vL,xC]
theorem CP (s:ByteArray) (hs:s.size≤300):DP (tokens s)=true:=by
 obtain⟨_,_,h3,h4⟩:=yX s hs s.size 0 (by omega) (by omega)
 unfold DP yC tokens
 have h3':vL 0 (yf s s.size 0)=true:=h3
 rw[if_pos h3']
 have:xC (yf s s.size 0) []=preB s s.size:=h4
 rw[this]
 simp only[vW,xp]
 simpa using hs
theorem CX (l:List Int) (i p:Nat):l.getD p 0≤(wV l i).getD p 0:=by
 unfold wV
 by_cases e:i=p
 · subst e
   by_cases h:i<l.length
   · rw[Sb (l:=l.set i _),Sr,if_pos rfl,if_pos h]
     show l.getD i 0≤l.getD i 0+1
     omega
   · rw[List.set_eq_of_length_le (by omega)];exact SO _
 · rw[getD_set_ne e];exact SO _
theorem A4 {l:List Int} {i:Nat} (h:i<l.length):(wV l i).getD i 0=l.getD i 0+1:=by
 unfold wV
 rw[Sb (l:=l.set i _),Sr,if_pos rfl,if_pos h];rfl
theorem AO:∀(ts:List Tok) (A:List Int) (p:Nat),A.getD p 0≤(zu ts A).getD p 0
 |[],A,p=>SO _
 | t :: r, A, p => by
   rw[zu]
   refine Int.le_trans ?_ (AO r _ p)
   split<;>exact CX _ _ _
theorem FU:∀(ts:List Tok) (A:List Int) (p:Nat),A.getD p 0≤(z4 ts A).getD p 0
 |[],A,p=>SO _
 | t :: r, A, p => by
   rw[z4]
   refine Int.le_trans ?_ (FU r _ p)
   split
   · exact SO _
   · exact CX _ _ _
theorem FW:∀(ts:List Int) (A:List Int) (p:Nat),A.getD p 0≤(xj ts A).getD p 0
 |[],A,p=>SO _
 | t :: r, A, p => by
   rw[xj]
   exact Int.le_trans (CX _ _ _) (FW r _ p)
theorem Bc {A:List Int} (h:∀y∈A,0≤y) (p:Nat):0≤A.getD p 0:=by
 rw[Sb]
 cases e:A[p]? with
 |none=>simp
 |some y=>exact h y (uQ e)
theorem HE {A:List Int} (h:∀y∈A,0≤y) (i:Nat):∀y∈wV A i,0≤y:=by
 intro y hy
 rcases SK hy with q|q
 · exact h y q
 · have:=Bc h i;omega
theorem FT : ∀ (ts : List Tok) (A : List Int), (∀ y ∈ A, 0 ≤ y) → A.length = 286 → ∀ t ∈ ts, yc t → (t.len = 0 → 1 ≤ (zu ts A).getD t.lit.toNat 0) ∧ (t.len ≠ 0 → 1 ≤ (zu ts A).getD (xn t.len.toNat) 0)
 |[],A,_,_,t,h,_=>by simp at h
 | u :: r, A, hA, hl, t, h, o => by
   rw[zu]
   rcases u6.1 h with q|q
   · subst q
     refine⟨fun h0=> ?_,fun h0=> ?_⟩
     · rw[if_pos h0]
       refine Int.le_trans ?_ (AO r _ _)
       rcases o with ⟨_,b,c⟩|⟨a,_⟩
       · rw[A4 (by omega)]
         have:=Bc hA t.lit.toNat;omega
       · omega
     · rw[if_neg h0]
       refine Int.le_trans ?_ (AO r _ _)
       rcases o with ⟨a,_⟩|⟨a,b,_⟩
       · exact absurd a h0
       · have:=yk (k:=t.len.toNat) (by omega) (by omega)
         rw[A4 (by omega)]
         have:=Bc hA (xn t.len.toNat);omega
   · exact FT r _ (by split<;>exact HE hA _) (by split<;>rw[xm,hl]) t q o
theorem FV : ∀ (ts : List Tok) (A : List Int), (∀ y ∈ A, 0 ≤ y) → A.length = 30 → ∀ t ∈ ts, yc t → t.len ≠ 0 → 1 ≤ (z4 ts A).getD (xN t.vU.toNat) 0
 |[],A,_,_,t,h,_,_=>by simp at h
 | u :: r, A, hA, hl, t, h, o, h0 => by
   rw[z4]
   rcases u6.1 h with q|q
   · subst q
     rw[if_neg h0]
     refine Int.le_trans ?_ (FU r _ _)
     rcases o with ⟨a,_⟩|⟨a,b,c,d⟩
     · exact absurd a h0
     · have:=yh (k:=t.vU.toNat) (by omega) (by omega)
       rw[A4 (by omega)]
       have:=Bc hA (xN t.vU.toNat);omega
   · refine FV r _ ?_ ?_ t q o h0
     · split
       · exact hA
       · exact HE hA _
     · split
       · exact hl
       · rw[xm,hl]
theorem CI:∀(ds:List Int) (A:List Int),(∀y∈A,0≤y)→A.length=19→∀y∈ds,0≤y∧y<19→1≤(xj ds A).getD y.toNat 0
 |[],A,_,_,t,h,_=>by simp at h
 | u :: r, A, hA, hl, t, h, o => by
   rw[xj]
   rcases u6.1 h with q|q
   · subst q
     refine Int.le_trans ?_ (FW r _ _)
     rw[A4 (by omega)]
     have:=Bc hA t.toNat;omega
   · exact CI r _ (HE hA _) (by rw[xm,hl]) t q o
theorem zg (n:Nat):∀y∈List.replicate n (0:Int),0≤y∧y≤0:=fun y hy=>by have:=SJ hy;omega
theorem H6 (ts:List Tok) (hn:ts.length≤300):(dA ts).length=286∧(∀y∈dA ts,0≤y∧y≤2147483647)∧1≤(dA ts).getD 256 0:=by
 have z:∀y∈(List.replicate 286 (0:Int)).set 256 1,0≤y∧y≤1:=fun y hy=>by
  rcases SK hy with q|q
  · have:=SJ q;omega
  · omega
 refine⟨by unfold dA;rw[CE,Sz,Ss],fun y hy=> ?_, ?_⟩
 · have:=CF ts _ 1 (by omega) z y hy;omega
 · have h:((List.replicate 286 (0:Int)).set 256 1).getD 256 0=1:=by decide
   have:=AO ts ((List.replicate 286 0).set 256 1) 256
   rw[h]at this
   exact this
theorem H7 (ts:List Tok) (hn:ts.length≤300):(dB ts).length=30∧(∀y∈dB ts,0≤y∧y≤2147483647):=by
 refine⟨by unfold dB;rw[CG,Ss],fun y hy=> ?_⟩
 have:=CH ts _ 0 (by omega) (zg 30) y hy;omega
theorem Kv {ts:List Tok} {la lb:List Int} {t:Tok} (o:yc t) (hA:t.len=0→AH (vh la) t.lit.toNat) (hL:t.len≠0→AH (vh la) (xn t.len.toNat)) (hB:t.len≠0→AH (vh lb) (xN t.vU.toNat)):Hd (vh la) (vh lb) t:=by
 rcases o with ⟨a,b,c⟩|⟨a,b,c,d⟩
 · exact .inl ⟨a,b,hA a⟩
 · exact .inr ⟨a,b,c,d,hL (by omega),hB (by omega)⟩
theorem CO {C l:List Int} {K k m:Nat} (hC:∀y∈C,0≤y∧y≤2147483647) (h2:2≤C.length) (hl:C.length≤288) (hk:k≤C.length) (hk1:1≤k) (r:wU 15 K (wN C)) (e:l=yA (we C K) k):
 (k≤l.length∧l.length≤C.length)∧(∀y∈l,0≤y∧y<16)∧(vF l=0∨vF l=302)∧(∀p,0<C.getD p 0→AH (vh l) p)∧0≤vE l 15:=by
 obtain⟨f1,f2,f3,f4,f5⟩:=yi hC h2 hl (by omega) r
 have ug:=wL (we C K) k (we C K).length
 have ll:l.length=vO (we C K) k (we C K).length:=by rw[e];exact AW _ (by omega)
 have hr:∀y∈l,0≤y∧y<16:=fun y hy=>by
  rw[e]at hy
  have:=f2 y (List.mem_of_mem_take hy)
  omega
 have lc:vE l 15=vE (we C K) 15:=by rw[e];exact Cp (fun y hy=>(f2 y hy).1) k 15
 have l0:0≤vE l 15:=by
  rw[lc]
  by_cases c:∃y∈C,0<y
  · rw[f4 c];omega
  · rw[f5 fun y hy q=>c ⟨y,hy,q⟩]
    rw[zT,List.map_replicate]
    have:f15 15 0=0:=rfl
    rw[this];simp
 have ck:=xS (l:=l) (by omega) (by omega) hr l0
 refine⟨by omega,hr, ?_,fun p hp=> ?_,l0⟩
 · rw[ck];split
   · exact .inl rfl
   · exact .inr rfl
 · have g:=f3 p hp
   obtain⟨c1,c2⟩:=LK k (show 0<(we C K).getD p 0 by omega)
   rw[←e]at c1 c2
   exact Fa l0 hr c1 (by omega)
theorem LP {ts:List Tok} (hn:ts.length≤300) (Ib:DP ts=true) (t2:∀t∈ts,yc t):∃KA KB KC la lb Lc,BV ts KA KB KC la lb Lc:=by
 obtain⟨a1,a2,a3⟩:=H6 ts hn
 obtain⟨b1,b2⟩:=H7 ts hn
 obtain⟨KA,rA⟩:=zF (most:=15) a2 (by omega) (by omega) (.inl (by omega))
 obtain⟨KB,rB⟩:=zF (most:=15) b2 (by omega) (by omega) (.inl (by omega))
 obtain⟨la,ea⟩:∃l,l=yA (we (dA ts) KA) 257:=⟨_,rfl⟩
 obtain⟨lb,eb⟩:∃l,l=yA (we (dB ts) KB) 1:=⟨_,rfl⟩
 obtain⟨x1,x2,x3,x4,x5⟩:=CO (m:=0) a2 (by omega) (by omega) (by omega) (by omega) rA ea
 obtain⟨y1,y2,y3,y4,y5⟩:=CO (m:=0) b2 (by omega) (by omega) (by omega) (by omega) rB eb
 have hall:∀y∈la++lb,0≤y∧y<19:=fun y hy=>by
  rcases SH.1 hy with q|q
  · have:=x2 y q;omega
  · have:=y2 y q;omega
 have c1:(xj (la++lb) (List.replicate 19 0)).length=19:=by rw[AQ,Ss]
 have c2:∀y∈xj (la++lb) (List.replicate 19 0),0≤y∧y≤2147483647:=fun y hy=>by
  have:=AR (la++lb) _ 0 (by omega) (zg 19) y hy
  rw[vb]at this
  omega
 obtain⟨KC,rC⟩:=zF (most:=7) c2 (by omega) (by omega) (.inr (by omega))
 obtain⟨f1,f2,f3,f4,f5⟩:=yi c2 (by omega) (by omega) (by omega) rC
 have hit:=CI (la++lb) (List.replicate 19 0) (fun y hy=>(zg 19 y hy).1) (by rw[Ss])
 have ex:∃y∈xj (la++lb) (List.replicate 19 0),0<y:=by
  obtain⟨z,hz⟩:=List.exists_mem_of_ne_nil (la++lb) (fun q=>by
   have:=SI List.length q
   rw[vb,Se]at this
   omega)
  have h:=hit z hz (hall z hz)
  refine⟨_, ?_,show 0<(xj (la++lb) (List.replicate 19 0)).getD z.toNat 0 by omega⟩
  have zl:z.toNat<(xj (la++lb) (List.replicate 19 0)).length:=by have:=hall z hz;omega
  rw[Sb,Sd zl]
  exact Su zl
 have l0:=f4 ex
 have r16:∀y∈we (xj (la++lb) (List.replicate 19 0)) KC,0≤y∧y<16:=fun y hy=>by have:=f2 y hy;omega
 refine⟨KA,KB,KC,la,lb,_,⟨Ib,hn,t2,rA,rB,ea,eb,hall,rC,rfl,fun y hy=>by have:=f2 y hy;omega,x3,y3, ?_, ?_, ?_, ?_⟩⟩
 · have:=xS (by omega) (by omega) r16 (by omega)
   rw[this,if_pos l0];exact .inl rfl
 · intro y hy
   have h:=hit y hy (hall y hy)
   have g:=f3 y.toNat (by omega)
   exact Fa (by omega) r16 (by have:=hall y hy;omega) g
 · intro t ht
   have o:=t2 t ht
   have zA:∀y∈(List.replicate 286 (0:Int)).set 256 1,0≤y:=fun y hy=>by
    rcases SK hy with q|q
    · have:=SJ q;omega
    · omega
   have hA:=FT ts _ zA (by rw[Sz,Ss]) t ht o
   have hB:=FV ts (List.replicate 30 0) (fun y hy=>(zg 30 y hy).1) (by rw[Ss]) t ht o
   exact Kv (ts:=ts) o (fun h0=>x4 _ (by have:=hA.1 h0;unfold dA;omega)) (fun h0=>x4 _ (by have:=hA.2 h0;unfold dA;omega)) (fun h0=>y4 _ (by have:=hB h0;unfold dB;omega))
 · exact x4 256 (by omega)
theorem EX (s:ByteArray) (hs:s.size≤300):∃KA KB KC la lb Lc,BV (tokens s) KA KB KC la lb Lc:=by
 obtain⟨t1,t2,t3,t4⟩:=yX s hs s.size 0 (by omega) (by omega)
 change (tokens s).length≤s.size-0 at t1
 exact LP (by omega) (CP s hs) t2
theorem Jn:∀bs:List Nat,(∀b∈bs,b≤1)→JK (vN bs):=by
 have:∀(l:List Nat) (i:Nat) (out:List Nat),(∀b∈l,b≤1)→JK out→JK (wW l i out):=by
  intro l
  induction l with
  |nil=>intro i out _ h;exact h
  |cons x l ih=>intro i out hl h;exact ih (i+1) _ (fun b hb=>hl b (by simp [hb])) (B7 (hl x (by simp)) h)
 exact fun bs h=>this bs 0 [] h fun _ q=>by simp at q
theorem xM (v:Nat):∀m,∀b∈yn v m,b≤1
 |0,b,h=>by simp [yn]at h
 | m + 1, b, h => by
   rw[yn]at h
   rcases u6.1 h with q|q
   · omega
   · exact xM v m b q
theorem xG (v:Nat):∀m i,∀b∈BJ v i m,b≤1
 |0,i,b,h=>by simp [BJ]at h
 | m + 1, i, b, h => by
   rw[BJ]at h
   rcases u6.1 h with q|q
   · omega
   · exact xG v m (i+1) b q
theorem Cg (E D:List (Int×Int)) (t:Tok):∀b∈vI E D t,b≤1:=by
 intro b h
 unfold vI vn vz at h
 split at h
 · exact xM _ _ b h
 · simp only[SH]at h
   rcases h with h|h|h|h
   · exact xM _ _ b h
   · exact xG _ _ _ b h
   · exact xM _ _ b h
   · exact xG _ _ _ b h
theorem LO (ts:List Tok) (la lb Lc:List Int):∀b∈vZ ts la lb Lc,b≤1:=by
 intro b h
 unfold vZ at h
 simp only[SH]at h
 rcases h with h|h|h|h|h|h|h|h
 · exact xG _ _ _ b h
 · exact xG _ _ _ b h
 · exact xG _ _ _ b h
 · exact xG _ _ _ b h
 · obtain⟨y,_,hy⟩:=List.mem_flatMap.1 h
   exact xG _ _ _ b hy
 · obtain⟨y,_,hy⟩:=List.mem_flatMap.1 h
   exact xM _ _ b hy
 · obtain⟨y,_,hy⟩:=List.mem_flatMap.1 h
   exact Cg _ _ y b hy
 · exact xM _ _ b h
def zj (t:ByteArray) (p:Nat) (bs:List Nat):Prop:=p+bs.length≤8* t.size∧∀i,i<bs.length→xg t (p+i)=bs.getD i 0
theorem zj.app {t:ByteArray} {p:Nat} {a b:List Nat} (h:zj t p (a++b)):zj t p a∧zj t (p+a.length) b:=by
 obtain⟨h1,h2⟩:=h
 rw[vb]at h1 h2
 refine⟨⟨by omega,fun i hi=> ?_⟩,⟨by omega,fun i hi=> ?_⟩⟩
 · have:=h2 i (by omega)
   rw[this,Sb,Sb,Sn hi]
 · have:=h2 (a.length+i) (by omega)
   rw[uL,this,Sb,Sb,So (by omega),Nat.add_sub_cancel_left]
theorem Bq (l:List Nat) (h:JK l) (i:Nat):(((bytesOf l)[i]?).map (·.toNat)).getD 0=l.getD i 0:=by
 have e:(bytesOf l)[i]?=(l.map UInt8.ofNat)[i]?:=by
  show(l.map UInt8.ofNat).toArray[i]?=_
  simp
 rw[e,uV,Sb]
 cases hx:l[i]? with
 |none=>rfl
 | some x =>
   have:=h x (uQ hx)
   simp [UInt8.toNat_ofNat_of_lt' this]
theorem JV {x b k j:Nat} (hb:b≤1) (hx:x<2^k):(x|||b* 2^k)/2^j%2=if j=k then b else x/2^j%2:=by
 rw[←Nat.toNat_testBit,←Nat.toNat_testBit,Nat.testBit_or]
 have hb':b=0∨b=1:=by omega
 rcases hb' with rfl|rfl
 · rw[Nat.zero_mul,Nat.zero_testBit,Bool.or_false]
   split
   · rename_i e;subst e
     rw[Nat.testBit_lt_two_pow hx];rfl
   · rfl
 · rw[Nat.one_mul,Nat.testBit_two_pow]
   split
   · rename_i e;subst e;simp
   · rename_i e
     have:decide (k=j)=false:=by simp;omega
     rw[this,Bool.or_false]
structure IQ (out:List Nat) (bs:List Nat):Prop where
 len:out.length=(bs.length+7)/8
 bit:∀j,j<bs.length→out.getD (j/8) 0/2^(j%8)%2=bs.getD j 0
 top:bs.length%8≠0→out.getD (bs.length/8) 0<2^(bs.length%8)
theorem IQ.step {out bs : List Nat} {b : Nat} (hb : b ≤ 1) (v : IQ out bs) : IQ (v7 out bs.length b) (bs ++ [b]) := by
 obtain⟨len,bit,top⟩:=v
 obtain⟨n,hn⟩:∃n,n=bs.length:=⟨_,rfl⟩
 rw[←hn]at len bit top ⊢
 obtain⟨o,ho⟩:∃o,o=if n%8=0 then out++[0]else out:=⟨_,rfl⟩
 have es:v7 out n b=o.set (n/8) (o.getD (n/8) 0|||b* 2^(n%8)):=by rw[ho];rfl
 have ol:n/8<o.length:=by
  rw[ho];split
  · rw[vb,len];simp;omega
  · rw[len];omega
 have og:∀j,j<n→o.getD (j/8) 0=out.getD (j/8) 0:=fun j hj=>by
  rw[ho];split
  · rw[Sb,Sn (by omega),←Sb]
  · rfl
 have ox:o.getD (n/8) 0<2^(n%8):=by
  by_cases c:n%8=0
  · rw[ho,if_pos c,Sb,So (by omega),c]
    have:n/8-out.length=0:=by omega
    rw[this];simp
  · rw[ho,if_neg c];exact top c
 have gn:∀m,(v7 out n b).getD m 0=if m=n/8 then o.getD (n/8) 0|||b* 2^(n%8)else o.getD m 0:=fun m=>by
  rw[es]
  by_cases e:m=n/8
  · subst e
    rw[if_pos rfl,Sb,Sr,if_pos rfl,if_pos ol];rfl
  · rw[if_neg e,getD_set_ne (fun q=>e q.symm)]
 have bl:(bs++[b]).length=n+1:=by simp [hn]
 refine⟨by rw[bl,B8 len],fun j hj=> ?_,fun hc=> ?_⟩
 · rw [bl] at hj
   rw[gn]
   by_cases e:j=n
   · subst e
     rw[if_pos rfl,JV hb ox,if_pos rfl,Sb,hn,So (uM _)];simp
   · have hjn:j<n:=by omega
     have gb:(bs++[b]).getD j 0=bs.getD j 0:=by rw[Sb,Sn (by omega),←Sb]
     rw[gb,←bit j hjn,←og j hjn]
     split
     · rename_i e2
       rw[JV hb ox,if_neg (by omega),e2]
     · rfl
 · rw[bl]at hc ⊢
   have e8:(n+1)/8=n/8:=by omega
   have m8:(n+1)%8=n%8+1:=by omega
   rw[gn,e8,if_pos rfl,m8,Kx ox,Nat.pow_succ]
   have:b* 2^(n%8)≤1* 2^(n%8):=uP _ hb
   omega
theorem Jo:∀bs:List Nat,(∀b∈bs,b≤1)→IQ (vN bs) bs:=by
 have key:∀(q p:List Nat) (out:List Nat),(∀b∈q,b≤1)→IQ out p→IQ (wW q p.length out) (p++q):=by
  intro q
  induction q with
  |nil=>intro p out _ h;simpa [wW]using h
  | cons x q ih =>
    intro p out hb h
    have:=ih (p++[x]) (v7 out p.length x) (fun b q=>hb b (by simp [q])) (h.step (hb x (by simp)))
    rw[vb,Sp]at this
    exact this
 intro bs hb
 exact key bs [] [] hb ⟨rfl,fun j hj=>by simp at hj,fun h=>by simp at h⟩
theorem DX (bs:List Nat) (hb:∀b∈bs,b≤1):zj (bytesOf (vN bs)) 0 bs:=by
 have v:=Jo bs hb
 have y:=Jn bs hb
 refine⟨by rw[vW,v.len];omega,fun i hi=> ?_⟩
 rw[uR]
 unfold xg
 rw[Bq _ y]
 exact v.bit i hi
theorem IM {t:ByteArray} {p:Nat} {v:Nat}:∀(n:Nat),(∀i,i<n→xg t (p+i)=v/2^i%2)→vm t p n=v%2^n
 |0,h=>by simp [vm,Nat.mod_one]
 | n + 1, h => by
   rw[vm,IM n fun i hi=>h i (by omega),h n (by omega),Nat.pow_succ,Nat.mod_mul,Nat.mul_comm]
theorem GM (v:Nat):∀m i j,j<m→(BJ v i m).getD j 0=v/2^(i+j)%2
 |0,i,j,h=>by omega
 |m+1,i,0,h=>rfl
 | m + 1, i, j + 1, h => by
   show(BJ v (i+1) m).getD j 0=_
   rw[GM v m (i+1) j (by omega)]
   congr 3;omega
theorem zj.put {t:ByteArray} {p v n:Nat} (h:zj t p (vz v n)) (hv:v<2^n):vm t p n=v∧p+n≤8* t.size:=by
 obtain⟨h1,h2⟩:=h
 unfold vz at h1 h2
 rw[vH]at h1 h2
 refine⟨?_,h1⟩
 rw[IM n fun i hi=>by rw[h2 i hi,GM v n 0 i hi,uR],Nat.mod_eq_of_lt hv]
theorem G8 (n:Nat):∀(q p:List Int),∃r,syms (p++q) n=syms p n++r
 |[],p=>⟨[],by simp⟩
 | x :: q, p => by
   obtain⟨r,hr⟩:=G8 n q (p++[x])
   rw[Sp,zZ]at hr
   exact⟨_,by rw[show p++x::q=p++([x]++q)by simp,hr,Sp]⟩
theorem IH {l:List Int} {s n:Nat} (hs:s<l.length) (hn:1≤n) (e:l.getD s 0=(n:Int)):(syms l n)[wR (l.take s) n]?=some (s:Int):=by
 have e2:l.take (s+1)=l.take s++[l.getD s 0]:=by
  rw[List.take_add_one,Sd hs,Sb,Sd hs];rfl
 obtain⟨r,hr⟩:=G8 n (l.drop (s+1)) (l.take (s+1))
 rw[List.take_append_drop,e2,zZ,if_pos ⟨by omega,e⟩]at hr
 have ls:=zO (l.take s) n
 have lt:(l.take s).length=s:=by rw[SM];omega
 rw[hr,Sp,So (by omega),ls,Nat.sub_self,lt];rfl
theorem B5 (l:List Int) (n:Nat):∀m,(vt l n+wR l n)* 2^(m+1)≤vt l (n+m+1)
 |0=>by rw[vt];simp
 | m + 1 => by
   have ih:=B5 l n m
   rw[show n+(m+1)+1=(n+m+1)+1 by omega,vt,Int.pow_succ,←Int.mul_assoc]
   omega
theorem LQ {l:List Int} {n m:Nat} {c:Nat} (hc:vt l (n+m+1)≤(c:Int)):xK l n ((c/2^(m+1):Nat):Int)=none:=by
 have g:=B5 l n m
 have h1:vt l n+wR l n≤((c/2^(m+1):Nat):Int):=by
  have p2:((2^(m+1):Nat):Int)=(2:Int)^(m+1):=by push_cast;rfl
  have:(vt l n+wR l n)* ((2^(m+1):Nat):Int)≤(c:Int):=by rw[p2];omega
  rw[Int.natCast_ediv]
  exact(Int.le_ediv_iff_mul_le (by have:=Nat.pow_pos (n:=m+1) (show 0<2 by omega);omega)).2 this
 unfold xK
 split
 · rw[Sq]
   rw[zO];omega
 · rfl
theorem G3 {t : ByteArray} {l : List Int} {s N c : Nat} (hs : s < l.length) (hN : 1 ≤ N) (e : l.getD s 0 = (N : Int)) (hc : (c : Int) = vt l N + wR (l.take s) N) : ∀ (m n k p : Nat), n + m = N → m + 1 ≤ k → zj t p (yn c (m + 1)) → xI t l k n (c / 2 ^ (m + 1)) p = some ((s : Int), p + (m + 1))
 |m,n,0,p,hn,hk,hb=>by omega
 | m, n, k + 1, p, hn, hk, hb => by
   have hb1:zj t p ([c/2^m%2]++yn c m):=hb
   obtain⟨b1,b2⟩:=hb1.app
   have v1:vm t p 1=c/2^m%2:=by
    have:=b1.2 0 (by simp)
    simp only[Nat.add_zero,List.getD_cons_zero]at this
    simp [vm,this]
   have pl:p+1≤8* t.size:=b1.1
   have vv:c/2^(m+1)* 2+c/2^m%2=c/2^m:=by
    rw[Nat.pow_succ,←Nat.div_div_eq_div_mul];omega
   rw[xI,if_pos pl,v1,vv]
   cases m with
   | zero =>
     have:xK l n ((c/2^0:Nat):Int)=some (s:Int):=by
      have hn':n=N:=by omega
      subst hn'
      unfold xK
      rw[Nat.pow_zero,Nat.div_one,if_pos (by omega)]
      have:((c:Int)-vt l n).toNat=wR (l.take s) n:=by omega
      rw[this]
      exact IH hs hN e
     rw[this]
   | succ m =>
     have:xK l n ((c/2^(m+1):Nat):Int)=none:=LQ (by rw[show n+m+1=N by omega];omega)
     rw[this]
     have r:=G3 hs hN e hc m (n+1) k (p+1) (by omega) (by omega) b2
     rw[r]
     simp only[uF,uH,true_and];omega
theorem K8 {t:ByteArray} {l:List Int} (hl:0≤vE l 15) (hr:∀y∈l,0≤y∧y<16) {s p:Nat} (hs:s<l.length) (h1:1≤l.getD s 0) (hb:zj t p (vn (vh l) s)):xI t l 15 1 0 p=some ((s:Int),p+(vn (vh l) s).length):=by
 obtain⟨n,v,g,n1,n2,n3,n4⟩:=(Fa hl hr hs h1).bits
 have g2:(vh l)[s]?=some (yM l s):=by
  unfold vh
  rw[uV,SG hs];rfl
 rw[g2]at g
 have g3:=uC g
 unfold yM at g3
 rw[if_pos h1]at g3
 have e1:l.getD s 0=(n:Int):=SI Prod.fst g3
 have e2:vt l (l.getD s 0).toNat+wR (l.take s) (l.getD s 0).toNat=(v:Int):=SI Prod.snd g3
 have tn:((n:Nat):Int).toNat=n:=by omega
 rw[e1,tn]at e2
 rw[n4]at hb ⊢
 rw[wg]
 obtain⟨m,rfl⟩:∃m,n=m+1:=⟨n-1,by omega⟩
 have:=G3 hs n1 e1 e2.symm m 1 15 p (by omega) (by omega) hb
 rw[Nat.div_eq_of_lt n3]at this
 exact this
theorem E9 {l:List Int} {s:Nat} (o:AH (vh l) s):s<l.length∧1≤l.getD s 0:=by
 have hs:s<l.length:=by have:=o.lt;rwa [za]at this
 obtain⟨n,v,g,n1,_⟩:=o
 have g2:(vh l)[s]?=some (yM l s):=by
  unfold vh
  rw[uV,SG hs];rfl
 rw[g2]at g
 have g3:=uC g
 unfold yM at g3
 refine⟨hs, ?_⟩
 apply Sx
 intro c
 rw[if_neg c]at g3
 have:=SI Prod.fst g3
 simp at this
 omega
theorem DZ {most:Int} (d:Nat):∀(n:Nat) (out:List Nat),(out.length:Int)+n≤most→xh most d n out=.ok (I8 d n out)
 |0,out,h=>rfl
 | n + 1, out, h => by
   rw[xh,if_neg (by omega),I8]
   exact DZ d n _ (by simp;omega)
structure Bp (l:List Int):Prop where
 left:0≤vE l 15
 OY:∀y∈l,0≤y∧y<16
theorem Bp.sym {l:List Int} (b:Bp l) {t:ByteArray} {s p:Nat} (o:AH (vh l) s) (hb:zj t p (vn (vh l) s)):xI t l 15 1 0 p=some ((s:Int),p+(vn (vh l) s).length):=
 K8 b.left b.OY (E9 o).1 (E9 o).2 hb
theorem F5 (o:List Nat) (t:Tok):o.length≤(vS o t).length:=by
 unfold vS
 split
 · simp
 · rw[Co];omega
theorem F6:∀(ts:List Tok) (o:List Nat),o.length≤(xC ts o).length
 |[],o=>uM _
 |t::r,o=>u7 (F5 o t) (F6 r _)
theorem Ai {t : ByteArray} {la lb : List Int} (bA : Bp la) (bB : Bp lb) (o256 : AH (vh la) 256) {most : Int} : ∀ (ts : List Tok) (k p : Nat) (out : List Nat), zj t p (vV (vh la) (vh lb) ts ++ vn (vh la) 256) → (∀ x ∈ ts, Hd (vh la) (vh lb) x) → vL out.length ts = true → ((xC ts out).length : Int) ≤ most → ts.length < k →
 wz t most la lb k p out=.ok (p+(vV (vh la) (vh lb) ts++vn (vh la) 256).length,xC ts out)
 |ts,0,p,out,hb,ok,hm,hl,hk=>by omega
 | [], k + 1, p, out, hb, ok, hm, hl, hk => by
   have hb':zj t p (vn (vh la) 256):=hb
   have s:=bA.sym o256 hb'
   rw[wz,s]
   simp only
   rw[if_neg (by omega),if_pos (by omega)]
   rfl
 | x :: r, k + 1, p, out, hb, ok, hm, hl, hk => by
   have ox:=ok x (by simp)
   have e:vV (vh la) (vh lb) (x::r)++vn (vh la) 256=vI (vh la) (vh lb) x++(vV (vh la) (vh lb) r++vn (vh la) 256):=by
    unfold vV;rw[Sj,Sp]
   rw[e]at hb ⊢
   obtain⟨h1,h2⟩:=hb.app
   have gl:=F6 r (vS out x)
   have hl':((xC r (vS out x)).length:Int)≤most:=hl
   rw[vL]at hm
   cases hst:wq out.length x with
   |none=>rw[hst]at hm;cases hm
   | some s' =>
     rw[hst]at hm
     simp only at hm
     by_cases k8:8192<s'
     · rw[if_pos k8]at hm;cases hm
     rw[if_neg k8]at hm
     unfold wq at hst
     have rec_:s'=((vS out x).length:Nat)→wz t most la lb k (p+(vI (vh la) (vh lb) x).length) (vS out x)=.ok (p+(vI (vh la) (vh lb) x++(vV (vh la) (vh lb) r++vn (vh la) 256)).length,xC r (vS out x)):=fun es=>by
      have:=Ai bA bB o256 r k _ (vS out x) h2 (fun y hy=>ok y (by simp [hy])) (by rw[←es];exact hm) hl' (by simp at hk;omega)
      rw[this, @vb _ (vI _ _ _),uL]
     rw[xC]
     by_cases c0:x.len=0
     · rw[if_pos c0]at hst
       by_cases c:x.lit<0∨255<x.lit∨x.vU≠0
       · rw[if_pos c]at hst;cases hst
       rw[if_neg c]at hst
       obtain rfl:=uC hst
       have tb:vI (vh la) (vh lb) x=vn (vh la) x.lit.toNat:=by rw[vI,if_pos c0]
       rcases ox with ⟨_,q2,q3⟩|⟨q,_⟩
       · have es:vS out x=out++[x.lit.toNat]:=by unfold vS;rw[if_pos c0]
         rw[es]at gl hl' rec_ ⊢
         rw[vb,SL]at gl rec_
         rw[tb]at h1 rec_ ⊢
         have s:=bA.sym q3 h1
         rw[wz,s]
         simp only
         have tl:((x.lit.toNat:Nat):Int)<256:=by omega
         rw[if_pos tl,if_neg (by omega)]
         have tn:(((x.lit.toNat:Nat):Int)).toNat=x.lit.toNat:=by omega
         rw[tn]
         exact rec_ (by push_cast;rfl)
       · omega
     · rw[if_neg c0]at hst
       by_cases c:x.len<3∨258<x.len∨x.vU<1∨32768<x.vU∨(out.length:Int)<x.vU∨x.lit≠0
       · rw[if_pos c]at hst;cases hst
       rw[if_neg c]at hst
       obtain rfl:=uC hst
       obtain⟨L,hL⟩:∃y:Nat,x.len=y:=Sk (by omega)
       obtain⟨D,hD⟩:∃y:Nat,x.vU=y:=Sk (by omega)
       have Lt:x.len.toNat=L:=by omega
       have Dt:x.vU.toNat=D:=by omega
       rcases ox with ⟨q,_⟩|⟨_,_,_,_,q5,q6⟩
       · exact absurd q c0
       rw[Lt]at q5
       rw[Dt]at q6
       have es:vS out x=I8 D L out:=by unfold vS;rw[if_neg c0,Lt,Dt]
       have cl:=Co D L out
       have tb:vI (vh la) (vh lb) x=vn (vh la) (xn L)++(vz (z5 L) (zm L)++(vn (vh lb) (xN D)++vz (Aj D) (zk D))):=by rw[vI,if_neg c0,Lt,Dt]
       rw[es]at gl hl' rec_ ⊢
       rw[tb]at h1 rec_ ⊢
       obtain⟨i1,i2⟩:=h1.app
       obtain⟨i3,i4⟩:=i2.app
       obtain⟨i5,i6⟩:=i4.app
       have s1:=bA.sym q5 i1
       have lb_:=Cs (k:=L) (by omega) (by omega)
       have db_:=EU (k:=D) (by omega) (by omega)
       have ls:=yk (k:=L) (by omega) (by omega)
       have ds:=yh (k:=D) (by omega) (by omega)
       obtain⟨a,b,hab⟩:=Aq ls.1 ls.2.1
       obtain⟨a',b',hab'⟩:=zC ds.1
       have ea:vy (lenOf (xn L))=a:=by rw[hab];rfl
       have eb:zm L=b:=by unfold zm;rw[hab];rfl
       have ea':vy (vK (xN D))=a':=by rw[hab'];rfl
       have eb':zk D=b':=by unfold zk;rw[hab'];rfl
       have v1:=i3.put lb_.2
       have v2:=i6.put db_.2
       have pl:∀v n,(vz v n).length=n:=fun v n=>by unfold vz;exact vH v n 0
       rw[pl]at i5 v2
       have s2:=bB.sym q6 i5
       have eL:a+z5 L=L:=by unfold z5;rw[ea];omega
       have eD:a'+Aj D=D:=by unfold Aj;rw[ea'];omega
       rw[wz,s1]
       simp only
       rw[if_neg (by omega),if_neg (by omega)]
       have tn:(((xn L:Nat):Int)).toNat=xn L:=by omega
       have tn2:(((xN D:Nat):Int)).toNat=xN D:=by omega
       have cp:xJ t most lb (xn L) (p+(vn (vh la) (xn L)).length) out=.ok (p+(vn (vh la) (xn L)++(vz (z5 L) (zm L)++(vn (vh lb) (xN D)++vz (Aj D) (zk D)))).length,I8 D L out):=by
        unfold xJ
        rw[hab]
        simp only
        rw[←eb,if_pos v1.2,s2]
        simp only
        rw[tn2,hab']
        simp only
        rw[←eb',v2.1,v1.1,eL,eD,if_pos ⟨v2.2,by omega⟩,DZ D L out (by omega)]
        simp only[vb,pl,Except.ok.injEq,uH,and_true]
        omega
       rw[tn,cp]
       simp only
       exact rec_ (by rw[cl,hL];push_cast;rfl)
theorem Bp.Ku {C l:List Int} {K k:Nat} (hC:∀y∈C,0≤y∧y≤2147483647) (h2:2≤C.length) (hl:C.length≤288) (hk:k≤C.length) (hk1:1≤k) (r:wU 15 K (wN C)) (e:l=yA (we C K) k):Bp l∧((∃y∈C,0<y)→vF l=0)∧((∀y∈C,¬0<y)→∀y∈l,y=0):=by
 obtain⟨a,b,c,d,l0⟩:=CO (m:=0) hC h2 hl hk hk1 r e
 obtain⟨f1,f2,f3,f4,f5⟩:=yi hC h2 hl (by omega) r
 refine⟨⟨l0,b⟩,fun ex=> ?_,fun nn y hy=> ?_⟩
 · rw[xS (by omega) (by omega) b l0,if_pos]
   rw[e,Cp (fun y hy=>(f2 y hy).1) k 15]
   exact f4 ex
 · rw[e,f5 nn]at hy
   exact SJ (List.mem_of_mem_take hy)
theorem BQ:∀(l:List Int) (a:Int),(∀y∈l,y=0)→K7 l a=a
 |[],a,h=>rfl
 | y :: l, a, h => by
   have:=h y (by simp)
   subst this
   rw[K7]
   first
    |exact BQ l a fun z hz=>h z (by simp [hz])
    |(simp;exact BQ l a fun z hz=>h z (by simp [hz]))
theorem A7 {t:ByteArray} {Lc:List Int} (bk:Bp Lc) (many:Nat):∀(q acc:List Int) (f p:Nat),zj t p (yH (vh Lc) q)→(∀y∈q,AH (vh Lc) y.toNat)→(∀y∈q,0≤y∧y<16)→acc.length+q.length=many→q.length<f→wc t Lc many f acc p=some (acc++q,p+(yH (vh Lc) q).length)
 |q,acc,0,p,hb,ok,hr,hm,hf=>by omega
 | [], acc, f + 1, p, hb, ok, hr, hm, hf => by
   simp at hm
   rw[wc,if_neg (by omega),if_neg (by omega)]
   simp [yH]
 | y :: q, acc, f + 1, p, hb, ok, hr, hm, hf => by
   have e:yH (vh Lc) (y::q)=vn (vh Lc) y.toNat++yH (vh Lc) q:=by unfold yH;rw[Sj]
   rw[e]at hb ⊢
   obtain⟨h1,h2⟩:=hb.app
   have s:=bk.sym (ok y (by simp)) h1
   have yr:=hr y (by simp)
   have ty:((y.toNat:Nat):Int)=y:=by omega
   simp only[Sc]at hm hf
   rw[wc,if_pos (by omega),s]
   simp only
   rw[ty]
   have ag:xy t y acc (p+(vn (vh Lc) y.toNat).length)=some (y,1,p+(vn (vh Lc) y.toNat).length):=by
    unfold xy
    rw[if_neg (by omega),if_neg (by omega),if_neg (by omega)]
   rw[ag]
   simp only
   have r:=A7 bk many q (acc++[y]) f _ h2 (fun z hz=>ok z (by simp [hz])) (fun z hz=>hr z (by simp [hz])) (by simp;omega) (by omega)
   have e1:List.replicate 1 y=[y]:=rfl
   rw[e1,r,vb,←uL,Sp];rfl
def DR (L:List Int):List Int→List Int→List Int
 |[],o=>o
 |s::r,o=>DR L r (o.set s.toNat (L.getD s.toNat 0))
theorem GB {t:ByteArray} {L:List Int} (hr:∀y∈L,0≤y∧y<8):∀(os:List Int) (p:Nat) (o:List Int),zj t p (zo (os.map fun s=>L.getD s.toNat 0))→(∀s∈os,s.toNat<L.length)→BG t os p o=DR L os o
 |[],p,o,hb,hs=>rfl
 | s :: os, p, o, hb, hs => by
   have e:zo ((s::os).map fun s=>L.getD s.toNat 0)=vz (L.getD s.toNat 0).toNat 3++zo (os.map fun s=>L.getD s.toNat 0):=by unfold zo;rw[Sl,Sj]
   rw[e]at hb
   obtain⟨h1,h2⟩:=hb.app
   have hl:=hs s (by simp)
   have yr:0≤L.getD s.toNat 0∧L.getD s.toNat 0<8:=hr _ (by rw[Sb,Sd hl];exact Su hl)
   have v:=h1.put (by omega)
   have pl:(vz (L.getD s.toNat 0).toNat 3).length=3:=by unfold vz;exact vH _ _ _
   rw[pl]at h2
   rw[BG,DR,v.1,GB hr os _ _ h2 (fun z hz=>hs z (by simp [hz]))]
   congr 2;omega
theorem Gz (L:List Int):∀(os o:List Int),(DR L os o).length=o.length
 |[],o=>rfl
 |s::os,o=>by rw[DR,Gz L os,Sz]
theorem Gy (L : List Int) : ∀ (os o : List Int) (j : Nat), j < o.length → (DR L os o).getD j 0 = if (∃ s ∈ os, s.toNat = j) then L.getD j 0 else o.getD j 0
 |[],o,j,hj=>by simp [DR]
 | s :: os, o, j, hj => by
   rw[DR,Gy L os _ j (by rw[Sz];exact hj)]
   by_cases c:∃s∈os,s.toNat=j
   · rw[if_pos c,if_pos (by obtain⟨u,hu,e⟩:=c;exact⟨u,by simp [hu],e⟩)]
   · rw[if_neg c]
     by_cases e:s.toNat=j
     · subst e
       rw[if_pos ⟨s,by simp,rfl⟩,Sb,Sr,if_pos rfl,if_pos hj];rfl
     · rw[getD_set_ne e,if_neg]
       rintro ⟨u,hu,e2⟩
       rcases u6.1 hu with q|q
       · subst q;exact e e2
       · exact c ⟨u,q,e2⟩
theorem Jm:∀j:Nat,j<19→∃i:Nat,i<19∧vC[i]?=some (j:Int):=by
 intro j hj
 have:∀j:Nat,j<19→∃i:Nat,i<19∧vC[i]?=some (j:Int):=by decide
 exact this j hj
theorem Ky {L : List Int} (hl : L.length = 19) (h0 : ∀ y ∈ L, 0 ≤ y) : DR L (vC.take (vO (vC.map fun s => L.getD s.toNat 0) 4 19)) (List.replicate 19 0) = L := by
 apply List.ext_getElem?
 intro j
 have fl:=Gz L (vC.take (vO (vC.map fun s=>L.getD s.toNat 0) 4 19)) (List.replicate 19 0)
 rw[Ss]at fl
 by_cases hj:j<19
 · have g:=Gy L (vC.take (vO (vC.map fun s=>L.getD s.toNat 0) 4 19)) (List.replicate 19 0) j (by simpa using hj)
   rw[Sd (by omega),Sd (by omega)]
   rw[Sb,Sd (by omega)]at g
   congr 1
   have g':(DR L (vC.take (vO (vC.map fun s=>L.getD s.toNat 0) 4 19)) (List.replicate 19 0))[j]'(by omega)=_:=g
   rw[g']
   have e:L.getD j 0=L[j]'(by omega):=by rw[Sb,Sd (by omega)];rfl
   split
   · exact e
   · rename_i c
     rw[zV hj]
     obtain⟨i,hi,oi⟩:=Jm j hj
     have hk:vO (vC.map fun s=>L.getD s.toNat 0) 4 19≤i:=by
      apply Sx
      intro q
      refine c ⟨(j:Int), ?_,by omega⟩
      refine uQ (i:=i) ?_
      rw[u9,if_pos (by omega),oi]
     have z:=yy (vC.map fun s=>L.getD s.toNat 0) 4 19 i hk hi
     have tj:((j:Nat):Int).toNat=j:=by omega
     rw[Sb,uV,oi]at z
     simp only[Sg,Option.getD_some,tj]at z
     have nn:=h0 _ (Su (l:=L) (n:=j) (by omega))
     omega
 · rw[Sq (by omega),Sq (by omega)]
theorem LN {t : ByteArray} {ts : List Tok} {KA KB KC : Nat} {la lb Lc : List Int} (ok : BV ts KA KB KC la lb Lc) (hb : zj t 0 (vZ ts la lb Lc)) (hm : vL 0 ts = true) {most : Int} (hl : ((xC ts []).length : Int) ≤ most) : Ak t most 3 [] = .ok ((vZ ts la lb Lc).length, xC ts []) ∧ vm t 0 1 = 1 ∧ vm t 1 2 = 2 ∧ 3 ≤ 8 * t.size := by
 obtain⟨Ib,hn,tok,ra,rb,ea,eb,hall,rc,ec,hrow,ca,cb,cc,zI,Lq,En⟩:=ok
 obtain⟨a1,a2,a3⟩:=H6 ts hn
 obtain⟨b1,b2⟩:=H7 ts hn
 obtain⟨x1,x2,x3,x4,x5⟩:=CO (m:=0) a2 (by omega) (by omega) (by omega) (by omega) ra ea
 obtain⟨y1,y2,y3,y4,y5⟩:=CO (m:=0) b2 (by omega) (by omega) (by omega) (by omega) rb eb
 obtain⟨bkA,chA,_⟩:=Bp.Ku a2 (by omega) (by omega) (by omega) (by omega) ra ea
 obtain⟨bkB,chB,zB⟩:=Bp.Ku b2 (by omega) (by omega) (by omega) (by omega) rb eb
 have c1:(xj (la++lb) (List.replicate 19 0)).length=19:=by rw[AQ,Ss]
 have c2:∀y∈xj (la++lb) (List.replicate 19 0),0≤y∧y≤2147483647:=fun y hy=>by
  have:=AR (la++lb) _ 0 (by omega) (zg 19) y hy
  rw[vb]at this
  omega
 obtain⟨f1,f2,f3,f4,f5⟩:=yi c2 (by omega) (by omega) (by omega) rc
 rw[←ec]at f1 f2 f3 f4 f5
 have lLc:Lc.length=19:=by omega
 have hit:=CI (la++lb) (List.replicate 19 0) (fun y hy=>(zg 19 y hy).1) (by rw[Ss])
 have exC:∃y∈xj (la++lb) (List.replicate 19 0),0<y:=by
  obtain⟨z,hz⟩:=List.exists_mem_of_ne_nil (la++lb) (fun q=>by
   have:=SI List.length q
   rw[vb,Se]at this
   omega)
  have h:=hit z hz (hall z hz)
  refine⟨_, ?_,show 0<(xj (la++lb) (List.replicate 19 0)).getD z.toNat 0 by omega⟩
  have zl:z.toNat<(xj (la++lb) (List.replicate 19 0)).length:=by have:=hall z hz;omega
  rw[Sb,Sd zl]
  exact Su zl
 have l0:=f4 exC
 have r16:∀y∈Lc,0≤y∧y<16:=fun y hy=>by have:=f2 y hy;omega
 have bkC:Bp Lc:=⟨by omega,r16⟩
 have chC:vF Lc=0:=by rw[xS (by omega) (by omega) r16 (by omega),if_pos l0]
 have exA:∃y∈dA ts,0<y:=by
  have zl:256<(dA ts).length:=by omega
  refine⟨(dA ts).getD 256 0, ?_,by omega⟩
  rw[Sb,Sd zl]
  exact Su zl
 have chA':=chA exA
 have chB':¬(vF lb≠0∧xH lb=false):=by
  rintro ⟨q1,q2⟩
  by_cases c:∃y∈dB ts,0<y
  · exact q1 (chB c)
  · have:=BQ lb 0 (zB fun y hy q=>c ⟨y,hy,q⟩)
    unfold xH at q2
    rw[this]at q2
    simp at q2
 obtain⟨R,hR⟩:∃R,R=vC.map (fun o=>Lc.getD o.toNat 0):=⟨_,rfl⟩
 obtain⟨k,hk⟩:∃k,k=vO R 4 19:=⟨_,rfl⟩
 have uk:=wL R 4 19
 rw[←hk]at uk
 have eD:vZ ts la lb Lc=vz 5 3++(vz (la.length-257) 5++(vz (lb.length-1) 5++(vz (k-4) 4++(zo (R.take k)++(yH (vh Lc) (la++lb)++(vV (vh la) (vh lb) ts++vn (vh la) 256)))))):=by rw[hk,hR];rfl
 rw[eD]at hb ⊢
 have pl:∀v n,(vz v n).length=n:=fun v n=>by unfold vz;exact vH v n 0
 obtain⟨h1,g1⟩:=hb.app
 rw[pl]at g1
 obtain⟨h2,g2⟩:=g1.app
 rw[pl]at g2
 obtain⟨h3,g3⟩:=g2.app
 rw[pl]at g3
 obtain⟨h4,g4⟩:=g3.app
 rw[pl]at g4
 obtain⟨h5,g5⟩:=g4.app
 obtain⟨h6,g6⟩:=g5.app
 have v2:=h2.put (by omega)
 have v3:=h3.put (by omega)
 have v4:=h4.put (by omega)
 have rl:(zo (R.take k)).length=3* k:=by rw[Bh,SM,hR,List.length_map];show 3* min k 19=_;omega
 rw[rl]at g5 g6 h6
 have rb5:zo (R.take k)=zo ((vC.take k).map fun s=>Lc.getD s.toNat 0):=by rw[hR,List.map_take]
 have h5':=h5
 rw[rb5]at h5'
 have own:=GB hrow (vC.take k) _ (List.replicate 19 0) h5' (fun s hs=>by have:=Eo s (List.mem_of_mem_take hs);omega)
 have back:=Ky lLc (fun y hy=>(hrow y hy).1)
 rw[←hR,←hk]at back
 rw[back]at own
 have okr:∀y∈la++lb,0≤y∧y<16:=fun y hy=>by
  rcases SH.1 hy with q|q
  · exact x2 y q
  · exact y2 y q
 have h5l:=h5.1
 rw[rl]at h5l
 have h6l:=h6.1
 have g6l:=g6.1
 have ll:(la++lb).length=la.length+lb.length:=vb
 have all:=A7 bkC (la.length+lb.length) (la++lb) [] (8* t.size+1) _ h6 zI okr (by simp) (by
  have:∀D:List Int,(∀y∈D,AH (vh Lc) y.toNat)→D.length≤(yH (vh Lc) D).length:=by
   intro D
   induction D with
   |nil=>intro _;simp
   | cons y D ih =>
     intro h
     have:=ih fun z hz=>h z (by simp [hz])
     obtain⟨n,v,_,q1,q2,q3,q4⟩:=(h y (by simp)).bits
     unfold yH at *
     rw[Sj,vb,q4,wg,Sc];omega
  have:=this _ zI
  omega)
 have cod:=Ai bkA bkB En ts (8* t.size+1) _ [] g6 Lq hm hl (by
  have:∀T:List Tok,(∀x∈T,Hd (vh la) (vh lb) x)→T.length≤(vV (vh la) (vh lb) T).length:=by
   intro T
   induction T with
   |nil=>intro _;simp
   | cons x T ih =>
     intro h
     have:=ih fun z hz=>h z (by simp [hz])
     have o:=h x (by simp)
     have one:1≤(vI (vh la) (vh lb) x).length:=by
      rcases o with ⟨h1,h2,h3⟩|⟨h1,h2,h3,h4,h5,h6⟩
      · obtain⟨n,v,_,q1,q2,q3,q4⟩:=h3.bits
        rw[vI,if_pos h1,q4,wg];omega
      · obtain⟨n,v,_,q1,q2,q3,q4⟩:=h5.bits
        rw[vI,if_neg (by omega),q4,vb,wg];omega
     unfold vV at *
     rw[Sj,vb,Sc];omega
  have:=this _ Lq
  rw[vb]at g6l
  omega)
 have v1:=h1.put (by omega)
 simp only[uR,Nat.reduceAdd,List.nil_append]at v1 v2 v3 v4 own all cod h5l
 have n1:vm t 3 5+257=la.length:=by rw[v2.1];omega
 have n2:vm t 8 5+1=lb.length:=by rw[v3.1];omega
 have n3:vm t 13 4+4=k:=by rw[v4.1];omega
 have lens:xF t (la.length+lb.length) 13=some (la++lb,17+3* k+(yH (vh Lc) (la++lb)).length):=by
  unfold xF
  simp only[Nat.reduceAdd,n3]
  rw[if_pos (by omega),if_pos (by omega),own,if_pos chC,all]
 have tk:(la++lb).take la.length=la:=List.take_left' rfl
 have dr:(la++lb).drop la.length=lb:=List.drop_left' rfl
 have g256:la.getD 256 0≠0:=by have:=(E9 En).2;omega
 refine⟨?_, ?_, ?_,by omega⟩
 · unfold Ak
   simp only[Nat.reduceAdd,n1,n2]
   rw[if_pos (by omega),if_neg (by omega),lens]
   simp only[tk,dr]
   rw[if_neg (by rintro (q|q|q);exact q chA';exact g256 q;exact chB' q),cod]
   simp only[vb,pl,rl,Except.ok.injEq,uH,and_true]
   omega
 · have b0:=h1.2 0 (by rw[pl];omega)
   have e0:(vz 5 3).getD 0 0=1:=by decide
   rw[e0]at b0
   simp [vm,b0]
 · have b1:=h1.2 1 (by rw[pl];omega)
   have b2:=h1.2 2 (by rw[pl];omega)
   have e1:(vz 5 3).getD 1 0=0:=by decide
   have e2:(vz 5 3).getD 2 0=1:=by decide
   rw[e1]at b1
   rw[e2]at b2
   simp only[uR]at b1 b2
   simp [vm,b1,b2]
theorem Gi {s:ByteArray} (hs:s.size≤300) {KA KB KC:Nat} {la lb Lc:List Int} (ok:BV (tokens s) KA KB KC la lb Lc) {most:Int} (hm1:(s.size:Int)≤most) (hm2:most≤8192):vX (bytesOf (vN (vZ (tokens s) la lb Lc))) most=.ok (preB s s.size,(bytesOf (vN (vZ (tokens s) la lb Lc))).size):=by
 obtain⟨t1,t2,t3,t4⟩:=yX s hs s.size 0 (by omega) (by omega)
 have t3':vL 0 (tokens s)=true:=t3
 have t4':xC (tokens s) []=preB s s.size:=t4
 have hb:=DX (vZ (tokens s) la lb Lc) (LO _ _ _ _)
 obtain⟨d,v1,v2,sz⟩:=LN ok hb t3' (most:=most) (by rw[t4',xp];omega)
 rw[t4']at d
 have psz:(bytesOf (vN (vZ (tokens s) la lb Lc))).size=((vZ (tokens s) la lb Lc).length+7)/8:=by rw[vW,xP]
 generalize bytesOf (vN (vZ (tokens s) la lb Lc))=T at *
 unfold vX
 rw[if_neg (by omega)]
 have bl:wB T most 0 []=.ok (true,(vZ (tokens s) la lb Lc).length,preB s s.size):=by
  unfold wB
  simp only[uR]
  rw[if_pos sz,v2]
  simp only[Nat.reduceEqDiff,ve,if_true,reduceIte]
  rw[d]
  simp [v1]
 rw[v5,bl]
 simp only[if_true,psz]
theorem HK (s:ByteArray):bytesOf (preB s s.size)=s:=by
 have:preB s s.size=O5 s:=by
  apply List.ext_getElem?
  intro i
  by_cases h:i<s.size
  · have g:=Bq (O5 s) (O6 s) i
    rw[BX]at g
    have l1:=II s
    rw[Sd (by rw[xp];exact h),Sd (by omega)]
    congr 1
    have a:=GL s h
    rw[Sb,Sd (by rw[xp];exact h)]at a
    rw[Sb,Sd (by omega)]at g
    exact a.trans g
  · rw[Sq (by rw[xp];omega),Sq (by rw[II];omega)]
 rw[this,BX]
theorem Lg {h:H} (hf:h.floor≤h.next):WX h (h.alloc [.aO,.int .i64 0]) h.next [] .aO:=by
 refine⟨⟨by rw[vx rfl];rfl,wm.nil,by simpa using hf,by simp;omega,by simp [AV.id?],fun b hb=>by simp [vN,wW]at hb⟩,(Ext.refl _).alloc _,uM _,by simp,fun j hj=>by simp [AV.id?]at hj⟩
def wH (n:Nat):List Nat:=vz 1 3++(List.replicate 5 0++(vz n 16++vz (65535-n) 16))
def xf (s:ByteArray):ByteArray:=bytesOf (vN (wH s.size))++s
theorem Bm (s:ByteArray):(xf s).size=s.size+5:=by
 unfold xf
 rw[ByteArray.size_append,vW,xP]
 simp [wH,vz,vH];omega
def wK:List Int:=List.replicate 30 5
theorem CR:vE vG 15=0:=by decide+kernel
theorem D6:vE wK 15=2048:=by decide+kernel
theorem xB:vG.length=288:=by decide+kernel
theorem yO:∀y∈vG,1≤y∧y<16:=by
 have:vG.all (fun y=>decide (1≤y∧y<16))=true:=by decide+kernel
 intro y hy
 simpa using List.all_eq_true.1 this y hy
theorem F8:∀y∈wK,1≤y∧y<16:=fun y hy=>by have:=SJ hy;omega
theorem xz:Bp vG:=⟨by rw[CR];omega,fun y hy=>by have:=yO y hy;omega⟩
theorem zP:Bp wK:=⟨by rw[D6];omega,fun y hy=>by have:=F8 y hy;omega⟩
theorem AK {l:List Int} (b:Bp l) (hr:∀y∈l,1≤y∧y<16) {s:Nat} (hs:s<l.length):AH (vh l) s:=by
 refine Fa b.left b.OY hs ?_
 rw[Sb,Sd hs]
 exact(hr _ (Su hs)).1
theorem D7 {t:Tok} (o:yc t):Hd (vh vG) (vh wK) t:=by
 refine Kv (ts:=[]) o (fun h=> ?_) (fun h=> ?_) (fun h=> ?_)
 · rcases o with ⟨_,b,c⟩|⟨a,_⟩
   · exact AK xz yO (by rw[xB];omega)
   · omega
 · rcases o with ⟨a,_⟩|⟨a,b,_⟩
   · exact absurd a h
   · have:=yk (k:=t.len.toNat) (by omega) (by omega)
     exact AK xz yO (by rw[xB];omega)
 · rcases o with ⟨a,_⟩|⟨a,b,c,d⟩
   · exact absurd a h
   · have:=yh (k:=t.vU.toNat) (by omega) (by omega)
     have l:wK.length=30:=by simp [wK]
     exact AK zP F8 (by rw[l];omega)
def wh (ts:List Tok):List Nat:=vz 3 3++(vV (vh vG) (vh wK) ts++vn (vh vG) 256)
theorem xD {bs:List Nat}:(bytesOf (vN bs)).size=(bs.length+7)/8:=by rw[vW,xP]
def shorter (a b:ByteArray):ByteArray:=if a.size<b.size then a else b
def DO (s:ByteArray) (la lb Lc:List Int):ByteArray:=bytesOf (vN (vZ (tokens s) la lb Lc))
def zc (s:ByteArray):ByteArray:=bytesOf (vN (wh (tokens s)))
def vQ (s:ByteArray) (la lb Lc:List Int):ByteArray:=shorter (DO s la lb Lc) (shorter (zc s) (xf s))
theorem DF (s:ByteArray) (hs:s.size≤300):(tokens s).length≤300∧(∀t∈tokens s,yc t)∧vL 0 (tokens s)=true∧xC (tokens s) []=preB s s.size:=by
 obtain⟨t1,t2,t3,t4⟩:=yX s hs s.size 0 (by omega) (by omega)
 exact⟨by unfold tokens;omega,t2,t3,t4⟩
theorem LR (ts:List Tok):∀b∈wh ts,b≤1:=by
 intro b h
 unfold wh at h
 simp only[SH]at h
 rcases h with h|h|h
 · exact xG _ _ _ b h
 · obtain⟨y,_,hy⟩:=List.mem_flatMap.1 h
   exact Cg _ _ y b hy
 · exact xM _ _ b h
theorem Hc {E D : List (Int × Int)} : ∀ T : List Tok, (∀ x ∈ T, Hd E D x) → T.length ≤ (vV E D T).length
 |[],_=>by simp
 | x :: T, h => by
   have:=Hc (E:=E) (D:=D) T fun z hz=>h z (by simp [hz])
   have o:=h x (by simp)
   have one:1≤(vI E D x).length:=by
    rcases o with ⟨h1,h2,h3⟩|⟨h1,h2,h3,h4,h5,h6⟩
    · obtain⟨n,v,_,q1,q2,q3,q4⟩:=h3.bits
      rw[vI,if_pos h1,q4,wg];omega
    · obtain⟨n,v,_,q1,q2,q3,q4⟩:=h5.bits
      rw[vI,if_neg (by omega),q4,vb,wg];omega
   unfold vV at *
   rw[Sj,vb,Sc];omega
theorem Gj {s:ByteArray} (hs:s.size≤300) {most:Int} (hm1:(s.size:Int)≤most) (hm2:most≤8192):vX (zc s) most=.ok (preB s s.size,(zc s).size):=by
 obtain⟨t1,t2,t3,t4⟩:=DF s hs
 have hb:=DX (wh (tokens s)) (LR _)
 have psz:(zc s).size=((wh (tokens s)).length+7)/8:=xD
 change zj (zc s) 0 (wh (tokens s))at hb
 generalize zc s=T at *
 have hb':zj T 0 (vz 3 3++(vV (vh vG) (vh wK) (tokens s)++vn (vh vG) 256)):=hb
 obtain⟨h1,h2⟩:=hb'.app
 have pl:(vz 3 3).length=3:=rfl
 rw[pl,uR]at h2
 have Lq:∀x∈tokens s,Hd (vh vG) (vh wK) x:=fun x hx=>D7 (t2 x hx)
 have g:=Hc (tokens s) Lq
 have h2l:=h2.1
 rw[vb]at h2l
 have cod:=Ai (most:=most) xz zP (AK xz yO (by rw[xB];omega)) (tokens s) (8* T.size+1) 3 [] h2 Lq t3 (by rw[t4,xp];exact hm1) (by omega)
 have fl:3+(vV (vh vG) (vh wK) (tokens s)++vn (vh vG) 256).length=(wh (tokens s)).length:=by
  unfold wh;rw[@vb _ (vz 3 3),pl]
 rw[fl,t4]at cod
 have v0:vm T 0 1=1:=by
  have b0:=h1.2 0 (by rw[pl];omega)
  have e0:(vz 3 3).getD 0 0=1:=by decide
  rw[e0]at b0
  simp [vm,b0]
 have v1:vm T 1 2=1:=by
  have b1:=h1.2 1 (by rw[pl];omega)
  have b2:=h1.2 2 (by rw[pl];omega)
  have e1:(vz 3 3).getD 1 0=1:=by decide
  have e2:(vz 3 3).getD 2 0=0:=by decide
  rw[e1]at b1
  rw[e2]at b2
  simp only[uR]at b1 b2
  simp [vm,b1,b2]
 have sz:3≤8* T.size:=by have:=h1.1;rw[pl]at this;omega
 unfold vX
 rw[if_neg (by omega)]
 have bl:wB T most 0 []=.ok (true,(wh (tokens s)).length,preB s s.size):=by
  unfold wB
  simp only[uR]
  rw[if_pos sz,v1]
  simp only[Nat.reduceEqDiff,ve,if_true,reduceIte]
  have cod':wz T most vG (List.replicate 30 5) (8* T.size+1) 3 []=.ok ((wh (tokens s)).length,preB s s.size):=cod
  rw[cod']
  simp [v0]
 rw[v5,bl]
 simp only[if_true,psz]
theorem Dv (a b:ByteArray):shorter a b=a∨shorter a b=b:=by
 unfold shorter;split
 · exact .inl rfl
 · exact .inr rfl
theorem JW {g:H} {w id n b:Nat} {P:List Nat} {x:Nat} (hb:b≤1) (hw:g.get w=some [.aD id 0 (n/8+1) 1,.int .i64 n]) (hi:g.get id=some (ya P)) (hl:P.length=n/8+1) (hx:P[n/8]?=some x) (hx8:x<256) (hne:id≠w) (hf:g.floor≤w) (hf2:g.floor≤id) (hn:n<1000000):
 ∃e',aK (aQ AP.A) bq (Ls 1 AP.f347.body) [(0,.aC w 0),(1,.int .i64 b)] g=some (.normal,e',(g.set id (ya (P.set (n/8) (x|||b* 2^(n%8))))).set w [.aD id 0 (n/8+1) 1,.int .i64 ((n:Int)+1)]):=by
 have c8:b* 2^(n%8)<256:=by
  have h1:2^(n%8)≤2^7:=Sv (by omega) (by omega)
  have h2:b* 2^(n%8)≤1* 2^7:=Nat.mul_le_mul hb h1
  omega
 have s1:=Mb hb (show n%8<8 by omega)
 have o1:=JX hx8 c8
 have w1:=Rt (n:=b* 2^(n%8)) c8
 have rm:=QJ (a:=n) (n:=8) (by omega)
 have rm':bm .rem (.int .i64 (n:Int)) (.int .i64 8)=some (.int .i64 ((n%8:Nat):Int)):=rm
 have w2:IntKind.wrap .i64 (((n/8+1:Nat):Int)-1)=((n/8:Nat):Int):=by rw[wi (by omega)];omega
 have bl:=MK P
 have gx:=Pj hx
 have st:=QR P (n/8) (x|||b* 2^(n%8))
 have sgn:((n/8:Nat):Int).toNat=n/8:=by omega
 have gw2:(g.set id (ya (P.set (n/8) (x|||b* 2^(n%8))))).get w=some [.aD id 0 (n/8+1) 1,.int .i64 n]:=by rw[vi (fun q=>hne q.symm),hw]
 generalize ya P=BP at *
 generalize b* 2^(n%8)=Y at *
 generalize (x|||Y)=Z at *
 generalize ya (P.set (n/8) Z)=BZ at *
 refine⟨?_, ?_⟩
 rotate_left
 simp (disch:=first|omega|(simp only[wT,Sc,Se,uR,Nat.reduceAdd];first|done|omega|fail)|(simp (disch:=first|omega|(simp only[wT,Sc,Se,uR,Nat.reduceAdd];first|done|omega|fail)|fail)only[wT,Cm,Sg,Sc,Se,uR,Nat.reduceAdd];done)|fail)only[go_sem,vD,Ck,AP.f347,hw,hi,s1,o1,w1,rm',w2,bl,hl,gx,st,sgn,gw2]
 rfl
theorem Mk {h : H} {w b : Nat} {bs : List Nat} {ov : AV} (wr : Wr h w bs ov) (hb : b ≤ 1) (hn : bs.length < 1000000) :
 ∃h' ov',aQ AP.A 347 [.aC w 0,.int .i64 b] h=some (.bL [],h')∧Wr h' w (bs++[b]) ov'∧Hf h w ov h' ov':=by
 obtain⟨gw,ow,fl,JI,ne,H0⟩:=wr
 obtain⟨n,en⟩:∃n,n=bs.length:=⟨_,rfl⟩
 rw[←en]at gw hn
 have pl:=xP bs
 rw[←en]at pl
 have pa:=Ep bs b
 rw[←en]at pa
 obtain⟨P,eP⟩:∃P,P=vN bs:=⟨_,rfl⟩
 rw[←eP]at ow H0 pa pl
 have wlt:=h.lt _ _ gw
 obtain ⟨g, ov', id, P', x, s1, hw, hi, hl, hx, hid, hne, hf, hf2, hflx, hP, hk, hx8, hids, hbt⟩ : ∃ g ov' id P' x, aK (aQ AP.A) bq (at_ 0 AP.f347.body) [(0, .aC w 0), (1, .int .i64 b)] h = some (.normal, [(0, .aC w 0), (1, .int .i64 b)], g) ∧ g.get w = some [.aD id 0 (n / 8 + 1) 1, .int .i64 n] ∧ g.get id = some (ya P') ∧ P'.length = n / 8 + 1 ∧ P'[n / 8]? = some x ∧ ov' = AV.aD id 0 (n / 8 + 1) 1 ∧ id ≠ w ∧ g.floor = h.floor ∧ h.floor ≤ id ∧ h.next ≤ g.next ∧ v7 P n b = P'.set (n / 8) (x ||| b * 2 ^ (n % 8)) ∧ (∀ i, i < h.next → i ≠ w → ov.id? ≠ some i → g.get i = h.get i) ∧ x < 256 ∧ (ov.id? = some id ∨ h.next ≤ id) ∧ JK P' := by
  have rm:bm .rem (.int .i64 (n:Int)) (.int .i64 8)=some (.int .i64 ((n%8:Nat):Int)):=QJ (a:=n) (n:=8) (by omega)
  by_cases c:n%8=0
  · have cz:((n%8:Nat):Int)=0:=by omega
    obtain⟨v',h',p1,p2,p3,p4,p5,p6⟩:=ow.push JI (z:=1) (m:=1) (by omega) (by omega) [.int .u8 0] rfl rfl (zW (by omega))
    have gw1:h'.get w=some [ov,.int .i64 n]:=by rw[p5 w ne wlt,gw]
    have e1:=p2.1
    rcases p2.2 with ⟨_,q⟩|⟨id,q1,q2,q3,q4⟩
    · omega
    · have hk:P.length+1=n/8+1:=by omega
      rw[hk]at q1
      have qid:id=h.next+1:=by rw[q1]at p6;exact uC p6
      refine⟨h'.set w [v',.int .i64 n],v',id,P++[0],0, ?_, ?_, ?_, ?_, ?_,q1,by omega,by simp [p3],by omega, ?_, ?_, ?_,by omega,.inr (by omega), ?_⟩
      · rw[q1]
        rw[q1]at p1
        have fl':h'.floor≤w:=by omega
        simp (disch:=omega)only[go_sem,vD,AP.f347,Ad,gw,gw1,rm,cz,p1,fl',vA,vi]
      · rw[vA rfl,gw1,q1];rfl
      · rw[vi (by omega),q2,FP];rfl
      · simp;omega
      · rw[So (by omega),show n/8-P.length=0 by omega];rfl
      · simp;omega
      · unfold v7;rw[if_pos c];dsimp only;rw[Sb,So (by omega),show n/8-P.length=0 by omega];rfl
      · intro i hi hiw hio
        rw[vi hiw,p5 i hio hi]
      · intro y hy
        rcases SH.1 hy with q|q
        · exact H0 y q
        · simp at q;omega
  · have cz:¬((n%8:Nat):Int)=0:=by omega
    rcases ow.2 with ⟨_,q⟩|⟨id,q1,q2,q3,q4⟩
    · omega
    · have hk:P.length=n/8+1:=by omega
      rw[hk]at q1
      obtain⟨x,hx⟩:∃x,P[n/8]?=some x:=⟨_,Sd (by omega)⟩
      have hneq:id≠w:=fun q=>ne (by rw[q1,q];rfl)
      refine⟨h,ov,id,P,x, ?_,by rw[gw,q1],q2,hk,hx,q1,hneq,rfl,q3,uM _, ?_,fun _ _ _ _=>rfl,H0 x (uQ hx),.inl (by rw[q1];rfl),H0⟩
      · simp (disch:=first|omega|(simp only[wT,Sc,Se,uR,Nat.reduceAdd];first|done|omega|fail)|(simp (disch:=first|omega|(simp only[wT,Sc,Se,uR,Nat.reduceAdd];first|done|omega|fail)|fail)only[wT,Cm,Sg,Sc,Se,uR,Nat.reduceAdd];done)|fail)only[go_sem,vD,Ck,AP.f347,gw,rm,cz]
      · unfold v7;rw[if_neg c];dsimp only;rw[Sb,hx];rfl
 obtain⟨e',s2⟩:=JW hb hw hi hl hx hx8 hne (by omega) (by omega) hn
 have cs:aQ AP.A 347 [.aC w 0,.int .i64 b] h=some (.bL [],(g.set id (ya (P'.set (n/8) (x|||b* 2^(n%8))))).set w [.aD id 0 (n/8+1) 1,.int .i64 ((n:Int)+1)]):=by
  refine v8 (fn:=AP.f347) (e:=e') (vs:=[]) rfl rfl rfl ?_ rfl
  have hb:AP.f347.body=.seq (at_ 0 AP.f347.body) (Ls 1 AP.f347.body):=rfl
  rw[hb,rI]
  have s1':aK (aQ AP.A) bq (at_ 0 AP.f347.body) (params 0 [.aC w 0,.int .i64 b]) h=some (.normal,[(0,.aC w 0),(1,.int .i64 b)],g):=s1
  rw[s1',sB,s2]
 rw[←hP]at cs
 have ol:(v7 P n b).length=n/8+1:=by rw[hP,Sz,hl]
 refine⟨_,ov',cs,⟨?_, ?_, ?_, ?_, ?_, ?_⟩, ?_, ?_, ?_, ?_⟩
 · rw[vA rfl,vi hne.symm,hw,hid,vb,←en];rfl
 · rw[pa,hid]
   exact⟨by simp [ya,ol],.inr ⟨id,by rw[ol],by rw[vi hne,vA rfl,hi];rfl,by simpa [hf]using hf2,by omega⟩⟩
 · simpa [hf]using fl
 · simp;omega
 · rw[hid];exact fun q=>hne (uC q)
 · rw[pa];exact B7 hb H0
 · simp [hf]
 · simpa using hflx
 · intro i hi1 hi2 hi3
   have:i≠id:=by
    rcases hids with q|q
    · intro q2;exact hi3 (by rw[q,q2])
    · omega
   rw[vi hi2,vi this,hk i hi1 hi2 hi3]
 · intro j hj
   rw[hid]at hj
   obtain rfl:=uC hj
   exact hids
theorem Kb {h:H} {w:Nat} {ov:AV} {v n up N:Nat} (gw:h.get w=some [ov,.int .i64 N]) (hn:n≤up) (hu:up≤16) (hv:v<2^n) (hb:N+n≤65536):aQ AP.A 346 [.aC w 0,.int .i64 v,.int .i64 n,.int .i64 up] h=some (.bool true,h):=by
 have hp:2^n≤2^16:=Sv (by omega) (by omega)
 have s1:oY .shl .i64 1 (n:Int)=some (.int .i64 ((2^n:Nat):Int)):=by
  have:=Bi (a:=1) (s:=n) (by omega) (by omega)
  rwa [Nat.one_mul]at this
 refine tz (fn:=AP.f346) (e:=[(8,.bool true)]) (vs:=[.bool true]) rfl rfl rfl ?_ rfl
 have c1:(0:Int)≤(n:Int):=by omega
 have c2:(n:Int)≤(up:Int):=by omega
 have c3:(0:Int)≤(v:Int):=by omega
 have c4:(v:Int)<((2^n:Nat):Int):=by omega
 have c5:(N:Int)+(n:Int)≤65536:=by omega
 generalize 2^n=M at *
 simp (disch:=omega)only[go_sem,vD,AP.f346,s1,gw,c1,c2,c3,c4,c5]
theorem Eu (w v n:Nat) (hv:v<65536) (hn:n≤16):∀(m i:Nat) (h:H) (bs:List Nat) (ov:AV),i+m=n→Wr h w bs ov→bs.length+m<1000000→
 ∃e' h' ov',Lp AP.A [0,1,17,18] AP.f335L0 [(0,.aC w 0),(1,.int .i64 v),(17,.int .i64 n),(18,.int .i64 i)] h=some (.exit 1,e',h')∧Wr h' w (bs++BJ v i m) ov'∧Hf h w ov h' ov'
 | 0, i, h, bs, ov, hi, wr, hb => by
   obtain rfl:i=n:=by omega
   refine⟨[(0,.aC w 0),(1,.int .i64 v),(17,.int .i64 i),(18,.int .i64 i),(19,.bool false)],h,ov,s6 ?_,by simpa [BJ]using wr,Hf.refl h w ov⟩
   simp (disch:=omega)only[go_sem,vD,AP.f335L0]
 | m + 1, i, h, bs, ov, hi, wr, hb => by
   have q:=Nat.div_le_self v (2^i)
   obtain⟨h1,o1,k1,wr1,f1⟩:=Mk wr (b:=v/2^i%2) (by omega) (by omega)
   obtain⟨e',h',ov',r1,r2,r3⟩:=Eu w v n hv hn m (i+1) h1 _ o1 (by omega) wr1 (by simp;omega)
   have n1:((i+1:Nat):Int)=(i:Int)+1:=by omega
   have s1:=GW (a:=v) (s:=i) (by omega)
   have a1:=FB (n:=v/2^i) (by omega)
   rw[Sp]at r2
   refine⟨e',h',ov',s7 ?_ r1,r2,f1.trans r3⟩
   rw[n1]
   simp (disch:=omega)only[go_sem,vD,AP.f335L0,s1,a1,k1]
theorem xY {h:H} {w:Nat} {bs:List Nat} {ov:AV} (wr:Wr h w bs ov) (v n:Nat) (hn:n≤16) (hv:v<2^n) (hb:bs.length+n≤65536):
 ∃h' ov',aQ AP.A 335 [.aC w 0,.int .i64 v,.int .i64 n] h=some (.int .i64 0,h')∧Wr h' w (bs++vz v n) ov'∧Hf h w ov h' ov':=by
 have hp:2^n≤2^16:=Sv (by omega) hn
 obtain⟨e',h',ov',r1,r2,r3⟩:=Eu w v n (by omega) hn n 0 h bs ov (by omega) wr (by omega)
 have r1':Lp AP.A [0,1,17,18] AP.f335L0 [(0,.aC w 0),(1,.int .i64 v),(17,.int .i64 n),(18,.int .i64 0)] h=some (.exit 1,e',h'):=r1
 clear r1
 have k:=Kb (up:=16) wr.get hn (by omega) hv hb
 refine⟨h',ov',tz (fn:=AP.f335) (e:=[(6,.int .i64 0)]) (vs:=[.int .i64 0]) rfl rfl rfl ?_ rfl,r2,r3⟩
 have k':aQ AP.A 346 [.aC w 0,.int .i64 v,.int .i64 n,.int .i64 16] h=some (.bool true,h):=k
 simp (disch:=omega)only[go_sem,vD,AP.f335,rU,r1',k']
theorem Di (w v:Nat) (A:List AV) (hA:A[1]?=some (.int .i64 v)) (hA2:A.length=2) (c:Nat) (hv:v<65536):∀(m:Nat) (h:H) (bs:List Nat) (ov:AV),m≤15→Wr h w bs ov→bs.length+m<1000000→h.get c=some A→c≠w→ov.id?≠some c→
 ∃e' h' ov',Lp AP.A [0,3,5] AP.f352L0 [(0,.aC w 0),(3,.aC c 0),(5,.int .i64 ((m:Int)-1))] h=some (.exit 1,e',h')∧Wr h' w (bs++yn v m) ov'∧Hf h w ov h' ov'
 | 0, h, bs, ov, hm, wr, hb, hc, hcw, hco => by
   refine⟨[(0,.aC w 0),(3,.aC c 0),(5,.int .i64 (-1)),(26,.bool false)],h,ov,s6 ?_,by simpa [yn]using wr,Hf.refl h w ov⟩
   simp (disch:=omega)only[go_sem,vD,AP.f352L0]
 | m + 1, h, bs, ov, hm, wr, hb, hc, hcw, hco => by
   have q:=Nat.div_le_self v (2^m)
   obtain⟨h1,o1,k1,wr1,f1⟩:=Mk wr (b:=v/2^m%2) (by omega) (by omega)
   have hcl:=h.lt _ _ hc
   obtain⟨e',h',ov',r1,r2,r3⟩:=Di w v A hA hA2 c hv m h1 _ o1 (by omega) wr1 (by simp;omega) (by rw[f1.vY c hcl hcw hco,hc]) hcw (fun q=>by
    rcases f1.ids c q with q|q
    · exact hco q
    · omega)
   have n1:((m+1:Nat):Int)-1=(m:Int):=by omega
   have s1:=GW (a:=v) (s:=m) (by omega)
   have a1:=FB (n:=v/2^m) (by omega)
   rw[Sp]at r2
   refine⟨e',h',ov',s7 ?_ r1,r2,f1.trans r3⟩
   rw[n1]
   simp (disch:=omega)only[go_sem,vD,AP.f352L0,s1,a1,k1,hc,hA,hA2]
theorem Iu {h:H} {w:Nat} {bs:List Nat} {ov:AV} (wr:Wr h w bs ov) (v n:Nat) (hn0:1≤n) (hn:n≤15) (hv:v<2^n) (hb:bs.length+n≤65536):
 ∃h' ov',aQ AP.A 352 [.aC w 0,.agg [.int .i64 n,.int .i64 v]] h=some (.int .i64 0,h')∧Wr h' w (bs++yn v n) ov'∧Hf h w ov h' ov':=by
 have hp:2^n≤2^15:=Sv (by omega) hn
 obtain⟨g,eg⟩:∃g,g=h.alloc [.int .i64 n,.int .i64 v]:=⟨_,rfl⟩
 have hw:=h.lt _ _ wr.get
 have frA:∀i,i<h.next→g.get i=h.get i:=fun i hi=>by rw[eg,vu (by omega)]
 have wr1:Wr g w bs ov:=⟨by rw[frA w hw,wr.get],wr.own.mono (by rw[eg];simp) (fun i q=>frA i (wr.own.lt q).2),by rw[eg];simpa using wr.fl,by rw[eg];have:=wr.JI;simp;omega,wr.ne,wr.H0⟩
 have gc:g.get h.next=some [.int .i64 n,.int .i64 v]:=by rw[eg,vx rfl]
 obtain⟨e',h',ov',r1,r2,r3⟩:=Di w v _ rfl rfl h.next (by omega) n g bs ov hn wr1 (by omega) gc (by omega) (fun q=>by have:=(wr.own.lt q).2;omega)
 have k:aQ AP.A 346 [.aC w 0,.int .i64 v,.int .i64 n,.int .i64 15] g=some (.bool true,g):=Kb (up:=15) wr1.get hn (by omega) hv hb
 refine⟨h',ov',tz (fn:=AP.f352) (e:=[(4,.int .i64 0)]) (vs:=[.int .i64 0]) rfl rfl rfl ?_ rfl,r2,⟨by rw[r3.floor,eg];simp,by have:=r3.next;rw[eg]at this;simp at this;omega,fun i h1 h2 h3=>by rw[r3.vY i (by rw[eg];simp;omega) h2 h3,frA i h1],fun j hj=>by
  rcases r3.ids j hj with q|q
  · exact .inl q
  · rw[eg]at q;simp at q;exact .inr (by omega)⟩⟩
 have c1:¬(n:Int)<1:=by omega
 simp (disch:=omega)only[go_sem,vD,AP.f352,rU,←eg,r1,c1,gc,k]
theorem Iw {h:H} {w:Nat} {bs:List Nat} {ov:AV} (wr:Wr h w bs ov):aQ AP.A 336 [.aC w 0] h=some (.str (bytesOf (vN bs)),h):=by
 have gw:=wr.get
 have b:=FD wr.own
 refine tz (fn:=AP.f336) (e:=[(2,.str (bytesOf (vN bs)))]) (vs:=[.str (bytesOf (vN bs))]) rfl rfl rfl ?_ rfl
 simp (disch:=omega)only[go_sem,vD,AP.f336,gw,b]
theorem GH (bs : List Nat) : ∀ m : Nat, (bs.length + m) % 8 = 0 → m < 8 → vN (bs ++ List.replicate m 0) = vN bs := by
 have step:∀(k:Nat) (cs:List Nat),k+cs.length%8≤8→(0<k→cs.length%8≠0)→vN (cs++List.replicate k 0)=vN cs:=by
  intro k
  induction k with
  |zero=>intro cs _ _;simp
  | succ k ih =>
    intro cs h1 h2
    have hne:=h2 (by omega)
    have e:cs++List.replicate (k+1) 0=(cs++[0])++List.replicate k 0:=by simp [List.replicate_succ]
    have l1:(cs++[0]).length=cs.length+1:=by simp
    have z:vN (cs++[0])=vN cs:=by
     rw[Ep]
     unfold v7
     rw[if_neg hne]
     dsimp only
     rw[Nat.zero_mul,Nat.or_zero]
     have hl:=xP cs
     have hlt:cs.length/8<(vN cs).length:=by omega
     rw[Sb,Sd hlt]
     exact List.set_getElem_self hlt
    rw[e]
    by_cases c:k=0
    · subst c;simpa using z
    · rw[ih (cs++[0]) (by rw[l1];omega) (fun _=>by rw[l1];omega),z]
 intro m hm h8
 refine step m bs (by omega) (fun h=>by omega)
theorem KF {h:H} {w:Nat} {bs:List Nat} {ov:AV} (wr:Wr h w bs ov) (m:Nat) (hm:(bs.length+m)%8=0) (h8:m<8) (hb:bs.length+m<1000):
 ∃h',aQ AP.A 334 [.aC w 0] h=some (.int .i64 0,h')∧Wr h' w (bs++List.replicate m 0) ov∧Hf h w ov h' ov:=by
 have gw:=wr.get
 have pz:=GH bs m hm h8
 have pl:=xP bs
 have ln:=wr.own.rd.len
 have e8:(8:Int)* ((vN bs).length:Nat)=((bs.length+m:Nat):Int):=by omega
 have fl:=wr.fl
 refine⟨h.set w [ov,.int .i64 (bs.length+m:Nat)],tz (fn:=AP.f334) (e:=[(2,.int .i64 0)]) (vs:=[.int .i64 0]) rfl rfl rfl ?_ rfl,⟨by rw[vA rfl,gw];simp, ?_,by simpa using fl,by simpa using wr.JI,wr.ne,by rw[pz];exact wr.H0⟩,⟨by simp,by simp,fun i _ h2 _=>vi h2,fun j hj=>.inl hj⟩⟩
 · have mb:((bs.length+m:Nat):Int)<1000:=by omega
   generalize ((bs.length+m:Nat):Int)=M at *
   have M0:0≤M:=by omega
   clear pz
   simp (disch:=omega)only[go_sem,vD,AP.f334,gw,ln,e8,fl]
 · rw[pz];exact wr.own.mono (by simp) fun j hj=>vi (fun q=>wr.ne (by rw[hj,q]))
theorem HY {h:H} (hf:h.floor=h.next) (k:Nat) (hk:k<4):∃h' ov',aQ AP.A 333 [.int .i64 k] h=some (.aC h.next 0,h')∧WX h h' h.next (vz 1 1++vz k 2) ov'∧h'.floor=h.floor:=by
 have x0:=Lg (h:=h) (by omega)
 obtain⟨h1,o1,k1,w1,f1⟩:=xY x0.wr 1 1 (by omega) (by omega) (by simp)
 have x1:=x0.step w1 f1
 obtain⟨h2,o2,k2,w2,f2⟩:=xY x1.wr k 2 (by omega) (by omega) (by simp [vz,vH])
 have x2:=x1.step w2 f2
 have kn:aQ AP.A 345 [] h=some (.aC h.next 0,h.alloc [.aO,.int .i64 0]):=by
  refine tz (fn:=AP.f345) (e:=[(0,.aC h.next 0)]) (vs:=[.aC h.next 0]) rfl rfl rfl ?_ rfl
  simp (disch:=omega)only[go_sem,vD,AP.f345]
 refine⟨h2,o2,tz (fn:=AP.f333) (e:=[(2,.aC h.next 0)]) (vs:=[.aC h.next 0]) rfl rfl rfl ?_ rfl, ?_,by rw[f2.floor,f1.floor];simp⟩
 · clear x0 x1 x2
   have k1':aQ AP.A 335 [.aC h.next 0,.int .i64 1,.int .i64 1] (h.alloc [.aO,.int .i64 0])=some (.int .i64 0,h1):=k1
   have k2':aQ AP.A 335 [.aC h.next 0,.int .i64 k,.int .i64 2] h1=some (.int .i64 0,h2):=k2
   simp (disch:=omega)only[go_sem,vD,AP.f333,kn,k1',k2']
 · simpa using x2
theorem NI {F:Nat→Option (Nat×Nat)} {k to:Nat} (h:vy (F to)≤k):yY F k to=to:=by
 cases to with
 |zero=>rfl
 |succ t=>rw[yY,if_pos h]
theorem Ef {F : Nat → Option (Nat × Nat)} {fk : Nat} (hF : ∀ (g : H) (s : Nat), s < 1000000 → aQ AP.A fk [.int .i64 s] g = some (DI (F s), g)) (k to : Nat) (hk : k < 1000000) (hto : to < 1000) (hl : vy (F to) ≤ k) (g : H) (id : Nat) (hf : g.floor ≤ id) (hg : g.get id = some [.int .i64 0, .int .i64 0, .int .i64 0]) : ∀ n : Nat, n < 1000 → (∀ s, to ≤ s → s ≤ to + n → ∃ a b, F s = some (a, b) ∧ a < 1000000) →
 (yY F k (to+n)=to∧Lp AP.A [0,2,3,8,9] AP.f361L0 [(0,.int .i64 k),(2,.int .i64 to),(3,.fn fk [] []),(8,.aC id 0),(9,.int .i64 (to+n:Nat))] g=some (.exit 0,[(0,.int .i64 k),(2,.int .i64 to),(3,.fn fk [] []),(8,.aC id 0),(9,.int .i64 to),(16,.bool false)],g))∨
 (yY F k (to+n)≠to∧Lp AP.A [0,2,3,8,9] AP.f361L0 [(0,.int .i64 k),(2,.int .i64 to),(3,.fn fk [] []),(8,.aC id 0),(9,.int .i64 (to+n:Nat))] g=some (.ret,[(8,.aC id 0)],g.set id [.int .i64 (yY F k (to+n):Nat),.int .i64 (wF (F (yY F k (to+n))):Nat),.int .i64 ((k-vy (F (yY F k (to+n))):Nat):Int)]))
 | 0, _, _ => by
   refine .inl ⟨NI hl,s6 ?_⟩
   simp (disch:=omega)only[go_sem,vD,AP.f361L0]
 | n + 1, hn, hs => by
   obtain⟨a,b,hab,ha⟩:=hs (to+(n+1)) (by omega) (by omega)
   have kk:=fun g=>hF g (to+(n+1)) (by omega)
   rw[hab]at kk
   simp only[I,DI]at kk
   have la:vy (F (to+(n+1)))=a:=by rw[hab];rfl
   have lb:wF (F (to+(n+1)))=b:=by rw[hab];rfl
   have c0:(to:Int)<((to+(n+1):Nat):Int):=by omega
   have ed:yY F k (to+(n+1))=if a≤k then to+(n+1)else yY F k (to+n):=by rw[←uL,yY,←la];rfl
   by_cases c1:a≤k
   · rw[if_pos c1]at ed
     rw[ed,la,lb]
     refine .inr ⟨by omega,tG ?_⟩
     have n1:((k-a:Nat):Int)=(k:Int)-(a:Int):=by omega
     have c2:(a:Int)≤(k:Int):=by omega
     have sb:((to+(n+1):Nat):Int)<1000000:=by omega
     rw[n1]
     generalize ((to+(n+1):Nat):Int)=s at *
     clear hs hF
     simp (disch:=first|omega|(simp only[wT,Sc,Se,uR,Nat.reduceAdd];first|done|omega|fail)|(simp (disch:=first|omega|(simp only[wT,Sc,Se,uR,Nat.reduceAdd];first|done|omega|fail)|fail)only[wT,Cm,Sg,Sc,Se,uR,Nat.reduceAdd];done)|fail)only[go_sem,vD,Ck,AP.f361L0,c0,kk,c2,hg]
   · rw[if_neg c1]at ed
     rw[ed]
     have n1:((to+(n+1):Nat):Int)-1=((to+n:Nat):Int):=by omega
     have c2:¬(a:Int)≤(k:Int):=by omega
     have st:aK (aQ AP.A) bq AP.f361L0 (ax [(0,.int .i64 k),(2,.int .i64 to),(3,.fn fk [] []),(8,.aC id 0),(9,.int .i64 (to+(n+1):Nat))] [0,2,3,8,9]) g=some (.normal,[(0,.int .i64 k),(2,.int .i64 to),(3,.fn fk [] []),(8,.aC id 0),(9,.int .i64 (to+n:Nat))],g):=by
      rw[←n1]
      have sb:((to+(n+1):Nat):Int)<1000000:=by omega
      have sb0:0≤((to+(n+1):Nat):Int):=by omega
      clear n1
      generalize ((to+(n+1):Nat):Int)=s at *
      clear hs hF
      simp (disch:=first|omega|(simp only[wT,Sc,Se,uR,Nat.reduceAdd];first|done|omega|fail)|(simp (disch:=first|omega|(simp only[wT,Sc,Se,uR,Nat.reduceAdd];first|done|omega|fail)|fail)only[wT,Cm,Sg,Sc,Se,uR,Nat.reduceAdd];done)|fail)only[go_sem,vD,Ck,AP.f361L0,c0,kk,c2,hg]
     rcases Ef hF k to hk hto hl g id hf hg n (by omega) (fun s h1 h2=>hs s h1 (by omega))with ⟨e,L⟩|⟨e,L⟩
     · exact .inl ⟨e,s7 st L⟩
     · exact .inr ⟨e,s7 st L⟩
theorem Ko {F:Nat→Option (Nat×Nat)} {fk:Nat} (hF:∀(g:H) (s:Nat),s<1000000→aQ AP.A fk [.int .i64 s] g=some (DI (F s),g)) (k to n:Nat) (hk:k<1000000) (hto:to<1000) (hl:vy (F to)≤k) (hn:n<1000) (hs:∀s,to≤s→s≤to+n→∃a b,F s=some (a,b)∧a<1000000) (hz:yY F k (to+n)=to→wF (F to)=0∧k=vy (F to)) (h:H):
 aQ AP.A 361 [.int .i64 k,.int .i64 (to+n:Nat),.int .i64 to,.fn fk [] []] h=some (.agg [.int .i64 (yY F k (to+n):Nat),.int .i64 (wF (F (yY F k (to+n))):Nat),.int .i64 ((k-vy (F (yY F k (to+n))):Nat):Int)],h):=by
 rcases Ef hF k to hk hto hl (h.dI.alloc [.int .i64 0,.int .i64 0,.int .i64 0]) h.next (by simp) (by rw[vx (by simp)]) n hn hs with ⟨e,L⟩|⟨e,L⟩
 · obtain⟨z1,z2⟩:=hz e
   rw[e,z1,←z2,Nat.sub_self]
   refine tQ (fn:=AP.f361) (h2:=(h.dI.alloc [.int .i64 0,.int .i64 0,.int .i64 0]).set h.next [.int .i64 to,.int .i64 0,.int .i64 0]) (e:=[(8,.aC h.next 0)]) (vs:=[.agg [.int .i64 to,.int .i64 0,.int .i64 0]]) rfl rfl rfl ?_ ?_ ?_
   · clear hs hF
     simp (disch:=first|omega|(simp only[wT,Sc,Se,uR,Nat.reduceAdd];first|done|omega|fail)|(simp (disch:=first|omega|(simp only[wT,Sc,Se,uR,Nat.reduceAdd];first|done|omega|fail)|fail)only[wT,Cm,Sg,Sc,Se,uR,Nat.reduceAdd];done)|fail)only[go_sem,vD,Ck,AP.f361,rU,L]
   · simp (disch:=first|omega|(simp only[wT,Sc,Se,uR,Nat.reduceAdd];first|done|omega|fail)|(simp (disch:=first|omega|(simp only[wT,Sc,Se,uR,Nat.reduceAdd];first|done|omega|fail)|fail)only[wT,Cm,Sg,Sc,Se,uR,Nat.reduceAdd];done)|fail)only[go_sem,vD,Ck,AP.f361,cq,m0];rfl
   · rfl
 · generalize yY F k (to+n)=S at *
   generalize wF (F S)=B at *
   generalize k-vy (F S)=V at *
   refine tQ (fn:=AP.f361) (h2:=(h.dI.alloc [.int .i64 0,.int .i64 0,.int .i64 0]).set h.next [.int .i64 S,.int .i64 B,.int .i64 V]) (e:=[(8,.aC h.next 0)]) (vs:=[.agg [.int .i64 S,.int .i64 B,.int .i64 V]]) rfl rfl rfl ?_ ?_ ?_
   · clear hs hF
     simp (disch:=first|omega|(simp only[wT,Sc,Se,uR,Nat.reduceAdd];first|done|omega|fail)|(simp (disch:=first|omega|(simp only[wT,Sc,Se,uR,Nat.reduceAdd];first|done|omega|fail)|fail)only[wT,Cm,Sg,Sc,Se,uR,Nat.reduceAdd];done)|fail)only[go_sem,vD,Ck,AP.f361,rU,L]
   · simp (disch:=first|omega|(simp only[wT,Sc,Se,uR,Nat.reduceAdd];first|done|omega|fail)|(simp (disch:=first|omega|(simp only[wT,Sc,Se,uR,Nat.reduceAdd];first|done|omega|fail)|fail)only[wT,Cm,Sg,Sc,Se,uR,Nat.reduceAdd];done)|fail)only[go_sem,vD,Ck,AP.f361,cq,m0];rfl
   · rfl
theorem OW (h:H) (k:Nat) (h1:3≤k) (h2:k≤258):aQ AP.A 355 [.int .i64 k] h=some (.bL [.agg [.int .i64 (xn k:Nat),.int .i64 (zm k:Nat),.int .i64 (z5 k:Nat)],.int .i64 0],h):=by
 by_cases c:k=258
 · subst c
   have e1:xn 258=285:=by decide
   have e2:zm 258=0:=by decide
   have e3:z5 258=0:=by decide
   rw[e1,e2,e3]
   refine tQ (fn:=AP.f355) (h2:=(h.dI.alloc [.int .i64 0,.int .i64 0,.int .i64 0]).set h.next [.int .i64 285,.int .i64 0,.int .i64 0]) (e:=[(2,.aC h.next 0),(3,.int .i64 0)]) (vs:=[.agg [.int .i64 285,.int .i64 0,.int .i64 0],.int .i64 0]) rfl rfl rfl ?_ ?_ ?_
   · have a1:¬((258:Nat):Int)<3:=by omega
     have a2:¬(258:Int)<((258:Nat):Int):=by omega
     have a3:(((258:Nat):Int)==258)=true:=by decide
     generalize ((258:Nat):Int)=K at *
     simp (disch:=first|omega|(simp only[wT,Sc,Se,uR,Nat.reduceAdd];first|done|omega|fail)|(simp (disch:=first|omega|(simp only[wT,Sc,Se,uR,Nat.reduceAdd];first|done|omega|fail)|fail)only[wT,Cm,Sg,Sc,Se,uR,Nat.reduceAdd];done)|fail)only[go_sem,vD,Ck,AP.f355,a1,a2,a3]
   · simp (disch:=first|omega|(simp only[wT,Sc,Se,uR,Nat.reduceAdd];first|done|omega|fail)|(simp (disch:=first|omega|(simp only[wT,Sc,Se,uR,Nat.reduceAdd];first|done|omega|fail)|fail)only[wT,Cm,Sg,Sc,Se,uR,Nat.reduceAdd];done)|fail)only[go_sem,vD,Ck,AP.f355,cq,m0];rfl
   · rfl
 · have e:yY lenOf k 285=yY lenOf k 284:=by
    rw[yY,if_neg]
    have:vy (lenOf (284+1))=258:=rfl
    omega
   have sp:=yk h1 h2
   have hz:yY lenOf k (257+27)=257→wF (lenOf 257)=0∧k=vy (lenOf 257):=fun q=>by
    have q':xn k=257:=e.trans q
    rw[q']at sp
    have b1:wF (lenOf 257)=0:=rfl
    have l1:vy (lenOf 257)=3:=rfl
    rw[l1,b1]at sp
    exact⟨rfl,by rw[l1];omega⟩
   have r:=Ko (F:=lenOf) (fk:=74) (fun g s hs=>Il g s hs) k 257 27 (by omega) (by omega) (show vy (lenOf 257)≤k from h1) (by omega) (fun s q1 q2=>by
    obtain⟨a,b,hab⟩:=Aq q1 (by omega)
    have:=C9 hab
    exact⟨a,b,hab,by omega⟩) hz (h.dI.alloc [.int .i64 0,.int .i64 0,.int .i64 0])
   have el:yY lenOf k (257+27)=xn k:=e.symm
   rw[el]at r
   have r':aQ AP.A 361 [.int .i64 k,.int .i64 284,.int .i64 257,.fn 74 [] []] (h.dI.alloc [.int .i64 0,.int .i64 0,.int .i64 0])=some (.agg [.int .i64 (xn k:Nat),.int .i64 (zm k:Nat),.int .i64 (z5 k:Nat)],h.dI.alloc [.int .i64 0,.int .i64 0,.int .i64 0]):=r
   clear r
   generalize xn k=S at *
   generalize zm k=B at *
   generalize z5 k=V at *
   refine tQ (fn:=AP.f355) (h2:=(h.dI.alloc [.int .i64 0,.int .i64 0,.int .i64 0]).set h.next [.int .i64 S,.int .i64 B,.int .i64 V]) (e:=[(2,.aC h.next 0),(3,.int .i64 0)]) (vs:=[.agg [.int .i64 S,.int .i64 B,.int .i64 V],.int .i64 0]) rfl rfl rfl ?_ ?_ ?_
   · have a1:¬(k:Int)<3:=by omega
     have a2:¬(258:Int)<(k:Int):=by omega
     have a3:((k:Int)==258)=false:=by simp;omega
     clear sp hz
     simp (disch:=first|omega|(simp only[wT,Sc,Se,uR,Nat.reduceAdd];first|done|omega|fail)|(simp (disch:=first|omega|(simp only[wT,Sc,Se,uR,Nat.reduceAdd];first|done|omega|fail)|fail)only[wT,Cm,Sg,Sc,Se,uR,Nat.reduceAdd];done)|fail)only[go_sem,vD,Ck,AP.f355,a1,a2,a3,r']
   · simp (disch:=first|omega|(simp only[wT,Sc,Se,uR,Nat.reduceAdd];first|done|omega|fail)|(simp (disch:=first|omega|(simp only[wT,Sc,Se,uR,Nat.reduceAdd];first|done|omega|fail)|fail)only[wT,Cm,Sg,Sc,Se,uR,Nat.reduceAdd];done)|fail)only[go_sem,vD,Ck,AP.f355,cq,m0];rfl
   · rfl
theorem L9 (h:H) (k:Nat) (h1:1≤k) (h2:k≤32768):aQ AP.A 356 [.int .i64 k] h=some (.bL [.agg [.int .i64 (xN k:Nat),.int .i64 (zk k:Nat),.int .i64 (Aj k:Nat)],.int .i64 0],h):=by
 have sp:=yh h1 h2
 have hz:yY vK k (0+29)=0→wF (vK 0)=0∧k=vy (vK 0):=fun q=>by
  have q':xN k=0:=q
  rw[q']at sp
  have b1:wF (vK 0)=0:=rfl
  have l1:vy (vK 0)=1:=rfl
  rw[l1,b1]at sp
  exact⟨rfl,by rw[l1];omega⟩
 have r:=Ko (F:=vK) (fk:=75) (fun g s hs=>F3 g s hs) k 0 29 (by omega) (by omega) (show vy (vK 0)≤k from h1) (by omega) (fun s q1 q2=>by
  obtain⟨a,b,hab⟩:=zC (s:=s) (by omega)
  have:=Bu hab
  exact⟨a,b,hab,by omega⟩) hz (h.dI.alloc [.int .i64 0,.int .i64 0,.int .i64 0])
 have r':aQ AP.A 361 [.int .i64 k,.int .i64 29,.int .i64 0,.fn 75 [] []] (h.dI.alloc [.int .i64 0,.int .i64 0,.int .i64 0])=some (.agg [.int .i64 (xN k:Nat),.int .i64 (zk k:Nat),.int .i64 (Aj k:Nat)],h.dI.alloc [.int .i64 0,.int .i64 0,.int .i64 0]):=r
 clear r
 generalize xN k=S at *
 generalize zk k=B at *
 generalize Aj k=V at *
 refine tQ (fn:=AP.f356) (h2:=(h.dI.alloc [.int .i64 0,.int .i64 0,.int .i64 0]).set h.next [.int .i64 S,.int .i64 B,.int .i64 V]) (e:=[(2,.aC h.next 0),(3,.int .i64 0)]) (vs:=[.agg [.int .i64 S,.int .i64 B,.int .i64 V],.int .i64 0]) rfl rfl rfl ?_ ?_ ?_
 · have a1:¬(k:Int)<1:=by omega
   have a2:¬(32768:Int)<(k:Int):=by omega
   clear sp hz
   simp (disch:=first|omega|(simp only[wT,Sc,Se,uR,Nat.reduceAdd];first|done|omega|fail)|(simp (disch:=first|omega|(simp only[wT,Sc,Se,uR,Nat.reduceAdd];first|done|omega|fail)|fail)only[wT,Cm,Sg,Sc,Se,uR,Nat.reduceAdd];done)|fail)only[go_sem,vD,Ck,AP.f356,a1,a2,r']
 · simp (disch:=first|omega|(simp only[wT,Sc,Se,uR,Nat.reduceAdd];first|done|omega|fail)|(simp (disch:=first|omega|(simp only[wT,Sc,Se,uR,Nat.reduceAdd];first|done|omega|fail)|fail)only[wT,Cm,Sg,Sc,Se,uR,Nat.reduceAdd];done)|fail)only[go_sem,vD,Ck,AP.f356,cq,m0];rfl
 · rfl
theorem G7 (h:H) (x d:Int):aQ AP.A 349 [.agg [.int .i64 x,.int .i64 0,.int .i64 d]] h=some (.bL [.agg [.int .i64 x,.int .i64 0,.int .i64 0],.agg [.int .i64 0,.int .i64 0,.int .i64 0],.bool false],h):=by
 refine tQ (fn:=AP.f349) (h2:=(((((h.dI.alloc [.int .i64 x,.int .i64 0,.int .i64 d]).alloc [.int .i64 0,.int .i64 0,.int .i64 0]).alloc [.int .i64 0,.int .i64 0,.int .i64 0]).set (h.next+1) [.int .i64 x,.int .i64 0,.int .i64 0]).set (h.next+2) [.int .i64 0,.int .i64 0,.int .i64 0])) (e:=[(2,.aC (h.next+1) 0),(3,.aC (h.next+2) 0),(4,.bool false)]) (vs:=[.agg [.int .i64 x,.int .i64 0,.int .i64 0],.agg [.int .i64 0,.int .i64 0,.int .i64 0],.bool false]) rfl rfl rfl ?_ ?_ ?_
 · simp (disch:=first|omega|(simp only[wT,Sc,Se,uR,Nat.reduceAdd];first|done|omega|fail)|(simp (disch:=first|omega|(simp only[wT,Sc,Se,uR,Nat.reduceAdd];first|done|omega|fail)|fail)only[wT,Cm,Sg,Sc,Se,uR,Nat.reduceAdd];done)|fail)only[go_sem,vD,Ck,AP.f349]
 · simp (disch:=first|omega|(simp only[wT,Sc,Se,uR,Nat.reduceAdd];first|done|omega|fail)|(simp (disch:=first|omega|(simp only[wT,Sc,Se,uR,Nat.reduceAdd];first|done|omega|fail)|fail)only[wT,Cm,Sg,Sc,Se,uR,Nat.reduceAdd];done)|fail)only[go_sem,vD,Ck,AP.f349,cq,m0];rfl
 · rfl
theorem EE (h:H) (k d:Nat) (h1:3≤k) (h2:k≤258) (d1:1≤d) (d2:d≤32768):aQ AP.A 349 [.agg [.int .i64 0,.int .i64 k,.int .i64 d]] h=some (.bL [.agg [.int .i64 (xn k:Nat),.int .i64 (zm k:Nat),.int .i64 (z5 k:Nat)],.agg [.int .i64 (xN d:Nat),.int .i64 (zk d:Nat),.int .i64 (Aj d:Nat)],.bool true],h):=by
 have k1:=fun g=>OW g k h1 h2
 have k2:=fun g=>L9 g d d1 d2
 have c0:((k:Int)==0)=false:=by simp;omega
 generalize xn k=S at *
 generalize zm k=B at *
 generalize z5 k=V at *
 generalize xN d=S' at *
 generalize zk d=B' at *
 generalize Aj d=V' at *
 obtain⟨g,eg⟩:∃g,g=((((((((h.dI.alloc [.int .i64 0,.int .i64 k,.int .i64 d]).alloc [.int .i64 0,.int .i64 0,.int .i64 0]).alloc [.int .i64 0,.int .i64 0,.int .i64 0]).alloc [.int .i64 0,.int .i64 0,.int .i64 0]).set (h.next+3) [.int .i64 S,.int .i64 B,.int .i64 V]).alloc [.int .i64 0,.int .i64 0,.int .i64 0]).set (h.next+4) [.int .i64 S',.int .i64 B',.int .i64 V']).set (h.next+1) [.int .i64 S,.int .i64 B,.int .i64 V]).set (h.next+2) [.int .i64 S',.int .i64 B',.int .i64 V']:=⟨_,rfl⟩
 refine tQ (fn:=AP.f349) (h2:=g) (e:=[(2,.aC (h.next+1) 0),(3,.aC (h.next+2) 0),(4,.bool true)]) (vs:=[.agg [.int .i64 S,.int .i64 B,.int .i64 V],.agg [.int .i64 S',.int .i64 B',.int .i64 V'],.bool true]) rfl rfl rfl ?_ ?_ ?_
 · rw[eg]
   simp (disch:=first|omega|(simp only[wT,Sc,Se,uR,Nat.reduceAdd];first|done|omega|fail)|(simp (disch:=first|omega|(simp only[wT,Sc,Se,uR,Nat.reduceAdd];first|done|omega|fail)|fail)only[wT,Cm,Sg,Sc,Se,uR,Nat.reduceAdd];done)|fail)only[go_sem,vD,Ck,AP.f349,c0,k1,k2]
 · rw[eg]
   simp (disch:=first|omega|(simp only[wT,Sc,Se,uR,Nat.reduceAdd];first|done|omega|fail)|(simp (disch:=first|omega|(simp only[wT,Sc,Se,uR,Nat.reduceAdd];first|done|omega|fail)|fail)only[wT,Cm,Sg,Sc,Se,uR,Nat.reduceAdd];done)|fail)only[go_sem,vD,Ck,AP.f349,cq,m0];rfl
 · rfl
theorem HL {h0 h:H} {w:Nat} {bs:List Nat} {ov lv:AV} {E:List (Int×Int)} (rl:yI 2 h0 lv E.length (E.flatMap wO)) (x:WX h0 h w bs ov) (s b v:Nat) (o:AH E s) (hb:b≤16) (hv:v<2^b) (hl:bs.length+31≤65536):
 ∃h' ov',aQ AP.A 350 [.aC w 0,lv,.agg [.int .i64 s,.int .i64 b,.int .i64 v]] h=some (.bL [],h')∧WX h0 h' w (bs++(vn E s++vz v b)) ov'∧h.next≤h'.next∧(∀i,i<h.next→i≠w→ov.id?≠some i→h'.get i=h.get i)∧(∀j,ov'.id?=some j→ov.id?=some j∨h.next≤j):=by
 obtain⟨g,eg⟩:∃g,g=h.alloc [.int .i64 s,.int .i64 b,.int .i64 v]:=⟨_,rfl⟩
 have x1:WX h0 g w bs ov:=x.turn (by rw[eg];simp) (by rw[eg];simp) fun i hi=>by rw[eg,vu (by omega)]
 have gg:g.get h.next=some [.int .i64 s,.int .i64 b,.int .i64 v]:=by rw[eg,vx rfl]
 have hw:=h.lt _ _ x.wr.get
 have hon:ov.id?≠some h.next:=fun q=>by have:=(x.wr.own.lt q).2;omega
 obtain⟨le,l1,l2⟩:=rl.Mr
 obtain⟨n,c,q0,q1,q2,q3,q4⟩:=o.bits
 have e1:=l1 s ⟨by omega,by have:=o.lt;omega⟩
 have e2:=l2 g x1.ext _ _ q0
 obtain⟨h2,o2,k1,k2,k3⟩:=Iu x1.wr c n q1 q2 q3 (by omega)
 have x2:=x1.step k2 k3
 have g2:h2.get h.next=some [.int .i64 s,.int .i64 b,.int .i64 v]:=(k3.vY h.next (by rw[eg];simp) (by omega) hon).trans gg
 obtain⟨h3,o3,k4,k5,k6⟩:=xY x2.wr v b hb hv (by simp [wg];omega)
 have x3:=x2.step k5 k6
 refine⟨h3,o3,v8 (fn:=AP.f350) (e:=[]) (vs:=[]) rfl rfl rfl ?_ rfl,by rw[q4,←Sp];exact x3, ?_,fun i hi hiw hio=> ?_,fun j hj=> ?_⟩
 · clear rl l1 l2 x x1 x2 x3 k2 k3 k5 k6 q4
   simp (disch:=omega)only[go_sem,vD,AP.f350,←eg,gg,e1,e2,k1,g2,k4]
 · have a1:=k3.next
   have a2:=k6.next
   rw[eg]at a1;simp at a1;omega
 · have a1:=k3.next
   have e:g.get i=h.get i:=by rw[eg,vu (by omega)]
   have gn:g.next=h.next+1:=by rw[eg];simp
   rw[k6.vY i (by omega) hiw (fun q=>by
    rcases k3.ids i q with z|z
    · exact hio z
    · omega),k3.vY i (by omega) hiw hio,e]
 · have gn:g.next=h.next+1:=by rw[eg];simp
   rcases k6.ids j hj with z|z
   · rcases k3.ids j z with y|y
     · exact .inl y
     · exact .inr (by omega)
   · have:=k3.next;exact .inr (by omega)
theorem Jv {v lv dv:AV} {ts:List Tok} {E D:List (Int×Int)} (hn:ts.length<1000000) (h0:H) (rd:yI 3 h0 v ts.length (wv ts)) (rl:yI 2 h0 lv E.length (E.flatMap wO)) (rx:yI 2 h0 dv D.length (D.flatMap wO)) (w i:Nat) (t:Tok) (ht:ts[i]?=some t) (o:Hd E D t) (tk:yc t) (tl:t.len≠0→t.lit=0) (h:H) (bs:List Nat) (ov:AV) (x:WX h0 h w bs ov) (hb:bs.length+48≤65000):
 ∃h' ov',aK (aQ AP.A) bq AP.f339L0 (ax [(0,.aC w 0),(2,lv),(3,dv),(14,v),(15,.int .i64 ts.length),(16,.int .i64 i)] [0,2,3,14,15,16]) h=some (.normal,[(0,.aC w 0),(2,lv),(3,dv),(14,v),(15,.int .i64 ts.length),(16,.int .i64 (i+1:Nat))],h')∧WX h0 h' w (bs++vI E D t) ov':=by
 obtain⟨ad,a1,a2,a3⟩:=rd.O7
 have hi:i<ts.length:=(uI.1 ht).1
 have hI:(0:Int)≤(i:Int)∧(i:Int)<ts.length:=⟨by omega,by omega⟩
 have b1:=a1 _ hI
 obtain⟨_,_,_,b2⟩:=a3 h x.ext _ _ ht
 have n1:((i+1:Nat):Int)=(i:Int)+1:=by omega
 have ci:(i:Int)<(ts.length:Int):=hI.2
 have step:∀(S B V S' B' V':Nat) (cp:Bool),(∀g:H,aQ AP.A 349 [.agg [.int .i64 t.lit,.int .i64 t.len,.int .i64 t.vU]] g=some (.bL [.agg [.int .i64 S,.int .i64 B,.int .i64 V],.agg [.int .i64 S',.int .i64 B',.int .i64 V'],.bool cp],g))→AH E S→B≤5→V<2^B→(cp=true→AH D S'∧B'≤13∧V'<2^B')→
  ∃h' ov',aK (aQ AP.A) bq AP.f339L0 (ax [(0,.aC w 0),(2,lv),(3,dv),(14,v),(15,.int .i64 ts.length),(16,.int .i64 i)] [0,2,3,14,15,16]) h=some (.normal,[(0,.aC w 0),(2,lv),(3,dv),(14,v),(15,.int .i64 ts.length),(16,.int .i64 (i+1:Nat))],h')∧WX h0 h' w (bs++((vn E S++vz V B)++if cp=true then vn D S'++vz V' B' else [])) ov':=by
  intro S B V S' B' V' cp ks oS hB hV hcp
  obtain⟨g1,eg1⟩:∃g,g=(h.alloc [.int .i64 0,.int .i64 0,.int .i64 0]).set h.next [.int .i64 t.lit,.int .i64 t.len,.int .i64 t.vU]:=⟨_,rfl⟩
  obtain⟨g2,eg2⟩:∃g,g=(((g1.alloc [.int .i64 0,.int .i64 0,.int .i64 0]).alloc [.int .i64 0,.int .i64 0,.int .i64 0]).set g1.next [.int .i64 S,.int .i64 B,.int .i64 V]).set (g1.next+1) [.int .i64 S',.int .i64 B',.int .i64 V']:=⟨_,rfl⟩
  have n1':g1.next=h.next+1:=by rw[eg1];simp
  have n2':g2.next=h.next+3:=by rw[eg2];simp;omega
  have fl1:h.floor≤h.next:=x.wr.JI
  have flg:g1.floor≤g1.next:=by rw[n1',eg1];simp;omega
  have gt1:g1.get h.next=some [.int .i64 t.lit,.int .i64 t.len,.int .i64 t.vU]:=by rw[eg1,vA rfl,vx rfl];rfl
  have gk1:∀j,j<h.next→g1.get j=h.get j:=fun j hj=>by rw[eg1,vi (by omega),vu (by omega)]
  have gk2:∀j,j<h.next→g2.get j=h.get j:=fun j hj=>by rw[eg2,vi (by omega),vi (by omega),vu (by simp;omega),vu (by omega),gk1 j hj]
  have x2:WX h0 g2 w bs ov:=x.turn (by rw[eg2,eg1];simp) (by omega) gk2
  have ga:g2.get g1.next=some [.int .i64 S,.int .i64 B,.int .i64 V]:=by rw[eg2,vi (by omega),vA rfl,vu (by simp),vx rfl];rfl
  have gb:g2.get (g1.next+1)=some [.int .i64 S',.int .i64 B',.int .i64 V']:=by rw[eg2,vA rfl,vi (by omega),vx (by simp)];rfl
  have hA:((g1.alloc [.int .i64 0,.int .i64 0,.int .i64 0]).alloc [.int .i64 0,.int .i64 0,.int .i64 0]).get g1.next=some [.int .i64 0,.int .i64 0,.int .i64 0]:=by rw[vu (by simp),vx rfl]
  have hB:(((g1.alloc [.int .i64 0,.int .i64 0,.int .i64 0]).alloc [.int .i64 0,.int .i64 0,.int .i64 0]).set g1.next [.int .i64 S,.int .i64 B,.int .i64 V]).get (g1.next+1)=some [.int .i64 0,.int .i64 0,.int .i64 0]:=by rw[vi (by omega),vx (by simp)]
  have hw:=h.lt _ _ x.wr.get
  have hov:∀j,h.next≤j→ov.id?≠some j:=fun j hj q=>by have:=(x.wr.own.lt q).2;omega
  obtain⟨h3,o3,k3,x3,nx3,kp3,id3⟩:=HL rl x2 S B V oS (by omega) hV (by omega)
  have gb3:h3.get (g1.next+1)=some [.int .i64 S',.int .i64 B',.int .i64 V']:=(kp3 _ (by omega) (by omega) (hov _ (by omega))).trans gb
  have cl:(vn E S++vz V B).length≤20:=by
   obtain⟨n,c,q0,q1,q2,q3,q4⟩:=oS.bits
   rw[q4];simp [wg,vz,vH];omega
  cases cp with
  | false =>
    refine⟨h3,o3, ?_,by simpa using x3⟩
    rw[n1]
    clear rd rl rx a1 a2 a3 x x2 x3 kp3 id3 gk1 gk2 hov hcp
    simp (disch:=omega)only[go_sem,vD,AP.f339L0,ci,b1,b2,←eg1,gt1,ks,hA,hB,←eg2,ga,k3,Lr,uT,SZ,Sy]
  | true =>
    obtain⟨oS',hB',hV'⟩:=hcp rfl
    obtain⟨h4,o4,k4,x4,_,_,_⟩:=HL rx x3 S' B' V' oS' (by omega) hV' (by rw[vb];omega)
    refine⟨h4,o4, ?_,by rw[if_pos rfl,←Sp];exact x4⟩
    rw[n1]
    clear rd rl rx a1 a2 a3 x x2 x3 x4 kp3 id3 gk1 gk2 hov hcp
    simp (disch:=omega)only[go_sem,vD,AP.f339L0,ci,b1,b2,←eg1,gt1,ks,hA,hB,←eg2,ga,k3,gb3,k4,Lr,uT,SZ,Sy]
 rcases o with ⟨c0,h2,h3⟩|⟨h1,h2,h3,h4,h5,h6⟩
 · obtain⟨y,hy⟩:∃y:Nat,t.lit=y:=Sk h2
   have yt:t.lit.toNat=y:=by omega
   rw[yt]at h3
   obtain⟨h',ov',k,xx⟩:=step y 0 0 0 0 0 false (fun g=>by
    rw[hy,c0];exact G7 g y t.vU) h3 (by omega) (by omega) (fun q=>by cases q)
   refine⟨h',ov',k, ?_⟩
   rw[vI,if_pos c0,yt]
   simpa [vz,BJ]using xx
 · obtain⟨L,hL⟩:∃y:Nat,t.len=y:=Sk (by omega)
   obtain⟨K,hK⟩:∃y:Nat,t.vU=y:=Sk (by omega)
   have Lt:t.len.toNat=L:=by omega
   have Kt:t.vU.toNat=K:=by omega
   rw[Lt]at h5
   rw[Kt]at h6
   have lb:=Cs (k:=L) (by omega) (by omega)
   have db:=EU (k:=K) (by omega) (by omega)
   obtain⟨h',ov',k,xx⟩:=step (xn L) (zm L) (z5 L) (xN K) (zk K) (Aj K) true (fun g=>by
    rw[tl (by omega),hL,hK];exact EE g L K (by omega) (by omega) (by omega) (by omega)) h5 lb.1 lb.2 (fun _=>⟨h6,db.1,db.2⟩)
   refine⟨h',ov',k, ?_⟩
   rw[vI,if_neg (by omega),Lt,Kt]
   simpa [Sp]using xx
theorem Ew {v lv dv:AV} {ts:List Tok} {E D:List (Int×Int)} (hn:ts.length<1000000) (h0:H) (rd:yI 3 h0 v ts.length (wv ts)) (rl:yI 2 h0 lv E.length (E.flatMap wO)) (rx:yI 2 h0 dv D.length (D.flatMap wO)) (ok:∀t∈ts,Hd E D t∧yc t∧(t.len≠0→t.lit=0)) (w:Nat):∀(q p:List Tok) (bs:List Nat) (h:H) (ov:AV),ts=p++q→WX h0 h w bs ov→bs.length+48* q.length≤65000→
 ∃h' ov',Lp AP.A [0,2,3,14,15,16] AP.f339L0 [(0,.aC w 0),(2,lv),(3,dv),(14,v),(15,.int .i64 ts.length),(16,.int .i64 p.length)] h=some (.exit 0,[(0,.aC w 0),(2,lv),(3,dv),(14,v),(15,.int .i64 ts.length),(16,.int .i64 ts.length),(17,.bool false)],h')∧WX h0 h' w (bs++vV E D q) ov'
 | [], p, bs, h, ov, hp, x, hb => by
   rw[Sw]at hp;subst hp
   refine⟨h,ov,s6 ?_,by simpa [vV]using x⟩
   simp (disch:=omega)only[go_sem,vD,AP.f339L0]
 | t :: q, p, bs, h, ov, hp, x, hb => by
   have ht:ts[p.length]?=some t:=by rw[hp];simp
   obtain⟨o1,o2,o3⟩:=ok t (by rw[hp];simp)
   obtain⟨h1,ov1,k1,x1⟩:=Jv hn h0 rd rl rx w p.length t ht o1 o2 o3 h bs ov x (by simp only[Sc]at hb;omega)
   have bl:=Ch o1
   obtain⟨h',ov',L,x2⟩:=Ew hn h0 rd rl rx ok w q (p++[t]) _ h1 ov1 (by rw[hp];simp) x1 (by simp only[Sc,vb]at hb ⊢;omega)
   have e3:(p++[t]).length=p.length+1:=by simp
   rw[e3]at L
   refine⟨h',ov',s7 k1 L, ?_⟩
   have:vV E D (t::q)=vI E D t++vV E D q:=by simp [vV]
   rw[this,←Sp];exact x2
theorem Ix {v lv dv:AV} {ts:List Tok} {E D:List (Int×Int)} (hn:ts.length<1000000) (h0:H) (rd:yI 3 h0 v ts.length (wv ts)) (rl:yI 2 h0 lv E.length (E.flatMap wO)) (rx:yI 2 h0 dv D.length (D.flatMap wO)) (ok:∀t∈ts,Hd E D t∧yc t∧(t.len≠0→t.lit=0)) (o256:AH E 256) (w:Nat) (bs:List Nat) (h:H) (ov:AV) (x:WX h0 h w bs ov) (hb:bs.length+48* ts.length≤65000):
 ∃h',aQ AP.A 339 [.aC w 0,v,lv,dv] h=some (.str (bytesOf (vN (bs++(vV E D ts++vn E 256)))),h'):=by
 have ln:=rd.len
 obtain⟨h1,o1,L,x1⟩:=Ew hn h0 rd rl rx ok w ts [] bs h ov rfl x hb
 have L':Lp AP.A [0,2,3,14,15,16] AP.f339L0 [(0,.aC w 0),(2,lv),(3,dv),(14,v),(15,.int .i64 ts.length),(16,.int .i64 0)] h=_:=L
 have bl:=EF (E:=E) (D:=D) (ts:=ts) fun t ht=>(ok t ht).1
 obtain⟨h2,o2,k2,x2,_⟩:=HL rl x1 256 0 0 o256 (by omega) (by omega) (by rw[vb];omega)
 have k3:=Iw x2.wr
 have e:bs++vV E D ts++(vn E 256++vz 0 0)=bs++(vV E D ts++vn E 256):=by simp [vz,BJ]
 rw[e]at k3
 have k2':aQ AP.A 350 [.aC w 0,lv,.agg [.int .i64 256,.int .i64 0,.int .i64 0]] h1=some (.bL [],h2):=k2
 refine⟨h2,tz (fn:=AP.f339) (e:=[(8,.str (bytesOf (vN (bs++(vV E D ts++vn E 256)))))]) (vs:=[.str (bytesOf (vN (bs++(vV E D ts++vn E 256))))]) rfl rfl rfl ?_ rfl⟩
 clear x1 x2 rd rl rx ok x
 generalize bytesOf (vN (bs++(vV E D ts++vn E 256)))=TX at *
 simp (disch:=omega)only[go_sem,vD,AP.f339,ln,rU,L',k2',k3]
theorem zJ (c:ae) (e:Env) (h:H) (x y:X):ah c e h (.mn [x,y])=cY h (lY (x.ev e) (y.ev e)):=by
 show(fW lY (x.ev e) [y.ev e]).bind _=_
 simp only[fW]
 cases lY (x.ev e) (y.ev e)<;>rfl
def E5 (a b:Int):Int:=if b<a then b else a
theorem y6 (k:IntKind) (a b:Int):lY (.int k a) (.int k b)=some (.int k (E5 a b)):=rfl
structure Tx (hb h:H) (x:Nat) (ov:AV) (out:List Nat):Prop where
 ext:Ext hb h
 fl:h.floor=hb.next
 JH:h.floor≤h.next
 gx:h.get x=some [ov]
 lx:hb.next≤x
 own:wm 1 h ov out.length (ya out)
 nx:ov.id?≠some x
 H0:JK out
theorem Tx.push {hb h:H} {x:Nat} {ov:AV} {out:List Nat} (v:Tx hb h x ov out) (b:Nat) (hb8:b<256) (hl:out.length<100000):∃h1 v1,kA (h.alloc [.int .u8 b]) 1 1 ov (.aD h.next 0 1 1)=some (v1,h1)∧v1.sc=true∧v1.cells=[v1]∧h1.get x=some [ov]∧h1.floor≤x∧Tx hb (h1.set x [v1]) x v1 (out++[b])∧h.next≤(h1.set x [v1]).next∧∀i,i<h.next→i≠x→ov.id?≠some i→(h1.set x [v1]).get i=h.get i:=by
 obtain⟨v1,h1,p1,p2,p3,p4,p5,p6⟩:=v.own.push v.JH (z:=1) (m:=1) (by omega) (by omega) [.int .u8 b] rfl rfl (zW (by omega))
 have lx:=h.lt _ _ v.gx
 have fl:=v.fl
 have vlx:=v.lx
 have g1:h1.get x=some [ov]:=by rw[p5 x v.nx lx,v.gx]
 refine⟨h1,v1,p1,p2.sc,p2.cells,g1,by omega,⟨fun i c hi=> ?_,by simp;omega,by simp;have:=v.JH;omega,by rw[vA rfl,g1];rfl,v.lx, ?_, ?_,fun y hy=> ?_⟩,by simp;omega,fun i h1' h2 h3=>by rw[vi h2,p5 i h3 h1']⟩
 · have l1:=hb.lt _ _ hi
   have e:=v.ext i c hi
   have l2:=h.lt _ _ e
   rw[vi (by omega),p5 i (fun q=>by have:=(v.own.lt q).1;omega) l2,e]
 · rw[FP,vb]
   exact p2.mono (by simp) fun j hj=>by
    rw[p6]at hj
    have:=uC hj
    rw[vi (by omega)]
 · rw[p6];intro q;have:=uC q;omega
 · rcases SH.1 hy with q|q
   · exact v.H0 y q
   · simp at q;omega
theorem Es {hb : H} {x c L D : Nat} {l0 : AV} (hL : L ≤ 258) (hD1 : 1 ≤ D) : ∀ (m j : Nat) (out : List Nat) (h : H) (ov : AV), j + m = L → D ≤ out.length → out.length + m ≤ 10000 → Tx hb h x ov out → h.get c = some [l0, .int .i64 L, .int .i64 D] → c ≠ x → ov.id? ≠ some c →
 ∃h' ov',Lp AP.A [0,3,82,83] AP.f353L0 [(0,.aC x 0),(3,.aC c 0),(82,.int .i64 L),(83,.int .i64 j)] h=some (.exit 0,[(0,.aC x 0),(3,.aC c 0),(82,.int .i64 L),(83,.int .i64 L),(84,.bool false)],h')∧Tx hb h' x ov' (I8 D m out)∧h.next≤h'.next
 | 0, j, out, h, ov, hj, hDo, hs, v, gc, hcx, hoc => by
   obtain rfl:j=L:=by omega
   refine⟨h,ov,s6 ?_,v,uM _⟩
   simp (disch:=omega)only[go_sem,vD,AP.f353L0]
 | m + 1, j, out, h, ov, hj, hDo, hs, v, gc, hcx, hoc => by
   have cj:(j:Int)<(L:Int):=by omega
   have gx:=v.gx
   have lc:=h.lt _ _ gc
   obtain⟨y,hy⟩:∃y,out[out.length-D]?=some y:=⟨_,Sd (by omega)⟩
   have gy:=Pj hy
   have gd:out.getD (out.length-D) 0=y:=by rw[Sb,hy];rfl
   have y8:=v.H0 y (uQ hy)
   obtain⟨h1,v1,p1,p2,p3,p4,p5,t1,n1,k1⟩:=v.push y y8 (by omega)
   obtain ⟨h', ov', L', t2, n2⟩ := Es hL hD1 m (j + 1) (out ++ [y]) (h1.set x [v1]) v1 (by omega) (by simp; omega) (by simp; omega) t1 (by rw [k1 c lc hcx hoc, gc]) hcx (fun q => by
    have:=t1.own.lt q
    have e:=t1.nx
    have:(h1.set x [v1]).get c=h.get c:=k1 c lc hcx hoc
    have q2:=t1.own.2
    rcases q2 with ⟨q3,_⟩|⟨i2,q3,q4,_⟩
    · rw[q3]at q;cases q
    · rw [q3] at q
      obtain rfl:=uC q
      rw[this,gc]at q4
      have:=SI List.length (uC q4)
      have q5:=uC q4
      cases hbo:ya (out++[y])with
      |nil=>rw[hbo]at q5;cases q5
      | cons a r =>
        cases hout:out with
        |nil=>rw[hout]at hDo;simp at hDo;omega
        | cons o r2 =>
          have hl:(ya (out++[y])).length=3:=by rw[←q5];rfl
          have e2:(ya (out++[y]))[1]?=some (.int .i64 L):=by rw[←q5];rfl
          have e3:∃z:Nat,(ya (out++[y]))[1]?=some (.int .u8 z):=by
           simp only[ya,uV]
           rw[MK]at hl
           rw[Sd (by omega)]
           exact⟨_,rfl⟩
          obtain⟨z,e3⟩:=e3
          rw[e2]at e3
          cases uC e3)
   have e1:((j+1:Nat):Int)=(j:Int)+1:=by omega
   have e2:(out.length:Int)-(D:Int)=((out.length-D:Nat):Int):=by omega
   have bl:=MK out
   rw[I8,gd]
   refine⟨h',ov',s7 ?_ L',t2,by omega⟩
   rw[e1]
   rcases v.own.2 with ⟨_,q⟩|⟨id,q1,q2,q3,q4⟩
   · omega
   subst q1
   have ib:cI (.int .i64 ((out.length:Int)-(D:Int))) out.length=some (out.length-D):=by
    rw[e2]
    have:((out.length-D:Nat):Int)<out.length:=by omega
    simp [cI,nB,this]
   have dl:(D:Int)≤100000:=by omega
   clear v t1 t2 L' k1 hoc e2
   generalize ya out=BO at *
   simp (disch:=omega)only[go_sem,vD,AP.f353L0,cj,gx,gc,zt,ib,q2,gy,bl,p1,p2,p3,p4,p5]
def HQ (out:List Nat) (t:Tok):Option (List Nat):=match wq out.length t with
 |none=>none
 |some s'=>if 8192<s' then none else some (vS out t)
theorem OX {hb h : H} {x : Nat} {ov : AV} {out : List Nat} (v : Tx hb h x ov out) (t : Tok) (hl : out.length ≤ 8192) :
 ∃h' ov',aQ AP.A 353 [.aC x 0,.agg [.int .i64 t.lit,.int .i64 t.len,.int .i64 t.vU]] h=some (.bool (HQ out t).isSome,h')∧Tx hb h' x ov' ((HQ out t).getD out)∧h.next≤h'.next:=by
 obtain⟨g,eg⟩:∃g,g=h.alloc [.int .i64 t.lit,.int .i64 t.len,.int .i64 t.vU]:=⟨_,rfl⟩
 have lx:=h.lt _ _ v.gx
 have gn:g.next=h.next+1:=by rw[eg];simp
 have gk:∀i,i<h.next→g.get i=h.get i:=fun i hi=>by rw[eg,vu (by omega)]
 have gc:g.get h.next=some [.int .i64 t.lit,.int .i64 t.len,.int .i64 t.vU]:=by rw[eg,vx rfl]
 have v1:Tx hb g x ov out:=⟨fun i c hi=>by
  have e:=v.ext i c hi
  have:=h.lt _ _ e
  rw[gk i this,e],by rw[eg];simpa using v.fl,by rw[gn,eg];have:=v.JH;simp;omega,by rw[gk x lx,v.gx],v.lx,v.own.mono (by rw[eg];simp) fun i hi=>gk i (v.own.lt hi).2,v.nx,v.H0⟩
 have gx:=v1.gx
 have hov:ov.id?≠some h.next:=fun q=>by have:=(v.own.lt q).2;omega
 have ln:iV false ov=some (.int .i64 out.length):=v.own.rd.len
 unfold HQ wq
 by_cases c0:t.len=0
 · rw [if_pos c0]
   rw[c0]at eg gc
   rw[c0]
   by_cases c1:t.lit<0∨255<t.lit∨t.vU≠0
   · rw [if_pos c1]
     refine⟨g,ov,tz (fn:=AP.f353) (e:=[(4,.bool false)]) (vs:=[.bool false]) rfl rfl rfl ?_ rfl,v1,by omega⟩
     clear v v1
     by_cases d1:t.lit<0
     · simp (disch:=omega)only[go_sem,vD,AP.f353,←eg,gc,d1]
     · by_cases d2:255<t.lit
       · simp (disch:=omega)only[go_sem,vD,AP.f353,←eg,gc,d1,d2]
       · have d3:(t.vU !=0)=true:=by simp;omega
         simp (disch:=omega)only[go_sem,vD,AP.f353,←eg,gc,d1,d2,d3]
   · rw[if_neg c1]
     have d1:¬t.lit<0:=by omega
     have d2:¬255<t.lit:=by omega
     have d3:(t.vU !=0)=false:=by simp;omega
     by_cases c2:(8192:Int)<(out.length:Int)+1
     · simp only[if_pos c2]
       refine⟨g,ov,tz (fn:=AP.f353) (e:=[(4,.bool false)]) (vs:=[.bool false]) rfl rfl rfl ?_ rfl,v1,by omega⟩
       have d4:(8192:Int)≤(out.length:Int):=by omega
       clear v v1
       simp (disch:=omega)only[go_sem,vD,AP.f353,←eg,gc,d1,d2,d3,gx,ln,d4]
     · simp only[if_neg c2]
       obtain⟨b,hb8⟩:∃b:Nat,t.lit=b:=Sk (by omega)
       obtain⟨h1,w1,p1,p2,p3,p4,p5,t1,n1,k1⟩:=v1.push b (by omega) (by omega)
       have eo:vS out t=out++[b]:=by unfold vS;rw[if_pos c0,hb8];rfl
       refine⟨h1.set x [w1],w1,tz (fn:=AP.f353) (e:=[(4,.bool true)]) (vs:=[.bool true]) rfl rfl rfl ?_ rfl,by simp only[Option.getD_some];rw[eo];exact t1,by omega⟩
       have d4:¬(8192:Int)≤(out.length:Int):=by omega
       rw[hb8]at gc d1 d2 eg ⊢
       have wb1:IntKind.wrap .u8 (b:Int)=b:=Rt (by omega)
       clear v v1 t1 k1
       simp (disch:=omega)only[go_sem,vD,AP.f353,←eg,gc,d1,d2,d3,gx,ln,d4,wb1,p1,p2,p3,p4,p5]
 · rw [if_neg c0]
   have cb:(t.len==0)=false:=by simp;omega
   by_cases c1:t.len<3∨258<t.len∨t.vU<1∨32768<t.vU∨(out.length:Int)<t.vU∨t.lit≠0
   · rw [if_pos c1]
     refine⟨g,ov,tz (fn:=AP.f353) (e:=[(4,.bool false)]) (vs:=[.bool false]) rfl rfl rfl ?_ rfl,v1,by omega⟩
     clear v v1
     by_cases d1:t.lit=0
     · have d1':(t.lit !=0)=false:=by simp [d1]
       by_cases d2:t.len<3
       · simp (disch:=omega)only[go_sem,vD,AP.f353,←eg,gc,cb,d1',d2]
       · by_cases d3:258<t.len
         · simp (disch:=omega)only[go_sem,vD,AP.f353,←eg,gc,cb,d1',d2,d3]
         · by_cases d4:t.vU<1
           · simp (disch:=omega)only[go_sem,vD,AP.f353,←eg,gc,cb,d1',d2,d3,d4]
           · have d5:E5 out.length 32768<t.vU:=by unfold E5;split<;>omega
             simp (disch:=omega)only[go_sem,vD,AP.f353,←eg,gc,cb,d1',d2,d3,d4,gx,ln,zJ,y6,d5]
     · have d1':(t.lit !=0)=true:=by simp [d1]
       simp (disch:=omega)only[go_sem,vD,AP.f353,←eg,gc,cb,d1']
   · rw [if_neg c1]
     have d1:(t.lit !=0)=false:=by simp;omega
     have d2:¬t.len<3:=by omega
     have d3:¬258<t.len:=by omega
     have d4:¬t.vU<1:=by omega
     have d5:¬E5 out.length 32768<t.vU:=by unfold E5;split<;>omega
     by_cases c2:(8192:Int)<(out.length:Int)+t.len
     · simp only[if_pos c2]
       refine⟨g,ov,tz (fn:=AP.f353) (e:=[(4,.bool false)]) (vs:=[.bool false]) rfl rfl rfl ?_ rfl,v1,by omega⟩
       have sb:t.len≤258:=by omega
       have sb2:0≤t.len:=by omega
       clear v v1
       simp (disch:=omega)only[go_sem,vD,AP.f353,←eg,gc,cb,d1,d2,d3,d4,gx,ln,zJ,y6,d5,c2]
     · simp only[if_neg c2]
       obtain⟨L,hL⟩:∃y:Nat,t.len=y:=Sk (by omega)
       obtain⟨D,hD⟩:∃y:Nat,t.vU=y:=Sk (by omega)
       rw[hL,hD]at gc eg
       obtain⟨h',ov',L1,t2,n2⟩:=Es (hb:=hb) (c:=h.next) (l0:=.int .i64 t.lit) (L:=L) (D:=D) (by omega) (by omega) L 0 out g ov (by omega) (by omega) (by omega) v1 gc (by omega) hov
       have L1':Lp AP.A [0,3,82,83] AP.f353L0 [(0,.aC x 0),(3,.aC h.next 0),(82,.int .i64 L),(83,.int .i64 0)] g=_:=L1
       have eo:vS out t=I8 D L out:=by
        unfold vS;rw[if_neg c0,hL,hD];rfl
       refine⟨h',ov',tz (fn:=AP.f353) (e:=[(4,.bool true)]) (vs:=[.bool true]) rfl rfl rfl ?_ rfl,by simp only[Option.getD_some];rw[eo];exact t2,by omega⟩
       rw[hL]at cb d2 d3 c2 ⊢
       rw[hD]at d4 d5 ⊢
       have sb:L≤258:=by omega
       clear v v1 t2 L1
       simp (disch:=omega)only[go_sem,vD,AP.f353,←eg,gc,cb,d1,d2,d3,d4,gx,ln,zJ,y6,d5,c2,rU,L1']
end Ab
