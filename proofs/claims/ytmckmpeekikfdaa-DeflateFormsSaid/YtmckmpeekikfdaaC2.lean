/- Part C2. -/
import Derived.Test.YtmckmpeekikfdaaC1
set_option linter.unusedSimpArgs false
set_option linter.unusedVariables false
namespace Ab
open Go
theorem dt {p:Prop} [Decidable p] (h:p):decide p=true:=R2 h
theorem df {p:Prop} [Decidable p] (h:¬p):decide p=false:=R0 h
theorem QO {a b:Int} (h:a=b):(a==b)=true:=by simp [h]
theorem QN {a b:Int} (h:¬a=b):(a==b)=false:=by simp [h]
theorem QS {a b:Int} (h:¬a=b):(a !=b)=true:=by simp [h]
theorem QR {a b:Int} (h:a=b):(a !=b)=false:=by simp [h]
theorem wi {n:Int} (h: -9223372036854775808≤n∧n<9223372036854775808):IntKind.wrap .i64 n=n:=tw h.1 (by omega)
theorem wb {n:Int} (h:0≤n∧n<256):IntKind.wrap .u8 n=n:=by
 simp [IntKind.wrap,IntKind.bits,IntKind.signed];omega
theorem OP {i:Int} {n:Nat} (h:0≤i∧i<n):cM (.int .i64 i) n=some i.toNat:=by
 simp [cM,ny,h]
def at_:Nat→aF→aF
 |0,.seq a _=>a
 |0,c=>c
 |n+1,.seq _ b=>at_ n b
 |_+1,c=>c
def KS:Nat→aF→aF
 |0,c=>c
 |n+1,.seq _ b=>KS n b
 |_+1,c=>c
theorem zX (a b:aF):at_ 0 (.seq a b)=a:=rfl
theorem AB (n:Nat) (a b:aF):at_ (n+1) (.seq a b)=at_ n b:=rfl
theorem LC (c:aF):KS 0 c=c:=rfl
theorem Lz (n:Nat) (a b:aF):KS (n+1) (.seq a b)=KS n b:=rfl
theorem AL {h:H} {id i:Nat} (e:¬i=id):(h.del id).get i=h.get i:=by rw[H.dO,if_neg e]
theorem A5 (h:H):h.dL.next=h.next:=uz rfl rfl
theorem AN (h:H):h.dL.floor=h.next:=uz rfl rfl
theorem AQ (h:H) (i:Nat):h.dL.get i=h.get i:=uz rfl rfl
theorem EU (h:H) (i:Nat):(h.del i).next=h.next:=uz rfl rfl
theorem EK (h:H) (i:Nat):(h.del i).floor=h.floor:=uz rfl rfl
theorem vp {h:H} {cs:List AV} {i:Nat} (e:i=h.next):(h.alloc cs).get i=some cs:=by rw[H.aV,if_pos e]
theorem vn {h:H} {cs:List AV} {i:Nat} (e:¬i=h.next):(h.alloc cs).get i=h.get i:=by rw[H.aV,if_neg e]
theorem vA {h:H} {cs:List AV} {id i:Nat} (e:i=id):(h.set id cs).get i=(h.get i).map fun _=>cs:=by rw[H.dj,if_pos e,e]
theorem u9 {h:H} {cs:List AV} {id i:Nat} (e:¬i=id):(h.set id cs).get i=h.get i:=by rw[H.dj,if_neg e]
def xc {α:Type} (b:Bool) (x:α):Option α:=if b then some x else none
theorem HL {α:Type} (x:α):xc true x=some x:=rfl
theorem Kw (h:H) (id off n:Nat) (v cs:List AV):tN h id off n v (some cs)=xc (decide (h.floor≤id)&&(decide (v.length=n)&&(decide (off+n≤cs.length)&&AV.aB v))) (h.set id (setFrom cs off v)):=by
 simp only[tN,uE,xc]
 by_cases c:h.floor≤id∧v.length=n∧off+n≤cs.length∧AV.aB v=true
 · rw[if_pos c];obtain⟨c1,c2,c3,c4⟩:=c;simp [c1,c2,c3,c4]
 · rw[if_neg c,if_neg];simpa using c
theorem KR (n:Nat) (cs:List AV) (off:Nat):gN true n cs off=xc (decide (off+n≤cs.length)) (.agg ((cs.drop off).take n)):=by
 simp only[gN,xc,if_true,decide_eq_true_eq]
theorem JJ (z:List AV):dM z []=some z:=rfl
def FR (r:List (Nat×Nat×AV)) (p:Option (List AV)):Option (List AV):=p.bind fun z=>dM z r
theorem HT (r:List (Nat×Nat×AV)) (z:List AV):FR r (some z)=dM z r:=rfl
theorem JI (z:List AV) (o n:Nat) (v:AV) (r:List (Nat×Nat×AV)):dM z ((o,n,v)::r)=FR r (xc (decide (v.cells.length=n)&&(decide (o+n≤z.length)&&AV.aB v.cells)) (setFrom z o v.cells)):=by
 simp only[dM,xc]
 by_cases c:v.cells.length=n∧o+n≤z.length∧AV.aB v.cells=true
 · rw[if_pos c];obtain⟨c1,c2,c3⟩:=c;simp [c1,c2,c3,FR]
 · rw[if_neg c,if_neg]; · rfl
   simpa using c
def Fw (p:Option (List AV)) (f:Nat→AV):Option (List AV×(Nat→AV)):=p.bind fun cs=>some (cs,f)
theorem Jt (cs:List AV) (f:Nat→AV):Fw (some cs) f=some (cs,f):=rfl
theorem DK (e:Env) (z:List AV):aX e (.alloc z)=Fw (xc (AV.aB z) z) (fun i=>.aC i 0):=by
 simp only[aX,xc];split<;>rfl
theorem HI (e:Env) (n:Nat) (x:X):aX e (.box n x)=Fw (xc (decide ((x.ev e).cells.length=n)&&AV.aB (x.ev e).cells) (x.ev e).cells) (fun i=>.aC i 0):=by
 simp only[aX,xc]
 by_cases c:(x.ev e).cells.length=n∧AV.aB (x.ev e).cells=true
 · rw[if_pos c];simp [c,Fw]
 · rw[if_neg c,if_neg]; · rfl
   simpa using c
theorem Cr (e:Env) (sz len:Nat) (z:List AV) (ps:List (Nat×X)):aX e (.cC sz len z ps)=Fw (FR (ps.map fun p=>(p.1* sz,sz,p.2.ev e)) (xc (decide (z.length=sz)&&(decide (0<sz)&&AV.aB z)) (dE len z))) (fun i=>.aD i 0 len sz):=by
 simp only[aX,xc]
 by_cases c:z.length=sz∧0<sz∧AV.aB z=true
 · rw[if_pos c];simp [c,Fw,FR]
 · rw[if_neg c,if_neg]; · rfl
   simpa using c
theorem Ki (z:List AV):dE 0 z=[]:=rfl
theorem Kh (n:Nat) (z:List AV):dE (n+1) z=z++dE n z:=rfl
def Of (vR:List Nat) (e:Env) (h:H) (b:Bool):dx:=if b then some (.normal,ax e vR,h)else none
theorem JR (vR:List Nat) (e:Env) (h:H):Of vR e h true=some (.normal,ax e vR,h):=rfl
def QP (c:ae) (ops:List aj) (fl:List (Nat×List Nat)) (vR:List Nat) (p:Option (Env×H×List H)):dx:=p.bind fun q=>Of vR q.1 q.2.1 (aY c ops q.1 q.2.2 fl)
theorem LQ (c:ae) (ops:List aj) (fl:List (Nat×List Nat)) (vR:List Nat) (e:Env) (h:H) (gs:List H):QP c ops fl vR (some (e,h,gs))=Of vR e h (aY c ops e gs fl):=rfl
theorem HG (c:ae) (l:bJ) (ord:List Nat) (ops:List aj) (x:Nat×List Nat) (fl:List (Nat×List Nat)) (vR:List Nat) (e:Env) (h:H):aK c l (.iE ord ops (x::fl) vR) e h=QP c ops (x::fl) vR (aM c ops e h):=by
 rw[aK];rfl
theorem Mh (c:ae) (ops:List aj) (e:Env) (gs:List H):aY c ops e gs []=true:=rfl
def Qn (c:ae) (ops:List aj) (e:Env) (gs:List H) (i:Nat) (ks:List Nat):Bool:=ks.all (bH c ops e gs i)
theorem Mg (c:ae) (ops:List aj) (e:Env) (gs:List H) (i:Nat) (ks:List Nat) (r:List (Nat×List Nat)):aY c ops e gs ((i,ks)::r)=(Qn c ops e gs i ks&&aY c ops e gs r):=rfl
theorem Me (c:ae) (ops:List aj) (e:Env) (gs:List H) (i:Nat):Qn c ops e gs i []=true:=rfl
def OB (c : ae) (e : Env) (o : Option aj) (g : Option H) : Bool := match o, g with
 | some o, some g =>
   if o.op.aH then
    match o.dst.map (look e)with
    |some (.bO [])=>true
    | some v => (match v.id?, aX e o.op with
      |some id,some b=>(match g.get id with|some cs=>AV.fL cs b.1|none=>false)
      |_,_=>false)
    |none=>false
   else match o.dst.map (look e)with
    |some v=>(match ai c o e g with|some (u,_)=>AV.beq u v|none=>false)
    |none=>false
 |_,_=>false
theorem Md (c:ae) (ops:List aj) (e:Env) (gs:List H) (i k:Nat) (r:List Nat):Qn c ops e gs i (k::r)=(OB c e (ops[i]?) (gs[k]?)&&Qn c ops e gs i r):=by
 unfold Qn
 rw[List.all_cons]
 congr 1
def QI (v:AV) (p:Option (AV×H)):Bool:=match p with|some (u,_)=>AV.beq u v|none=>false
theorem Mf (v u:AV) (h:H):QI v (some (u,h))=AV.beq u v:=rfl
def OJ (b:Bool) (x y:Bool):Bool:=if b then x else y
theorem Mb (x y:Bool):OJ false x y=y:=rfl
def DF (c:ae) (e:Env) (o:Option aj) (g:Option H):Bool:=OB c e o g
theorem Ma (c:ae) (e:Env) (d:Nat) (op:bW) (g:H):OB c e (some ⟨some d,op,none⟩) (some g)=OJ op.aH (DF c e (some ⟨some d,op,none⟩) (some g)) (QI (look e d) (ah c e g op)):=by
 unfold DF OB OJ
 dsimp only
 cases op.aH<;>rfl
theorem L9 (c:ae) (e:Env) (d:Nat) (op:bW) (k:Nat) (w:Bool) (g:H):OB c e (some ⟨some d,op,some (k,w)⟩) (some g)=OJ op.aH (DF c e (some ⟨some d,op,some (k,w)⟩) (some g)) (QI (look e d) (kM w c e g op (look e k))):=by
 unfold DF OB OJ
 dsimp only
 cases op.aH with
 |true=>rfl
 |false=>rw[mH];rfl
mutual
theorem beq_refl:∀a:AV,AV.beq a a=true
 | .bot=>rfl
 | .bool b=>by simp [AV.beq]
 | .int k n=>by simp [AV.beq]
 | .str s=>Cg s
 | .cn=>rfl
 | .aC i o=>by simp [AV.beq]
 | .aJ c o=>by simp [AV.beq,wT c]
 | .aO=>rfl
 | .aD i o l z=>by simp [AV.beq]
 | .aU t c o l z=>by simp [AV.beq,wT c]
 | .fn f a b=>by simp [AV.beq,wT a,wT b]
 | .eJ=>rfl
 | .iface t v=>by simp [AV.beq,beq_refl v]
 | .eK=>rfl
 | .agg c=>by simp [AV.beq,wT c]
 | .bO c=>by simp [AV.beq,wT c]
theorem wT:∀l:List AV,AV.fL l l=true
 |[]=>rfl
 |a::l=>by simp [AV.fL,beq_refl a,wT l]
end
theorem Mc (x y:Bool):OJ true x y=x:=rfl
def OS (c:Option (List AV)) (d:List AV):Bool:=match c with|some cs=>AV.fL cs d|none=>false
theorem LO (c d:List AV):OS (some c) d=AV.fL c d:=rfl
def Fe (v : AV) (b : Option (List AV × (Nat → AV))) (g : H) : Bool := match v with
 | .bO []=>true
 | v => match v.id?, b with
   |some id,some b=>OS (g.get id) b.1
   |_,_=>false
theorem Kv (b:Option (List AV×(Nat→AV))) (g:H):Fe (.bO []) b g=true:=rfl
theorem Ku (i o:Nat) (cs:List AV) (f:Nat→AV) (g:H):Fe (.aC i o) (some (cs,f)) g=OS (g.get i) cs:=rfl
theorem Ks (i o l z:Nat) (cs:List AV) (f:Nat→AV) (g:H):Fe (.aD i o l z) (some (cs,f)) g=OS (g.get i) cs:=rfl
theorem Cn {c : ae} {e : Env} {d : Nat} {op : bW} {gd : Option (Nat × Bool)} {g : H} (hb : op.aH = true) : DF c e (some ⟨some d, op, gd⟩) (some g) = Fe (look e d) (aX e op) g := by
 unfold DF OB
 dsimp only
 rw[hb,if_pos rfl]
 show (match some (look e d) with
  |some (.bO [])=>true
  | some v => (match v.id?, aX e op with
    |some id,some b=>(match g.get id with|some cs=>AV.fL cs b.1|none=>false)
    |_,_=>false)
  |none=>false)=_
 generalize look e d=v
 unfold Fe OS
 cases v with
 |bO vs=>cases vs<;>rfl
 |_=>cases aX e op<;>rfl
theorem Dk (c:ae) (e:Env) (d:Nat) (z:List AV) (gd:Option (Nat×Bool)) (g:H):DF c e (some ⟨some d,.alloc z,gd⟩) (some g)=Fe (look e d) (aX e (.alloc z)) g:=Cn rfl
theorem GF (c:ae) (e:Env) (d n:Nat) (x:X) (gd:Option (Nat×Bool)) (g:H):DF c e (some ⟨some d,.box n x,gd⟩) (some g)=Fe (look e d) (aX e (.box n x)) g:=Cn rfl
theorem B7 (c:ae) (e:Env) (d n m:Nat) (z:List AV) (ps:List (Nat×X)) (gd:Option (Nat×Bool)) (g:H):DF c e (some ⟨some d,.cC n m z ps,gd⟩) (some g)=Fe (look e d) (aX e (.cC n m z ps)) g:=Cn rfl
theorem Er (c:ae) (e:Env) (d n m:Nat) (z:List AV) (x y:X) (gd:Option (Nat×Bool)) (g:H):DF c e (some ⟨some d,.iG n m z x y,gd⟩) (some g)=Fe (look e d) (aX e (.iG n m z x y)) g:=Cn rfl
theorem Fq (b:Bool):AV.beq (.bool b) (.bool b)=true:=by simp [AV.beq]
theorem Fv:AV.beq (.bO []) (.bO [])=true:=rfl
theorem Fs:AV.beq .aO .aO=true:=rfl
theorem DJ:AV.beq .cn .cn=true:=rfl
theorem JW (sz id off len:Nat) (i:AV):fI sz (.aD id off len sz) i=tX id off sz (cM i len):=by simp [fI,tX]
theorem JV (t:Bool) (cells:List AV) (sz off len:Nat) (i:AV):fI sz (.aU t cells off len sz) i=tY cells off sz (cM i len):=by simp [fI,tY]
def xE (n:Nat) (z:List AV):List AV:=dE n z
def LV (sz bytes:Nat) (zero:List AV) (l c:AV):Option (List AV×(Nat→AV)):=
 match l,c with
 | .int .i64 l,.int .i64 c=>Fw (xc (decide (0≤l)&&(decide (l≤c)&&(decide (c≤9223372036854775807)&&(decide ((bytes:Int)* c≤281474976710656)&&(decide (zero.length=sz)&&(decide (0<sz)&&AV.aB zero)))))) (xE c.toNat zero)) (fun i=>.aD i 0 l.toNat sz)
 |_,_=>none
theorem ET (sz bytes:Nat) (zero:List AV) (l c:Int):LV sz bytes zero (.int .i64 l) (.int .i64 c)=Fw (xc (decide (0≤l)&&(decide (l≤c)&&(decide (c≤9223372036854775807)&&(decide ((bytes:Int)* c≤281474976710656)&&(decide (zero.length=sz)&&(decide (0<sz)&&AV.aB zero)))))) (xE c.toNat zero)) (fun i=>.aD i 0 l.toNat sz):=rfl
theorem Fx (e : Env) (sz bytes : Nat) (zero : List AV) (l c : X) : aX e (.iG sz bytes zero l c) = LV sz bytes zero (l.ev e) (c.ev e) := by
 simp only[aX]
 cases l.ev e with
 | int k l => cases k <;> cases c.ev e with
   | int k2 c => cases k2 <;> first
     |rfl
     | (simp only [ET, xc]
        by_cases q:0≤l∧l≤c∧c≤9223372036854775807∧(bytes:Int)* c≤281474976710656∧zero.length=sz∧0<sz∧AV.aB zero=true
        · rw[if_pos q];obtain⟨q1,q2,q3,q4,q5,q6,q7⟩:=q
          rw[if_pos]
          · rfl
          · simp [q1,q2,q3,q4,q5,q6,q7]
        · rw[if_neg q,if_neg]
          · rfl
          · simpa using q)
   |_=>rfl
 |_=>cases c.ev e<;>rfl
theorem ze (i o l z:Nat):iP false (.aD i o l z)=some (.int .i64 l):=rfl
theorem EB:iP false .aO=some (.int .i64 0):=rfl
theorem GZ (t:Bool) (c:List AV) (o l z:Nat):iP false (.aU t c o l z)=some (.int .i64 l):=rfl
theorem wD (s:ByteArray):iP true (.str s)=some (.int .i64 s.size):=rfl
theorem KH (a b:Nat):((a:Int)+(b:Int)).toNat=a+b:=by omega
theorem Hy (a:Nat):((a:Int)).toNat=a:=by omega
def xP (s:ByteArray) (i:Nat):Nat:=((s[i]?).map (·.toNat)).getD 0
theorem Cs (s:ByteArray) (i:Nat):xP s i<256:=by
 unfold xP
 cases s[i]? with
 |none=>simp
 |some b=>simp;exact b.toNat_lt
theorem zK {s:ByteArray} {i:Int} (h:0≤i∧i<s.size):lS (.str s) (.int .i64 i)=some (.int .u8 (xP s i.toNat:Nat)):=by
 have hi:i.toNat<s.size:=by omega
 simp [lS,OP h,xP,hi]
def BD {α:Type} (b:Bool) (x y:Option α):Option α:=if b then x else y
theorem Kl {α:Type} (x y:Option α):BD true x y=x:=rfl
theorem Kk {α:Type} (x y:Option α):BD false x y=y:=rfl
def OA (n o k:Nat) (p:Option (List AV)):Option (Nat×List AV):=p.bind fun cs=>xc (decide (o+k* n≤cs.length)) (k,(cs.drop o).take (k* n))
theorem Kr (n o k:Nat) (cs:List AV):OA n o k (some cs)=xc (decide (o+k* n≤cs.length)) (k,(cs.drop o).take (k* n)):=rfl
theorem L7 (h:H) (n p o k:Nat):aR h n (.aD p o k n)=OA n o k (h.get p):=by
 simp only[aR,if_true,OA]
 cases h.get p with
 |none=>rfl
 |some cs=>simp only[uE,xc,decide_eq_true_eq]
theorem L4 (h:H) (t:Bool) (n o k:Nat) (cs:List AV):aR h n (.aU t cs o k n)=xc (decide (o+k* n≤cs.length)) (k,(cs.drop o).take (k* n)):=by
 simp only[aR,if_true,xc,decide_eq_true_eq]
theorem L6 (h:H) (n:Nat):aR h n .aO=some (0,[]):=uz rfl rfl
theorem L8 (h:H) (s:ByteArray):aR h 1 (.str s)=some (s.size,s.data.toList.map fun b=>.int .u8 b.toNat):=uz rfl rfl
def OQ (h:H) (n z:Nat) (a:AV) (p:Option (Nat×List AV)):Option (AV×H):=p.bind fun r=>dH h n z a r.1 r.2
theorem Jq (h:H) (n z:Nat) (a:AV) (m:Nat) (bs:List AV):OQ h n z a (some (m,bs))=dH h n z a m bs:=rfl
theorem LN (h:H) (n z:Nat) (a b:AV):kq h n z a b=OQ h n z a (aR h n b):=uz rfl rfl
def Qv (h:H) (n z p o k m:Nat) (bs:List AV) (q:Option (List AV)):Option (AV×H):=q.bind fun cs=>
 BD (decide (o+(k+m)* n≤cs.length)) (some (.aD p o (k+m) n,h.set p (setFrom cs (o+k* n) bs))) (BD (decide (o+k* n=cs.length)&&roomy z (k+m)) (some (.aD h.next 0 (k+m) n,(h.del p).alloc (cs.drop o++bs))) none)
theorem LJ (h:H) (n z p o k m:Nat) (bs cs:List AV):Qv h n z p o k m bs (some cs)=BD (decide (o+(k+m)* n≤cs.length)) (some (.aD p o (k+m) n,h.set p (setFrom cs (o+k* n) bs))) (BD (decide (o+k* n=cs.length)&&roomy z (k+m)) (some (.aD h.next 0 (k+m) n,(h.del p).alloc (cs.drop o++bs))) none):=rfl
theorem LM (h : H) (n z p o k m : Nat) (bs : List AV) : dH h n z (.aD p o k n) m bs = BD (decide (m = 0)) (some (.aD p o k n, h)) (BD (AV.aB bs && (decide (0 < n) && decide (h.floor ≤ p))) (Qv h n z p o k m bs (h.get p)) none) := by
 unfold dH BD
 by_cases c:m=0
 · simp [c]
 · rw [if_neg c]
   simp only[decide_eq_true_eq,if_neg c]
   by_cases c1:AV.aB bs=false∨n=0
   · rw[if_pos c1,if_neg]
     rcases c1 with c1|c1
     · simp [c1]
     · simp [c1]
   · rw[if_neg c1]
     have q1:AV.aB bs=true:=by cases q:AV.aB bs with|true=>rfl|false=>exact absurd (.inl q) c1
     by_cases c2:h.floor≤p
     · have qq:(AV.aB bs&&(decide (0<n)&&decide (h.floor≤p)))=true:=by simp [q1,c2];omega
       simp only[true_and,if_pos c2,qq,if_true,Qv,BD]
       cases h.get p with
       |none=>rfl
       |some cs=>simp only[uE,decide_eq_true_eq,uI]
     · have qq:(AV.aB bs&&(decide (0<n)&&decide (h.floor≤p)))=false:=by simp [c2]
       simp only[true_and,if_neg c2,qq];rfl
theorem LK (h:H) (n z m:Nat) (bs:List AV):dH h n z .aO m bs=BD (decide (m=0)) (some (.aO,h)) (BD (AV.aB bs&&(decide (0<n)&&roomy z m)) (some (.aD h.next 0 m n,h.alloc bs)) none):=by
 unfold dH BD
 by_cases c:m=0
 · simp [c]
 · rw[if_neg c]
   simp only[decide_eq_true_eq,if_neg c]
   by_cases c1:AV.aB bs=false∨n=0
   · rw[if_pos c1,if_neg]
     rcases c1 with c1|c1
     · simp [c1]
     · simp [c1]
   · rw[if_neg c1]
     have q1:AV.aB bs=true:=by cases q:AV.aB bs with|true=>rfl|false=>exact absurd (.inl q) c1
     have q2:0<n:=by omega
     simp [q1,q2]
theorem zO {b n:Nat} (h:1≤b∧(n+n/4+512)* b≤281474976710656):roomy b n=true:=by simp only[roomy,h.1,h.2,and_self,decide_true]
theorem LZ {h:H} {n p o k:Nat} {m:Int} {cs:List AV} (hg:h.get p=some cs) (hn:0<n) (hk:o+k* n≤cs.length) (hm:0≤m∧m.toNat≤(cs.length-o)/n):rM h n (.aD p o k n) none (some (.int .i64 m)) none=some (.aD p o m.toNat n):=by
 have h1:k≤(cs.length-o)/n:=by rw[Nat.le_div_iff_mul_le hn];omega
 simp only[rM,hn,and_self,if_true,hg,uE,aA]
 rw[if_pos ⟨by omega,h1⟩]
 have h3:jY (.int .i64 m) ((cs.length-o)/n)=some m.toNat:=by
  simp only[jY,ny,uE]
  rw[if_pos]
  omega
 simp [h3]
theorem JM {α:Type} {C:α→List AV} {n:Nat} (hC:∀x,(C x).length=n):∀{l:List α} {i f:Nat} {x:α},l[i]?=some x→f<n→(l.flatMap C)[i* n+f]?=(C x)[f]?
 |[],i,f,x,h,_=>by simp at h
 | y :: l, 0, f, x, h, hf => by
   obtain rfl:y=x:=by simpa using h
   rw[R3,Nat.zero_mul,uM,R7 (by rw[hC];exact hf)]
 | y :: l, i + 1, f, x, h, hf => by
   rw[R3,R8 (by rw[hC,uX];omega),hC]
   rw[show(i+1)* n+f-n=i* n+f by rw[uX];omega]
   exact JM hC (by simpa using h) hf
theorem Bl {α:Type} {C:α→List AV} {n:Nat} (hC:∀x,(C x).length=n):∀l:List α,(l.flatMap C).length=l.length* n
 |[]=>by simp
 |y::l=>by rw[R3,u4,hC,Bl hC l,RX,uX];omega
theorem EL {α:Type} {C:α→List AV} {n:Nat} (hC:∀x,(C x).length=n):∀{l:List α} {i:Nat} {x:α},l[i]?=some x→((l.flatMap C).drop (i* n)).take n=C x
 |[],i,x,h=>by simp at h
 | y :: l, 0, x, h => by
   obtain rfl:y=x:=by simpa using h
   rw[R3,Nat.zero_mul,Si,List.take_append_of_le_length (by rw[hC];omega),uW (by rw[hC];omega)]
 | y :: l, i + 1, x, h => by
   rw[R3,List.drop_append,List.drop_of_length_le (by rw[hC,uX];omega),List.nil_append,hC,show(i+1)* n-n=i* n by rw[uX];omega]
   exact EL hC (by simpa using h)
def yB (n:Nat) (h:H) (v:AV) (k:Nat) (cs:List AV):Prop:=aR h n v=some (k,cs)∧cs.length=k* n∧∀s,v≠.str s
theorem Rd.QT {h:H} {v:AV} {cs:List AV} (r:Rd h v cs):yB 1 h v cs.length cs:=⟨r.1,by omega,r.2⟩
theorem yB.len {n:Nat} {h:H} {v:AV} {k:Nat} {cs:List AV} (r:yB n h v k cs):iP false v=some (.int .i64 k):=by
 obtain⟨r,_,hs⟩:=r
 unfold aR at r
 split at r
 · obtain⟨h1,h2⟩:=ux (uv r);subst h1;rfl
 · exact absurd rfl (hs _)
 · split at r
   · simp only[uu]at r
     obtain⟨c,_,r⟩:=r
     split at r
     · obtain⟨h1,h2⟩:=ux (uv r);simp [iP,h1]
     · cases r
   · cases r
 · split at r
   · split at r
     · obtain⟨h1,h2⟩:=ux (uv r);simp [iP,h1]
     · cases r
   · cases r
 · cases r
theorem yB.mono {n:Nat} {h g:H} {v:AV} {k:Nat} {cs:List AV} (r:yB n h v k cs) (hg:∀id c,h.get id=some c→g.get id=some c):yB n g v k cs:=by
 obtain⟨r,hl,hs⟩:=r
 refine⟨?_,hl,hs⟩
 unfold aR at r ⊢
 split at r
 · exact r
 · exact r
 · split at r
   · rename_i q;simp only[if_pos q,uu]at r ⊢
     obtain⟨c,h1,r⟩:=r
     exact⟨c,hg _ _ h1,r⟩
   · cases r
 · exact r
 · cases r
theorem yB.at_ {n : Nat} {h : H} {v : AV} {k : Nat} {cs : List AV} (r : yB n h v k cs) : ∃ ad : Int → Nat → AV,
 (∀i:Int,0≤i∧i<k→fI n v (.int .i64 i)=some (ad i 0))∧
 (∀(i:Int) (f g:Nat),0≤i∧i<k→e5 g (ad i f)=some (ad i (f+g)))∧
 (∀(i:Int) (f:Nat) (g:H),0≤i∧i<k→jo g (ad i f)=some (ad i f,g))∧
 (∀g:H,(∀id c,h.get id=some c→g.get id=some c)→(∀(i:Int) (f:Nat) (c:AV),0≤i∧i<k→cs[i.toNat* n+f]?=some c→bS false 1 (ad i f) g=some c)∧
   ∀i:Int,0≤i∧i<k→bS true n (ad i 0) g=some (.agg ((cs.drop (i.toNat* n)).take n))):=by
 obtain⟨r,hl,hs⟩:=r
 unfold aR at r
 split at r
 · obtain⟨h1,h2⟩:=ux (uv r);subst h1
   exact⟨fun _ _=>.bot,fun i hi=>by omega,fun i f g hi=>by omega,fun i f g hi=>by omega,fun g _=>⟨fun i f c hi=>by omega,fun i hi=>by omega⟩⟩
 · exact absurd rfl (hs _)
 · rename_i id off len s
   split at r
   · rename_i q
     subst q
     simp only[uu]at r
     obtain⟨d,hd,r⟩:=r
     split at r
     · rename_i hle
       obtain⟨h1,h2⟩:=ux (uv r)
       subst h1
       have bnd:∀i:Int,0≤i∧i<len→i.toNat* s+s≤len* s:=fun i hi=>by
        have:=uK s (show i.toNat+1≤len by omega);rw[uX]at this;omega
       refine⟨fun i f=>.aC id (off+i.toNat* s+f),fun i hi=>by simp [fI,OP hi],fun i f g _=>by simp [e5];omega,fun i f g _=>rfl,fun g hg=>⟨fun i f c hi hc=> ?_,fun i hi=> ?_⟩⟩
       · simp only[bS,hg _ _ hd,uE,gN,uF,u5]
         rw[←h2,u0]at hc
         split at hc
         · rw[uS]at hc;rw[uG];exact hc
         · cases hc
       · have:=bnd i hi
         simp only[bS,hg _ _ hd,uE,gN,if_true,Nat.add_zero]
         rw[if_pos (by omega),←h2,List.drop_take,List.take_take,List.drop_drop,Nat.min_eq_left (by omega)]
     · cases r
   · cases r
 · rename_i t cells off len s
   split at r
   · rename_i q
     subst q
     split at r
     · rename_i hle
       obtain⟨h1,h2⟩:=ux (uv r)
       subst h1
       have bnd:∀i:Int,0≤i∧i<len→i.toNat* s+s≤len* s:=fun i hi=>by
        have:=uK s (show i.toNat+1≤len by omega);rw[uX]at this;omega
       refine⟨fun i f=>.aJ cells (off+i.toNat* s+f),fun i hi=>by simp [fI,OP hi],fun i f g _=>by simp [e5];omega,fun i f g _=>rfl,fun g hg=>⟨fun i f c hi hc=> ?_,fun i hi=> ?_⟩⟩
       · simp only[bS,gN,uF,u5]
         rw[←h2,u0]at hc
         split at hc
         · rw[uS]at hc;rw[uG];exact hc
         · cases hc
       · have:=bnd i hi
         simp only[bS,gN,if_true,Nat.add_zero]
         rw[if_pos (by omega),←h2,List.drop_take,List.take_take,List.drop_drop,Nat.min_eq_left (by omega)]
     · cases r
   · cases r
 · cases r
def v8 (n:Nat) (h:H) (v:AV) (k:Nat) (cs:List AV):Prop:=cs.length=k* n∧((v=.aO∧k=0)∨∃id,v=.aD id 0 k n∧h.get id=some cs∧h.floor≤id∧0<k)
theorem v8.nil {n:Nat} {h:H}:v8 n h .aO 0 []:=⟨by simp,.inl ⟨rfl,rfl⟩⟩
theorem v8.mono {n:Nat} {h g:H} {v:AV} {k:Nat} {cs:List AV} (o:v8 n h v k cs) (hf:g.floor=h.floor) (hg:∀i,v.id?=some i→g.get i=h.get i):v8 n g v k cs:=by
 obtain⟨l,o⟩:=o
 refine⟨l, ?_⟩
 rcases o with o|⟨id,rfl,h1,h2,h3⟩
 · exact .inl o
 · exact .inr ⟨id,rfl,by rw[hg id rfl];exact h1,by rw[hf];exact h2,h3⟩
theorem v8.sc {n:Nat} {h:H} {v:AV} {k:Nat} {cs:List AV} (o:v8 n h v k cs):v.sc=true:=by
 rcases o.2 with ⟨rfl,_⟩|⟨id,rfl,_⟩<;>rfl
theorem v8.lt {n:Nat} {h:H} {v:AV} {k:Nat} {cs:List AV} (o:v8 n h v k cs) {i:Nat} (hi:v.id?=some i):h.floor≤i∧i<h.next:=by
 rcases o.2 with ⟨rfl,_⟩|⟨id,rfl,h1,h2⟩
 · cases hi
 · obtain rfl:=uv hi;exact⟨h2.1,h.lt _ _ h1⟩
theorem v8.rd {n:Nat} {h:H} {v:AV} {k:Nat} {cs:List AV} (o:v8 n h v k cs):yB n h v k cs:=by
 obtain⟨l,o⟩:=o
 rcases o with ⟨rfl,rfl⟩|⟨id,rfl,h1,h2⟩
 · have:cs=[]:=Sk (by omega)
   subst this
   exact⟨rfl,by simp,fun _=>by simp⟩
 · refine⟨?_,l,fun _=>by simp⟩
   simp only[aR,if_true,h1,uE,uM]
   rw[if_pos (by omega),Si,uW (by omega)]
theorem v8.app {n:Nat} {h:H} {v:AV} {k:Nat} {cs:List AV} (o:v8 n h v k cs) (hfn:h.floor≤h.next) {z m:Nat} (hm:0<m) (hn:0<n) (bs:List AV) (hb:bs.length=m* n) (hc:AV.aB bs=true) (hr:roomy z (k+m)=true):
 ∃v' h',dH h n z v m bs=some (v',h')∧v8 n h' v' (k+m) (cs++bs)∧h'.floor=h.floor∧h.next≤h'.next∧(∀i,v.id?≠some i→i≠h.next→h'.get i=h.get i)∧v'.id?=some h.next:=by
 obtain⟨hl,o⟩:=o
 have hll:(cs++bs).length=(k+m)* n:=by rw[u4,hl,hb,uX]
 rcases o with ⟨rfl,rfl⟩|⟨id,rfl,hg,hf,_⟩
 · have:cs=[]:=Sk (by omega)
   subst this
   refine⟨.aD h.next 0 m n,h.alloc bs, ?_,⟨hll,.inr ⟨h.next,by simp,by simp [H.aV],by simp;omega,by omega⟩⟩,by simp,by simp,fun i _ hi=>by rw[H.aV,if_neg hi],rfl⟩
   unfold dH
   rw[if_neg (by omega),if_neg (by simp [hc];omega)]
   rw[uM]at hr
   simp only[hr,if_true]
 · have hmn:0<m* n:=Nat.mul_pos hm hn
   have hnot:¬0+(k+m)* n≤cs.length:=by rw[hl,uX];omega
   refine⟨.aD h.next 0 (k+m) n,(h.del id).alloc (cs++bs), ?_,⟨hll,.inr ⟨h.next,by simp,by simp [H.aV], ?_,by omega⟩⟩,by simp,by simp,fun i h1 h2=> ?_,rfl⟩
   · unfold dH
     rw[if_neg (by omega),if_neg (by simp [hc];omega)]
     simp only[hf,and_self,if_true,hg,uE]
     rw[if_neg hnot,if_pos ⟨by omega,hr⟩]
     simp
   · have:=h.lt id cs hg;simp;omega
   · rw[H.aV,H.jm,if_neg h2,H.dO,if_neg]
     intro e;subst e;exact h1 rfl
theorem v8.push {n:Nat} {h:H} {v:AV} {k:Nat} {cs:List AV} (o:v8 n h v k cs) (hfn:h.floor≤h.next) {z m:Nat} (hm:0<m) (hn:0<n) (bs:List AV) (hb:bs.length=m* n) (hc:AV.aB bs=true) (hr:roomy z (k+m)=true):
 ∃v' h',kq (h.alloc bs) n z v (.aD h.next 0 m n)=some (v',h')∧v8 n h' v' (k+m) (cs++bs)∧h'.floor=h.floor∧h.next+1≤h'.next∧(∀i,v.id?≠some i→i<h.next→h'.get i=h.get i)∧v'.id?=some (h.next+1):=by
 have o1:v8 n (h.alloc bs) v k cs:=o.mono (by simp) fun i q=>by rw[H.aV,if_neg];have:=o.lt q;omega
 obtain⟨v',h',p1,p2,p3,p4,p5,p6⟩:=o1.app (z:=z) (by simp;omega) hm hn bs hb hc hr
 refine⟨v',h', ?_,p2,by rw[p3];simp,by simpa using p4,fun i q1 q2=> ?_,by simpa using p6⟩
 · have src:aR (h.alloc bs) n (.aD h.next 0 m n)=some (m,bs):=by
    simp only[aR,if_true,H.aV,uE,uM]
    rw[if_pos (by omega),Si,uW (by omega)]
   unfold kq;rw[src,uE];exact p1
 · rw[p5 i q1 (by simp;omega),H.aV,if_neg (by omega)]
def zd (n k:Nat) (cs:List AV):AV:=if k=0 then .aO else .aU false cs 0 k n
theorem Hw {n k:Nat} {h:H} {cs:List AV} (hl:cs.length=k* n):yB n h (zd n k cs) k cs:=by
 unfold zd
 by_cases hk:k=0
 · subst hk
   have:cs=[]:=Sk (by omega)
   subst this
   exact⟨rfl,by simp,fun _=>by simp⟩
 · rw[if_neg hk]
   refine⟨?_,hl,fun _=>by simp⟩
   simp only[aR,if_true,uM]
   rw[if_pos (by omega),Si,uW (by omega)]
theorem v8.zP {n:Nat} {h:H} {v:AV} {k:Nat} {l:List Int} {fl m:Nat} {t:Bool} (o:v8 n h v k (ints l)) (hf:fl≤h.floor):snap h.get fl (m+2) t v=some (zd n k (ints l)):=by
 obtain⟨hl,o⟩:=o
 rw[pD]at hl
 rcases o with ⟨rfl,rfl⟩|⟨id,rfl,q,h2,hk⟩
 · rfl
 · unfold snap
   rw[if_neg (by omega),q,uE,if_pos (by rw[pD];omega)]
   rw[Si,uW (by rw[pD];omega),xG]
   unfold zd
   rw[if_neg (by omega)];rfl
attribute [go_sem] List.map_cons List.map_nil Bool.and_true Bool.true_and Bool.and_self List.append_nil Option.map_some Option.map_none Bool.and_false Bool.false_and Bool.or_false Bool.or_true Bool.true_or Bool.false_or Bool.or_self bW.aN bW.aH Int.reduceAdd Int.reduceSub Int.reduceMul Int.reduceNeg Int.reduceToNat List.take_succ_cons List.take_zero List.drop_zero List.drop_succ_cons Int.cast_ofNat_Int Int.natCast_one Int.natCast_zero List.length_set
theorem vz:type_of% @dt∧type_of% @df∧type_of% @QO∧type_of% @QN∧type_of% @QS∧type_of% @QR∧type_of% @wi∧type_of% @wb∧type_of% @wD∧type_of% @zK∧type_of% @KH∧type_of% @Hy∧type_of% @OP∧type_of% @vp∧type_of% @vn∧type_of% @vA∧type_of% @u9∧type_of% @H.je∧type_of% @H.jU∧type_of% @H.kL∧type_of% @H.jn∧type_of% @Kw∧type_of% @HL∧type_of% @JJ∧type_of% @JI∧type_of% @HT∧type_of% @Cr∧type_of% @DK∧type_of% @HI∧type_of% @Jt∧type_of% @Kh∧type_of% @Ki∧type_of% @pK∧type_of% @oV∧type_of% @rh∧type_of% @pU∧type_of% @JW∧type_of% @JV∧type_of% @sA∧type_of% @sB∧type_of% @Fx∧type_of% @ET∧type_of% @ze∧type_of% @EB∧type_of% @GZ∧type_of% @HG∧type_of% @LQ∧type_of% @JR∧type_of% @Mh∧type_of% @Mg∧type_of% @Me∧type_of% @Md∧type_of% @Mf∧type_of% @Mb∧type_of% @EF∧type_of% @Fq∧type_of% @Fv∧type_of% @Fs∧type_of% @DJ∧type_of% @Cg∧type_of% @Cp∧type_of% @Fu∧type_of% @A6∧type_of% @EY∧type_of% @J4∧type_of% @EM∧type_of% @E5∧type_of% @E4∧type_of% @Ma∧type_of% @L9∧type_of% @tF∧type_of% @beq_refl∧type_of% @wT∧type_of% @Mc∧type_of% @LO∧type_of% @Kv∧type_of% @Ku∧type_of% @Ks∧type_of% @Dk∧type_of% @GF∧type_of% @B7∧type_of% @Er:=⟨@dt, @df, @QO, @QN, @QS, @QR, @wi, @wb, @wD, @zK, @KH, @Hy, @OP, @vp, @vn, @vA, @u9, @H.je, @H.jU, @H.kL, @H.jn, @Kw, @HL, @JJ, @JI, @HT, @Cr, @DK, @HI, @Jt, @Kh, @Ki, @pK, @oV, @rh, @pU, @JW, @JV, @sA, @sB, @Fx, @ET, @ze, @EB, @GZ, @HG, @LQ, @JR, @Mh, @Mg, @Me, @Md, @Mf, @Mb, @EF, @Fq, @Fv, @Fs, @DJ, @Cg, @Cp, @Fu, @A6, @EY, @J4, @EM, @E5, @E4, @Ma, @L9, @tF, @beq_refl, @wT, @Mc, @LO, @Kv, @Ku, @Ks, @Dk, @GF, @B7, @Er⟩
theorem Ce:type_of% @A5∧type_of% @AQ∧type_of% @AN∧type_of% @EU∧type_of% @EK∧type_of% @AL∧type_of% @KR∧type_of% @Kl∧type_of% @Kk∧type_of% @Kr∧type_of% @L7∧type_of% @L4∧type_of% @L6∧type_of% @L8∧type_of% @Jq∧type_of% @LN∧type_of% @LJ∧type_of% @LM∧type_of% @LK∧type_of% @zO∧type_of% @zX∧type_of% @AB∧type_of% @LC∧type_of% @Lz:=⟨@A5, @AQ, @AN, @EU, @EK, @AL, @KR, @Kl, @Kk, @Kr, @L7, @L4, @L6, @L8, @Jq, @LN, @LJ, @LM, @LK, @zO, @zX, @AB, @LC, @Lz⟩
theorem wO:type_of% @H.jU∧type_of% @H.jn∧type_of% @EU∧type_of% @A5∧type_of% @H.je∧type_of% @H.kL∧type_of% @EK∧type_of% @AN:=⟨@H.jU, @H.jn, @EU, @A5, @H.je, @H.kL, @EK, @AN⟩
theorem Cf:type_of% @vp∧type_of% @vn∧type_of% @vA∧type_of% @u9∧type_of% @AL∧type_of% @AQ:=⟨@vp, @vn, @vA, @u9, @AL, @AQ⟩
end Ab
set_option maxRecDepth 100000
namespace Ab
open Go
def Nh (c:Nat):Nat:=if c%2=1 then(c/2)^^^3988292384 else c/2
def HN:Nat→Nat→Nat
 |0,c=>c
 |n+1,c=>HN n (Nh c)
def K5 (c b:Nat):Nat:=HN 8 (c^^^b)
def JA (s:ByteArray):Nat→Nat→Nat→Nat
 |0,_,c=>c
 |n+1,i,c=>JA s n (i+1) (K5 c (xP s i))
def Qe (a:Nat) (s:ByteArray):Nat:=4294967295-JA s s.size 0 (4294967295-a)
def Px (s:ByteArray):Nat:=Qe 0 s
theorem GD {a s:Nat} (hs:s≤64):oW .shr .i64 (a:Int) (s:Int)=some (.int .i64 ((a/2^s:Nat):Int)):=by
 unfold oW
 rw[if_neg (by omega)]
 simp only[IntKind.bits,Int.toNat_natCast,Nat.min_eq_left hs]
 rw[Int.fdiv_eq_ediv_of_nonneg _ (Int.pow_nonneg (by omega))]
 simp
theorem Fp {h:H} {v:AV} {k:Nat} {l:List Nat} (o:v8 1 h v k (xO l)):tD h v (aR h 1 v)=some (.str (bytesOf l),h):=by
 rw[o.rd.1]
 simp only[tD,uE,ED]
 rcases o.2 with ⟨rfl,_⟩|⟨id,rfl,_⟩<;>rfl
def yk (s:ByteArray) (i j:Nat):Nat→Nat→Nat
 |0,k=>k
 |f+1,k=>if k<258∧i+k<s.size∧xP s (i+k)=xP s (j+k)then yk s i j f (k+1)else k
def same (s:ByteArray) (i j:Nat):Nat:=yk s i j 258 0
def vO (s:ByteArray) (i:Nat):Nat→Nat×Nat→Nat×Nat
 |0,b=>b
 |j+1,b=>vO s i j (if b.1<same s i j then(same s i j,i-j)else b)
theorem GC (s:ByteArray) (i j:Nat):∀f k,yk s i j f k≤k+f
 |0,k=>by simp [yk]
 | f + 1, k => by
   unfold yk
   split
   · have:=GC s i j f (k+1);omega
   · omega
theorem Ih (s:ByteArray) (i j:Nat):same s i j≤258:=by have:=GC s i j 258 0;unfold same;omega
theorem Dg (s:ByteArray) (i j:Nat) (hi:i≤s.size):∀f k,i+k≤s.size→i+yk s i j f k≤s.size
 |0,k,h=>by simpa [yk]using h
 | f + 1, k, h => by
   unfold yk
   split
   · rename_i q;exact Dg s i j hi f (k+1) (by omega)
   · exact h
theorem Eo (s:ByteArray) (i j:Nat) (hi:i≤s.size):i+same s i j≤s.size:=Dg s i j hi 258 0 (by omega)
theorem Cq (s:ByteArray) (i:Nat) (hi:i≤s.size):∀(j:Nat) (b:Nat×Nat),i+b.1≤s.size→i+(vO s i j b).1≤s.size
 |0,b,h=>h
 | j + 1, b, h => by
   unfold vO
   refine Cq s i hi j _ ?_
   split
   · exact Eo s i j hi
   · exact h
structure Tok where
 lit:Int
 len:Int
 vP:Int
deriving DecidableEq
def LF (t:Tok):List Int:=[t.lit,t.len,t.vP]
def GR (t:Tok):List AV:=ints (LF t)
def Mi (ts:List Tok):List Int:=ts.flatMap LF
def wg (ts:List Tok):List AV:=ts.flatMap GR
theorem Ds (t:Tok):(GR t).length=3:=rfl
theorem Je (ts:List Tok):(wg ts).length=ts.length* 3:=Bl Ds ts
theorem Ax:∀ts:List Tok,wg ts=ints (Mi ts)
 |[]=>rfl
 | t :: ts => by
   have:=Ax ts
   unfold wg Mi at *
   rw[R3,R3,pC,this];rfl
theorem HC (ts:List Tok) (t:Tok):wg (ts++[t])=wg ts++GR t:=by simp [wg]
def wF (s:ByteArray) (i:Nat):Tok×Nat:=
 if(vO s i i (0,0)).1<3 then(⟨xP s i,0,0⟩,i+1)else(⟨0,(vO s i i (0,0)).1,(vO s i i (0,0)).2⟩,i+(vO s i i (0,0)).1)
def zF (s:ByteArray):Nat→Nat→List Tok
 |0,_=>[]
 |f+1,i=>if i<s.size then(wF s i).1::zF s f (wF s i).2 else []
theorem GQ (s:ByteArray) (i:Nat):i<(wF s i).2:=by
 unfold wF;split<;>simp<;>omega
theorem GP (s:ByteArray) (i:Nat) (hi:i<s.size):(wF s i).2≤s.size:=by
 unfold wF;split
 · exact hi
 · exact Cq s i (by omega) i (0,0) (by show i+0≤_;omega)
def Cc (ts:List Tok):AV:=zd 3 ts.length (wg ts)
def tokens (s:ByteArray):List Tok:=zF s s.size 0
def Ext (h g:H):Prop:=∀id c,h.get id=some c→g.get id=some c
theorem Ext.refl (h:H):Ext h h:=fun _ _ q=>q
theorem Ext.trans {a b c:H} (x:Ext a b) (y:Ext b c):Ext a c:=fun i d q=>y i d (x i d q)
theorem Ext.alloc {a h:H} (x:Ext a h) (cs:List AV):Ext a (h.alloc cs):=fun i d q=>by
 have:=h.lt _ _ (x i d q)
 rw[H.aV,if_neg (by omega)];exact x i d q
theorem Ext.set {a h:H} (x:Ext a h) {id:Nat} (hid:a.next≤id) (cs:List AV):Ext a (h.set id cs):=fun i d q=>by
 have:=a.lt _ _ q
 rw[H.dj,if_neg (by omega)];exact x i d q
theorem yB.OG {h:H} {v:AV} {ts:List Tok} (r:yB 3 h v ts.length (wg ts)):∃ad:Int→Nat→AV,
 (∀i:Int,0≤i∧i<ts.length→fI 3 v (.int .i64 i)=some (ad i 0))∧
 (∀(i:Int) (f g:Nat),0≤i∧i<ts.length→e5 g (ad i f)=some (ad i (f+g)))∧
 ∀ g : H, Ext h g → ∀ (i : Nat) (t : Tok), ts[i]? = some t → bS false 1 (ad i 0) g = some (.int .i64 t.lit) ∧ bS false 1 (ad i 1) g = some (.int .i64 t.len) ∧ bS false 1 (ad i 2) g = some (.int .i64 t.vP) ∧
   bS true 3 (ad i 0) g=some (.agg [.int .i64 t.lit,.int .i64 t.len,.int .i64 t.vP]):=by
 obtain⟨ad,a1,a2,_,a3⟩:=r.at_
 refine⟨ad,a1,a2,fun g hg i t ht=> ?_⟩
 obtain⟨b1,b2⟩:=a3 g hg
 have hi:i<ts.length:=(uD.1 ht).1
 have hI:(0:Int)≤(i:Int)∧(i:Int)<ts.length:=⟨by omega,by omega⟩
 have ti:((i:Int)).toNat=i:=by omega
 have q:∀f,f<3→(wg ts)[((i:Int)).toNat* 3+f]?=(GR t)[f]?:=fun f hf=>by rw[ti];exact JM Ds ht hf
 refine⟨b1 i 0 _ hI (q 0 (by omega)),b1 i 1 _ hI (q 1 (by omega)),b1 i 2 _ hI (q 2 (by omega)), ?_⟩
 rw[b2 i hI,ti,wg,EL Ds ht];rfl
def wc (size:Int) (t:Tok):Option Int:=
 if t.len=0 then(if t.lit<0∨255<t.lit∨t.vP≠0 then none else some (size+1))
 else if t.len<3∨258<t.len∨t.vP<1∨32768<t.vP∨size<t.vP∨t.lit≠0 then none else some (size+t.len)
def vE : Int → List Tok → Bool
 |_,[]=>true
 | s, t :: r => match wc s t with
   |none=>false
   |some s'=>if 8192<s' then false else vE s' r
theorem Rd.xh {h:H} {v:AV} {l:List Int} (r:Rd h v (ints l)):∃ad:Int→AV,(∀i:Int,0≤i∧i<l.length→fI 1 v (.int .i64 i)=some (ad i))∧
 ∀g:H,Ext h g→∀(i:Nat) (n:Int),l[i]?=some n→bS false 1 (ad i) g=some (.int .i64 n):=by
 have r2:=r.QT
 rw[pD]at r2
 obtain⟨ad,a1,_,_,a3⟩:=r2.at_
 refine⟨fun i=>ad i 0,a1,fun g hg i n hn=> ?_⟩
 have hi:i<l.length:=(uD.1 hn).1
 refine(a3 g hg).1 i 0 _ ⟨by omega,by omega⟩ ?_
 rw[Hy,Nat.mul_one,Nat.add_zero]
 exact sC hn
structure OL where
 name:ByteArray
 gone:Bool
 vec:List Int
 Kx:Int
 node:Int
 method:Int
 packed:ByteArray
 size:Int
 Rc:Int
structure PE (h:H) (p:AV) (cs:List AV):Prop where
 nil:∀g:H,jo g p=some (p,g)
 s7:∃q:Nat→AV,(∀k,e5 k p=some (q k))∧∀g:H,Ext h g→∀(k:Nat) (c:AV),cs[k]?=some c→bS false 1 (q k) g=some c
abbrev OM:=OL×AV
structure Qs (h:H) (x:OM):Prop where
 vec:Rd h x.2 (ints x.1.vec)
 vl:x.1.vec.length<1125899906842624
 nl:x.1.name.size<1125899906842624
 pl:x.1.packed.size<1125899906842624
theorem Qs.mono {h g:H} {x:OM} (o:Qs h x) (e:Ext h g):Qs g x:=⟨o.vec.mono fun i c q=>e i c q,o.vl,o.nl,o.pl⟩
def v7 (method : Int) (s : ByteArray) (size : Int) : Option ByteArray :=
 if size<0∨300<size then none
 else if method=0 then(if(s.size:Int)=size then some s else none)
 else if method=8 then(match vM s size with
  | .ok (o,took)=>if(o.length:Int)=size∧took=s.size then some (bytesOf o)else none
  | .error _=>none)
 else none
def OH:Option ByteArray→AV
 |some t=>.bO [.str t,.int .i64 0]
 |none=>.bO [.str ⟨#[]⟩,.int .i64 900]
theorem zG (h : H) (hf : h.floor ≤ h.next) (m : Int) (s : ByteArray) (z : Int) (hs : s.size < 1125899906842624) : aQ AP.A 114 [.int .i64 m, .str s, .int .i64 z] h = some (OH (v7 m s z), h) := by
 unfold v7
 by_cases c1:z<0
 · rw[if_pos (.inl c1)]
   refine tL (fn:=AP.f114) (h2:=h.dL) (e:=[(6,.str ⟨#[]⟩),(7,.int .i64 900)]) rfl rfl rfl ?_ rfl rfl
   simp (disch:=omega)only[go_sem,vz,AP.f114]
 by_cases c2:300<z
 · rw[if_pos (.inr c2)]
   refine tL (fn:=AP.f114) (h2:=h.dL) (e:=[(6,.str ⟨#[]⟩),(7,.int .i64 900)]) rfl rfl rfl ?_ rfl rfl
   simp (disch:=omega)only[go_sem,vz,AP.f114]
 rw[if_neg (by omega)]
 by_cases c3:m=0
 · rw[if_pos c3]
   by_cases c4:(s.size:Int)=z
   · rw[if_pos c4]
     refine tL (fn:=AP.f114) (h2:=h.dL) (e:=[(6,.str s),(7,.int .i64 0)]) rfl rfl rfl ?_ rfl rfl
     simp (disch:=omega)only[go_sem,vz,AP.f114]
   · rw[if_neg c4]
     refine tL (fn:=AP.f114) (h2:=h.dL) (e:=[(6,.str ⟨#[]⟩),(7,.int .i64 900)]) rfl rfl rfl ?_ rfl rfl
     simp (disch:=omega)only[go_sem,vz,AP.f114]
 rw[if_neg c3]
 by_cases c5:m=8
 · rw [if_pos c5]
   have k1:=IP h.dL (by simp) s z hs
   simp only[I]at k1
   cases hi:vM s z with
   | error k =>
     rw[hi]at k1
     simp only[Oj,I]at k1
     have hk:=EO hi
     have hk':¬k=0:=by rcases hk with rfl|rfl<;>decide
     clear hk
     refine tL (fn:=AP.f114) (h2:=h.dL) (e:=[(6,.str ⟨#[]⟩),(7,.int .i64 900)]) rfl rfl rfl ?_ rfl rfl
     simp (disch:=omega)only[go_sem,vz,AP.f114,k1]
   | ok r =>
     obtain⟨o,took⟩:=r
     rw[hi]at k1
     simp only[Oj,I]at k1
     dsimp only
     have sz:=vS o
     by_cases c6:(o.length:Int)=z
     · by_cases c7:took=s.size
       · rw[if_pos ⟨c6,c7⟩]
         refine tL (fn:=AP.f114) (h2:=h.dL) (e:=[(6,.str (bytesOf o)),(7,.int .i64 0)]) rfl rfl rfl ?_ rfl rfl
         simp (disch:=omega)only[go_sem,vz,AP.f114,k1,sz]
       · rw[if_neg (fun q=>c7 q.2)]
         refine tL (fn:=AP.f114) (h2:=h.dL) (e:=[(6,.str ⟨#[]⟩),(7,.int .i64 900)]) rfl rfl rfl ?_ rfl rfl
         simp (disch:=omega)only[go_sem,vz,AP.f114,k1,sz]
     · rw[if_neg (fun q=>c6 q.1)]
       refine tL (fn:=AP.f114) (h2:=h.dL) (e:=[(6,.str ⟨#[]⟩),(7,.int .i64 900)]) rfl rfl rfl ?_ rfl rfl
       simp (disch:=omega)only[go_sem,vz,AP.f114,k1,sz]
 · rw[if_neg c5]
   refine tL (fn:=AP.f114) (h2:=h.dL) (e:=[(6,.str ⟨#[]⟩),(7,.int .i64 900)]) rfl rfl rfl ?_ rfl rfl
   simp (disch:=omega)only[go_sem,vz,AP.f114]
theorem Ho (c:ae) (e:Env) (h:H) (x y:X):ah c e h (.mx [x,y])=da h (lV (x.ev e) (y.ev e)):=by
 simp only[ah,aW,R5,SD,fV]
 cases lV (x.ev e) (y.ev e)<;>rfl
def C5 (a b:Int):Int:=if a<b then b else a
theorem EC (k:IntKind) (a b:Int):lV (.int k a) (.int k b)=some (.int k (C5 a b)):=rfl
theorem Rd.QF {h:H} {v:AV} {cs:List AV} (r:Rd h v cs) (hc:cs≠[]):fw 1 v .aO=some false:=by
 obtain⟨r,hs⟩:=r
 unfold aR at r
 split at r
 · obtain⟨_,h2⟩:=ux (uv r);exact absurd h2.symm hc
 · exact absurd rfl (hs _)
 · rfl
 · rfl
 · cases r
theorem Ix {n:Nat} {h:H} {v:AV} {k:Nat} {cs:List AV} (r:yB n h v k cs) (hfn:h.floor≤h.next) (hn:0<n) (hk:0<k) {z:Nat} (hr:roomy z k=true) (hc:AV.aB cs=true):
 kq (h.alloc []) n z (.aD h.next 0 0 n) v=some (.aD (h.next+1) 0 k n,((h.alloc []).del h.next).alloc cs):=by
 have r2:yB n (h.alloc []) v k cs:=r.mono fun i c q=>by rw[H.aV,if_neg (by have:=h.lt _ _ q;omega)];exact q
 unfold kq
 rw[r2.1,uE]
 have hkn:0<k* n:=Nat.mul_pos hk hn
 unfold dH
 rw[if_neg (by omega),if_neg (by simp [hc];omega)]
 simp only[H.je,hfn,and_self,if_true]
 rw[vp rfl,uE,if_neg (by simp;omega),if_pos ⟨by simp,by simpa using hr⟩]
 simp
theorem CR:∀l:List Int,AV.aB (ints l)=true
 |[]=>rfl
 | n :: l => by
   have:=CR l
   show AV.aB (I n::ints l)=true
   rw[pU,this];rfl
theorem K3 (h:H) (v:AV) (l:List Int) (rd:Rd h v (ints l)) (hl:0<l.length) (hb:l.length<1000000) (hfn:h.floor≤h.next):aQ AP.A 118 [v] h=some (.aD (h.next+1) 0 l.length 1,((h.alloc []).del h.next).alloc (ints l)):=by
 have r2:=rd.QT
 rw[pD]at r2
 have ap:=Ix r2 hfn (by omega) hl (z:=8) (by simp [roomy];omega) (CR l)
 have nn:=rd.QF (fun q=>by
  have q2:(ints l).length=0:=by rw[q];rfl
  rw[pD]at q2
  omega)
 refine tq (fn:=AP.f118) (h2:=((h.alloc []).del h.next).alloc (ints l)) (e:=[(2,.aD (h.next+1) 0 l.length 1)]) (vs:=[.aD (h.next+1) 0 l.length 1]) rfl rfl rfl ?_ rfl
 clear rd r2
 simp (disch:=omega)only[go_sem,vz,AP.f118,nn,ap]
def Ko (name:ByteArray) (node:Nat) (Kx:Int) (text:ByteArray):OL:=⟨name,false,[0,0,0,0].set node Kx,Kx,node,0,text,text.size,Px text⟩
def nA:ByteArray:=⟨#[97]⟩
def QU:ByteArray:=⟨#[104,105]⟩
def Ri:ByteArray:=⟨#[104,111]⟩
def eA:OL:=Ko nA 0 1 QU
def eB:OL:=Ko nA 2 1 Ri
def eD:OL:={eA with Rc:=(Px QU^^^1:Nat)}
def Hg:Ty:=.int .i64
theorem Km {B:Nat} {avs:List AV} (h:Sh B Hg avs):∃n,avs=[.int .i64 n]∧(-9223372036854775808≤n∧n<9223372036854775808):=by
 cases h with
 |int h=>exact⟨_,rfl,td h⟩
theorem QH {P:Ty×List AV→Prop} {a b:Ty} {r:List (Ty×List AV)} (h:r.map (·.1)=[a,b]) (hp:∀x∈r,P x):∃x y,r=[(a,x),(b,y)]∧P (a,x)∧P (b,y):=by
 match r,h with
 |[(a',x),(b',y)],h=>simp at h;obtain⟨rfl,rfl⟩:=h;exact⟨x,y,rfl,hp _ (by simp),hp _ (by simp)⟩
def OD (s:ByteArray):List Nat:=s.data.toList.map (·.toNat)
theorem Ip (s:ByteArray):(OD s).length=s.size:=by unfold OD;rw[List.length_map,Array.length_toList];rfl
theorem OE (s:ByteArray):∀b∈OD s,b<256:=by
 intro b hb
 obtain⟨x,_,rfl⟩:=R6.1 hb
 exact x.toNat_lt
theorem BQ (s:ByteArray):bytesOf (OD s)=s:=by
 unfold OD bytesOf;rw[List.map_map];apply ByteArray.ext;simp [Function.comp_def]
theorem DI (x:Int) (k:Nat) (hk:k≤62):bits .and .i64 x ((2^k-1:Nat):Int)=x%((2^k:Nat):Int):=by
 have h2:2^k≤2^62:=Se (by omega) hk
 have h3:0<2^k:=Nat.pow_pos (by omega)
 show IntKind.wrap .i64 (((BitVec.ofInt 64 x&&&BitVec.ofInt 64 ((2^k-1:Nat):Int)).toNat:Nat):Int)=_
 rw[BitVec.toNat_and,ye 64 (2^k-1) (by omega),BitVec.toNat_ofInt,Nat.and_two_pow_sub_one_eq_mod,ve (by
  have:=Nat.mod_lt (x%((2^64:Nat):Int)).toNat h3
  omega)]
 have e:(((x%((2^64:Nat):Int)).toNat:Nat):Int)=x%((2^64:Nat):Int):=Int.toNat_of_nonneg (Int.emod_nonneg _ (by decide))
 rw[Int.natCast_emod,e]
 refine Int.emod_emod_of_dvd x ?_
 refine Int.natCast_dvd_natCast.2 (Nat.pow_dvd_pow 2 (by omega))
theorem QM (x:Int) (n:Nat) (hn:0<n):∃r:Nat,r<n∧(IntKind.wrap .u64 x).tmod (n:Int)=r:=by
 have h0:0≤IntKind.wrap .u64 x:=by simp only[IntKind.wrap,IntKind.signed,IntKind.bits];simp;omega
 obtain⟨m,hm⟩:∃m:Nat,IntKind.wrap .u64 x=m:=⟨(IntKind.wrap .u64 x).toNat,by omega⟩
 rw[hm]
 exact⟨m%n,Nat.mod_lt _ hn,by rw[Int.tmod_eq_emod_of_nonneg (by omega)];omega⟩
theorem Q8 {n:Nat} (h:n<256):IntKind.wrap .u8 (n:Int)=n:=wb (by omega)
theorem Qp {a n:Nat} (hn:0<n):bn .rem (.int .i64 ((a:Nat):Int)) (.int .i64 (n:Int))=some (.int .i64 ((a%n:Nat):Int)):=by
 show(if(n:Int)=0 then none else some (AV.int .i64 ((a:Int).tmod n)))=_
 rw[if_neg (by omega),Int.tmod_eq_emod_of_nonneg (by omega)];rfl
theorem Aq:∀(l cs:List AV) (off:Nat),off+l.length≤cs.length→setFrom cs off l=cs.take off++(l++cs.drop (off+l.length))
 |[],cs,off,h=>by simp [setFrom]
 | v :: l, cs, off, h => by
   rw[RX]at h
   rw[setFrom,Aq l (cs.set off v) (off+1) (by rw[Sj];omega)]
   rw[List.take_set,List.drop_set_of_lt (by omega),RX,show off+1+l.length=off+(l.length+1)by omega]
   rw[List.take_succ_eq_append_getElem (by omega),List.set_append_right _ _ (by simp;omega)]
   simp [show min off cs.length=off by omega]
def vH (bs:List Nat):List Nat:=wR bs 0 []
theorem Ak:∀(a b:List Nat) (i:Nat) (out:List Nat),wR (a++b) i out=wR b (i+a.length) (wR a i out)
 |[],b,i,out=>rfl
 | x :: a, b, i, out => by
   show wR (a++b) (i+1) (vV out i x)=_
   rw[Ak a b]
   show wR b (i+1+a.length) _=wR b (i+(a.length+1)) _
   rw[show i+1+a.length=i+(a.length+1)by omega];rfl
theorem Ee (bs:List Nat) (b:Nat):vH (bs++[b])=vV (vH bs) bs.length b:=by
 unfold vH;rw[Ak,uM];rfl
theorem xH (bs:List Nat):(vH bs).length=(bs.length+7)/8:=by
 have:∀(l:List Nat) (i:Nat) (out:List Nat),out.length=(i+7)/8→(wR l i out).length=(i+l.length+7)/8:=by
  intro l
  induction l with
  |nil=>intro i out h;exact h
  |cons x l ih=>intro i out h;rw[wR,ih (i+1) _ (by rw[BX h]),RX];congr 1;omega
 have:=this bs 0 [] rfl
 rw[vH,this,uM]
structure Wr (h:H) (w:Nat) (bs:List Nat) (ov:AV):Prop where
 get:h.get w=some [ov,.int .i64 (bs.length:Nat)]
 own:v8 1 h ov (vH bs).length (xO (vH bs))
 fl:h.floor≤w
 Jj:h.floor≤h.next
 ne:ov.id?≠some w
 HJ:KM (vH bs)
structure GW (h:H) (w:Nat) (ov:AV) (h':H) (ov':AV):Prop where
 floor:h'.floor=h.floor
 next:h.next≤h'.next
 vR:∀i,i<h.next→i≠w→ov.id?≠some i→h'.get i=h.get i
 ids:∀j,ov'.id?=some j→ov.id?=some j∨h.next≤j
theorem GW.refl (h:H) (w:Nat) (ov:AV):GW h w ov h ov:=⟨rfl,uH _,fun _ _ _ _=>rfl,fun _ h=>.inl h⟩
theorem GW.trans {h1 h2 h3:H} {w:Nat} {o1 o2 o3:AV} (a:GW h1 w o1 h2 o2) (b:GW h2 w o2 h3 o3):GW h1 w o1 h3 o3:=
 ⟨by rw [b.floor, a.floor], uZ a.next b.next, fun i h hw ho => by
   rw[b.vR i (by have:=a.next;omega) hw (fun q=>by rcases a.ids i q with q|q;exact ho q;omega),a.vR i h hw ho],
  fun j h=>by
   rcases b.ids j h with q|q
   · exact a.ids j q
   · exact .inr (uZ a.next q)⟩
theorem Ly {b k:Nat} (hb:b≤1) (hk:k<8):oW .shl .i64 (b:Int) ((k:Nat):Int)=some (.int .i64 ((b* 2^k:Nat):Int)):=by
 unfold oW
 rw[if_neg (by omega)]
 simp only[IntKind.bits,Int.toNat_natCast,show min k 64=k by omega]
 have h1:2^k≤2^7:=Se (by omega) (by omega)
 have h2:b* 2^k≤1* 2^7:=Nat.mul_le_mul hb h1
 have:(b:Int)* 2^k=((b* 2^k:Nat):Int):=by rw[Int.natCast_mul,Int.natCast_pow];rfl
 rw[this,wi (by omega)]
theorem OW {l:List Nat} {i x:Nat} (h:l[i]?=some x):(xO l)[i]?=some (.int .u8 (x:Int)):=by simp [xO,h]
theorem Qx (l:List Nat) (i x:Nat):(xO l).set i (.int .u8 (x:Int))=xO (l.set i x):=by simp [xO,List.map_set]
theorem Mk (l:List Nat):(xO l).length=l.length:=by simp [xO]
theorem FA (P:List Nat) (x:Nat):xO (P++[x])=xO P++[.int .u8 (x:Int)]:=by simp [xO]
def BB (v:Nat):Nat→Nat→List Nat
 |_,0=>[]
 |i,m+1=>v/2^i%2::BB v (i+1) m
def vt (v n:Nat):List Nat:=BB v 0 n
def yf (v:Nat):Nat→List Nat
 |0=>[]
 |m+1=>v/2^m%2::yf v m
theorem vC (v:Nat):∀m i,(BB v i m).length=m
 |0,_=>rfl
 |m+1,i=>by simp [BB,vC v m]
theorem wh (v:Nat):∀m,(yf v m).length=m
 |0=>rfl
 |m+1=>by simp [yf,wh v m]
theorem Fo {n:Nat} (h:n<1000000000):bits .and .i64 (n:Int) 1=((n%2:Nat):Int):=by
 have:=DI (n:Int) 1 (by omega)
 exact this.trans (by omega)
def vr (o:Option (Nat×Nat)):Nat:=(o.getD (0,0)).1
def wz (o:Option (Nat×Nat)):Nat:=(o.getD (0,0)).2
def yQ (f:Nat→Option (Nat×Nat)) (k:Nat):Nat→Nat
 |0=>0
 |s+1=>if vr (f (s+1))≤k then s+1 else yQ f k s
def xu (k:Nat):Nat:=yQ lenOf k 285
def zo (k:Nat):Nat:=wz (lenOf (xu k))
def Ag (k:Nat):Nat:=k-vr (lenOf (xu k))
def xQ (k:Nat):Nat:=yQ vD k 29
def zT (k:Nat):Nat:=wz (vD (xQ k))
def AM (k:Nat):Nat:=k-vr (vD (xQ k))
theorem Af {s:Nat} (h1:257≤s) (h2:s≤285):∃a b,lenOf s=some (a,b):=by
 unfold lenOf;rw[if_neg (by omega)];split;exact⟨_,_,rfl⟩;split<;>exact⟨_,_,rfl⟩
theorem zj {s:Nat} (h2:s≤29):∃a b,vD s=some (a,b):=by
 unfold vD;rw[if_neg (by omega)];split<;>exact⟨_,_,rfl⟩
theorem H0:∀s,257≤s→s<285→vr (lenOf (s+1))≤vr (lenOf s)+2^wz (lenOf s):=by
 intro s h1 h2
 have:∀s<285,257≤s→vr (lenOf (s+1))≤vr (lenOf s)+2^wz (lenOf s):=by decide+kernel
 exact this s h2 h1
theorem FO:∀s,s<29→vr (vD (s+1))≤vr (vD s)+2^wz (vD s):=by decide+kernel
theorem yc {k : Nat} (h1 : 3 ≤ k) (h2 : k ≤ 258) : 257 ≤ xu k ∧ xu k ≤ 285 ∧ vr (lenOf (xu k)) ≤ k ∧ k < vr (lenOf (xu k)) + 2 ^ wz (lenOf (xu k)) := by
 have key:∀n s,s=257+n→s≤285→(s=285∨k<vr (lenOf (s+1)))→257≤yQ lenOf k s∧yQ lenOf k s≤285∧vr (lenOf (yQ lenOf k s))≤k∧k<vr (lenOf (yQ lenOf k s))+2^wz (lenOf (yQ lenOf k s)):=by
  intro n
  induction n with
  | zero =>
    intro s hs h hk
    obtain rfl:s=257:=hs
    have e:yQ lenOf k 257=257:=by rw[yQ,if_pos (show vr (lenOf (256+1))≤k from h1)]
    have g:=H0 257 (by omega) (by omega)
    rw[e]
    refine⟨by omega,by omega,h1, ?_⟩
    rcases hk with q|q
    · omega
    · omega
  | succ n ih =>
    intro s hs h hk
    obtain⟨s,rfl⟩:∃t,s=t+1:=⟨s-1,by omega⟩
    by_cases c:vr (lenOf (s+1))≤k
    · rw [yQ, if_pos c]
      refine⟨by omega,by omega,c, ?_⟩
      rcases hk with q|q
      · obtain rfl:s=284:=by omega
        have:vr (lenOf (284+1))=258:=rfl
        have:0<2^wz (lenOf (284+1)):=Nat.pow_pos (by omega)
        omega
      · by_cases c2:s+1=285
        · obtain rfl:s=284:=by omega
          have:vr (lenOf (284+1))=258:=rfl
          have:0<2^wz (lenOf (284+1)):=Nat.pow_pos (by omega)
          omega
        · have:=H0 (s+1) (by omega) (by omega);omega
    · rw[yQ,if_neg c]
      exact ih s (by omega) (by omega) (.inr (by omega))
 exact key 28 285 (by omega) (by omega) (.inl rfl)
theorem xY {k : Nat} (h1 : 1 ≤ k) (h2 : k ≤ 32768) : xQ k ≤ 29 ∧ vr (vD (xQ k)) ≤ k ∧ k < vr (vD (xQ k)) + 2 ^ wz (vD (xQ k)) := by
 have l0:vr (vD 0)=1:=rfl
 have key:∀s,s≤29→(s=29∨k<vr (vD (s+1)))→yQ vD k s≤29∧vr (vD (yQ vD k s))≤k∧k<vr (vD (yQ vD k s))+2^wz (vD (yQ vD k s)):=by
  intro s
  induction s with
  | zero =>
    intro h hk
    rw[yQ]
    have g:=FO 0 (by omega)
    refine⟨by omega,by omega, ?_⟩
    rcases hk with q|q<;>omega
  | succ s ih =>
    intro h hk
    by_cases c:vr (vD (s+1))≤k
    · rw[yQ,if_pos c]
      refine⟨by omega,c, ?_⟩
      by_cases c2:s+1=29
      · obtain rfl:s=28:=by omega
        have a1:vr (vD (28+1))=24577:=rfl
        have a2:2^wz (vD (28+1))=8192:=rfl
        omega
      · have:=FO (s+1) (by omega)
        rcases hk with q|q<;>omega
    · rw[yQ,if_neg c]
      exact ih (by omega) (.inr (by omega))
 exact key 29 (by omega) (.inl rfl)
def IG (d:Nat):Nat→List Nat→List Nat
 |0,o=>o
 |n+1,o=>IG d n (o++[o.getD (o.length-d) 0])
theorem Ch (d:Nat):∀n o,(IG d n o).length=o.length+n
 |0,o=>rfl
 |n+1,o=>by rw[IG,Ch d n];simp;omega
def vL (o:List Nat) (t:Tok):List Nat:=if t.len=0 then o++[t.lit.toNat]else IG t.vP.toNat t.len.toNat o
def xq:List Tok→List Nat→List Nat
 |[],o=>o
 |t::r,o=>xq r (vL o t)
def yu (ts:List Tok):Option ByteArray:=if vE 0 ts=true then some (bytesOf (xq ts []))else none
def Nk:Option ByteArray→AV
 |some t=>.bO [.str t,.int .i64 0]
 |none=>.bO [.str ⟨#[]⟩,.int .i64 500]
def DC (ts:List Tok):Bool:=match yu ts with
 |some t=>decide (t.size≤300)
 |none=>false
theorem Cj {p q:Prop} [Decidable p] [Decidable q] {α:Type} {a b:α} (h:p↔q):(if p then a else b)=if q then a else b:=by
 by_cases c:p
 · rw[if_pos c,if_pos (h.1 c)]
 · rw[if_neg c,if_neg (fun x=>c (h.2 x))]
def wJ (p:Int×Int):List AV:=[.int .i64 p.1,.int .i64 p.2]
theorem yL (p:Int×Int):(wJ p).length=2:=rfl
theorem JN {α:Type} {C:α→List AV} {n:Nat} (hC:∀x,(C x).length=n):∀(l:List α) (i:Nat) (x:α),i<l.length→setFrom (l.flatMap C) (i* n) (C x)=(l.set i x).flatMap C
 |[],i,x,h=>by simp at h
 | y :: l, 0, x, h => by
   have:=yy (C y) (C x) [] (l.flatMap C) (by rw[hC,hC])
   simpa using this
 | y :: l, i + 1, x, h => by
   have ih:=JN hC l i x (by simpa using h)
   rw[R3,List.set_cons_succ,R3,←ih]
   have e:=Bl hC l
   have:i<l.length:=by simpa using h
   have hi:i* n+n≤l.length* n:=by
    have:=uK n (show i+1≤l.length from this)
    rwa [Nat.succ_mul]at this
   have hs:(i+1)* n=n+i* n:=by rw[Nat.succ_mul];omega
   rw[Aq _ _ _ (by rw[u4,hC,hC,e,hs];omega),Aq _ _ _ (by rw[hC,e];omega),hs,hC]
   rw[List.take_append,List.drop_append,hC]
   rw[uW (by rw[hC];omega),List.drop_of_length_le (by rw[hC];omega)]
   rw[show n+i* n-n=i* n by omega,show n+i* n+n-n=i* n+n by omega]
   simp
def yE (l:List Int) (i:Nat):Int×Int:=if 1≤l.getD i 0 then(l.getD i 0,vo l (l.getD i 0).toNat+wM (l.take i) (l.getD i 0).toNat)else(0,0)
def u7 (l:List Int):List (Int×Int):=(List.range l.length).map (yE l)
def wE (l:List Int) (b i:Nat):List (Int×Int):=(List.range l.length).map fun j=>if 1≤l.getD j 0∧(l.getD j 0<b∨(l.getD j 0=b∧j<i))then yE l j else(0,0)
theorem Bg (l:List Int) (b i:Nat):(wE l b i).length=l.length:=by simp [wE]
theorem IE {l:List Int} {b i:Nat} (hi:i<l.length) (hb:1≤b) (hl:l.getD i 0=(b:Int)):(wE l b i).set i ((b:Int),vo l b+wM (l.take i) b)=wE l b (i+1):=by
 apply List.ext_getElem?
 intro j
 rw[Sb]
 by_cases e:i=j
 · subst e
   rw[if_pos rfl,if_pos (by rw[Bg];exact hi)]
   simp only[wE,uQ,Sq hi,R1]
   rw[if_pos ⟨by omega,.inr ⟨hl,by omega⟩⟩,yE,if_pos (by omega),hl];rfl
 · rw[if_neg e]
   simp only[wE,uQ]
   by_cases hj:j<l.length
   · rw[Sq hj]
     simp only[R1]
     exact Sp some (Cj (by omega))
   · rw[Sa (by simp;omega)];rfl
theorem G6 {l:List Int} {b i:Nat} (hl:¬l.getD i 0=(b:Int)):wE l b (i+1)=wE l b i:=by
 unfold wE
 refine Sr fun j hj=> ?_
 by_cases e:j=i
 · subst e
   exact Cj (by omega)
 · exact Cj (by omega)
theorem G7 (l:List Int) (b:Nat):wE l (b+1) 0=wE l b l.length:=by
 unfold wE
 refine Sr fun j hj=> ?_
 have hj':j<l.length:=List.mem_range.1 hj
 exact Cj (by omega)
theorem IC {l:List Int} (hr:∀y∈l,0≤y∧y<16):wE l 16 0=u7 l:=by
 unfold wE u7
 refine Sr fun j hj=> ?_
 have hj':j<l.length:=List.mem_range.1 hj
 have hm:=hr (l.getD j 0) (by rw[RW,RY hj'];simp)
 by_cases c:1≤l.getD j 0
 · rw[if_pos ⟨c,.inl (by omega)⟩]
 · rw[if_neg (fun q=>c q.1),yE,if_neg c]
theorem G8 (l:List Int):wE l 1 0=List.replicate l.length (0,0):=by
 unfold wE
 have:(List.range l.length).map (fun j=>if 1≤l.getD j 0∧(l.getD j 0<(1:Nat)∨(l.getD j 0=(1:Nat)∧j<0))then yE l j else((0:Int),(0:Int)))=(List.range l.length).map (fun _=>((0:Int),(0:Int))):=by
  refine Sr fun j hj=> ?_
  rw[if_neg (by omega)]
 rw[this,List.map_const',List.length_range]
theorem DA {l:List Int} {i:Nat} (hi:i<l.length) (b:Nat) (hb:1≤b):wM (l.take (i+1)) b=wM (l.take i) b+if l.getD i 0=(b:Int)then 1 else 0:=by
 have e:l.take (i+1)=l.take i++[l.getD i 0]:=by
  rw[List.take_add_one,RY hi,RW,RY hi];rfl
 rw[e,zg]
 congr 1
 by_cases c:l.getD i 0=(b:Int)
 · rw[if_pos ⟨by omega,c⟩,if_pos c]
 · rw[if_neg (fun q=>c q.2),if_neg c]
theorem Al:∀E:List (Int×Int),E.flatMap wJ=ints (E.flatMap fun p=>[p.1,p.2])
 |[]=>rfl
 |p::E=>by rw[R3,R3,pC,Al E];rfl
theorem B5:∀n,xE n [.int .i64 0,.int .i64 0]=(List.replicate n ((0:Int),(0:Int))).flatMap wJ
 |0=>rfl
 | n + 1 => by
   have:=B5 n
   unfold xE at *
   rw[dE,this,List.replicate_succ,R3];rfl
def zh (l:List Int):AV:=zd 2 l.length ((u7 l).flatMap wJ)
def vI (l:List Int) (least:Nat):Nat→Nat
 |0=>least
 |i+1=>if i+1≤least then least else if 0<l.getD i 0 then i+1 else vI l least i
structure WX (h0 h:H) (w:Nat) (bs:List Nat) (ov:AV):Prop where
 wr:Wr h w bs ov
 ext:Ext h0 h
 lw:h0.next≤w
 ln:h0.next≤h.next
 lo:∀j,ov.id?=some j→h0.next≤j
theorem WX.step {h0 h h':H} {w:Nat} {bs bs':List Nat} {ov ov':AV} (x:WX h0 h w bs ov) (wr:Wr h' w bs' ov') (f:GW h w ov h' ov'):WX h0 h' w bs' ov':=
 ⟨wr,fun i c hi=>by
  have:=h0.lt _ _ hi
  have:=x.ln
  have:=x.lw
  rw[f.vR i (by omega) (by omega) (fun q=>by have:=x.lo i q;omega),x.ext i c hi],x.lw,by have:=f.next;have:=x.ln;omega,fun j hj=>by
  rcases f.ids j hj with q|q
  · exact x.lo j q
  · have:=x.ln;omega⟩
theorem WX.turn {h0 h h':H} {w:Nat} {bs:List Nat} {ov:AV} (x:WX h0 h w bs ov) (hf:h'.floor=h.floor) (hn:h.next≤h'.next) (hk:∀i,i<h.next→h'.get i=h.get i):WX h0 h' w bs ov:=
 ⟨⟨by rw [hk w (h.lt _ _ x.wr.get), x.wr.get], x.wr.own.mono hf fun i q => hk i (x.wr.own.lt q).2, by rw [hf]; exact x.wr.fl, by rw [hf]; exact uZ x.wr.Jj hn, x.wr.ne, x.wr.HJ⟩,
   fun i c hi=>by have:=h0.lt _ _ hi;have:=x.ln;rw[hk i (by omega),x.ext i c hi],x.lw,uZ x.ln hn,x.lo⟩
def Ay (E:List (Int×Int)) (s:Nat):Prop:=∃n v:Nat,E[s]?=some ((n:Int),(v:Int))∧1≤n∧n≤15∧v<2^n
def vj (E:List (Int×Int)) (s:Nat):List Nat:=yf (E.getD s (0,0)).2.toNat (E.getD s (0,0)).1.toNat
theorem Ay.bits {E:List (Int×Int)} {s:Nat} (o:Ay E s):∃n v:Nat,E[s]?=some ((n:Int),(v:Int))∧1≤n∧n≤15∧v<2^n∧vj E s=yf v n:=by
 obtain⟨n,v,h,h1,h2,h3⟩:=o
 refine⟨n,v,h,h1,h2,h3, ?_⟩
 unfold vj
 rw[RW,h];rfl
theorem Ay.lt {E:List (Int×Int)} {s:Nat} (o:Ay E s):s<E.length:=by
 obtain⟨n,v,h,_⟩:=o
 exact(uD.1 h).1
theorem yB.LX {h:H} {v:AV} {E:List (Int×Int)} (r:yB 2 h v E.length (E.flatMap wJ)):∃ad:Int→AV,
 (∀i:Int,0≤i∧i<E.length→fI 2 v (.int .i64 i)=some (ad i))∧
 ∀g:H,Ext h g→∀(i:Nat) (p:Int×Int),E[i]?=some p→bS true 2 (ad i) g=some (.agg [.int .i64 p.1,.int .i64 p.2]):=by
 obtain⟨ad,a1,a2,_,a3⟩:=r.at_
 refine⟨fun i=>ad i 0,a1,fun g hg i t ht=> ?_⟩
 obtain⟨b1,b2⟩:=a3 g hg
 have hi:i<E.length:=(uD.1 ht).1
 have hI:(0:Int)≤(i:Int)∧(i:Int)<E.length:=⟨by omega,by omega⟩
 have ti:((i:Int)).toNat=i:=by omega
 rw[b2 i hI,ti,EL yL ht];rfl
def vK (E D:List (Int×Int)) (t:Tok):List Nat:=
 if t.len=0 then vj E t.lit.toNat
 else vj E (xu t.len.toNat)++(vt (Ag t.len.toNat) (zo t.len.toNat)++(vj D (xQ t.vP.toNat)++vt (AM t.vP.toNat) (zT t.vP.toNat)))
def v5 (E D:List (Int×Int)) (ts:List Tok):List Nat:=ts.flatMap (vK E D)
def GU (E D:List (Int×Int)) (t:Tok):Prop:=
 (t.len=0∧0≤t.lit∧Ay E t.lit.toNat)∨(3≤t.len∧t.len≤258∧1≤t.vP∧t.vP≤32768∧Ay E (xu t.len.toNat)∧Ay D (xQ t.vP.toNat))
theorem EP {k:Nat} (h1:3≤k) (h2:k≤258):zo k≤5∧Ag k<2^zo k:=by
 obtain⟨a1,a2,a3,a4⟩:=yc h1 h2
 obtain⟨a,b,hab⟩:=Af a1 a2
 have:=CX hab
 refine⟨by unfold zo;rw[hab];show b≤5;omega, ?_⟩
 unfold Ag zo;omega
theorem EI {k:Nat} (h1:1≤k) (h2:k≤32768):zT k≤13∧AM k<2^zT k:=by
 obtain⟨a2,a3,a4⟩:=xY h1 h2
 obtain⟨a,b,hab⟩:=zj a2
 have:=Bi hab
 refine⟨by unfold zT;rw[hab];show b≤13;omega, ?_⟩
 unfold AM zT;omega
theorem Cb {E D:List (Int×Int)} {t:Tok} (o:GU E D t):(vK E D t).length≤48:=by
 rcases o with ⟨h1,h2,h3⟩|⟨h1,h2,h3,h4,h5,h6⟩
 · obtain⟨n,v,_,q1,q2,q3,q4⟩:=h3.bits
   rw[vK,if_pos h1,q4,wh];omega
 · obtain⟨n,v,_,q1,q2,q3,q4⟩:=h5.bits
   obtain⟨n',v',_,q1',q2',q3',q4'⟩:=h6.bits
   have l:=EP (k:=t.len.toNat) (by omega) (by omega)
   have d:=EI (k:=t.vP.toNat) (by omega) (by omega)
   rw[vK,if_neg (by omega),q4,q4']
   simp only[u4,wh,vt,vC];omega
theorem Eu {E D:List (Int×Int)}:∀{ts:List Tok},(∀t∈ts,GU E D t)→(v5 E D ts).length≤48* ts.length
 |[],_=>by simp [v5]
 | t :: ts, h => by
   have a:=Cb (h t (by simp))
   have b:=Eu (E:=E) (D:=D) (ts:=ts) fun u hu=>h u (by simp [hu])
   unfold v5 at *
   simp only[R3,u4,RX];omega
structure Ro (h:H) (f:Nat) (vs:List AV) (cs:List (List AV)):Prop where
 get:h.get f=some vs
 own:∀(i:Nat) (v:AV) (c:List AV),vs[i]?=some v→cs[i]?=some c→v8 1 h v c.length c
 len:vs.length=cs.length
 ne:∀(i:Nat) (v:AV),vs[i]?=some v→v.id?≠some f
 KO:∀(i j:Nat) (v u:AV),i≠j→vs[i]?=some v→vs[j]?=some u→∀id,v.id?=some id→u.id?≠some id
 fl:h.floor≤f
 Jj:h.floor≤h.next
structure Lo (h h':H):Prop where
 floor:h'.floor=h.floor
 next:h.next≤h'.next
 vR:∀i,i<h.floor→h'.get i=h.get i
theorem Lo.refl (h:H):Lo h h:=⟨rfl,uH _,fun _ _=>rfl⟩
theorem Lo.trans {a b c:H} (x:Lo a b) (y:Lo b c):Lo a c:=⟨y.floor.trans x.floor,uZ x.next y.next,fun i hi=>(y.vR i (by rw[x.floor];exact hi)).trans (x.vR i hi)⟩
theorem Ext.lo {h0 a b:H} (x:Ext h0 a) (y:Lo a b) (hf:a.floor=h0.next):Ext h0 b:=fun i c hi=>by
 rw[y.vR i (by rw[hf];exact h0.lt _ _ hi),x i c hi]
theorem Ro.push {h : H} {f : Nat} {vs : List AV} {cs : List (List AV)} (r : Ro h f vs cs) (k : Nat) {v : AV} {c : List AV} (hv : vs[k]? = some v) (hc : cs[k]? = some c) (x : AV) (sc : x.sc = true) {z : Nat} (hz : roomy z (c.length + 1) = true) :
 ∃v' h1,kq (h.alloc [x]) 1 z v (.aD h.next 0 1 1)=some (v',h1)∧h1.get f=some vs∧h1.floor=h.floor∧Ro (h1.set f (vs.set k v')) f (vs.set k v') (cs.set k (c++[x]))∧Lo h (h1.set f (vs.set k v')):=by
 have o:=r.own k v c hv hc
 have hfl:=h.lt _ _ r.get
 obtain⟨v',h1,p1,p2,p3,p4,p5,p6⟩:=o.push r.Jj (z:=z) (m:=1) (by omega) (by omega) [x] rfl (by simp [AV.aB,sc]) hz
 have hk:k<vs.length:=(uD.1 hv).1
 have gf:h1.get f=some vs:=by rw[p5 f (r.ne k v hv) hfl,r.get]
 have key:∀(i:Nat) (u:AV),(vs.set k v')[i]?=some u→(i=k∧u=v')∨(i≠k∧vs[i]?=some u):=by
  intro i u hu
  by_cases e:k=i
  · subst e
    rw[Sb,if_pos rfl,if_pos hk]at hu
    exact .inl ⟨rfl,(uv hu).symm⟩
  · rw[Sb,if_neg e]at hu
    exact .inr ⟨fun q=>e q.symm,hu⟩
 have iq:∀(i:Nat) (u:AV),vs[i]?=some u→∀id,u.id?=some id→id<h.next:=by
  intro i u hu id hid
  have hi:i<cs.length:=by rw[←r.len];exact(uD.1 hu).1
  exact((r.own i u _ hu (RY hi)).lt hid).2
 refine⟨v',h1,p1,gf,p3,⟨?_, ?_, ?_, ?_, ?_, ?_, ?_⟩,⟨by simp [p3],by simp;omega, ?_⟩⟩
 · rw[vA rfl,gf];rfl
 · intro i u d hu hd
   rcases key i u hu with ⟨rfl,rfl⟩|⟨hne,hu⟩
   · rw[Sb,if_pos rfl,if_pos (by rw[←r.len];exact hk)]at hd
     obtain rfl:=uv hd
     have:(c++[x]).length=c.length+1:=by simp
     rw[this]
     exact p2.mono (by simp) fun j hj=>by rw[u9];rw[p6]at hj;have:=uv hj;omega
   · rw[Sb,if_neg (fun q=>hne q.symm)]at hd
     exact(r.own i u d hu hd).mono (by simp [p3]) fun j hj=>by
      rw[u9 (fun q=>r.ne i u hu (by rw[hj,q])),p5 j (fun q=>r.KO i k u v hne hu hv j hj q) (iq i u hu j hj)]
 · simp [r.len]
 · intro i u hu
   rcases key i u hu with ⟨rfl,rfl⟩|⟨hne,hu⟩
   · rw[p6];intro q;have:=uv q;omega
   · exact r.ne i u hu
 · intro i j u w hij hu hw id hid
   rcases key i u hu with ⟨e1,e2⟩|⟨hne,hu2⟩
   · rcases key j w hw with ⟨e3,e4⟩|⟨hne2,hw2⟩
     · exact absurd (e1.trans e3.symm) hij
     · intro q;have:=iq j w hw2 id q;rw[e2,p6]at hid;have:=uv hid;omega
   · rcases key j w hw with ⟨e3,e4⟩|⟨hne2,hw2⟩
     · intro q;have:=iq i u hu2 id hid;rw[e4,p6]at q;have:=uv q;omega
     · exact r.KO i j u w hij hu2 hw2 id hid
 · simpa [p3]using r.fl
 · simp [p3];have:=r.Jj;omega
 · intro i hi
   have:=r.fl
   rw[u9 (by omega),p5 i (fun q=>by have:=(o.lt q).1;omega) (by have:=r.Jj;omega)]
theorem Ro.put {h:H} {f:Nat} {vs:List AV} {cs:List (List AV)} (r:Ro h f vs cs) (k i:Nat) {v:AV} {c:List AV} (hv:vs[k]?=some v) (hc:cs[k]?=some c) (x:AV) (sc:x.sc=true) (hi:i<c.length):
 ∃id,v=.aD id 0 c.length 1∧h.get id=some c∧h.floor≤id∧id≠f∧(∀(j:Nat) (u:AV),j≠k→vs[j]?=some u→u.id?≠some id)∧Ro (h.set id (c.set i x)) f vs (cs.set k (c.set i x))∧Lo h (h.set id (c.set i x)):=by
 have o:=r.own k v c hv hc
 rcases o.2 with ⟨_,q⟩|⟨id,q1,q2,q3,q4⟩
 · omega
 have hid:v.id?=some id:=by rw[q1];rfl
 have hne:id≠f:=fun q=>r.ne k v hv (by rw[hid,q])
 have hk:k<vs.length:=(uD.1 hv).1
 refine⟨id,q1,q2,q3,hne,fun j u hj hu q=>r.KO j k u v hj hu hv id q hid,⟨?_, ?_, ?_,r.ne,r.KO,by simpa using r.fl,by simpa using r.Jj⟩,⟨by simp,by simp,fun j hj=>by rw[u9 (by omega)]⟩⟩
 · rw[u9 hne.symm,r.get]
 · intro j u d hu hd
   by_cases e:k=j
   · subst e
     rw[hv]at hu
     obtain rfl:=uv hu
     rw[Sb,if_pos rfl,if_pos (by rw[←r.len];exact hk)]at hd
     obtain rfl:=uv hd
     have lc:(c.set i x).length=c.length:=Sj
     rw[lc]
     exact⟨by omega,.inr ⟨id,q1,by rw[vA rfl,q2];rfl,by simpa using q3,q4⟩⟩
   · rw[Sb,if_neg e]at hd
     exact(r.own j u d hu hd).mono (by simp) fun m hm=>by rw[u9];intro q;subst q;exact r.KO j k u v (fun q=>e q.symm) hu hv m hm hid
 · simp [r.len]
def Rb (F:List Bool):List AV:=F.map .bool
abbrev Rg (W U:List Int) (F:List Bool):List (List AV):=[ints W,ints U,Rb F]
theorem v8.cells {n:Nat} {h:H} {v:AV} {k:Nat} {cs:List AV} (o:v8 n h v k cs):v.cells=[v]:=by
 rcases o.2 with ⟨e,_⟩|⟨id,e,_⟩<;>rw[e]<;>rfl
def wN (W:List Int) (F:List Bool):Nat→Nat→Int→Int
 |0,_,a=>a
 |m+1,i,a=>wN W F m (i+1) (if F.getD i false=true∧(a<0∨W.getD i 0<W.getD a.toNat 0)then i else a)
def xm (W:List Int) (F:List Bool):Nat:=(wN W F W.length 0 (-1)).toNat
structure FS where
 W:List Int
 U:List Int
 F:List Bool
def FS.add (s:FS) (x:Int):FS:=⟨s.W++[x],s.U++[-1],s.F++[true]⟩
def FS.a (s:FS):Nat:=xm s.W s.F
def FS.F1 (s:FS):List Bool:=s.F.set s.a false
def FS.b (s:FS):Nat:=xm s.W s.F1
def FS.F2 (s:FS):List Bool:=s.F1.set s.b false
def FS.sum (s:FS):Int:=s.W.getD s.a 0+s.W.getD s.b 0
def FS.ER (s:FS):FS:=FS.add ⟨s.W,(s.U.set s.a s.U.length).set s.b s.U.length,s.F2⟩ s.sum
structure FS.ok (s:FS):Prop where
 lu:s.U.length=s.W.length
 lf:s.F.length=s.W.length
 l1:0≤wN s.W s.F s.W.length 0 (-1)
 l2:0≤wN s.W s.F1 s.W.length 0 (-1)
 sm:0≤s.sum∧s.sum<1000000000000000
abbrev FS.C (s:FS):List (List AV):=Rg s.W s.U s.F
theorem yg (l:List Int) (i:Nat) (x:Int):(ints l).set i (.int .i64 x)=ints (l.set i x):=by simp [ints,List.map_set,I]
def FS.yi:Nat→FS→FS
 |0,s=>s
 |n+1,s=>FS.yi n s.ER
theorem FS.H2 (s:FS):s.ER.W.length=s.W.length+1:=by simp [FS.ER,FS.add]
theorem FS.A3:∀(n:Nat) (s:FS),(FS.yi n s).W.length=s.W.length+n
 |0,s=>rfl
 |n+1,s=>by rw[FS.yi,FS.A3 n,FS.H2];omega
def Cd (ws:List Int):FS:=⟨ws,List.replicate ws.length (-1),List.replicate ws.length true⟩
def BJ (U:List Int):Nat→Int→Nat
 |0,_=>0
 |m+1,j=>if 0≤j then BJ U m (U.getD j.toNat (-1))+1 else 0
def HE (U:List Int):Prop:=∀j:Nat,j<U.length→U.getD j (-1)= -1∨((j:Int)<U.getD j (-1)∧U.getD j (-1)<U.length)
def EJ (U:List Int) (n:Nat):List Int:=(List.range n).map fun i=>((BJ U U.length (U.getD i (-1)):Nat):Int)
theorem JD (U:List Int) (n:Nat):(EJ U n).length=n:=by simp [EJ]
def vq (ws:List Int):List Int:=EJ (FS.yi (ws.length-1) (Cd ws)).U ws.length
def Jk (u v:AV):Prop:=∀j,u.id?=some j→v.id?≠some j
theorem Jk.symm {u v:AV} (a:Jk u v):Jk v u:=fun j h q=>a j q h
def vi:Nat→List Int→List Int
 |_,[]=>[]
 |i,c::r=>if 0<c then(i:Int)::vi (i+1) r else vi (i+1) r
def vk:List Int→List Int
 |[]=>[]
 |c::r=>if 0<c then c::vk r else vk r
theorem v8.yR {h:H} {v:AV} {cs:List AV} (o:v8 1 h v cs.length cs):Rd h v cs:=⟨o.rd.1,o.rd.2.2⟩
def vN:List Int→List Int→List Int→List Int
 |s::ss,d::ds,o=>vN ss ds (o.set s.toNat d)
 |_,_,o=>o
theorem wA:∀(ss ds o:List Int),(vN ss ds o).length=o.length
 |[],_,o=>by simp [vN]
 |s::ss,[],o=>by simp [vN]
 |s::ss,d::ds,o=>by rw[vN,wA ss ds,Sj]
def Ah:List Int→Int→Int
 |[],m=>m
 |d::ds,m=>Ah ds (C5 m d)
theorem Ext.Ii {hb h:H} {o:Nat} (x:Ext hb h) (hn:hb.get o=none) (c:List AV):Ext hb (h.set o c):=fun i d q=>by
 have:i≠o:=fun e=>by rw[e,hn]at q;cases q
 rw[u9 this,x i d q]
def yw (w:Int):Int:=(w+1)/2
def we (ws:List Int):List Int:=ws.map yw
theorem zJ (ws:List Int):(we ws).length=ws.length:=by simp [we]
def H3 (ws:List Int):Prop:=ws=[]∨(1≤ws.length∧ws.length≤288∧(∀k,k<ws.length-1→(FS.yi k (Cd ws)).ok)∧HE (FS.yi (ws.length-1) (Cd ws)).U∧(FS.yi (ws.length-1) (Cd ws)).U.length=(FS.yi (ws.length-1) (Cd ws)).W.length)
theorem Iq (U:List Int):∀(m:Nat) (j:Int),BJ U m j≤m
 |0,j=>uH _
 | m + 1, j => by
   rw[BJ]
   split
   · have:=Iq U m (U.getD j.toNat (-1));omega
   · omega
theorem FM {ws:List Int} (o:H3 ws):∀d∈vq ws,0≤d∧d<1000:=by
 intro d hd
 rcases o with rfl|⟨h1,h2,_,_,h5⟩
 · simp [vq,EJ]at hd
 · unfold vq EJ at hd
   obtain⟨i,_,rfl⟩:=R6.1 hd
   have:=Iq (FS.yi (ws.length-1) (Cd ws)).U (FS.yi (ws.length-1) (Cd ws)).U.length ((FS.yi (ws.length-1) (Cd ws)).U.getD i (-1))
   rw[h5,FS.A3]at this
   rw[h5,FS.A3]
   have:(Cd ws).W.length=ws.length:=rfl
   omega
theorem wv (ws:List Int):(vq ws).length=ws.length:=JD _ _
def yx (S:List Int):Nat→List Int→List Int→List Int
 |0,W,O=>vN S (vq W) O
 |K+1,W,O=>yx S K (we W) (vN S (vq W) O)
theorem Jm {h:H} {v:AV} {k:Nat} {cs:List AV} (o:v8 1 h v k cs) (hk:0<k):∃id,v=.aD id 0 k 1∧h.get id=some cs∧h.floor≤id:=by
 rcases o.2 with ⟨_,q⟩|⟨id,q1,q2,q3,_⟩
 · omega
 · exact⟨id,q1,q2,q3⟩
inductive wP (most:Int):Nat→List Int→Prop
 |last {W:List Int}:H3 W→Ah (vq W) 0≤most→wP most 0 W
 |more {K:Nat} {W:List Int}:H3 W→most<Ah (vq W) 0→W≠[]→wP most K (we W)→wP most (K+1) W
def A7 (S:List Int):List Int:=if S.length=1 then(if 0<S.getD 0 0 then [0,S.getD 0 0]else S++[1])else S
def Hr (S W:List Int):List Int:=if S.length=1 then(if 0<S.getD 0 0 then [1,W.getD 0 0]else W++[1])else W
theorem Lu {S W:List Int} (h:W.length=S.length):(Hr S W).length=(A7 S).length:=by
 unfold Hr A7
 split
 · split
   · rfl
   · simp [h]
 · exact h
theorem vJ:∀(i:Nat) (C:List Int),(vi i C).length=(vk C).length
 |i,[]=>rfl
 | i, c :: r => by
   rw[vi,vk]
   split
   · simp [vJ (i+1) r]
   · exact vJ (i+1) r
theorem wC:∀(i:Nat) (C:List Int),(vi i C).length≤C.length
 |i,[]=>uH _
 | i, c :: r => by
   have:=wC (i+1) r
   rw[vi]
   split<;>simp<;>omega
theorem wS:∀(i:Nat) (C:List Int),∀s∈vi i C,(i:Int)≤s∧s<i+C.length
 |i,[],s,h=>by simp [vi]at h
 | i, c :: r, s, h => by
   rw[vi]at h
   split at h
   · rcases uY.1 h with q|q
     · subst q;simp;omega
     · have:=wS (i+1) r s q;simp only[RX];omega
   · have:=wS (i+1) r s h;simp only[RX];omega
theorem yd:∀(C:List Int),∀y∈vk C,y∈C∧0<y
 |[],y,h=>by simp [vk]at h
 | c :: r, y, h => by
   rw[vk]at h
   split at h
   · rcases uY.1 h with q|q
     · subst q;exact⟨by simp,by assumption⟩
     · have:=yd r y q;exact⟨by simp [this.1],this.2⟩
   · have:=yd r y h;exact⟨by simp [this.1],this.2⟩
theorem J7 {S : List Int} {n : Nat} (hn : 2 ≤ n) (h : ∀ s ∈ S, 0 ≤ s ∧ s < n) : ∀ s ∈ A7 S, 0 ≤ s ∧ s < n := by
 intro s hs
 unfold A7 at hs
 split at hs
 · split at hs
   · rename_i h1 h2
     rcases uY.1 hs with q|q
     · subst q;omega
     · simp at q
       subst q
       match S,h1 with
       |[t],_=>exact h t (by simp)
   · rcases Sn.1 hs with q|q
     · exact h s q
     · simp at q;subst q;omega
 · exact h s hs
theorem Gt {S:List Int} {n:Nat} (hn:2≤n) (h:S.length≤n):(A7 S).length≤n:=by
 unfold A7
 split
 · split
   · simpa using hn
   · simp;omega
 · exact h
theorem y7 (n:Nat):xE n [.int .i64 0]=ints (List.replicate n 0):=by
 unfold xE;rw[Fb];simp [ints,I]
def wx (C:List Int):List Int:=A7 (vi 0 C)
def wI (C:List Int):List Int:=Hr (vi 0 C) (vk C)
theorem Hj (C:List Int):(wI C).length=(wx C).length:=Lu (vJ 0 C).symm
def vZ (C:List Int) (K:Nat):List Int:=yx (wx C) K (wI C) (List.replicate C.length 0)
theorem CU (W : List Int) (F : List Bool) : ∀ (m i : Nat) (a : Int), (a = -1 ∧ (∀ j, j < i → F.getD j false = false)) ∨ (∃ k : Nat, a = k ∧ k < i ∧ F.getD k false = true ∧ ∀ j, j < i → F.getD j false = true → W.getD k 0 ≤ W.getD j 0) →
 (wN W F m i a= -1∧(∀j,j<i+m→F.getD j false=false))∨(∃k:Nat,wN W F m i a=k∧k<i+m∧F.getD k false=true∧∀j,j<i+m→F.getD j false=true→W.getD k 0≤W.getD j 0)
 |0,i,a,h=>by simpa [wN]using h
 | m + 1, i, a, h => by
   rw[wN]
   have e:i+(m+1)=i+1+m:=by omega
   rw[e]
   refine CU W F m (i+1) _ ?_
   by_cases c:F.getD i false=true∧(a<0∨W.getD i 0<W.getD a.toNat 0)
   · rw [if_pos c]
     refine .inr ⟨i,rfl,by omega,c.1,fun j hj hf=> ?_⟩
     by_cases q:j=i
     · subst q;exact Sx _
     · rcases h with ⟨_,h2⟩|⟨k,rfl,h1,h2,h3⟩
       · rw[h2 j (by omega)]at hf;cases hf
       · have:=h3 j (by omega) hf
         have tk:((k:Nat):Int).toNat=k:=by omega
         rw[tk]at c
         have:=c.2
         omega
   · rw [if_neg c]
     rcases h with ⟨rfl,h2⟩|⟨k,rfl,h1,h2,h3⟩
     · refine .inl ⟨rfl,fun j hj=> ?_⟩
       by_cases q:j=i
       · subst q
         cases e:F.getD j false with
         |false=>rfl
         |true=>exact absurd ⟨e,.inl (by omega)⟩ c
       · exact h2 j (by omega)
     · refine .inr ⟨k,rfl,by omega,h2,fun j hj hf=> ?_⟩
       by_cases q:j=i
       · subst q
         have tk:((k:Nat):Int).toNat=k:=by omega
         rw[tk]at c
         have:¬(W.getD j 0<W.getD k 0):=fun x=>c ⟨hf,.inr x⟩
         omega
       · exact h3 j (by omega) hf
theorem Ae {W:List Int} {F:List Bool} (hl:F.length=W.length) {i:Nat} (hi:F.getD i false=true):0≤wN W F W.length 0 (-1)∧xm W F<W.length∧F.getD (xm W F) false=true∧∀j,F.getD j false=true→W.getD (xm W F) 0≤W.getD j 0:=by
 have hiL:∀j,F.getD j false=true→j<F.length:=by
  intro j hj
  rw[RW]at hj
  cases e:F[j]? with
  |none=>rw[e]at hj;cases hj
  |some b=>exact(uD.1 e).1
 rcases CU W F W.length 0 (-1) (.inl ⟨rfl,fun j hj=>by omega⟩)with ⟨_,h2⟩|⟨k,h1,h2,h3,h4⟩
 · have:=h2 i (by have:=hiL i hi;omega)
   rw[hi]at this;cases this
 · have ek:xm W F=k:=by unfold xm;rw[h1];omega
   rw[ek]
   exact⟨by omega,by omega,h3,fun j hj=>h4 j (by have:=hiL j hj;omega) hj⟩
def Lx (U:List Int):Nat→Nat→Nat→Prop
 |0,i,r=>i=r
 |d+1,i,r=>∃j:Nat,U[i]?=some (j:Int)∧Lx U d j r
theorem Dc {U:List Int}:∀{d i r:Nat} {j:Nat},Lx U d i r→U[r]?=some (j:Int)→Lx U (d+1) i j
 | 0, i, r, j, h, hj => by
   have:i=r:=h
   subst this
   exact⟨j,hj,rfl⟩
 |d+1,i,r,j,⟨k,h1,h2⟩,hj=>⟨k,h1,Dc h2 hj⟩
theorem E8 {U:List Int} (up:HE U):∀{d i r:Nat},Lx U d i r→U.getD r (-1)= -1→∀m,d≤m→BJ U m (U.getD i (-1))=d
 | 0, i, r, h, hr, m, hm => by
   have:i=r:=h
   subst this
   rw[hr]
   cases m with
   |zero=>rfl
   |succ m=>rw[BJ,if_neg (by omega)]
 | d + 1, i, r, ⟨j, h1, h2⟩, hr, m, hm => by
   obtain⟨m,rfl⟩:∃k,m=k+1:=⟨m-1,by omega⟩
   have e:U.getD i (-1)=(j:Int):=by rw[RW,h1];rfl
   rw[e,BJ,if_pos (by omega)]
   have tj:((j:Nat):Int).toNat=j:=by omega
   rw[tj,E8 up h2 hr m (by omega)]
theorem E6 {U:List Int} (up:HE U):∀{d i r:Nat},Lx U d i r→i+d≤r
 | 0, i, r, h => by
   have:i=r:=h
   omega
 | d + 1, i, r, ⟨j, h1, h2⟩ => by
   have:=E6 up h2
   have hi:=(uD.1 h1).1
   have e:U.getD i (-1)=(j:Int):=by rw[RW,h1];rfl
   have:=up i hi
   rw[e]at this
   omega
def yh (U:List Int) (a b:Nat):List Int:=(U.set a U.length).set b U.length++[-1]
theorem D3 (U:List Int) (a b:Nat):(yh U a b).length=U.length+1:=by simp [yh]
theorem Bs {U:List Int} {a b i:Nat} (hi:i<U.length) (ha:a≠i) (hb:b≠i):(yh U a b)[i]?=U[i]?:=by
 unfold yh
 rw[R7 (by simpa using hi),Sb,if_neg hb,Sb,if_neg ha]
theorem HW {U:List Int} {a b:Nat} (ha:a<U.length):(yh U a b)[a]?=some (U.length:Int):=by
 unfold yh
 rw[R7 (by simpa using ha),Sb]
 split
 · rename_i e;subst e;simp [ha]
 · rw[Sb,if_pos rfl,if_pos ha]
theorem HX {U:List Int} {a b:Nat} (hb:b<U.length):(yh U a b)[b]?=some (U.length:Int):=by
 unfold yh
 rw[R7 (by simpa using hb),Sb,if_pos rfl,if_pos (by simpa using hb)]
theorem HY {U:List Int} {a b:Nat}:(yh U a b)[U.length]?=some (-1):=by
 unfold yh
 rw[R8 (by simp)];simp
theorem A8 {U:List Int} {a b:Nat} (ha:U[a]?=some (-1)) (hb:U[b]?=some (-1)):∀{d i r:Nat},Lx U d i r→Lx (yh U a b) d i r
 |0,i,r,h=>h
 | d + 1, i, r, ⟨j, h1, h2⟩ => by
   refine⟨j, ?_,A8 ha hb h2⟩
   rw[Bs (uD.1 h1).1 (fun e=>by rw[e,h1]at ha;have:=uv ha;omega) (fun e=>by rw[e,h1]at hb;have:=uv hb;omega),h1]
theorem Jg {U : List Int} {a b : Nat} (ha : a < U.length) (hb : b < U.length) (up : HE U) : HE (yh U a b) := by
 intro j hj
 rw[D3]at hj ⊢
 by_cases e:j=U.length
 · subst e
   left
   rw[RW,HY];rfl
 · by_cases ea:a=j
   · subst ea
     right
     rw[RW,HW ha]
     simp;omega
   · by_cases eb:b=j
     · subst eb
       right
       rw[RW,HX hb]
       simp;omega
     · have:=up j (by omega)
       rw[RW,Bs (by omega) ea eb,←RW]
       omega
theorem FS.Qf (s:FS):s.ER.U=yh s.U s.a s.b:=rfl
abbrev Tr:=Nat×List (Nat×Nat)
def kr (D:Nat) (l:List (Nat×Nat)):Nat:=(l.map fun p=>2^(D-p.2)).sum
structure yz (bal:Bool) (n:Nat) (tot:Int) (s:FS) (T:List Tr):Prop where
 lu:s.U.length=s.W.length
 lf:s.F.length=s.W.length
 root:∀t∈T,s.F.getD t.1 false=true∧s.U[t.1]?=some (-1)
 free:∀i,s.F.getD i false=true→∃t∈T,t.1=i
 nd:(T.map (·.1)).Nodup
 pt:∀t∈T,∀p∈t.2,Lx s.U p.2 p.1 t.1
 leaves:(T.flatMap fun t=>t.2.map (·.1)).Perm (List.range n)
 CT:∀t∈T,∀D,(∀p∈t.2,p.2≤D)→kr D t.2=2^D
 ne:∀t∈T,t.2≠[]
 HF:∀t∈T,1≤s.W.getD t.1 0
 up:HE s.U
 sum:(T.map fun t=>s.W.getD t.1 0).sum=tot
 KX:bal=true→∀t∈T,∀u∈T,s.W.getD t.1 0≤2* s.W.getD u.1 0
 Iy:bal=true→∀t∈T,∀p∈t.2,(3:Int)^p.2≤s.W.getD t.1 0* 2^p.2
theorem I6 {l l':List Int} (p:l.Perm l'):l.sum=l'.sum:=by
 induction p with
 |nil=>rfl
 |cons x _ ih=>simp only[Sm,ih]
 |swap x y l=>simp only[Sm];omega
 |trans _ _ h1 h2=>exact h1.trans h2
theorem Ei {l l':List Nat} (p:l.Perm l'):l.sum=l'.sum:=by
 induction p with
 |nil=>rfl
 |cons x _ ih=>simp only[Sm,ih]
 |swap x y l=>simp only[Sm];omega
 |trans _ _ h1 h2=>exact h1.trans h2
theorem yz.perm {bal:Bool} {n:Nat} {tot:Int} {s:FS} {T T':List Tr} (v:yz bal n tot s T) (p:T.Perm T'):yz bal n tot s T' where
 lu:=v.lu
 lf:=v.lf
 root t h:=v.root t (p.mem_iff.2 h)
 free i h:=by
  obtain⟨t,h1,h2⟩:=v.free i h
  exact⟨t,p.mem_iff.1 h1,h2⟩
 nd:=(p.map _).nodup_iff.1 v.nd
 pt t h:=v.pt t (p.mem_iff.2 h)
 leaves:=((p.flatMap_right _).symm).trans v.leaves
 CT t h:=v.CT t (p.mem_iff.2 h)
 ne t h:=v.ne t (p.mem_iff.2 h)
 HF t h:=v.HF t (p.mem_iff.2 h)
 up:=v.up
 sum:=by rw[←v.sum];exact(I6 (p.map _)).symm
 KX hb t h u h2:=v.KX hb t (p.mem_iff.2 h) u (p.mem_iff.2 h2)
 Iy hb t h:=v.Iy hb t (p.mem_iff.2 h)
def xw (l:List (Nat×Nat)):List (Nat×Nat):=l.map fun p=>(p.1,p.2+1)
theorem IU {D:Nat} {l:List (Nat×Nat)}:kr (D+1) (xw l)=kr D l:=by
 unfold kr xw
 rw[List.map_map]
 congr 1
 refine Sr fun p _=> ?_
 show 2^(D+1-(p.2+1))=_
 rw[Nat.add_sub_add_right]
theorem Ok (D:Nat) (a b:List (Nat×Nat)):kr D (a++b)=kr D a+kr D b:=by simp [kr]
theorem getD_set_ne {α:Type} {l:List α} {i j:Nat} {x d:α} (h:i≠j):(l.set i x).getD j d=l.getD j d:=by
 rw[RW,Sb,if_neg h,←RW]
theorem yX {l:List Bool} {i:Nat}:(l.set i false).getD i false=false:=by
 rw[RW,Sb,if_pos rfl]
 split<;>rfl
theorem yz.two {bal:Bool} {n:Nat} {tot:Int} {s:FS} {T:List Tr} (v:yz bal n tot s T) (h2:2≤T.length):
 ∃ta tb T2,T.Perm (ta::tb::T2)∧ta.1=s.a∧tb.1=s.b∧0≤wN s.W s.F s.W.length 0 (-1)∧0≤wN s.W s.F1 s.W.length 0 (-1)∧s.W.getD s.a 0≤s.W.getD s.b 0∧(∀t∈T2,s.W.getD s.b 0≤s.W.getD t.1 0):=by
 obtain⟨t0,t1,T0,rfl⟩:∃t0 t1 T0,T=t0::t1::T0:=by
  match T,h2 with
  |t0::t1::T0,_=>exact⟨t0,t1,T0,rfl⟩
 obtain⟨l1,la,fa,ma⟩:=Ae v.lf (v.root t0 (by simp)).1
 obtain⟨ta,hta,ea⟩:=v.free _ fa
 have p1:=List.perm_cons_erase hta
 have v1:=v.perm p1
 obtain⟨T1,eT1⟩:∃T1,T1=(t0::t1::T0).erase ta:=⟨_,rfl⟩
 rw[←eT1]at p1 v1
 have lT1:T1≠[]:=by
  intro e
  have:=p1.length_eq
  rw[e]at this
  simp at this
 obtain⟨tx,hx⟩:=List.exists_mem_of_ne_nil _ lT1
 have nd1:∀t∈T1,t.1≠ta.1:=by
  intro t ht e
  have:=v1.nd
  rw[R5,SE]at this
  exact this.1 (R6.2 ⟨t,ht,e⟩)
 have f1:∀t∈T1,s.F1.getD t.1 false=true:=by
  intro t ht
  have:=(v1.root t (by simp [ht])).1
  show(s.F.set s.a false).getD t.1 false=true
  rw[getD_set_ne (by have:=nd1 t ht;intro e;exact this (by rw[ea,←e];rfl)),this]
 obtain⟨l2,lb,fb,mb⟩:=Ae (W:=s.W) (F:=s.F1) (by show(s.F.set s.a false).length=_;rw[Sj];exact v.lf) (f1 tx hx)
 have hnb:s.a≠s.b:=by
  intro e
  have fb':s.F1.getD s.b false=true:=fb
  rw[←e]at fb'
  have:(s.F.set s.a false).getD s.a false=true:=fb'
  rw[yX]at this;cases this
 have fb2:s.F.getD s.b false=true:=by
  have fb':(s.F.set s.a false).getD s.b false=true:=fb
  rwa [getD_set_ne hnb]at fb'
 obtain⟨tb,htb,eb⟩:=v1.free _ fb2
 have htb1:tb∈T1:=by
  rcases uY.1 htb with q|q
  · subst q;exact absurd (ea.symm.trans eb) hnb
  · exact q
 have p2:=List.perm_cons_erase htb1
 refine⟨ta,tb,T1.erase tb,p1.trans (p2.cons ta),ea,eb,l1,l2,ma _ fb2,fun t ht=>mb _ (f1 t (List.mem_of_mem_erase ht))⟩
theorem yz.Kz {bal : Bool} {n : Nat} {tot : Int} {s : FS} {T T2 : List Tr} {ta tb : Tr} (v : yz bal n tot s T) (p : T.Perm (ta :: tb :: T2)) (ea : ta.1 = s.a) (eb : tb.1 = s.b) (l1 : 0 ≤ wN s.W s.F s.W.length 0 (-1)) (l2 : 0 ≤ wN s.W s.F1 s.W.length 0 (-1)) (wab : s.W.getD s.a 0 ≤ s.W.getD s.b 0) (wbt : ∀ t ∈ T2, s.W.getD s.b 0 ≤ s.W.getD t.1 0) (ht : tot < 1000000000000000) : s.ok ∧ yz bal n tot s.ER ((s.U.length, xw (ta.2 ++ tb.2)) :: T2) := by
 have lT:=p.length_eq
 have v1:=v.perm p
 have nd:=v1.nd
 rw[R5,R5,SE,SE]at nd
 obtain⟨nd1,nd2,nd3⟩:=nd
 have ra:=v1.root ta (by simp)
 have rb:=v1.root tb (by simp)
 rw[ea]at ra
 rw[eb]at rb
 have hla:s.a<s.U.length:=(uD.1 ra.2).1
 have hlb:s.b<s.U.length:=(uD.1 rb.2).1
 have wa:=v1.HF ta (by simp)
 have wb1:=v1.HF tb (by simp)
 rw[ea]at wa
 rw[eb]at wb1
 have sm:=v1.sum
 rw[R5,R5,Sm,Sm,ea,eb]at sm
 have nn:0≤(T2.map fun t=>s.W.getD t.1 0).sum:=by
  have:∀l:List Tr,(∀t∈l,1≤s.W.getD t.1 0)→0≤(l.map fun t=>s.W.getD t.1 0).sum:=by
   intro l
   induction l with
   |nil=>intro _;simp
   |cons x l ih=>intro h;have:=ih fun t ht=>h t (by simp [ht]);have:=h x (by simp);simp only[R5,Sm];omega
  exact this T2 fun t ht=>v1.HF t (by simp [ht])
 have es:s.sum=s.W.getD s.a 0+s.W.getD s.b 0:=rfl
 refine⟨⟨v.lu,v.lf,l1,l2,by omega⟩, ?_⟩
 have nT2:∀t∈T2,t.1≠s.a∧t.1≠s.b∧t.1<s.U.length:=fun t ht=>⟨fun e=>nd1 (by simp only[uY,R6];exact .inr ⟨t,ht,by rw[e,ea]⟩),fun e=>nd2 (R6.2 ⟨t,ht,by rw[e,eb]⟩),(uD.1 (v1.root t (by simp [ht])).2).1⟩
 have mW:∀i,i<s.W.length→s.ER.W.getD i 0=s.W.getD i 0:=fun i hi=>by
  show(s.W++[s.sum]).getD i 0=_
  rw[RW,R7 hi,←RW]
 have mWn:s.ER.W.getD s.U.length 0=s.sum:=by
  show(s.W++[s.sum]).getD s.U.length 0=_
  rw[v.lu,RW,R8 (uH _)];simp
 have lF2:s.F2.length=s.W.length:=by show((s.F.set s.a false).set s.b false).length=_;rw[Sj,Sj,v.lf]
 have mF:∀i,i<s.W.length→s.ER.F.getD i false=s.F2.getD i false:=fun i hi=>by
  show(s.F2++[true]).getD i false=_
  rw[RW,R7 (by omega),←RW]
 have mFn:s.ER.F.getD s.U.length false=true:=by
  show(s.F2++[true]).getD s.U.length false=_
  rw[v.lu,RW,R8 (by omega),lF2];simp
 have F2o:∀i,i≠s.a→i≠s.b→s.F2.getD i false=s.F.getD i false:=fun i h1 h2=>by
  show((s.F.set s.a false).set s.b false).getD i false=_
  rw[getD_set_ne h2.symm,getD_set_ne h1.symm]
 have F2a:s.a≠s.b→s.F2.getD s.a false=false:=fun h=>by
  show((s.F.set s.a false).set s.b false).getD s.a false=_
  rw[getD_set_ne h.symm,yX]
 have F2b:s.F2.getD s.b false=false:=yX
 have hab:s.a≠s.b:=fun e=>nd1 (by simp only[uY];exact .inl (by rw[ea,eb,e]))
 have jl:∀p∈ta.2++tb.2,Lx (yh s.U s.a s.b) (p.2+1) p.1 s.U.length:=fun q hq=>by
  rcases Sn.1 hq with h|h
  · have:=v1.pt ta (by simp) q h
    rw[ea]at this
    exact Dc (A8 ra.2 rb.2 this) (HW hla)
  · have:=v1.pt tb (by simp) q h
    rw[eb]at this
    exact Dc (A8 ra.2 rb.2 this) (HX hlb)
 have lu:=v.lu
 have lf:=v.lf
 have getT2:∀t∈T2,s.ER.W.getD t.1 0=s.W.getD t.1 0:=fun t ht=>mW _ (by have:=(nT2 t ht).2.2;omega)
 have W2:∀t∈(s.U.length,xw (ta.2++tb.2))::T2,(t.1=s.U.length∧t.2=xw (ta.2++tb.2)∧s.ER.W.getD t.1 0=s.sum)∨(t∈T2∧s.ER.W.getD t.1 0=s.W.getD t.1 0):=fun t ht=>by
  rcases uY.1 ht with q|q
  · subst q;exact .inl ⟨rfl,rfl,mWn⟩
  · exact .inr ⟨q,getT2 t q⟩
 constructor
 · show(yh s.U s.a s.b).length=(s.W++[s.sum]).length
   rw[D3];simp [lu]
 · show(s.F2++[true]).length=(s.W++[s.sum]).length
   simp [lF2]
 · intro t ht
   rcases uY.1 ht with q|q
   · subst q
     exact⟨mFn,HY⟩
   · have n:=nT2 t q
     have r:=v1.root t (by simp [q])
     refine⟨by rw[mF _ (by omega),F2o _ n.1 n.2.1];exact r.1, ?_⟩
     rw[FS.Qf,Bs n.2.2 n.1.symm n.2.1.symm];exact r.2
 · intro i hi
   by_cases e:i=s.U.length
   · exact⟨_,List.mem_cons_self ..,e.symm⟩
   · have hiL:i<s.W.length:=by
      apply Sg
      intro c
      have:s.ER.F.length=s.W.length+1:=by show(s.F2++[true]).length=_;simp [lF2]
      rw[RW,Sa (by omega)]at hi
      cases hi
     rw[mF i hiL]at hi
     have h1:i≠s.a:=fun q=>by rw[q,F2a hab]at hi;cases hi
     have h2:i≠s.b:=fun q=>by rw[q,F2b]at hi;cases hi
     rw[F2o i h1 h2]at hi
     obtain⟨t,ht,et⟩:=v1.free i hi
     rcases uY.1 ht with q|q
     · subst q;exact absurd (et.symm.trans ea) h1
     · rcases uY.1 q with q|q
       · subst q;exact absurd (et.symm.trans eb) h2
       · exact⟨t,Sy _ q,et⟩
 · rw[R5,SE]
   refine⟨fun hm=> ?_,nd3⟩
   obtain⟨t,ht,e⟩:=R6.1 hm
   have:=(nT2 t ht).2.2
   rw[e]at this
   exact absurd this (by simp)
 · intro t ht
   rcases uY.1 ht with q|q
   · subst q
     intro q hq
     obtain⟨q',hq',rfl⟩:=R6.1 hq
     exact jl q' hq'
   · intro x hx
     exact A8 ra.2 rb.2 (v1.pt t (by simp [q]) x hx)
 · have lv:=v1.leaves
   refine List.Perm.trans ?_ lv
   rw[R3,R3,R3,←R9]
   have:(xw (ta.2++tb.2)).map (·.1)=ta.2.map (·.1)++tb.2.map (·.1):=by
    unfold xw;rw[List.map_map,List.map_append];rfl
   rw[this]
 · intro t ht
   rcases uY.1 ht with q|q
   · subst q
     intro D hD
     have hne:=v1.ne ta (by simp)
     obtain⟨x,hx⟩:=List.exists_mem_of_ne_nil _ hne
     have h1:=hD (x.1,x.2+1) (R6.2 ⟨x,List.mem_append_left _ hx,rfl⟩)
     obtain⟨D,rfl⟩:∃E,D=E+1:=⟨D-1,by simp at h1;omega⟩
     rw[IU,Ok]
     rw[v1.CT ta (by simp) D fun y hy=>by have:=hD (y.1,y.2+1) (R6.2 ⟨y,List.mem_append_left _ hy,rfl⟩);simp at this;omega]
     rw[v1.CT tb (by simp) D fun y hy=>by have:=hD (y.1,y.2+1) (R6.2 ⟨y,List.mem_append_right _ hy,rfl⟩);simp at this;omega]
     rw[Nat.pow_succ];omega
   · exact v1.CT t (by simp [q])
 · intro t ht
   rcases uY.1 ht with q|q
   · subst q
     have hne:=v1.ne ta (by simp)
     intro e
     have:xw (ta.2++tb.2)=[]:=e
     unfold xw at this
     rw[List.map_eq_nil_iff,List.append_eq_nil_iff]at this
     exact hne this.1
   · exact v1.ne t (by simp [q])
 · intro t ht
   rcases W2 t ht with ⟨_,_,e⟩|⟨q,e⟩
   · rw[e];omega
   · rw[e];exact v1.HF t (by simp [q])
 · exact Jg hla hlb v.up
 · rw[R5,Sm,mWn,Sr getT2];omega
 · intro hb t ht u hu
   have b1:=v1.KX hb
   have ba:=b1 tb (by simp) ta (by simp)
   rw[ea,eb]at ba
   rcases W2 t ht with ⟨_,_,e⟩|⟨q,e⟩
   · rcases W2 u hu with ⟨_,_,e'⟩|⟨q',e'⟩
     · rw[e,e'];omega
     · rw[e,e'];have:=wbt u q';omega
   · rcases W2 u hu with ⟨_,_,e'⟩|⟨q',e'⟩
     · rw[e,e'];have:=b1 t (by simp [q]) ta (by simp);rw[ea]at this;omega
     · rw[e,e'];exact b1 t (by simp [q]) u (by simp [q'])
 · intro hb t ht x hx
   have b1:=v1.KX hb
   have ba:=b1 tb (by simp) ta (by simp)
   have bb:=b1 ta (by simp) tb (by simp)
   rw[ea,eb]at ba bb
   rcases W2 t ht with ⟨_,e2,e⟩|⟨q,e⟩
   · rw[e]
     rw[e2]at hx
     obtain⟨y,hy,rfl⟩:=R6.1 hx
     have p2:(0:Int)<2^y.2:=Int.pow_pos (by omega)
     show(3:Int)^(y.2+1)≤s.sum* 2^(y.2+1)
     rw[Int.pow_succ,Int.pow_succ]
     have key:∀w:Int,(3:Int)^y.2≤w* 2^y.2→3* w≤2* s.sum→(3:Int)^y.2* 3≤s.sum* (2^y.2* 2):=fun w h1 h2=>by
      have a1:(3:Int)^y.2* 3≤(w* 2^y.2)* 3:=Int.mul_le_mul_of_nonneg_right h1 (by omega)
      have a2:(3* w)* 2^y.2≤(2* s.sum)* 2^y.2:=Int.mul_le_mul_of_nonneg_right h2 (by omega)
      have a3:(w* 2^y.2)* 3=(3* w)* 2^y.2:=by rw[Int.mul_comm 3 w,Int.mul_assoc,Int.mul_assoc,Int.mul_comm _ 3]
      have a4:s.sum* (2^y.2* 2)=(2* s.sum)* 2^y.2:=by rw[Int.mul_comm 2 s.sum,Int.mul_assoc,Int.mul_comm 2 (2^y.2)]
      omega
     rcases Sn.1 hy with h|h
     · have:=v1.Iy hb ta (by simp) y h
       rw[ea]at this
       exact key _ this (by omega)
     · have:=v1.Iy hb tb (by simp) y h
       rw[eb]at this
       exact key _ this (by omega)
   · rw[e];exact v1.Iy hb t (by simp [q]) x hx
theorem yz.step {bal:Bool} {n:Nat} {tot:Int} {s:FS} {T:List Tr} (v:yz bal n tot s T) (h2:2≤T.length) (ht:tot<1000000000000000):s.ok∧∃T',T'.length+1=T.length∧yz bal n tot s.ER T':=by
 obtain⟨ta,tb,T2,p,ea,eb,l1,l2,wab,wbt⟩:=v.two h2
 have lT:=p.length_eq
 obtain⟨a,b⟩:=v.Kz p ea eb l1 l2 wab wbt ht
 exact⟨a,_,by rw[lT];simp,b⟩
def T0 (n:Nat):List Tr:=(List.range n).map fun i=>(i,[(i,0)])
theorem Dn:∀(ws:List Int),((List.range ws.length).map fun i=>ws.getD i 0).sum=ws.sum:=by
 intro ws
 have:(List.range ws.length).map (fun i=>ws.getD i 0)=ws:=by
  apply List.ext_getElem?
  intro i
  rw[uQ]
  by_cases h:i<ws.length
  · rw[Sq h,RY h];simp [RW,h]
  · rw[Sa (by simp;omega),Sa (by omega)];rfl
 rw[this]
theorem zN {α:Type} {n i:Nat} {x d:α} (h:i<n):(List.replicate n x).getD i d=x:=by
 rw[RW,Sl,if_pos h];rfl
theorem yz.init (ws : List Int) (bal : Bool) (pos : ∀ y ∈ ws, 1 ≤ y) (hb : bal = true → ∀ y ∈ ws, y = 1) : yz bal ws.length ws.sum (Cd ws) (T0 ws.length) := by
 have mem:∀t∈T0 ws.length,∃i,i<ws.length∧t=(i,[(i,0)]):=fun t ht=>by
  obtain⟨i,hi,rfl⟩:=R6.1 ht
  exact⟨i,List.mem_range.1 hi,rfl⟩
 have gw:∀i,i<ws.length→ws.getD i 0∈ws:=fun i hi=>by
  rw[RW,RY hi];exact Sd hi
 constructor
 · simp [Cd]
 · simp [Cd]
 · intro t ht
   obtain⟨i,hi,rfl⟩:=mem t ht
   exact⟨zN hi,by show(List.replicate ws.length (-1:Int))[i]?=_;rw[Sl,if_pos hi]⟩
 · intro i hi
   have:i<ws.length:=by
    apply Sg
    intro c
    have e:(Cd ws).F.getD i false=false:=by
     show(List.replicate ws.length true).getD i false=false
     rw[RW,Sa (by simp;omega)];rfl
    rw[e]at hi;cases hi
   exact⟨(i,[(i,0)]),R6.2 ⟨i,List.mem_range.2 this,rfl⟩,rfl⟩
 · unfold T0
   rw[List.map_map]
   have:((fun t:Tr=>t.1)∘fun i=>((i,[(i,0)]):Tr))=id:=rfl
   rw[this,List.map_id];exact List.nodup_range
 · intro t ht q hq
   obtain⟨i,hi,rfl⟩:=mem t ht
   simp at hq
   subst hq
   exact rfl
 · have:(T0 ws.length).flatMap (fun t=>t.2.map (·.1))=List.range ws.length:=by
    unfold T0
    rw[List.flatMap_map]
    have:∀l:List Nat,(l.flatMap fun i=>([(i,0)]:List (Nat×Nat)).map (·.1))=l:=by
     intro l
     induction l with
     |nil=>rfl
     |cons x l ih=>rw[R3,ih];rfl
    exact this _
   rw[this]
 · intro t ht D _
   obtain⟨i,hi,rfl⟩:=mem t ht
   simp [kr]
 · intro t ht
   obtain⟨i,hi,rfl⟩:=mem t ht
   simp
 · intro t ht
   obtain⟨i,hi,rfl⟩:=mem t ht
   exact pos _ (gw i hi)
 · intro j hj
   have:j<ws.length:=by simpa [Cd]using hj
   exact .inl (zN this)
 · unfold T0
   rw[List.map_map]
   exact Dn ws
 · intro h t ht u hu
   obtain⟨i,hi,rfl⟩:=mem t ht
   obtain⟨j,hj,rfl⟩:=mem u hu
   have a:=hb h _ (gw i hi)
   have b:=hb h _ (gw j hj)
   show ws.getD i 0≤2* ws.getD j 0
   omega
 · intro h t ht q hq
   obtain⟨i,hi,rfl⟩:=mem t ht
   simp at hq
   subst hq
   have a:=hb h _ (gw i hi)
   show(3:Int)^0≤ws.getD i 0* 2^0
   rw[a];simp
theorem yz.run {bal:Bool} {n:Nat} {tot:Int} (ht:tot<1000000000000000):∀(m:Nat) (s:FS) (T:List Tr),yz bal n tot s T→T.length=m+1→(∀k,k<m→(FS.yi k s).ok)∧∃t,yz bal n tot (FS.yi m s) [t]
 | 0, s, T, v, h => by
   refine⟨fun k hk=>by omega, ?_⟩
   match T,h with
   |[t],_=>exact⟨t,v⟩
 | m + 1, s, T, v, h => by
   obtain⟨ok,T',hl,v'⟩:=v.step (by omega) ht
   obtain⟨h1,t,h2⟩:=yz.run ht m s.ER T' v' (by omega)
   refine⟨fun k hk=> ?_,t,h2⟩
   cases k with
   |zero=>exact ok
   |succ k=>exact h1 k (by omega)
theorem Oh (ws:List Int) (bal:Bool) (h1:1≤ws.length) (pos:∀y∈ws,1≤y) (hs:ws.sum<1000000000000000) (hb:bal=true→∀y∈ws,y=1):
 (∀k,k<ws.length-1→(FS.yi k (Cd ws)).ok)∧HE (FS.yi (ws.length-1) (Cd ws)).U∧(FS.yi (ws.length-1) (Cd ws)).U.length=(FS.yi (ws.length-1) (Cd ws)).W.length∧
 (∀D:Nat,(∀d∈vq ws,d≤(D:Int))→((vq ws).map fun d=>2^(D-d.toNat)).sum=2^D)∧
 (bal=true→∀d∈vq ws,(3:Int)^d.toNat≤ws.sum* 2^d.toNat)∧(2≤ws.length→∀d∈vq ws,1≤d):=by
 obtain⟨ok,t,v⟩:=yz.run hs (ws.length-1) (Cd ws) (T0 ws.length) (yz.init ws bal pos hb) (by simp [T0];omega)
 obtain⟨S,hS⟩:∃S,S=FS.yi (ws.length-1) (Cd ws):=⟨_,rfl⟩
 have eD:vq ws=EJ S.U ws.length:=by rw[hS];rfl
 rw[←hS]at v ⊢
 have up:=v.up
 have rt:=(v.root t (by simp)).2
 have rtD:S.U.getD t.1 (-1)= -1:=by rw[RW,rt];rfl
 have rl:=(uD.1 rt).1
 have lv:=v.leaves
 simp only[R3,List.flatMap_nil,Sf]at lv
 have dep:∀q∈t.2,BJ S.U S.U.length (S.U.getD q.1 (-1))=q.2:=fun q hq=>by
  have:=v.pt t (by simp) q hq
  have l:=E6 up this
  exact E8 up this rtD _ (by omega)
 have pm:(vq ws).Perm (t.2.map fun q=>((q.2:Nat):Int)):=by
  rw[eD]
  unfold EJ
  have:=lv.symm.map (fun i=>((BJ S.U S.U.length (S.U.getD i (-1)):Nat):Int))
  refine this.trans ?_
  rw[List.map_map]
  have e:t.2.map ((fun i=>((BJ S.U S.U.length (S.U.getD i (-1)):Nat):Int))∘fun x=>x.1)=t.2.map fun q=>((q.2:Nat):Int):=Sr fun q hq=>by
   show((BJ S.U S.U.length (S.U.getD q.1 (-1)):Nat):Int)=_
   rw[dep q hq]
  rw[e]
 have mem:∀d∈vq ws,∃q∈t.2,d=((q.2:Nat):Int):=fun d hd=>by
  obtain⟨q,hq,rfl⟩:=R6.1 (pm.mem_iff.1 hd)
  exact⟨q,hq,rfl⟩
 refine⟨ok,up,v.lu,fun D hD=> ?_,fun hbt d hd=> ?_,fun h2 d hd=> ?_⟩
 · have:=Ei (pm.map fun d=>2^(D-d.toNat))
   rw[this,List.map_map]
   have kk:=v.CT t (by simp) D fun q hq=>by
    have:=hD ((q.2:Nat):Int) (pm.mem_iff.2 (R6.2 ⟨q,hq,rfl⟩))
    omega
   rw[←kk]
   unfold kr
   congr 1
 · obtain⟨q,hq,rfl⟩:=mem d hd
   have:=v.Iy hbt t (by simp) q hq
   have sm:=v.sum
   rw[R5,SD,Sm,List.sum_nil,Int.add_zero]at sm
   rw[←sm]
   exact this
 · obtain⟨q,hq,rfl⟩:=mem d hd
   have pq:=v.pt t (by simp) q hq
   apply Sg
   intro c
   have z:q.2=0:=by omega
   rw[z]at pq
   have e:q.1=t.1:=pq
   have ql:q.1<ws.length:=List.mem_range.1 (lv.mem_iff.1 (R6.2 ⟨q,hq,rfl⟩))
   have rr:S.W.length=ws.length+(ws.length-1):=by rw[hS,FS.A3];rfl
   have kk:∀D,(∀p∈t.2,p.2≤D)→kr D t.2=2^D:=v.CT t (by simp)
   obtain⟨D,hDD⟩:∃D,∀p∈t.2,p.2≤D:=⟨t.1,fun p hp=>by have:=E6 up (v.pt t (by simp) p hp);omega⟩
   have k:=kk D hDD
   have l2:t.2.length=ws.length:=by
    have:=lv.length_eq
    simpa using this
   have pe:=List.perm_cons_erase hq
   have:kr D t.2=kr D (q::t.2.erase q):=Ei (pe.map _)
   rw[this]at k
   have:kr D (q::t.2.erase q)=2^(D-q.2)+kr D (t.2.erase q):=by simp [kr]
   rw[this,z,Nat.sub_zero]at k
   have le:=pe.length_eq
   rw[RX]at le
   cases hE:t.2.erase q with
   |nil=>rw[hE]at le;simp at le;omega
   | cons y r =>
     rw[hE]at k
     have:kr D (y::r)=2^(D-y.2)+kr D r:=by simp [kr]
     have:=Nat.pow_pos (n:=D-y.2) (show 0<2 by omega)
     omega
def wQ (l:List Int) (i:Nat):List Int:=l.set i (l.getD i 0+1)
theorem xe (l:List Int) (i:Nat):(wQ l i).length=l.length:=by simp [wQ]
theorem yI {l:List Int} {i:Nat} {n:Int} (h:∀y∈l,0≤y∧y≤n) (hn:0≤n):∀y∈wQ l i,0≤y∧y≤n+1:=by
 intro y hy
 rcases Ss hy with q|q
 · have:=h y q;omega
 · subst q
   rw[RW]
   cases e:l[i]? with
   |none=>simp;omega
   |some z=>have:=h z (uL e);simp;omega
def xU (t:Tok):Prop:=(t.len=0∧0≤t.lit∧t.lit≤255)∨(3≤t.len∧t.len≤258∧1≤t.vP∧t.vP≤32768)
def zf:List Tok→List Int→List Int
 |[],A=>A
 |t::r,A=>zf r (if t.len=0 then wQ A t.lit.toNat else wQ A (xu t.len.toNat))
def zS:List Tok→List Int→List Int
 |[],B=>B
 |t::r,B=>zS r (if t.len=0 then B else wQ B (xQ t.vP.toNat))
structure KN (h h':H) (a b:Nat):Prop where
 floor:h'.floor=h.floor
 next:h.next≤h'.next
 vR:∀i,i<h.next→i≠a→i≠b→h'.get i=h.get i
theorem KN.refl (h:H) (a b:Nat):KN h h a b:=⟨rfl,uH _,fun _ _ _ _=>rfl⟩
theorem KN.trans {x y z:H} {a b:Nat} (p:KN x y a b) (q:KN y z a b):KN x z a b:=⟨q.floor.trans p.floor,uZ p.next q.next,fun i h1 h2 h3=>(q.vR i (Nat.lt_of_lt_of_le h1 p.next) h2 h3).trans (p.vR i h1 h2 h3)⟩
theorem AO {l:List Int} {i:Nat} (h:i<l.length):(ints l)[i]?=some (.int .i64 (l.getD i 0)):=sC (by rw[RW,RY h];rfl)
theorem Cu:∀(ts:List Tok) (A:List Int),(zf ts A).length=A.length
 |[],A=>rfl
 |t::r,A=>by rw[zf,Cu r];split<;>rw[xe]
theorem Cw:∀(ts:List Tok) (A:List Int),(zS ts A).length=A.length
 |[],A=>rfl
 | t :: r, A => by
   rw[zS,Cw r]
   split
   · rfl
   · rw[xe]
theorem Cv:∀(ts:List Tok) (A:List Int) (n:Int),0≤n→(∀y∈A,0≤y∧y≤n)→∀y∈zf ts A,0≤y∧y≤n+ts.length
 |[],A,n,hn,h=>by simpa [zf]using h
 | t :: r, A, n, hn, h => by
   intro y hy
   rw[zf]at hy
   have:=Cv r _ (n+1) (by omega) (by split<;>exact yI h hn) y hy
   simp only[RX];omega
theorem Cx:∀(ts:List Tok) (A:List Int) (n:Int),0≤n→(∀y∈A,0≤y∧y≤n)→∀y∈zS ts A,0≤y∧y≤n+ts.length
 |[],A,n,hn,h=>by simpa [zS]using h
 | t :: r, A, n, hn, h => by
   intro y hy
   rw[zS]at hy
   have:=Cx r _ (n+1) (by omega) (by
    split
    · intro z hz;have:=h z hz;omega
    · exact yI h hn) y hy
   simp only[RX];omega
def xb:List Int→List Int→List Int
 |[],C=>C
 |d::r,C=>xb r (wQ C d.toNat)
theorem AF:∀(ds C:List Int),(xb ds C).length=C.length
 |[],C=>rfl
 |d::r,C=>by rw[xb,AF r,xe]
theorem AG:∀(ds A:List Int) (n:Int),0≤n→(∀y∈A,0≤y∧y≤n)→∀y∈xb ds A,0≤y∧y≤n+ds.length
 |[],A,n,hn,h=>by simpa [xb]using h
 | t :: r, A, n, hn, h => by
   intro y hy
   rw[xb]at hy
   have:=AG r _ (n+1) (by omega) (yI h hn) y hy
   simp only[RX];omega
def za (R:List Int):List Nat:=R.flatMap fun y=>vt y.toNat 3
theorem A9:∀R:List Int,(za R).length=3* R.length
 |[]=>rfl
 | y :: R => by
   have:=A9 R
   unfold za at *
   rw[R3,u4,this];simp [vt,vC];omega
def yA (E:List (Int×Int)) (D:List Int):List Nat:=D.flatMap fun y=>vj E y.toNat
theorem Fl {E:List (Int×Int)}:∀{D:List Int},(∀y∈D,Ay E y.toNat)→(yA E D).length≤15* D.length
 |[],_=>by simp [yA]
 | y :: D, h => by
   have:=Fl (E:=E) (D:=D) fun z hz=>h z (by simp [hz])
   obtain⟨n,v,_,q1,q2,q3,q4⟩:=(h y (by simp)).bits
   unfold yA at *
   rw[R3,u4,q4,wh,RX];omega
theorem wG (l:List Int) (k:Nat):∀n,k≤vI l k n∧vI l k n≤max k n
 |0=>⟨uH _,by rw[vI];omega⟩
 | n + 1 => by
   rw[vI]
   have:=wG l k n
   split
   · omega
   · split
     · omega
     · omega
theorem Bv:∀(K:Nat) (S W O:List Int),(yx S K W O).length=O.length
 |0,S,W,O=>by rw[yx,wA]
 |K+1,S,W,O=>by rw[yx,Bv K,wA]
theorem yJ (C:List Int) (K:Nat):(vZ C K).length=C.length:=by unfold vZ;rw[Bv];simp
theorem Ie (h:H) (l:List Int) {k:Nat} (hk:k≤l.length):Rd h (.aU false (ints l) 0 k 1) (ints (l.take k)):=by
 refine⟨?_,by intro s e;cases e⟩
 have:(ints (l.take k)).length=k:=by rw[pD,Sv];omega
 rw[this]
 simp [aR,ints,hk,List.map_take]
def dA (ts:List Tok):List Int:=zf ts ((List.replicate 286 0).set 256 1)
def dB (ts:List Tok):List Int:=zS ts (List.replicate 30 0)
def yo (l:List Int) (k:Nat):List Int:=l.take (vI l k l.length)
theorem AK (l:List Int) {k:Nat} (h:k≤l.length):(yo l k).length=vI l k l.length:=by
 have:=wG l k l.length
 unfold yo;rw[Sv];omega
def vT (ts:List Tok) (la lb Lc:List Int):List Nat:=
 let all:=la++lb
 let row:=vw.map (fun o=>Lc.getD o.toNat 0)
 let k:=vI row 4 19
 vt 5 3++(vt (la.length-257) 5++(vt (lb.length-1) 5++(vt (k-4) 4++(za (row.take k)++(yA (u7 Lc) all++(v5 (u7 la) (u7 lb) ts++vj (u7 la) 256))))))
structure BM (ts:List Tok) (KA KB KC:Nat) (la lb Lc:List Int):Prop where
 HS:DC ts=true
 n:ts.length≤300
 tok:∀t∈ts,xU t
 ra:wP 15 KA (wI (dA ts))
 rb:wP 15 KB (wI (dB ts))
 ea:la=yo (vZ (dA ts) KA) 257
 eb:lb=yo (vZ (dB ts) KB) 1
 all:∀y∈la++lb,0≤y∧y<19
 rc:wP 7 KC (wI (xb (la++lb) (List.replicate 19 0)))
 ec:Lc=vZ (xb (la++lb) (List.replicate 19 0)) KC
 row:∀y∈Lc,0≤y∧y<8
 ca:vy la=0∨vy la=302
 cb:vy lb=0∨vy lb=302
 cc:vy Lc=0∨vy Lc=302
 zu:∀y∈la++lb,Ay (u7 Lc) y.toNat
 KQ:∀t∈ts,GU (u7 la) (u7 lb) t
 Ec:Ay (u7 la) 256
theorem yV (l:List Int):(u7 l).length=l.length:=by simp [u7]
theorem zD (h:H) (l:List Int):yB 2 h (zh l) (u7 l).length ((u7 l).flatMap wJ):=by
 have:=Hw (n:=2) (k:=l.length) (h:=h) (cs:=(u7 l).flatMap wJ) (by rw[Bl yL,yV])
 rw[yV];exact this
theorem Ap (h:H) (l:List Int):Rd h (zd 1 l.length (ints l)) (ints l):=by
 have:=Hw (n:=1) (k:=l.length) (h:=h) (cs:=ints l) (by rw[pD];omega)
 exact⟨by have:=this.1;rw[pD];exact this,this.2.2⟩
theorem CZ {C:List Int} (h:2≤C.length):(wx C).length≤C.length:=Gt h (wC 0 C)
theorem LY (c:Int):∀k:Nat,c* 2^k<3^k→0≤c→∀m:Nat,c* 2^(k+m)<3^(k+m)
 |k,h,hc,0=>h
 | k, h, hc, m + 1 => by
   have ih:=LY c k h hc m
   rw[←uG,Int.pow_succ,Int.pow_succ,←Int.mul_assoc]
   have p:(0:Int)≤c* 2^(k+m):=Int.mul_nonneg hc (Int.pow_nonneg (by omega))
   omega
theorem AZ:∀(ds:List Int) (a m:Int),(∀d∈ds,d≤m)→a≤m→Ah ds a≤m
 |[],a,m,_,h=>h
 | d :: ds, a, m, hd, h => by
   rw[Ah]
   refine AZ ds _ m (fun x hx=>hd x (by simp [hx])) ?_
   have:=hd d (by simp)
   unfold C5;split<;>omega
theorem Cm:∀(ds:List Int) (a:Int),a≤Ah ds a∧∀d∈ds,d≤Ah ds a
 |[],a=>⟨Sx _,by simp⟩
 | d :: ds, a => by
   have⟨h1,h2⟩:=Cm ds (C5 a d)
   have:a≤C5 a d∧d≤C5 a d:=by unfold C5;split<;>omega
   rw[Ah]
   refine⟨by omega,fun x hx=> ?_⟩
   rcases uY.1 hx with q|q
   · subst q;omega
   · exact h2 x q
theorem Gf:∀ws:List Int,(∀y∈ws,y=1)→ws.sum=ws.length
 |[],_=>rfl
 | y :: ws, h => by
   have:=Gf ws fun z hz=>h z (by simp [hz])
   have:=h y (by simp)
   rw[Sm,RX];omega
theorem E3:∀ws:List Int,(∀y∈ws,1≤y)→(ws.length:Int)≤ws.sum
 |[],_=>by simp
 | y :: ws, h => by
   have:=E3 ws fun z hz=>h z (by simp [hz])
   have:=h y (by simp)
   rw[Sm,RX];omega
theorem Bp:∀ws:List Int,(∀y∈ws,1≤y)→(we ws).sum≤ws.sum∧((∃y∈ws,y≠1)→(we ws).sum<ws.sum)
 |[],_=>⟨Sx _,by simp⟩
 | y :: ws, h => by
   obtain⟨h1,h2⟩:=Bp ws fun z hz=>h z (by simp [hz])
   have hy:=h y (by simp)
   have e:(we (y::ws)).sum=yw y+(we ws).sum:=by simp [we]
   rw[e,Sm]
   have a:yw y≤y:=by unfold yw;omega
   refine⟨by omega,fun ⟨z,hz,hz1⟩=> ?_⟩
   rcases uY.1 hz with q|q
   · subst q
     have:yw z<z:=by unfold yw;omega
     omega
   · have:=h2 ⟨z,q,hz1⟩;omega
theorem DV {ws:List Int} (h:∀y∈ws,1≤y):∀y∈we ws,1≤y:=by
 intro y hy
 obtain⟨z,hz,rfl⟩:=R6.1 hy
 have:=h z hz
 unfold yw;omega
theorem C7 {ws:List Int} (h1:1≤ws.length) (ho:∀y∈ws,y=1) {c:Int} {k:Nat} (hc:(ws.length:Int)≤c) (hk:c* 2^(k+1)<3^(k+1)) (hs:ws.length≤288):∀d∈vq ws,d≤k:=by
 intro d hd
 have sm:=Gf ws ho
 obtain⟨_,_,_,_,hb,_⟩:=Oh ws true h1 (fun y hy=>by have:=ho y hy;omega) (by omega) (fun _=>ho)
 have b:=hb rfl d hd
 apply Sg
 intro q
 obtain⟨m,hm⟩:∃m:Nat,d.toNat=k+1+m:=⟨d.toNat-(k+1),by omega⟩
 rw[hm]at b
 have:=LY c (k+1) hk (by omega) m
 have p:(0:Int)<2^(k+1+m):=Int.pow_pos (by omega)
 have:ws.sum* 2^(k+1+m)≤c* 2^(k+1+m):=Int.mul_le_mul_of_nonneg_right (by omega) (by omega)
 omega
theorem Ge {ws:List Int} (hl:ws.length≤288) (pos:∀y∈ws,1≤y) (hs:ws.sum<1000000000000000):H3 ws:=by
 by_cases e:ws=[]
 · exact .inl e
 · have h1:1≤ws.length:=List.length_pos_iff.2 e
   obtain⟨a,b,c,_⟩:=Oh ws false h1 pos hs (fun h=>by cases h)
   exact .inr ⟨h1,hl,a,b,c⟩
theorem Jd {most : Int} (hm : 0 ≤ most) : ∀ (f : Nat) (ws : List Int), ws.sum ≤ f → (∀ y ∈ ws, 1 ≤ y) → ws.sum < 1000000000000000 → ((13 ≤ most ∧ ws.length ≤ 288) ∨ (7 ≤ most ∧ ws.length ≤ 19)) → ∃ K, wP most K ws := by
 intro f
 induction f with
 | zero =>
   intro ws hf pos hs hl
   have:=E3 ws pos
   have:ws=[]:=List.length_eq_zero_iff.1 (by omega)
   subst this
   exact⟨0,.last (.inl rfl) hm⟩
 | succ f ih =>
   intro ws hf pos hs hl
   have o:=Ge (by omega) pos hs
   by_cases c:Ah (vq ws) 0≤most
   · exact⟨0,.last o c⟩
   · have hne:ws≠[]:=fun e=>by subst e;exact c hm
     have h1:1≤ws.length:=List.length_pos_iff.2 hne
     have ho:∃y∈ws,y≠1:=by
      apply Sg
      intro q
      have all1:∀y∈ws,y=1:=fun y hy=>Sg fun r=>q ⟨y,hy,r⟩
      rcases hl with ⟨a,b⟩|⟨a,b⟩
      · have:=C7 (c:=288) (k:=13) h1 all1 (by omega) (by decide) (by omega)
        exact c (AZ _ _ _ (fun d hd=>by have:=this d hd;omega) hm)
      · have:=C7 (c:=19) (k:=7) h1 all1 (by omega) (by decide) (by omega)
        exact c (AZ _ _ _ (fun d hd=>by have:=this d hd;omega) hm)
     have hh:=(Bp ws pos).2 ho
     obtain⟨K,r⟩:=ih (we ws) (by omega) (DV pos) (by omega) (by rw[zJ];exact hl)
     exact⟨K+1,.more o (by omega) hne r⟩
theorem wK:∀(S D O:List Int) (p:Nat),(∀s∈S,s.toNat≠p)→(vN S D O)[p]?=O[p]?
 |[],D,O,p,h=>by simp [vN]
 |s::S,[],O,p,h=>by simp [vN]
 | s :: S, d :: D, O, p, h => by
   rw[vN,wK S D _ p fun t ht=>h t (by simp [ht]),Sb,if_neg (h s (by simp))]
theorem xI:∀(S D O:List Int) (j:Nat) (s d:Int),(S.map Int.toNat).Nodup→S[j]?=some s→D[j]?=some d→s.toNat<O.length→(vN S D O)[s.toNat]?=some d
 |[],D,O,j,s,d,nd,h1,h2,h3=>by simp at h1
 |t::S,[],O,j,s,d,nd,h1,h2,h3=>by simp at h2
 | t :: S, e :: D, O, 0, s, d, nd, h1, h2, h3 => by
   simp at h1 h2
   subst h1;subst h2
   rw[R5,SE]at nd
   rw[vN,wK S D _ _ fun u hu q=>nd.1 (R6.2 ⟨u,hu,q⟩),Sb,if_pos rfl,if_pos h3]
 | t :: S, e :: D, O, j + 1, s, d, nd, h1, h2, h3 => by
   rw[R5,SE]at nd
   rw[vN]
   exact xI S D _ j s d nd.2 (by simpa using h1) (by simpa using h2) (by rw[Sj];exact h3)
theorem xN {S D O:List Int} {n:Nat} (hl:D.length=S.length) (nd:(S.map Int.toNat).Nodup) (hO:O.length=n) (hr:∀s∈S,s.toNat<n) (hz:∀p,p<n→(∀s∈S,s.toNat≠p)→O[p]?=some 0):vN S D O=vN S D (List.replicate n 0):=by
 apply List.ext_getElem?
 intro p
 by_cases hp:p<n
 · by_cases c:∃s∈S,s.toNat=p
   · obtain⟨s,hs,rfl⟩:=c
     obtain⟨j,hj,ej⟩:=Sw.1 hs
     have h1:S[j]?=some s:=by rw[RY hj,ej]
     have h2:D[j]?=some (D[j]'(by omega)):=RY (by omega)
     rw[xI S D O j s _ nd h1 h2 (by omega),xI S D _ j s _ nd h1 h2 (by simpa using hp)]
   · have c':∀s∈S,s.toNat≠p:=fun s hs q=>c ⟨s,hs,q⟩
     rw[wK _ _ _ _ c',wK _ _ _ _ c',hz p hp c',Sl,if_pos hp]
 · rw[Sa (by rw[wA];omega),Sa (by rw[wA];simp;omega)]
theorem CY {most:Int} {S:List Int} {n:Nat} (nd:(S.map Int.toNat).Nodup) (hr:∀s∈S,s.toNat<n):∀(K:Nat) (W O:List Int),wP most K W→W.length=S.length→(∀y∈W,1≤y)→W.sum<1000000000000000→O.length=n→(∀p,p<n→(∀s∈S,s.toNat≠p)→O[p]?=some 0)→
 ∃W',W'.length=S.length∧(∀y∈W',1≤y)∧W'.sum<1000000000000000∧Ah (vq W') 0≤most∧yx S K W O=vN S (vq W') (List.replicate n 0)
 | 0, W, O, r, hl, pos, hs, hO, hz => by
   cases r with
   |last o c=>exact⟨W,hl,pos,hs,c,xN (by rw[wv,hl]) nd hO hr hz⟩
 | K + 1, W, O, r, hl, pos, hs, hO, hz => by
   cases r with
   | more o c hne r =>
     have:=(Bp W pos).1
     exact CY nd hr K (we W) _ r (by rw[zJ,hl]) (DV pos) (by omega) (by rw[wA,hO]) (fun p hp hq=>by rw[wK _ _ _ _ hq];exact hz p hp hq)
theorem Il (f:Int→Nat):∀(O:List Int) (i:Nat) (d:Int),i<O.length→((O.set i d).map f).sum+f (O.getD i 0)=(O.map f).sum+f d
 |[],i,d,h=>by simp at h
 |x::O,0,d,h=>by simp;omega
 | x :: O, i + 1, d, h => by
   have:=Il f O i d (by simpa using h)
   simp only[List.set_cons_succ,R5,Sm,List.getD_cons_succ];omega
theorem Di (f:Int→Nat):∀(S D O:List Int),D.length=S.length→(S.map Int.toNat).Nodup→(∀s∈S,s.toNat<O.length)→((vN S D O).map f).sum+(S.map fun s=>f (O.getD s.toNat 0)).sum=(O.map f).sum+(D.map f).sum
 | [], D, O, hl, nd, hr => by
   have:D=[]:=List.length_eq_zero_iff.1 (by simpa using hl)
   subst this
   simp [vN]
 |s::S,[],O,hl,nd,hr=>by simp at hl
 | s :: S, d :: D, O, hl, nd, hr => by
   rw[R5,SE]at nd
   have ih:=Di f S D (O.set s.toNat d) (by simpa using hl) nd.2 (fun t ht=>by rw[Sj];exact hr t (by simp [ht]))
   have e:(S.map fun t=>f ((O.set s.toNat d).getD t.toNat 0))=S.map fun t=>f (O.getD t.toNat 0):=Sr fun t ht=>by
    rw[getD_set_ne (fun q=>nd.1 (R6.2 ⟨t,ht,q.symm⟩))]
   rw[e]at ih
   have ss:=Il f O s.toNat d (hr s (by simp))
   simp only[vN,R5,Sm]
   omega
def f15 (n:Nat) (x:Int):Nat:=if 1≤x∧x≤n then 2^(n-x.toNat)else 0
theorem D7:∀n,vx [] n=2^n
 |0=>rfl
 | n + 1 => by
   have c:wM [] (n+1)=0:=K4 _
   rw[vx,D7 n,c,Int.pow_succ];omega
theorem D5 (n:Nat):∀(q p:List Int),vx (p++q) n=vx p n-((q.map (f15 n)).sum:Nat)
 |[],p=>by simp
 | x :: q, p => by
   have e:p++x::q=(p++[x])++q:=by simp
   rw[e,D5 n q (p++[x]),CW,R5,Sm]
   unfold f15
   split
   · push_cast;omega
   · push_cast;omega
theorem zL (l:List Int) (n:Nat):vx l n=2^n-((l.map (f15 n)).sum:Nat):=by
 have:=D5 n l []
 rwa [List.nil_append,D7]at this
theorem D6 (l:List Int):∀n,vo l n+wM l n+vx l n=2^n
 |0=>by simp [vo,vx,wM]
 | n + 1 => by
   have:=D6 l n
   rw[vo,vx,Int.pow_succ];omega
theorem Hh {l:List Int} {n:Nat} (h:0≤vx l n):∀m,m≤n→0≤vx l m:=by
 have:∀k m,m+k=n→0≤vx l m:=by
  intro k
  induction k with
  | zero =>
    intro m hm
    have:m=n:=by omega
    subst this;exact h
  | succ k ih =>
    intro m hm
    have:=ih (m+1) (by omega)
    rw[vx]at this
    omega
 exact fun m hm=>this (n-m) m (by omega)
theorem FJ {l:List Int} {s:Nat} (hs:s<l.length) {n:Nat} (hn:1≤n) (e:l.getD s 0=(n:Int)):wM (l.take s) n<wM l n:=by
 have a:=DA hs n hn
 rw[if_pos e]at a
 have:∀(p q:List Int),wM p n≤wM (p++q) n:=fun p q=>by
  unfold wM;split
  · exact uH _
  · rw[List.countP_append];omega
 have b:=this (l.take (s+1)) (l.drop (s+1))
 rw[List.take_append_drop]at b
 omega
theorem EX {l:List Int} (hl:0≤vx l 15) (hr:∀y∈l,0≤y∧y<16) {s:Nat} (hs:s<l.length) (h1:1≤l.getD s 0):Ay (u7 l) s:=by
 have hm:l.getD s 0∈l:=by rw[RW,RY hs];exact Sd hs
 have r:=hr _ hm
 obtain⟨n,hn⟩:=R4 r.1
 have n1:1≤n:=by omega
 have lt:=FJ hs n1 hn
 have f:=D6 l n
 have m:=Hh hl n (by omega)
 have fb:=(show 0≤vo l n from by
  have:∀n,0≤vo l n:=by
   intro n
   induction n with
   |zero=>simp [vo]
   |succ n ih=>rw[vo];omega
  exact this n)
 have tn:((n:Nat):Int).toNat=n:=by omega
 refine⟨n,(vo l n+wM (l.take s) n).toNat, ?_,n1,by omega, ?_⟩
 · unfold u7
   rw[uQ,Sq hs,R1]
   unfold yE
   rw[if_pos h1,hn,tn]
   congr 2
   omega
 · have e2:((2^n:Nat):Int)=(2:Int)^n:=by push_cast;rfl
   omega
theorem BH:∀(C:List Int) (i:Nat),((vi i C).map Int.toNat).Nodup
 |[],i=>by simp [vi]
 | c :: r, i => by
   have ih:=BH r (i+1)
   rw[vi]
   split
   · rw[R5,SE]
     refine⟨fun h=> ?_,ih⟩
     obtain⟨s,hs,e⟩:=R6.1 h
     have:=wS (i+1) r s hs
     omega
   · exact ih
theorem Aw:∀(C:List Int) (i p:Nat),0<C.getD p 0→((i+p:Nat):Int)∈vi i C
 |[],i,p,h=>by simp at h
 | c :: r, i, 0, h => by
   rw[vi,if_pos (by simpa using h)]
   simp
 | c :: r, i, p + 1, h => by
   have ih:=Aw r (i+1) p (by simpa using h)
   have e:i+1+p=i+(p+1):=by omega
   rw[e]at ih
   rw[vi]
   split
   · exact Sy _ ih
   · exact ih
theorem Dq:∀(C:List Int) (i:Nat),(∀y∈C,¬0<y)→vi i C=[]
 |[],i,h=>rfl
 | c :: r, i, h => by
   rw[vi,if_neg (h c (by simp))]
   exact Dq r (i+1) fun y hy=>h y (by simp [hy])
theorem Gu {S:List Int} {s:Int} (h:s∈S):s∈A7 S:=by
 unfold A7
 split
 · rename_i h1
   match S,h1 with
   | [t], _ =>
     simp at h;subst h
     split<;>simp
 · exact h
theorem Ls {S : List Int} (h : (S.map Int.toNat).Nodup) (hp : ∀ s ∈ S, 0 ≤ s) : ((A7 S).map Int.toNat).Nodup := by
 unfold A7
 split
 · rename_i h1
   match S,h1 with
   | [t], _ =>
     have:=hp t (by simp)
     split
     · rename_i c
       simp at c ⊢
       omega
     · rename_i c
       simp at c ⊢
       omega
 · exact h
theorem J8 {S:List Int} (h:S≠[]):2≤(A7 S).length:=by
 unfold A7
 split
 · rename_i h1
   split
   · simp
   · simp [h1]
 · rename_i h1
   have:=List.length_pos_iff.2 h
   omega
theorem J9 {S W:List Int} (hl:W.length=S.length) (h:∀y∈W,1≤y):∀y∈Hr S W,1≤y:=by
 intro s hs
 unfold Hr at hs
 split at hs
 · rename_i h1
   rw[←hl]at h1
   match W,h1 with
   | [t], _ =>
     have:=h t (by simp)
     split at hs
     · simp at hs;omega
     · simp at hs;omega
 · exact h s hs
theorem GI {α:Type}:∀l:List α,(l.map fun _=>(0:Nat)).sum=0
 |[]=>rfl
 |x::l=>by rw[R5,Sm,GI l]
theorem IX {C:List Int} (h:∀y∈C,¬0<y):wx C=[]:=by
 unfold wx;rw[Dq C 0 h];rfl
theorem At:∀(l:List Int) (b:Int),(∀y∈l,y≤b)→l.sum≤b* l.length
 |[],b,_=>by simp
 | y :: l, b, h => by
   have:=At l b fun z hz=>h z (by simp [hz])
   have hy:=h y (by simp)
   rw[Sm,RX]
   have e:b* ((l.length+1:Nat):Int)=b* l.length+b:=by rw[Int.natCast_add,Int.mul_add];simp
   omega
theorem Gb {C : List Int} (hC : ∀ y ∈ C, 0 ≤ y ∧ y ≤ 2147483647) (h2 : 2 ≤ C.length) (hl : C.length ≤ 288) : (∀ y ∈ wI C, 1 ≤ y) ∧ (wI C).sum < 1000000000000000 := by
 have pos:∀y∈wI C,1≤y:=J9 (vJ 0 C).symm fun y hy=>by have:=(yd C y hy).2;omega
 refine⟨pos, ?_⟩
 have up:∀y∈wI C,y≤2147483647:=by
  intro y hy
  have w:∀z∈vk C,z≤2147483647:=fun z hz=>(hC z (yd C z hz).1).2
  unfold wI Hr at hy
  split at hy
  · rename_i h1
    rw[vJ]at h1
    match hW:vk C,h1 with
    | [t], _ =>
      rw[hW]at w hy
      have:=w t (by simp)
      split at hy
      · simp at hy;omega
      · simp at hy;omega
  · exact w y hy
 have:=At (wI C) 2147483647 up
 have l1:(wI C).length=(wx C).length:=Hj C
 have l2:=CZ h2
 omega
theorem zq {C:List Int} {most:Int} (hC:∀y∈C,0≤y∧y≤2147483647) (h2:2≤C.length) (hm:0≤most) (hl:(13≤most∧C.length≤288)∨(7≤most∧C.length≤19)):∃K,wP most K (wI C):=by
 obtain⟨a,b⟩:=Gb hC h2 (by omega)
 have l1:(wI C).length=(wx C).length:=Hj C
 have l2:=CZ h2
 exact Jd hm (wI C).sum.toNat (wI C) (by have:=E3 _ a;omega) a b (by omega)
theorem xZ {C : List Int} {most : Int} {K : Nat} (hC : ∀ y ∈ C, 0 ≤ y ∧ y ≤ 2147483647) (h2 : 2 ≤ C.length) (hl : C.length ≤ 288) (hm : 0 ≤ most ∧ most ≤ 15) (r : wP most K (wI C)) :
 (vZ C K).length=C.length∧(∀y∈vZ C K,0≤y∧y≤most)∧(∀p,0<C.getD p 0→1≤(vZ C K).getD p 0)∧((∃y∈C,0<y)→vx (vZ C K) 15=0)∧((∀y∈C,¬0<y)→vZ C K=List.replicate C.length 0):=by
 obtain⟨a,b⟩:=Gb hC h2 hl
 have nd:((wx C).map Int.toNat).Nodup:=Ls (BH C 0) fun s hs=>by have:=wS 0 C s hs;omega
 have rg:∀s∈wx C,0≤s∧s<C.length:=J7 h2 fun s hs=>by have:=wS 0 C s hs;omega
 have rg':∀s∈wx C,s.toNat<C.length:=fun s hs=>by have:=rg s hs;omega
 obtain⟨W',w1,w2,w3,w4,w5⟩:=CY nd rg' K (wI C) (List.replicate C.length 0) r (Hj C) a b (by simp) (fun p hp _=>by rw[Sl,if_pos hp])
 have e:vZ C K=vN (wx C) (vq W') (List.replicate C.length 0):=w5
 have dl:(vq W').length=(wx C).length:=by rw[wv,w1]
 have dm:∀d∈vq W',d≤most:=fun d hd=>by have:=(Cm (vq W') 0).2 d hd;omega
 have o:=Ge (ws:=W') (by have:=CZ h2;omega) w2 w3
 have d0:=FM o
 have gin:∀(j:Nat) (s d:Int),(wx C)[j]?=some s→(vq W')[j]?=some d→(vZ C K)[s.toNat]?=some d:=fun j s d h1 h2=>by
  rw[e];exact xI _ _ _ j s d nd h1 h2 (by simpa using rg' s (uL h1))
 have gout:∀p:Nat,(∀s∈wx C,s.toNat≠p)→(vZ C K)[p]?=(List.replicate C.length (0:Int))[p]?:=fun p hp=>by rw[e,wK _ _ _ _ hp]
 have hu:wx C≠[]→2≤(wx C).length:=fun hne=>by
  refine J8 fun q=>hne ?_
  unfold wx;rw[q];rfl
 have h1w:wx C≠[]→_:=fun hne=>Oh W' false (by have:=hu hne;omega) w2 w3 (fun h=>by cases h)
 refine⟨yJ C K, ?_, ?_, ?_, ?_⟩
 · intro y hy
   obtain⟨p,hp⟩:=uT.1 hy
   by_cases c:∃s∈wx C,s.toNat=p
   · obtain⟨s,hs,rfl⟩:=c
     obtain⟨j,hj⟩:=uT.1 hs
     have jl:=(uD.1 hj).1
     have hd:(vq W')[j]?=some ((vq W')[j]'(by omega)):=RY (by omega)
     rw[gin j s _ hj hd]at hp
     obtain rfl:=uv hp
     have m:=Sd (l:=vq W') (n:=j) (by omega)
     exact⟨(d0 _ m).1,dm _ m⟩
   · rw[gout p fun s hs q=>c ⟨s,hs,q⟩,Sl]at hp
     split at hp
     · obtain rfl:=uv hp;omega
     · cases hp
 · intro p hp
   have sm:=Aw C 0 p hp
   rw[uM]at sm
   have hs:(p:Int)∈wx C:=Gu sm
   obtain⟨j,hj⟩:=uT.1 hs
   have jl:=(uD.1 hj).1
   have hd:(vq W')[j]?=some ((vq W')[j]'(by omega)):=RY (by omega)
   have g:=gin j _ _ hj hd
   have tp:((p:Nat):Int).toNat=p:=by omega
   rw[tp]at g
   rw[RW,g]
   have hne:wx C≠[]:=fun q=>by rw[q]at hs;simp at hs
   exact(h1w hne).2.2.2.2.2 (by have:=hu hne;omega) _ (Sd _)
 · rintro ⟨y,hy,hpos⟩
   obtain⟨p,hp⟩:=uT.1 hy
   have sm:=Aw C 0 p (by rw[RW,hp];exact hpos)
   have hs:((0+p:Nat):Int)∈wx C:=Gu sm
   have hne:wx C≠[]:=fun q=>by rw[q]at hs;simp at hs
   have H:=h1w hne
   have kr:=H.2.2.2.1 15 (fun d hd=>by have:=dm d hd;omega)
   have one:=H.2.2.2.2.2 (by have:=hu hne;omega)
   have ss:=Di (f15 15) (wx C) (vq W') (List.replicate C.length 0) dl nd (fun s hs=>by simpa using rg' s hs)
   rw[←e]at ss
   have z1:((wx C).map fun s=>f15 15 ((List.replicate C.length (0:Int)).getD s.toNat 0)).sum=0:=by
    have:(wx C).map (fun s=>f15 15 ((List.replicate C.length (0:Int)).getD s.toNat 0))=(wx C).map fun _=>0:=Sr fun s hs=>by
     rw[zN (rg' s hs)];rfl
    rw[this,GI]
   have z2:((List.replicate C.length (0:Int)).map (f15 15)).sum=0:=by
    rw[List.map_replicate]
    have:f15 15 0=0:=rfl
    rw[this];simp
   have z3:(vq W').map (f15 15)=(vq W').map fun d=>2^(15-d.toNat):=Sr fun d hd=>by
    unfold f15
    rw[if_pos ⟨one d hd,by have:=dm d hd;omega⟩]
   rw[z1,z2,z3,kr]at ss
   rw[zL,show((vZ C K).map (f15 15)).sum=2^15 by omega]
   rfl
 · intro h
   rw[e,IX h]
   simp [vN]
theorem ym (l : List Int) (k : Nat) : ∀ n p, vI l k n ≤ p → p < n → ¬ 0 < l.getD p 0
 |0,p,h1,h2=>by omega
 | n + 1, p, h1, h2 => by
   rw[vI]at h1
   split at h1
   · omega
   · split at h1
     · omega
     · by_cases e:p=n
       · subst e;assumption
       · exact ym l k n p h1 (by omega)
theorem Ci {l : List Int} (hr : ∀ y ∈ l, 0 ≤ y) (k n : Nat) : vx (yo l k) n = vx l n := by
 have e:l=yo l k++l.drop (vI l k l.length):=(List.take_append_drop _ _).symm
 have z:((l.drop (vI l k l.length)).map (f15 n)).sum=0:=by
  have:∀q:List Int,(∀y∈q,y=0)→(q.map (f15 n)).sum=0:=by
   intro q
   induction q with
   |nil=>intro _;rfl
   | cons x q ih =>
     intro h
     rw[R5,Sm,ih fun y hy=>h y (by simp [hy]),h x (by simp)]
     unfold f15;simp
  refine this _ fun y hy=> ?_
  obtain⟨j,hj⟩:=uT.1 hy
  rw[uS]at hj
  have hl:=(uD.1 hj).1
  have:=ym l k l.length (vI l k l.length+j) (by omega) hl
  rw[RW,hj]at this
  have:=hr y (List.mem_of_mem_drop hy)
  simp at *
  omega
 rw[zL,zL]
 have:(l.map (f15 n)).sum=((yo l k).map (f15 n)).sum:=by
  conv=>lhs;rw[e]
  rw[List.map_append,List.sum_append,z,Nat.add_zero]
 rw[this]
theorem K6 {l:List Int} (k:Nat) {p:Nat} (h:0<l.getD p 0):p<(yo l k).length∧(yo l k).getD p 0=l.getD p 0:=by
 have hp:p<l.length:=by
  apply Sg
  intro c
  rw[RW,Sa (by omega)]at h
  simp at h
 have:p<vI l k l.length:=by
  apply Sg
  intro c
  exact ym l k l.length p (by omega) hp h
 unfold yo
 refine⟨by rw[Sv];omega, ?_⟩
 rw[RW,u0,if_pos this,←RW]
theorem xK {l:List Int} (h1:1≤l.length) (h2:l.length≤288) (hr:∀y∈l,0≤y∧y<16) (h:0≤vx l 15):vy l=if vx l 15=0 then 0 else 302:=by
 have hm:Ai l=true:=by
  unfold Ai
  have:(ints l).any EE=false:=by
   rw[List.any_eq_false]
   intro x hx
   obtain⟨y,hy,rfl⟩:=R6.1 hx
   have:=hr y hy
   simp [EE,I];omega
  rw[this];simp;omega
 unfold vy
 rw[if_neg (by rw[hm];simp),if_neg (by omega)]
 split
 · rw[if_neg (by omega)]
 · rw[if_pos (by omega)]
theorem GB (s:ByteArray) (i j:Nat):∀f k,(∀m,m<k→xP s (i+m)=xP s (j+m))→∀m,m<yk s i j f k→xP s (i+m)=xP s (j+m)
 |0,k,h=>by simpa [yk]using h
 | f + 1, k, h => by
   unfold yk
   split
   · rename_i q
     refine GB s i j f (k+1) fun m hm=> ?_
     by_cases e:m=k
     · subst e;exact q.2.2
     · exact h m (by omega)
   · exact h
theorem zY (s:ByteArray) (i:Nat) (hi:i≤s.size):∀(n:Nat) (b:Nat×Nat),n≤i→(b.1=0∨(b.1≤258∧1≤b.2∧b.2≤i∧i+b.1≤s.size∧∀m,m<b.1→xP s (i+m)=xP s (i-b.2+m)))→
 ((vO s i n b).1=0∨((vO s i n b).1≤258∧1≤(vO s i n b).2∧(vO s i n b).2≤i∧i+(vO s i n b).1≤s.size∧∀m,m<(vO s i n b).1→xP s (i+m)=xP s (i-(vO s i n b).2+m)))
 |0,b,hn,h=>h
 | n + 1, b, hn, h => by
   unfold vO
   refine zY s i hi n _ (by omega) ?_
   split
   · right
     refine⟨Ih s i n,by show 1≤i-n;omega,by show i-n≤i;omega,Eo s i n hi,fun m hm=> ?_⟩
     have:=GB s i n 258 0 (fun m hm=>by omega) m hm
     have e:i-(i-n)=n:=by omega
     show xP s (i+m)=xP s (i-(i-n)+m)
     rw[e];exact this
   · exact h
def preB (s:ByteArray) (i:Nat):List Nat:=(List.range i).map (xP s)
theorem xf (s:ByteArray) (i:Nat):(preB s i).length=i:=by simp [preB]
theorem BA (s:ByteArray) (i:Nat):preB s (i+1)=preB s i++[xP s i]:=by simp [preB,List.range_succ]
theorem Gv (s:ByteArray) {i j:Nat} (h:j<i):(preB s i).getD j 0=xP s j:=by
 rw[RW,preB,uQ,Sq h];rfl
theorem HM (s:ByteArray) {d:Nat} (hd:1≤d):∀(n i:Nat),d≤i→(∀m,m<n→xP s (i+m)=xP s (i-d+m))→IG d n (preB s i)=preB s (i+n)
 |0,i,h,_=>rfl
 | n + 1, i, h, hm => by
   have e0:=hm 0 (by omega)
   simp only[Nat.add_zero]at e0
   rw[IG,xf,Gv s (by omega),←e0,←BA,HM s hd n (i+1) (by omega) fun m h2=>by
    have:=hm (m+1) (by omega)
    have a1:i+(m+1)=i+1+m:=by omega
    have a2:i-d+(m+1)=i+1-d+m:=by omega
    rw[a1,a2]at this;exact this]
   congr 1;omega
theorem HA (s:ByteArray) {i:Nat} (hi:i<s.size):((wF s i).1.len=0∧(wF s i).1.lit=xP s i∧(wF s i).1.vP=0∧(wF s i).2=i+1)∨
 (∃L D:Nat,(wF s i).1.len=L∧(wF s i).1.vP=D∧(wF s i).1.lit=0∧3≤L∧L≤258∧1≤D∧D≤i∧(wF s i).2=i+L∧i+L≤s.size∧∀m,m<L→xP s (i+m)=xP s (i-D+m)):=by
 unfold wF
 split
 · exact .inl ⟨rfl,rfl,rfl,rfl⟩
 · rename_i c
   right
   rcases zY s i (by omega) i (0,0) (uH _) (.inl rfl)with h|⟨h1,h2,h3,h4,h5⟩
   · omega
   · exact⟨_,_,rfl,rfl,rfl,by omega,h1,h2,h3,rfl,h4,h5⟩
theorem yP (s : ByteArray) (hs : s.size ≤ 300) : ∀ (f i : Nat), s.size - i ≤ f → i ≤ s.size → (zF s f i).length ≤ s.size - i ∧ (∀ t ∈ zF s f i, xU t) ∧ vE i (zF s f i) = true ∧ xq (zF s f i) (preB s i) = preB s s.size
 | 0, i, hf, hi => by
   have:i=s.size:=by omega
   subst this
   simp [zF,vE,xq]
 | f + 1, i, hf, hi => by
   rw[zF]
   split
   · rename_i c
     have lt:=GQ s i
     have le:=GP s i c
     obtain⟨i1,i2,i3,i4⟩:=yP s hs f (wF s i).2 (by omega) le
     have sp:=HA s c
     refine⟨by rw[RX];omega, ?_, ?_, ?_⟩
     · intro t ht
       rcases uY.1 ht with q|q
       · subst q
         rcases sp with ⟨a,b,_,_⟩|⟨L,D,a,b,_,c1,c2,c3,c4,_,_,_⟩
         · have:=Cs s i
           exact .inl ⟨a,by omega,by omega⟩
         · exact .inr ⟨by omega,by omega,by omega,by omega⟩
       · exact i2 t q
     · rw [vE]
       rcases sp with ⟨a,b,c0,d⟩|⟨L,D,a,b,c0,c1,c2,c3,c4,d,e,_⟩
       · have hb:=Cs s i
         have st:wc (i:Int) (wF s i).1=some ((i:Int)+1):=by
          unfold wc
          rw[if_pos a,if_neg (by omega)]
         rw[st]
         simp only
         rw[if_neg (by omega)]
         have e:(((wF s i).2:Nat):Int)=(i:Int)+1:=by omega
         rw[←e];exact i3
       · have st:wc (i:Int) (wF s i).1=some ((i:Int)+L):=by
          unfold wc
          rw[if_neg (by omega),if_neg (by omega),a]
         rw[st]
         simp only
         rw[if_neg (by omega)]
         have e':(((wF s i).2:Nat):Int)=(i:Int)+L:=by omega
         rw[←e'];exact i3
     · rw [xq]
       rcases sp with ⟨a,b,c0,d⟩|⟨L,D,a,b,c0,c1,c2,c3,c4,d,e,g⟩
       · have:vL (preB s i) (wF s i).1=preB s (wF s i).2:=by
          unfold vL
          rw[if_pos a,b,d,BA];rfl
         rw[this];exact i4
       · have:vL (preB s i) (wF s i).1=preB s (wF s i).2:=by
          unfold vL
          rw[if_neg (by omega),a,b,d]
          exact HM s c3 L i c4 g
         rw[this];exact i4
   · have:i=s.size:=by omega
     subst this
     simp [vE,xq]
theorem CH (s:ByteArray) (hs:s.size≤300):DC (tokens s)=true:=by
 obtain⟨_,_,h3,h4⟩:=yP s hs s.size 0 (by omega) (by omega)
 unfold DC yu tokens
 have h3':vE 0 (zF s s.size 0)=true:=h3
 rw[if_pos h3']
 have:xq (zF s s.size 0) []=preB s s.size:=h4
 rw[this]
 simp only[vS,xf]
 simpa using hs
theorem CO (l:List Int) (i p:Nat):l.getD p 0≤(wQ l i).getD p 0:=by
 unfold wQ
 by_cases e:i=p
 · subst e
   by_cases h:i<l.length
   · rw[RW (l:=l.set i _),Sb,if_pos rfl,if_pos h]
     show l.getD i 0≤l.getD i 0+1
     omega
   · rw[List.set_eq_of_length_le (by omega)];exact Sx _
 · rw[getD_set_ne e];exact Sx _
theorem AR {l:List Int} {i:Nat} (h:i<l.length):(wQ l i).getD i 0=l.getD i 0+1:=by
 unfold wQ
 rw[RW (l:=l.set i _),Sb,if_pos rfl,if_pos h];rfl
theorem AE:∀(ts:List Tok) (A:List Int) (p:Nat),A.getD p 0≤(zf ts A).getD p 0
 |[],A,p=>Sx _
 | t :: r, A, p => by
   rw[zf]
   refine Int.le_trans ?_ (AE r _ p)
   split<;>exact CO _ _ _
theorem FG:∀(ts:List Tok) (A:List Int) (p:Nat),A.getD p 0≤(zS ts A).getD p 0
 |[],A,p=>Sx _
 | t :: r, A, p => by
   rw[zS]
   refine Int.le_trans ?_ (FG r _ p)
   split
   · exact Sx _
   · exact CO _ _ _
theorem FI:∀(ts:List Int) (A:List Int) (p:Nat),A.getD p 0≤(xb ts A).getD p 0
 |[],A,p=>Sx _
 | t :: r, A, p => by
   rw[xb]
   exact Int.le_trans (CO _ _ _) (FI r _ p)
theorem A4 {A:List Int} (h:∀y∈A,0≤y) (p:Nat):0≤A.getD p 0:=by
 rw[RW]
 cases e:A[p]? with
 |none=>simp
 |some y=>exact h y (uL e)
theorem Hn {A:List Int} (h:∀y∈A,0≤y) (i:Nat):∀y∈wQ A i,0≤y:=by
 intro y hy
 rcases Ss hy with q|q
 · exact h y q
 · have:=A4 h i;omega
theorem FE : ∀ (ts : List Tok) (A : List Int), (∀ y ∈ A, 0 ≤ y) → A.length = 286 → ∀ t ∈ ts, xU t → (t.len = 0 → 1 ≤ (zf ts A).getD t.lit.toNat 0) ∧ (t.len ≠ 0 → 1 ≤ (zf ts A).getD (xu t.len.toNat) 0)
 |[],A,_,_,t,h,_=>by simp at h
 | u :: r, A, hA, hl, t, h, o => by
   rw[zf]
   rcases uY.1 h with q|q
   · subst q
     refine⟨fun h0=> ?_,fun h0=> ?_⟩
     · rw[if_pos h0]
       refine Int.le_trans ?_ (AE r _ _)
       rcases o with ⟨_,b,c⟩|⟨a,_⟩
       · rw[AR (by omega)]
         have:=A4 hA t.lit.toNat;omega
       · omega
     · rw[if_neg h0]
       refine Int.le_trans ?_ (AE r _ _)
       rcases o with ⟨a,_⟩|⟨a,b,_⟩
       · exact absurd a h0
       · have:=yc (k:=t.len.toNat) (by omega) (by omega)
         rw[AR (by omega)]
         have:=A4 hA (xu t.len.toNat);omega
   · exact FE r _ (by split<;>exact Hn hA _) (by split<;>rw[xe,hl]) t q o
theorem FH : ∀ (ts : List Tok) (A : List Int), (∀ y ∈ A, 0 ≤ y) → A.length = 30 → ∀ t ∈ ts, xU t → t.len ≠ 0 → 1 ≤ (zS ts A).getD (xQ t.vP.toNat) 0
 |[],A,_,_,t,h,_,_=>by simp at h
 | u :: r, A, hA, hl, t, h, o, h0 => by
   rw[zS]
   rcases uY.1 h with q|q
   · subst q
     rw[if_neg h0]
     refine Int.le_trans ?_ (FG r _ _)
     rcases o with ⟨a,_⟩|⟨a,b,c,d⟩
     · exact absurd a h0
     · have:=xY (k:=t.vP.toNat) (by omega) (by omega)
       rw[AR (by omega)]
       have:=A4 hA (xQ t.vP.toNat);omega
   · refine FH r _ ?_ ?_ t q o h0
     · split
       · exact hA
       · exact Hn hA _
     · split
       · exact hl
       · rw[xe,hl]
theorem Cy:∀(ds:List Int) (A:List Int),(∀y∈A,0≤y)→A.length=19→∀y∈ds,0≤y∧y<19→1≤(xb ds A).getD y.toNat 0
 |[],A,_,_,t,h,_=>by simp at h
 | u :: r, A, hA, hl, t, h, o => by
   rw[xb]
   rcases uY.1 h with q|q
   · subst q
     refine Int.le_trans ?_ (FI r _ _)
     rw[AR (by omega)]
     have:=A4 hA t.toNat;omega
   · exact Cy r _ (Hn hA _) (by rw[xe,hl]) t q o
theorem y6 (n:Nat):∀y∈List.replicate n (0:Int),0≤y∧y≤0:=fun y hy=>by have:=So hy;omega
theorem HO (ts:List Tok) (hn:ts.length≤300):(dA ts).length=286∧(∀y∈dA ts,0≤y∧y≤2147483647)∧1≤(dA ts).getD 256 0:=by
 have z:∀y∈(List.replicate 286 (0:Int)).set 256 1,0≤y∧y≤1:=fun y hy=>by
  rcases Ss hy with q|q
  · have:=So q;omega
  · omega
 refine⟨by unfold dA;rw[Cu,Sj,Sc],fun y hy=> ?_, ?_⟩
 · have:=Cv ts _ 1 (by omega) z y hy;omega
 · have h:((List.replicate 286 (0:Int)).set 256 1).getD 256 0=1:=by decide
   have:=AE ts ((List.replicate 286 0).set 256 1) 256
   rw[h]at this
   exact this
theorem HP (ts:List Tok) (hn:ts.length≤300):(dB ts).length=30∧(∀y∈dB ts,0≤y∧y≤2147483647):=by
 refine⟨by unfold dB;rw[Cw,Sc],fun y hy=> ?_⟩
 have:=Cx ts _ 0 (by omega) (y6 30) y hy;omega
theorem J3 {ts:List Tok} {la lb:List Int} {t:Tok} (o:xU t) (hA:t.len=0→Ay (u7 la) t.lit.toNat) (hL:t.len≠0→Ay (u7 la) (xu t.len.toNat)) (hB:t.len≠0→Ay (u7 lb) (xQ t.vP.toNat)):GU (u7 la) (u7 lb) t:=by
 rcases o with ⟨a,b,c⟩|⟨a,b,c,d⟩
 · exact .inl ⟨a,b,hA a⟩
 · exact .inr ⟨a,b,c,d,hL (by omega),hB (by omega)⟩
theorem CG {C l:List Int} {K k m:Nat} (hC:∀y∈C,0≤y∧y≤2147483647) (h2:2≤C.length) (hl:C.length≤288) (hk:k≤C.length) (hk1:1≤k) (r:wP 15 K (wI C)) (e:l=yo (vZ C K) k):
 (k≤l.length∧l.length≤C.length)∧(∀y∈l,0≤y∧y<16)∧(vy l=0∨vy l=302)∧(∀p,0<C.getD p 0→Ay (u7 l) p)∧0≤vx l 15:=by
 obtain⟨f1,f2,f3,f4,f5⟩:=xZ hC h2 hl (by omega) r
 have ug:=wG (vZ C K) k (vZ C K).length
 have ll:l.length=vI (vZ C K) k (vZ C K).length:=by rw[e];exact AK _ (by omega)
 have hr:∀y∈l,0≤y∧y<16:=fun y hy=>by
  rw[e]at hy
  have:=f2 y (List.mem_of_mem_take hy)
  omega
 have lc:vx l 15=vx (vZ C K) 15:=by rw[e];exact Ci (fun y hy=>(f2 y hy).1) k 15
 have l0:0≤vx l 15:=by
  rw[lc]
  by_cases c:∃y∈C,0<y
  · rw[f4 c];omega
  · rw[f5 fun y hy q=>c ⟨y,hy,q⟩]
    rw[zL,List.map_replicate]
    have:f15 15 0=0:=rfl
    rw[this];simp
 have ck:=xK (l:=l) (by omega) (by omega) hr l0
 refine⟨by omega,hr, ?_,fun p hp=> ?_,l0⟩
 · rw[ck];split
   · exact .inl rfl
   · exact .inr rfl
 · have g:=f3 p hp
   obtain⟨c1,c2⟩:=K6 k (show 0<(vZ C K).getD p 0 by omega)
   rw[←e]at c1 c2
   exact EX l0 hr c1 (by omega)
theorem Lb {ts:List Tok} (hn:ts.length≤300) (HS:DC ts=true) (t2:∀t∈ts,xU t):∃KA KB KC la lb Lc,BM ts KA KB KC la lb Lc:=by
 obtain⟨a1,a2,a3⟩:=HO ts hn
 obtain⟨b1,b2⟩:=HP ts hn
 obtain⟨KA,rA⟩:=zq (most:=15) a2 (by omega) (by omega) (.inl (by omega))
 obtain⟨KB,rB⟩:=zq (most:=15) b2 (by omega) (by omega) (.inl (by omega))
 obtain⟨la,ea⟩:∃l,l=yo (vZ (dA ts) KA) 257:=⟨_,rfl⟩
 obtain⟨lb,eb⟩:∃l,l=yo (vZ (dB ts) KB) 1:=⟨_,rfl⟩
 obtain⟨x1,x2,x3,x4,x5⟩:=CG (m:=0) a2 (by omega) (by omega) (by omega) (by omega) rA ea
 obtain⟨y1,y2,y3,y4,y5⟩:=CG (m:=0) b2 (by omega) (by omega) (by omega) (by omega) rB eb
 have hall:∀y∈la++lb,0≤y∧y<19:=fun y hy=>by
  rcases Sn.1 hy with q|q
  · have:=x2 y q;omega
  · have:=y2 y q;omega
 have c1:(xb (la++lb) (List.replicate 19 0)).length=19:=by rw[AF,Sc]
 have c2:∀y∈xb (la++lb) (List.replicate 19 0),0≤y∧y≤2147483647:=fun y hy=>by
  have:=AG (la++lb) _ 0 (by omega) (y6 19) y hy
  rw[u4]at this
  omega
 obtain⟨KC,rC⟩:=zq (most:=7) c2 (by omega) (by omega) (.inr (by omega))
 obtain⟨f1,f2,f3,f4,f5⟩:=xZ c2 (by omega) (by omega) (by omega) rC
 have hit:=Cy (la++lb) (List.replicate 19 0) (fun y hy=>(y6 19 y hy).1) (by rw[Sc])
 have ex:∃y∈xb (la++lb) (List.replicate 19 0),0<y:=by
  obtain⟨z,hz⟩:=List.exists_mem_of_ne_nil (la++lb) (fun q=>by
   have:=Sp List.length q
   rw[u4,RZ]at this
   omega)
  have h:=hit z hz (hall z hz)
  refine⟨_, ?_,show 0<(xb (la++lb) (List.replicate 19 0)).getD z.toNat 0 by omega⟩
  have zl:z.toNat<(xb (la++lb) (List.replicate 19 0)).length:=by have:=hall z hz;omega
  rw[RW,RY zl]
  exact Sd zl
 have l0:=f4 ex
 have r16:∀y∈vZ (xb (la++lb) (List.replicate 19 0)) KC,0≤y∧y<16:=fun y hy=>by have:=f2 y hy;omega
 refine⟨KA,KB,KC,la,lb,_,⟨HS,hn,t2,rA,rB,ea,eb,hall,rC,rfl,fun y hy=>by have:=f2 y hy;omega,x3,y3, ?_, ?_, ?_, ?_⟩⟩
 · have:=xK (by omega) (by omega) r16 (by omega)
   rw[this,if_pos l0];exact .inl rfl
 · intro y hy
   have h:=hit y hy (hall y hy)
   have g:=f3 y.toNat (by omega)
   exact EX (by omega) r16 (by have:=hall y hy;omega) g
 · intro t ht
   have o:=t2 t ht
   have zA:∀y∈(List.replicate 286 (0:Int)).set 256 1,0≤y:=fun y hy=>by
    rcases Ss hy with q|q
    · have:=So q;omega
    · omega
   have hA:=FE ts _ zA (by rw[Sj,Sc]) t ht o
   have hB:=FH ts (List.replicate 30 0) (fun y hy=>(y6 30 y hy).1) (by rw[Sc]) t ht o
   exact J3 (ts:=ts) o (fun h0=>x4 _ (by have:=hA.1 h0;unfold dA;omega)) (fun h0=>x4 _ (by have:=hA.2 h0;unfold dA;omega)) (fun h0=>y4 _ (by have:=hB h0;unfold dB;omega))
 · exact x4 256 (by omega)
theorem JG (s:ByteArray) (hs:s.size≤300):∃KA KB KC la lb Lc,BM (tokens s) KA KB KC la lb Lc:=by
 obtain⟨t1,t2,t3,t4⟩:=yP s hs s.size 0 (by omega) (by omega)
 change (tokens s).length≤s.size-0 at t1
 exact Lb (by omega) (CH s hs) t2
theorem I3:∀bs:List Nat,(∀b∈bs,b≤1)→KM (vH bs):=by
 have:∀(l:List Nat) (i:Nat) (out:List Nat),(∀b∈l,b≤1)→KM out→KM (wR l i out):=by
  intro l
  induction l with
  |nil=>intro i out _ h;exact h
  |cons x l ih=>intro i out hl h;exact ih (i+1) _ (fun b hb=>hl b (by simp [hb])) (BW (hl x (by simp)) h)
 exact fun bs h=>this bs 0 [] h fun _ q=>by simp at q
theorem xF (v:Nat):∀m,∀b∈yf v m,b≤1
 |0,b,h=>by simp [yf]at h
 | m + 1, b, h => by
   rw[yf]at h
   rcases uY.1 h with q|q
   · omega
   · exact xF v m b q
theorem xz (v:Nat):∀m i,∀b∈BB v i m,b≤1
 |0,i,b,h=>by simp [BB]at h
 | m + 1, i, b, h => by
   rw[BB]at h
   rcases uY.1 h with q|q
   · omega
   · exact xz v m (i+1) b q
theorem Ca (E D:List (Int×Int)) (t:Tok):∀b∈vK E D t,b≤1:=by
 intro b h
 unfold vK vj vt at h
 split at h
 · exact xF _ _ b h
 · simp only[Sn]at h
   rcases h with h|h|h|h
   · exact xF _ _ b h
   · exact xz _ _ _ b h
   · exact xF _ _ b h
   · exact xz _ _ _ b h
theorem La (ts:List Tok) (la lb Lc:List Int):∀b∈vT ts la lb Lc,b≤1:=by
 intro b h
 unfold vT at h
 simp only[Sn]at h
 rcases h with h|h|h|h|h|h|h|h
 · exact xz _ _ _ b h
 · exact xz _ _ _ b h
 · exact xz _ _ _ b h
 · exact xz _ _ _ b h
 · obtain⟨y,_,hy⟩:=List.mem_flatMap.1 h
   exact xz _ _ _ b hy
 · obtain⟨y,_,hy⟩:=List.mem_flatMap.1 h
   exact xF _ _ b hy
 · obtain⟨y,_,hy⟩:=List.mem_flatMap.1 h
   exact Ca _ _ y b hy
 · exact xF _ _ b h
def y9 (t:ByteArray) (p:Nat) (bs:List Nat):Prop:=p+bs.length≤8* t.size∧∀i,i<bs.length→wZ t (p+i)=bs.getD i 0
theorem y9.app {t:ByteArray} {p:Nat} {a b:List Nat} (h:y9 t p (a++b)):y9 t p a∧y9 t (p+a.length) b:=by
 obtain⟨h1,h2⟩:=h
 rw[u4]at h1 h2
 refine⟨⟨by omega,fun i hi=> ?_⟩,⟨by omega,fun i hi=> ?_⟩⟩
 · have:=h2 i (by omega)
   rw[this,RW,RW,R7 hi]
 · have:=h2 (a.length+i) (by omega)
   rw[uG,this,RW,RW,R8 (by omega),Nat.add_sub_cancel_left]
theorem DM (l:List Nat) (h:KM l) (i:Nat):(((bytesOf l)[i]?).map (·.toNat)).getD 0=l.getD i 0:=by
 have e:(bytesOf l)[i]?=(l.map UInt8.ofNat)[i]?:=by
  show(l.map UInt8.ofNat).toArray[i]?=_
  simp
 rw[e,uQ,RW]
 cases hx:l[i]? with
 |none=>rfl
 | some x =>
   have:=h x (uL hx)
   simp [UInt8.toNat_ofNat_of_lt' this]
theorem Ju {x b k j:Nat} (hb:b≤1) (hx:x<2^k):(x|||b* 2^k)/2^j%2=if j=k then b else x/2^j%2:=by
 rw[←Nat.toNat_testBit,←Nat.toNat_testBit,Nat.testBit_or]
 have hb':b=0∨b=1:=by omega
 rcases hb' with rfl|rfl
 · rw[Nat.zero_mul,Nat.zero_testBit,Bool.or_false]
   split
   · rename_i e;subst e
     rw[Nat.testBit_lt_two_pow hx];rfl
   · rfl
 · rw[Nat.one_mul,Nat.testBit_two_pow]
   split
   · rename_i e;subst e;simp
   · rename_i e
     have:decide (k=j)=false:=by simp;omega
     rw[this,Bool.or_false]
structure It (out:List Nat) (bs:List Nat):Prop where
 len:out.length=(bs.length+7)/8
 bit:∀j,j<bs.length→out.getD (j/8) 0/2^(j%8)%2=bs.getD j 0
 top:bs.length%8≠0→out.getD (bs.length/8) 0<2^(bs.length%8)
theorem It.step {out bs : List Nat} {b : Nat} (hb : b ≤ 1) (v : It out bs) : It (vV out bs.length b) (bs ++ [b]) := by
 obtain⟨len,bit,top⟩:=v
 obtain⟨n,hn⟩:∃n,n=bs.length:=⟨_,rfl⟩
 rw[←hn]at len bit top ⊢
 obtain⟨o,ho⟩:∃o,o=if n%8=0 then out++[0]else out:=⟨_,rfl⟩
 have es:vV out n b=o.set (n/8) (o.getD (n/8) 0|||b* 2^(n%8)):=by rw[ho];rfl
 have ol:n/8<o.length:=by
  rw[ho];split
  · rw[u4,len];simp;omega
  · rw[len];omega
 have og:∀j,j<n→o.getD (j/8) 0=out.getD (j/8) 0:=fun j hj=>by
  rw[ho];split
  · rw[RW,R7 (by omega),←RW]
  · rfl
 have ox:o.getD (n/8) 0<2^(n%8):=by
  by_cases c:n%8=0
  · rw[ho,if_pos c,RW,R8 (by omega),c]
    have:n/8-out.length=0:=by omega
    rw[this];simp
  · rw[ho,if_neg c];exact top c
 have gn:∀m,(vV out n b).getD m 0=if m=n/8 then o.getD (n/8) 0|||b* 2^(n%8)else o.getD m 0:=fun m=>by
  rw[es]
  by_cases e:m=n/8
  · subst e
    rw[if_pos rfl,RW,Sb,if_pos rfl,if_pos ol];rfl
  · rw[if_neg e,getD_set_ne (fun q=>e q.symm)]
 have bl:(bs++[b]).length=n+1:=by simp [hn]
 refine⟨by rw[bl,BX len],fun j hj=> ?_,fun hc=> ?_⟩
 · rw [bl] at hj
   rw[gn]
   by_cases e:j=n
   · subst e
     rw[if_pos rfl,Ju hb ox,if_pos rfl,RW,hn,R8 (uH _)];simp
   · have hjn:j<n:=by omega
     have gb:(bs++[b]).getD j 0=bs.getD j 0:=by rw[RW,R7 (by omega),←RW]
     rw[gb,←bit j hjn,←og j hjn]
     split
     · rename_i e2
       rw[Ju hb ox,if_neg (by omega),e2]
     · rfl
 · rw[bl]at hc ⊢
   have e8:(n+1)/8=n/8:=by omega
   have m8:(n+1)%8=n%8+1:=by omega
   rw[gn,e8,if_pos rfl,m8,J5 ox,Nat.pow_succ]
   have:b* 2^(n%8)≤1* 2^(n%8):=uK _ hb
   omega
theorem I4:∀bs:List Nat,(∀b∈bs,b≤1)→It (vH bs) bs:=by
 have key:∀(q p:List Nat) (out:List Nat),(∀b∈q,b≤1)→It out p→It (wR q p.length out) (p++q):=by
  intro q
  induction q with
  |nil=>intro p out _ h;simpa [wR]using h
  | cons x q ih =>
    intro p out hb h
    have:=ih (p++[x]) (vV out p.length x) (fun b q=>hb b (by simp [q])) (h.step (hb x (by simp)))
    rw[u4,R9]at this
    exact this
 intro bs hb
 exact key bs [] [] hb ⟨rfl,fun j hj=>by simp at hj,fun h=>by simp at h⟩
theorem DL (bs:List Nat) (hb:∀b∈bs,b≤1):y9 (bytesOf (vH bs)) 0 bs:=by
 have v:=I4 bs hb
 have y:=I3 bs hb
 refine⟨by rw[vS,v.len];omega,fun i hi=> ?_⟩
 rw[uM]
 unfold wZ
 rw[DM _ y]
 exact v.bit i hi
theorem Ir {t:ByteArray} {p:Nat} {v:Nat}:∀(n:Nat),(∀i,i<n→wZ t (p+i)=v/2^i%2)→vg t p n=v%2^n
 |0,h=>by simp [vg,Nat.mod_one]
 | n + 1, h => by
   rw[vg,Ir n fun i hi=>h i (by omega),h n (by omega),Nat.pow_succ,Nat.mod_mul,Nat.mul_comm]
theorem Gx (v:Nat):∀m i j,j<m→(BB v i m).getD j 0=v/2^(i+j)%2
 |0,i,j,h=>by omega
 |m+1,i,0,h=>rfl
 | m + 1, i, j + 1, h => by
   show(BB v (i+1) m).getD j 0=_
   rw[Gx v m (i+1) j (by omega)]
   congr 3;omega
theorem y9.put {t:ByteArray} {p v n:Nat} (h:y9 t p (vt v n)) (hv:v<2^n):vg t p n=v∧p+n≤8* t.size:=by
 obtain⟨h1,h2⟩:=h
 unfold vt at h1 h2
 rw[vC]at h1 h2
 refine⟨?_,h1⟩
 rw[Ir n fun i hi=>by rw[h2 i hi,Gx v n 0 i hi,uM],Nat.mod_eq_of_lt hv]
theorem GO (n:Nat):∀(q p:List Int),∃r,syms (p++q) n=syms p n++r
 |[],p=>⟨[],by simp⟩
 | x :: q, p => by
   obtain⟨r,hr⟩:=GO n q (p++[x])
   rw[R9,zR]at hr
   exact⟨_,by rw[show p++x::q=p++([x]++q)by simp,hr,R9]⟩
theorem Im {l:List Int} {s n:Nat} (hs:s<l.length) (hn:1≤n) (e:l.getD s 0=(n:Int)):(syms l n)[wM (l.take s) n]?=some (s:Int):=by
 have e2:l.take (s+1)=l.take s++[l.getD s 0]:=by
  rw[List.take_add_one,RY hs,RW,RY hs];rfl
 obtain⟨r,hr⟩:=GO n (l.drop (s+1)) (l.take (s+1))
 rw[List.take_append_drop,e2,zR,if_pos ⟨by omega,e⟩]at hr
 have ls:=zE (l.take s) n
 have lt:(l.take s).length=s:=by rw[Sv];omega
 rw[hr,R9,R8 (by omega),ls,Nat.sub_self,lt];rfl
theorem BT (l:List Int) (n:Nat):∀m,(vo l n+wM l n)* 2^(m+1)≤vo l (n+m+1)
 |0=>by rw[vo];simp
 | m + 1 => by
   have ih:=BT l n m
   rw[show n+(m+1)+1=(n+m+1)+1 by omega,vo,Int.pow_succ,←Int.mul_assoc]
   omega
theorem Ld {l:List Int} {n m:Nat} {c:Nat} (hc:vo l (n+m+1)≤(c:Int)):xD l n ((c/2^(m+1):Nat):Int)=none:=by
 have g:=BT l n m
 have h1:vo l n+wM l n≤((c/2^(m+1):Nat):Int):=by
  have p2:((2^(m+1):Nat):Int)=(2:Int)^(m+1):=by push_cast;rfl
  have:(vo l n+wM l n)* ((2^(m+1):Nat):Int)≤(c:Int):=by rw[p2];omega
  rw[Int.natCast_ediv]
  exact(Int.le_ediv_iff_mul_le (by have:=Nat.pow_pos (n:=m+1) (show 0<2 by omega);omega)).2 this
 unfold xD
 split
 · rw[Sa]
   rw[zE];omega
 · rfl
theorem GJ {t : ByteArray} {l : List Int} {s N c : Nat} (hs : s < l.length) (hN : 1 ≤ N) (e : l.getD s 0 = (N : Int)) (hc : (c : Int) = vo l N + wM (l.take s) N) : ∀ (m n k p : Nat), n + m = N → m + 1 ≤ k → y9 t p (yf c (m + 1)) → xB t l k n (c / 2 ^ (m + 1)) p = some ((s : Int), p + (m + 1))
 |m,n,0,p,hn,hk,hb=>by omega
 | m, n, k + 1, p, hn, hk, hb => by
   have hb1:y9 t p ([c/2^m%2]++yf c m):=hb
   obtain⟨b1,b2⟩:=hb1.app
   have v1:vg t p 1=c/2^m%2:=by
    have:=b1.2 0 (by simp)
    simp only[Nat.add_zero,List.getD_cons_zero]at this
    simp [vg,this]
   have pl:p+1≤8* t.size:=b1.1
   have vv:c/2^(m+1)* 2+c/2^m%2=c/2^m:=by
    rw[Nat.pow_succ,←Nat.div_div_eq_div_mul];omega
   rw[xB,if_pos pl,v1,vv]
   cases m with
   | zero =>
     have:xD l n ((c/2^0:Nat):Int)=some (s:Int):=by
      have hn':n=N:=by omega
      subst hn'
      unfold xD
      rw[Nat.pow_zero,Nat.div_one,if_pos (by omega)]
      have:((c:Int)-vo l n).toNat=wM (l.take s) n:=by omega
      rw[this]
      exact Im hs hN e
     rw[this]
   | succ m =>
     have:xD l n ((c/2^(m+1):Nat):Int)=none:=Ld (by rw[show n+m+1=N by omega];omega)
     rw[this]
     have r:=GJ hs hN e hc m (n+1) k (p+1) (by omega) (by omega) b2
     rw[r]
     simp only[uy,uC,true_and];omega
theorem KF {t:ByteArray} {l:List Int} (hl:0≤vx l 15) (hr:∀y∈l,0≤y∧y<16) {s p:Nat} (hs:s<l.length) (h1:1≤l.getD s 0) (hb:y9 t p (vj (u7 l) s)):xB t l 15 1 0 p=some ((s:Int),p+(vj (u7 l) s).length):=by
 obtain⟨n,v,g,n1,n2,n3,n4⟩:=(EX hl hr hs h1).bits
 have g2:(u7 l)[s]?=some (yE l s):=by
  unfold u7
  rw[uQ,Sq hs];rfl
 rw[g2]at g
 have g3:=uv g
 unfold yE at g3
 rw[if_pos h1]at g3
 have e1:l.getD s 0=(n:Int):=Sp Prod.fst g3
 have e2:vo l (l.getD s 0).toNat+wM (l.take s) (l.getD s 0).toNat=(v:Int):=Sp Prod.snd g3
 have tn:((n:Nat):Int).toNat=n:=by omega
 rw[e1,tn]at e2
 rw[n4]at hb ⊢
 rw[wh]
 obtain⟨m,rfl⟩:∃m,n=m+1:=⟨n-1,by omega⟩
 have:=GJ hs n1 e1 e2.symm m 1 15 p (by omega) (by omega) hb
 rw[Nat.div_eq_of_lt n3]at this
 exact this
theorem EW {l:List Int} {s:Nat} (o:Ay (u7 l) s):s<l.length∧1≤l.getD s 0:=by
 have hs:s<l.length:=by have:=o.lt;rwa [yV]at this
 obtain⟨n,v,g,n1,_⟩:=o
 have g2:(u7 l)[s]?=some (yE l s):=by
  unfold u7
  rw[uQ,Sq hs];rfl
 rw[g2]at g
 have g3:=uv g
 unfold yE at g3
 refine⟨hs, ?_⟩
 apply Sg
 intro c
 rw[if_neg c]at g3
 have:=Sp Prod.fst g3
 simp at this
 omega
theorem DO {most:Int} (d:Nat):∀(n:Nat) (out:List Nat),(out.length:Int)+n≤most→w9 most d n out=.ok (IG d n out)
 |0,out,h=>rfl
 | n + 1, out, h => by
   rw[w9,if_neg (by omega),IG]
   exact DO d n _ (by simp;omega)
structure Bf (l:List Int):Prop where
 left:0≤vx l 15
 Ox:∀y∈l,0≤y∧y<16
theorem Bf.sym {l:List Int} (b:Bf l) {t:ByteArray} {s p:Nat} (o:Ay (u7 l) s) (hb:y9 t p (vj (u7 l) s)):xB t l 15 1 0 p=some ((s:Int),p+(vj (u7 l) s).length):=
 KF b.left b.Ox (EW o).1 (EW o).2 hb
theorem FP (o:List Nat) (t:Tok):o.length≤(vL o t).length:=by
 unfold vL
 split
 · simp
 · rw[Ch];omega
theorem FQ:∀(ts:List Tok) (o:List Nat),o.length≤(xq ts o).length
 |[],o=>uH _
 |t::r,o=>uZ (FP o t) (FQ r _)
theorem z7 {t : ByteArray} {la lb : List Int} (bA : Bf la) (bB : Bf lb) (o256 : Ay (u7 la) 256) {most : Int} : ∀ (ts : List Tok) (k p : Nat) (out : List Nat), y9 t p (v5 (u7 la) (u7 lb) ts ++ vj (u7 la) 256) → (∀ x ∈ ts, GU (u7 la) (u7 lb) x) → vE out.length ts = true → ((xq ts out).length : Int) ≤ most → ts.length < k →
 wo t most la lb k p out=.ok (p+(v5 (u7 la) (u7 lb) ts++vj (u7 la) 256).length,xq ts out)
 |ts,0,p,out,hb,ok,hm,hl,hk=>by omega
 | [], k + 1, p, out, hb, ok, hm, hl, hk => by
   have hb':y9 t p (vj (u7 la) 256):=hb
   have s:=bA.sym o256 hb'
   rw[wo,s]
   simp only
   rw[if_neg (by omega),if_pos (by omega)]
   rfl
 | x :: r, k + 1, p, out, hb, ok, hm, hl, hk => by
   have ox:=ok x (by simp)
   have e:v5 (u7 la) (u7 lb) (x::r)++vj (u7 la) 256=vK (u7 la) (u7 lb) x++(v5 (u7 la) (u7 lb) r++vj (u7 la) 256):=by
    unfold v5;rw[R3,R9]
   rw[e]at hb ⊢
   obtain⟨h1,h2⟩:=hb.app
   have gl:=FQ r (vL out x)
   have hl':((xq r (vL out x)).length:Int)≤most:=hl
   rw[vE]at hm
   cases hst:wc out.length x with
   |none=>rw[hst]at hm;cases hm
   | some s' =>
     rw[hst]at hm
     simp only at hm
     by_cases k8:8192<s'
     · rw[if_pos k8]at hm;cases hm
     rw[if_neg k8]at hm
     unfold wc at hst
     have rec_:s'=((vL out x).length:Nat)→wo t most la lb k (p+(vK (u7 la) (u7 lb) x).length) (vL out x)=.ok (p+(vK (u7 la) (u7 lb) x++(v5 (u7 la) (u7 lb) r++vj (u7 la) 256)).length,xq r (vL out x)):=fun es=>by
      have:=z7 bA bB o256 r k _ (vL out x) h2 (fun y hy=>ok y (by simp [hy])) (by rw[←es];exact hm) hl' (by simp at hk;omega)
      rw[this, @u4 _ (vK _ _ _),uG]
     rw[xq]
     by_cases c0:x.len=0
     · rw[if_pos c0]at hst
       by_cases c:x.lit<0∨255<x.lit∨x.vP≠0
       · rw[if_pos c]at hst;cases hst
       rw[if_neg c]at hst
       obtain rfl:=uv hst
       have tb:vK (u7 la) (u7 lb) x=vj (u7 la) x.lit.toNat:=by rw[vK,if_pos c0]
       rcases ox with ⟨_,q2,q3⟩|⟨q,_⟩
       · have es:vL out x=out++[x.lit.toNat]:=by unfold vL;rw[if_pos c0]
         rw[es]at gl hl' rec_ ⊢
         rw[u4,Su]at gl rec_
         rw[tb]at h1 rec_ ⊢
         have s:=bA.sym q3 h1
         rw[wo,s]
         simp only
         have tl:((x.lit.toNat:Nat):Int)<256:=by omega
         rw[if_pos tl,if_neg (by omega)]
         have tn:(((x.lit.toNat:Nat):Int)).toNat=x.lit.toNat:=by omega
         rw[tn]
         exact rec_ (by push_cast;rfl)
       · omega
     · rw[if_neg c0]at hst
       by_cases c:x.len<3∨258<x.len∨x.vP<1∨32768<x.vP∨(out.length:Int)<x.vP∨x.lit≠0
       · rw[if_pos c]at hst;cases hst
       rw[if_neg c]at hst
       obtain rfl:=uv hst
       obtain⟨L,hL⟩:∃y:Nat,x.len=y:=R4 (by omega)
       obtain⟨D,hD⟩:∃y:Nat,x.vP=y:=R4 (by omega)
       have Lt:x.len.toNat=L:=by omega
       have Dt:x.vP.toNat=D:=by omega
       rcases ox with ⟨q,_⟩|⟨_,_,_,_,q5,q6⟩
       · exact absurd q c0
       rw[Lt]at q5
       rw[Dt]at q6
       have es:vL out x=IG D L out:=by unfold vL;rw[if_neg c0,Lt,Dt]
       have cl:=Ch D L out
       have tb:vK (u7 la) (u7 lb) x=vj (u7 la) (xu L)++(vt (Ag L) (zo L)++(vj (u7 lb) (xQ D)++vt (AM D) (zT D))):=by rw[vK,if_neg c0,Lt,Dt]
       rw[es]at gl hl' rec_ ⊢
       rw[tb]at h1 rec_ ⊢
       obtain⟨i1,i2⟩:=h1.app
       obtain⟨i3,i4⟩:=i2.app
       obtain⟨i5,i6⟩:=i4.app
       have s1:=bA.sym q5 i1
       have lb_:=EP (k:=L) (by omega) (by omega)
       have db_:=EI (k:=D) (by omega) (by omega)
       have ls:=yc (k:=L) (by omega) (by omega)
       have ds:=xY (k:=D) (by omega) (by omega)
       obtain⟨a,b,hab⟩:=Af ls.1 ls.2.1
       obtain⟨a',b',hab'⟩:=zj ds.1
       have ea:vr (lenOf (xu L))=a:=by rw[hab];rfl
       have eb:zo L=b:=by unfold zo;rw[hab];rfl
       have ea':vr (vD (xQ D))=a':=by rw[hab'];rfl
       have eb':zT D=b':=by unfold zT;rw[hab'];rfl
       have v1:=i3.put lb_.2
       have v2:=i6.put db_.2
       have pl:∀v n,(vt v n).length=n:=fun v n=>by unfold vt;exact vC v n 0
       rw[pl]at i5 v2
       have s2:=bB.sym q6 i5
       have eL:a+Ag L=L:=by unfold Ag;rw[ea];omega
       have eD:a'+AM D=D:=by unfold AM;rw[ea'];omega
       rw[wo,s1]
       simp only
       rw[if_neg (by omega),if_neg (by omega)]
       have tn:(((xu L:Nat):Int)).toNat=xu L:=by omega
       have tn2:(((xQ D:Nat):Int)).toNat=xQ D:=by omega
       have cp:xC t most lb (xu L) (p+(vj (u7 la) (xu L)).length) out=.ok (p+(vj (u7 la) (xu L)++(vt (Ag L) (zo L)++(vj (u7 lb) (xQ D)++vt (AM D) (zT D)))).length,IG D L out):=by
        unfold xC
        rw[hab]
        simp only
        rw[←eb,if_pos v1.2,s2]
        simp only
        rw[tn2,hab']
        simp only
        rw[←eb',v2.1,v1.1,eL,eD,if_pos ⟨v2.2,by omega⟩,DO D L out (by omega)]
        simp only[u4,pl,Except.ok.injEq,uC,and_true]
        omega
       rw[tn,cp]
       simp only
       exact rec_ (by rw[cl,hL];push_cast;rfl)
theorem Bf.J2 {C l:List Int} {K k:Nat} (hC:∀y∈C,0≤y∧y≤2147483647) (h2:2≤C.length) (hl:C.length≤288) (hk:k≤C.length) (hk1:1≤k) (r:wP 15 K (wI C)) (e:l=yo (vZ C K) k):Bf l∧((∃y∈C,0<y)→vy l=0)∧((∀y∈C,¬0<y)→∀y∈l,y=0):=by
 obtain⟨a,b,c,d,l0⟩:=CG (m:=0) hC h2 hl hk hk1 r e
 obtain⟨f1,f2,f3,f4,f5⟩:=xZ hC h2 hl (by omega) r
 refine⟨⟨l0,b⟩,fun ex=> ?_,fun nn y hy=> ?_⟩
 · rw[xK (by omega) (by omega) b l0,if_pos]
   rw[e,Ci (fun y hy=>(f2 y hy).1) k 15]
   exact f4 ex
 · rw[e,f5 nn]at hy
   exact So (List.mem_of_mem_take hy)
theorem BG:∀(l:List Int) (a:Int),(∀y∈l,y=0)→KE l a=a
 |[],a,h=>rfl
 | y :: l, a, h => by
   have:=h y (by simp)
   subst this
   rw[KE]
   first
    |exact BG l a fun z hz=>h z (by simp [hz])
    |(simp;exact BG l a fun z hz=>h z (by simp [hz]))
theorem AW {t:ByteArray} {Lc:List Int} (bk:Bf Lc) (many:Nat):∀(q acc:List Int) (f p:Nat),y9 t p (yA (u7 Lc) q)→(∀y∈q,Ay (u7 Lc) y.toNat)→(∀y∈q,0≤y∧y<16)→acc.length+q.length=many→q.length<f→vY t Lc many f acc p=some (acc++q,p+(yA (u7 Lc) q).length)
 |q,acc,0,p,hb,ok,hr,hm,hf=>by omega
 | [], acc, f + 1, p, hb, ok, hr, hm, hf => by
   simp at hm
   rw[vY,if_neg (by omega),if_neg (by omega)]
   simp [yA]
 | y :: q, acc, f + 1, p, hb, ok, hr, hm, hf => by
   have e:yA (u7 Lc) (y::q)=vj (u7 Lc) y.toNat++yA (u7 Lc) q:=by unfold yA;rw[R3]
   rw[e]at hb ⊢
   obtain⟨h1,h2⟩:=hb.app
   have s:=bk.sym (ok y (by simp)) h1
   have yr:=hr y (by simp)
   have ty:((y.toNat:Nat):Int)=y:=by omega
   simp only[RX]at hm hf
   rw[vY,if_pos (by omega),s]
   simp only
   rw[ty]
   have ag:xj t y acc (p+(vj (u7 Lc) y.toNat).length)=some (y,1,p+(vj (u7 Lc) y.toNat).length):=by
    unfold xj
    rw[if_neg (by omega),if_neg (by omega),if_neg (by omega)]
   rw[ag]
   simp only
   have r:=AW bk many q (acc++[y]) f _ h2 (fun z hz=>ok z (by simp [hz])) (fun z hz=>hr z (by simp [hz])) (by simp;omega) (by omega)
   have e1:List.replicate 1 y=[y]:=rfl
   rw[e1,r,u4,←uG,R9];rfl
def DE (L:List Int):List Int→List Int→List Int
 |[],o=>o
 |s::r,o=>DE L r (o.set s.toNat (L.getD s.toNat 0))
theorem Gk {t:ByteArray} {L:List Int} (hr:∀y∈L,0≤y∧y<8):∀(os:List Int) (p:Nat) (o:List Int),y9 t p (za (os.map fun s=>L.getD s.toNat 0))→(∀s∈os,s.toNat<L.length)→Bx t os p o=DE L os o
 |[],p,o,hb,hs=>rfl
 | s :: os, p, o, hb, hs => by
   have e:za ((s::os).map fun s=>L.getD s.toNat 0)=vt (L.getD s.toNat 0).toNat 3++za (os.map fun s=>L.getD s.toNat 0):=by unfold za;rw[R5,R3]
   rw[e]at hb
   obtain⟨h1,h2⟩:=hb.app
   have hl:=hs s (by simp)
   have yr:0≤L.getD s.toNat 0∧L.getD s.toNat 0<8:=hr _ (by rw[RW,RY hl];exact Sd hl)
   have v:=h1.put (by omega)
   have pl:(vt (L.getD s.toNat 0).toNat 3).length=3:=by unfold vt;exact vC _ _ _
   rw[pl]at h2
   rw[Bx,DE,v.1,Gk hr os _ _ h2 (fun z hz=>hs z (by simp [hz]))]
   congr 2;omega
theorem Gi (L:List Int):∀(os o:List Int),(DE L os o).length=o.length
 |[],o=>rfl
 |s::os,o=>by rw[DE,Gi L os,Sj]
theorem Gh (L : List Int) : ∀ (os o : List Int) (j : Nat), j < o.length → (DE L os o).getD j 0 = if (∃ s ∈ os, s.toNat = j) then L.getD j 0 else o.getD j 0
 |[],o,j,hj=>by simp [DE]
 | s :: os, o, j, hj => by
   rw[DE,Gh L os _ j (by rw[Sj];exact hj)]
   by_cases c:∃s∈os,s.toNat=j
   · rw[if_pos c,if_pos (by obtain⟨u,hu,e⟩:=c;exact⟨u,by simp [hu],e⟩)]
   · rw[if_neg c]
     by_cases e:s.toNat=j
     · subst e
       rw[if_pos ⟨s,by simp,rfl⟩,RW,Sb,if_pos rfl,if_pos hj];rfl
     · rw[getD_set_ne e,if_neg]
       rintro ⟨u,hu,e2⟩
       rcases uY.1 hu with q|q
       · subst q;exact e e2
       · exact c ⟨u,q,e2⟩
theorem I0:∀j:Nat,j<19→∃i:Nat,i<19∧vw[i]?=some (j:Int):=by
 intro j hj
 have:∀j:Nat,j<19→∃i:Nat,i<19∧vw[i]?=some (j:Int):=by decide
 exact this j hj
theorem J6 {L : List Int} (hl : L.length = 19) (h0 : ∀ y ∈ L, 0 ≤ y) : DE L (vw.take (vI (vw.map fun s => L.getD s.toNat 0) 4 19)) (List.replicate 19 0) = L := by
 apply List.ext_getElem?
 intro j
 have fl:=Gi L (vw.take (vI (vw.map fun s=>L.getD s.toNat 0) 4 19)) (List.replicate 19 0)
 rw[Sc]at fl
 by_cases hj:j<19
 · have g:=Gh L (vw.take (vI (vw.map fun s=>L.getD s.toNat 0) 4 19)) (List.replicate 19 0) j (by simpa using hj)
   rw[RY (by omega),RY (by omega)]
   rw[RW,RY (by omega)]at g
   congr 1
   have g':(DE L (vw.take (vI (vw.map fun s=>L.getD s.toNat 0) 4 19)) (List.replicate 19 0))[j]'(by omega)=_:=g
   rw[g']
   have e:L.getD j 0=L[j]'(by omega):=by rw[RW,RY (by omega)];rfl
   split
   · exact e
   · rename_i c
     rw[zN hj]
     obtain⟨i,hi,oi⟩:=I0 j hj
     have hk:vI (vw.map fun s=>L.getD s.toNat 0) 4 19≤i:=by
      apply Sg
      intro q
      refine c ⟨(j:Int), ?_,by omega⟩
      refine uL (i:=i) ?_
      rw[u0,if_pos (by omega),oi]
     have z:=ym (vw.map fun s=>L.getD s.toNat 0) 4 19 i hk hi
     have tj:((j:Nat):Int).toNat=j:=by omega
     rw[RW,uQ,oi]at z
     simp only[R1,Option.getD_some,tj]at z
     have nn:=h0 _ (Sd (l:=L) (n:=j) (by omega))
     omega
 · rw[Sa (by omega),Sa (by omega)]
theorem K9 {t : ByteArray} {ts : List Tok} {KA KB KC : Nat} {la lb Lc : List Int} (ok : BM ts KA KB KC la lb Lc) (hb : y9 t 0 (vT ts la lb Lc)) (hm : vE 0 ts = true) {most : Int} (hl : ((xq ts []).length : Int) ≤ most) : Aa t most 3 [] = .ok ((vT ts la lb Lc).length, xq ts []) ∧ vg t 0 1 = 1 ∧ vg t 1 2 = 2 ∧ 3 ≤ 8 * t.size := by
 obtain⟨HS,hn,tok,ra,rb,ea,eb,hall,rc,ec,hrow,ca,cb,cc,zu,KQ,Ec⟩:=ok
 obtain⟨a1,a2,a3⟩:=HO ts hn
 obtain⟨b1,b2⟩:=HP ts hn
 obtain⟨x1,x2,x3,x4,x5⟩:=CG (m:=0) a2 (by omega) (by omega) (by omega) (by omega) ra ea
 obtain⟨y1,y2,y3,y4,y5⟩:=CG (m:=0) b2 (by omega) (by omega) (by omega) (by omega) rb eb
 obtain⟨bkA,chA,_⟩:=Bf.J2 a2 (by omega) (by omega) (by omega) (by omega) ra ea
 obtain⟨bkB,chB,zB⟩:=Bf.J2 b2 (by omega) (by omega) (by omega) (by omega) rb eb
 have c1:(xb (la++lb) (List.replicate 19 0)).length=19:=by rw[AF,Sc]
 have c2:∀y∈xb (la++lb) (List.replicate 19 0),0≤y∧y≤2147483647:=fun y hy=>by
  have:=AG (la++lb) _ 0 (by omega) (y6 19) y hy
  rw[u4]at this
  omega
 obtain⟨f1,f2,f3,f4,f5⟩:=xZ c2 (by omega) (by omega) (by omega) rc
 rw[←ec]at f1 f2 f3 f4 f5
 have lLc:Lc.length=19:=by omega
 have hit:=Cy (la++lb) (List.replicate 19 0) (fun y hy=>(y6 19 y hy).1) (by rw[Sc])
 have exC:∃y∈xb (la++lb) (List.replicate 19 0),0<y:=by
  obtain⟨z,hz⟩:=List.exists_mem_of_ne_nil (la++lb) (fun q=>by
   have:=Sp List.length q
   rw[u4,RZ]at this
   omega)
  have h:=hit z hz (hall z hz)
  refine⟨_, ?_,show 0<(xb (la++lb) (List.replicate 19 0)).getD z.toNat 0 by omega⟩
  have zl:z.toNat<(xb (la++lb) (List.replicate 19 0)).length:=by have:=hall z hz;omega
  rw[RW,RY zl]
  exact Sd zl
 have l0:=f4 exC
 have r16:∀y∈Lc,0≤y∧y<16:=fun y hy=>by have:=f2 y hy;omega
 have bkC:Bf Lc:=⟨by omega,r16⟩
 have chC:vy Lc=0:=by rw[xK (by omega) (by omega) r16 (by omega),if_pos l0]
 have exA:∃y∈dA ts,0<y:=by
  have zl:256<(dA ts).length:=by omega
  refine⟨(dA ts).getD 256 0, ?_,by omega⟩
  rw[RW,RY zl]
  exact Sd zl
 have chA':=chA exA
 have chB':¬(vy lb≠0∧xA lb=false):=by
  rintro ⟨q1,q2⟩
  by_cases c:∃y∈dB ts,0<y
  · exact q1 (chB c)
  · have:=BG lb 0 (zB fun y hy q=>c ⟨y,hy,q⟩)
    unfold xA at q2
    rw[this]at q2
    simp at q2
 obtain⟨R,hR⟩:∃R,R=vw.map (fun o=>Lc.getD o.toNat 0):=⟨_,rfl⟩
 obtain⟨k,hk⟩:∃k,k=vI R 4 19:=⟨_,rfl⟩
 have uk:=wG R 4 19
 rw[←hk]at uk
 have eD:vT ts la lb Lc=vt 5 3++(vt (la.length-257) 5++(vt (lb.length-1) 5++(vt (k-4) 4++(za (R.take k)++(yA (u7 Lc) (la++lb)++(v5 (u7 la) (u7 lb) ts++vj (u7 la) 256)))))):=by rw[hk,hR];rfl
 rw[eD]at hb ⊢
 have pl:∀v n,(vt v n).length=n:=fun v n=>by unfold vt;exact vC v n 0
 obtain⟨h1,g1⟩:=hb.app
 rw[pl]at g1
 obtain⟨h2,g2⟩:=g1.app
 rw[pl]at g2
 obtain⟨h3,g3⟩:=g2.app
 rw[pl]at g3
 obtain⟨h4,g4⟩:=g3.app
 rw[pl]at g4
 obtain⟨h5,g5⟩:=g4.app
 obtain⟨h6,g6⟩:=g5.app
 have v2:=h2.put (by omega)
 have v3:=h3.put (by omega)
 have v4:=h4.put (by omega)
 have rl:(za (R.take k)).length=3* k:=by rw[A9,Sv,hR,List.length_map];show 3* min k 19=_;omega
 rw[rl]at g5 g6 h6
 have rb5:za (R.take k)=za ((vw.take k).map fun s=>Lc.getD s.toNat 0):=by rw[hR,List.map_take]
 have h5':=h5
 rw[rb5]at h5'
 have own:=Gk hrow (vw.take k) _ (List.replicate 19 0) h5' (fun s hs=>by have:=Ed s (List.mem_of_mem_take hs);omega)
 have back:=J6 lLc (fun y hy=>(hrow y hy).1)
 rw[←hR,←hk]at back
 rw[back]at own
 have okr:∀y∈la++lb,0≤y∧y<16:=fun y hy=>by
  rcases Sn.1 hy with q|q
  · exact x2 y q
  · exact y2 y q
 have h5l:=h5.1
 rw[rl]at h5l
 have h6l:=h6.1
 have g6l:=g6.1
 have ll:(la++lb).length=la.length+lb.length:=u4
 have all:=AW bkC (la.length+lb.length) (la++lb) [] (8* t.size+1) _ h6 zu okr (by simp) (by
  have:∀D:List Int,(∀y∈D,Ay (u7 Lc) y.toNat)→D.length≤(yA (u7 Lc) D).length:=by
   intro D
   induction D with
   |nil=>intro _;simp
   | cons y D ih =>
     intro h
     have:=ih fun z hz=>h z (by simp [hz])
     obtain⟨n,v,_,q1,q2,q3,q4⟩:=(h y (by simp)).bits
     unfold yA at *
     rw[R3,u4,q4,wh,RX];omega
  have:=this _ zu
  omega)
 have cod:=z7 bkA bkB Ec ts (8* t.size+1) _ [] g6 KQ hm hl (by
  have:∀T:List Tok,(∀x∈T,GU (u7 la) (u7 lb) x)→T.length≤(v5 (u7 la) (u7 lb) T).length:=by
   intro T
   induction T with
   |nil=>intro _;simp
   | cons x T ih =>
     intro h
     have:=ih fun z hz=>h z (by simp [hz])
     have o:=h x (by simp)
     have one:1≤(vK (u7 la) (u7 lb) x).length:=by
      rcases o with ⟨h1,h2,h3⟩|⟨h1,h2,h3,h4,h5,h6⟩
      · obtain⟨n,v,_,q1,q2,q3,q4⟩:=h3.bits
        rw[vK,if_pos h1,q4,wh];omega
      · obtain⟨n,v,_,q1,q2,q3,q4⟩:=h5.bits
        rw[vK,if_neg (by omega),q4,u4,wh];omega
     unfold v5 at *
     rw[R3,u4,RX];omega
  have:=this _ KQ
  rw[u4]at g6l
  omega)
 have v1:=h1.put (by omega)
 simp only[uM,Nat.reduceAdd,List.nil_append]at v1 v2 v3 v4 own all cod h5l
 have n1:vg t 3 5+257=la.length:=by rw[v2.1];omega
 have n2:vg t 8 5+1=lb.length:=by rw[v3.1];omega
 have n3:vg t 13 4+4=k:=by rw[v4.1];omega
 have lens:xy t (la.length+lb.length) 13=some (la++lb,17+3* k+(yA (u7 Lc) (la++lb)).length):=by
  unfold xy
  simp only[Nat.reduceAdd,n3]
  rw[if_pos (by omega),if_pos (by omega),own,if_pos chC,all]
 have tk:(la++lb).take la.length=la:=List.take_left' rfl
 have dr:(la++lb).drop la.length=lb:=List.drop_left' rfl
 have g256:la.getD 256 0≠0:=by have:=(EW Ec).2;omega
 refine⟨?_, ?_, ?_,by omega⟩
 · unfold Aa
   simp only[Nat.reduceAdd,n1,n2]
   rw[if_pos (by omega),if_neg (by omega),lens]
   simp only[tk,dr]
   rw[if_neg (by rintro (q|q|q);exact q chA';exact g256 q;exact chB' q),cod]
   simp only[u4,pl,rl,Except.ok.injEq,uC,and_true]
   omega
 · have b0:=h1.2 0 (by rw[pl];omega)
   have e0:(vt 5 3).getD 0 0=1:=by decide
   rw[e0]at b0
   simp [vg,b0]
 · have b1:=h1.2 1 (by rw[pl];omega)
   have b2:=h1.2 2 (by rw[pl];omega)
   have e1:(vt 5 3).getD 1 0=0:=by decide
   have e2:(vt 5 3).getD 2 0=1:=by decide
   rw[e1]at b1
   rw[e2]at b2
   simp only[uM]at b1 b2
   simp [vg,b1,b2]
theorem F5 {s:ByteArray} (hs:s.size≤300) {KA KB KC:Nat} {la lb Lc:List Int} (ok:BM (tokens s) KA KB KC la lb Lc) {most:Int} (hm1:(s.size:Int)≤most) (hm2:most≤8192):vM (bytesOf (vH (vT (tokens s) la lb Lc))) most=.ok (preB s s.size,(bytesOf (vH (vT (tokens s) la lb Lc))).size):=by
 obtain⟨t1,t2,t3,t4⟩:=yP s hs s.size 0 (by omega) (by omega)
 have t3':vE 0 (tokens s)=true:=t3
 have t4':xq (tokens s) []=preB s s.size:=t4
 have hb:=DL (vT (tokens s) la lb Lc) (La _ _ _ _)
 obtain⟨d,v1,v2,sz⟩:=K9 ok hb t3' (most:=most) (by rw[t4',xf];omega)
 rw[t4']at d
 have psz:(bytesOf (vH (vT (tokens s) la lb Lc))).size=((vT (tokens s) la lb Lc).length+7)/8:=by rw[vS,xH]
 generalize bytesOf (vH (vT (tokens s) la lb Lc))=T at *
 unfold vM
 rw[if_neg (by omega)]
 have bl:wu T most 0 []=.ok (true,(vT (tokens s) la lb Lc).length,preB s s.size):=by
  unfold wu
  simp only[uM]
  rw[if_pos sz,v2]
  simp only[Nat.reduceEqDiff,u5,if_true,reduceIte]
  rw[d]
  simp [v1]
 rw[vU,bl]
 simp only[if_true,psz]
theorem Hu (s:ByteArray):bytesOf (preB s s.size)=s:=by
 have:preB s s.size=OD s:=by
  apply List.ext_getElem?
  intro i
  by_cases h:i<s.size
  · have g:=DM (OD s) (OE s) i
    rw[BQ]at g
    have l1:=Ip s
    rw[RY (by rw[xf];exact h),RY (by omega)]
    congr 1
    have a:=Gv s h
    rw[RW,RY (by rw[xf];exact h)]at a
    rw[RW,RY (by omega)]at g
    exact a.trans g
  · rw[Sa (by rw[xf];omega),Sa (by rw[Ip];omega)]
 rw[this,BQ]
theorem KK {h:H} (hf:h.floor≤h.next):WX h (h.alloc [.aO,.int .i64 0]) h.next [] .aO:=by
 refine⟨⟨by rw[vp rfl];rfl,v8.nil,by simpa using hf,by simp;omega,by simp [AV.id?],fun b hb=>by simp [vH,wR]at hb⟩,(Ext.refl _).alloc _,uH _,by simp,fun j hj=>by simp [AV.id?]at hj⟩
def wB (n:Nat):List Nat:=vt 1 3++(List.replicate 5 0++(vt n 16++vt (65535-n) 16))
def wY (s:ByteArray):ByteArray:=bytesOf (vH (wB s.size))++s
theorem Bd (s:ByteArray):(wY s).size=s.size+5:=by
 unfold wY
 rw[ByteArray.size_append,vS,xH]
 simp [wB,vt,vC];omega
def xn:List Int:=List.replicate 30 5
theorem CJ:vx vG 15=0:=by decide+kernel
theorem DT:vx xn 15=2048:=by decide+kernel
theorem xp:vG.length=288:=by decide+kernel
theorem yG:∀y∈vG,1≤y∧y<16:=by
 have:vG.all (fun y=>decide (1≤y∧y<16))=true:=by decide+kernel
 intro y hy
 simpa using List.all_eq_true.1 this y hy
theorem FT:∀y∈xn,1≤y∧y<16:=fun y hy=>by have:=So hy;omega
theorem xk:Bf vG:=⟨by rw[CJ];omega,fun y hy=>by have:=yG y hy;omega⟩
theorem zH:Bf xn:=⟨by rw[DT];omega,fun y hy=>by have:=FT y hy;omega⟩
theorem AA {l:List Int} (b:Bf l) (hr:∀y∈l,1≤y∧y<16) {s:Nat} (hs:s<l.length):Ay (u7 l) s:=by
 refine EX b.left b.Ox hs ?_
 rw[RW,RY hs]
 exact(hr _ (Sd hs)).1
theorem DU {t:Tok} (o:xU t):GU (u7 vG) (u7 xn) t:=by
 refine J3 (ts:=[]) o (fun h=> ?_) (fun h=> ?_) (fun h=> ?_)
 · rcases o with ⟨_,b,c⟩|⟨a,_⟩
   · exact AA xk yG (by rw[xp];omega)
   · omega
 · rcases o with ⟨a,_⟩|⟨a,b,_⟩
   · exact absurd a h
   · have:=yc (k:=t.len.toNat) (by omega) (by omega)
     exact AA xk yG (by rw[xp];omega)
 · rcases o with ⟨a,_⟩|⟨a,b,c,d⟩
   · exact absurd a h
   · have:=xY (k:=t.vP.toNat) (by omega) (by omega)
     have l:xn.length=30:=by simp [xn]
     exact AA zH FT (by rw[l];omega)
def v9 (ts:List Tok):List Nat:=vt 3 3++(v5 (u7 vG) (u7 xn) ts++vj (u7 vG) 256)
theorem xW {bs:List Nat}:(bytesOf (vH bs)).size=(bs.length+7)/8:=by rw[vS,xH]
def shorter (a b:ByteArray):ByteArray:=if a.size<b.size then a else b
def DB (s:ByteArray) (la lb Lc:List Int):ByteArray:=bytesOf (vH (vT (tokens s) la lb Lc))
def yW (s:ByteArray):ByteArray:=bytesOf (vH (v9 (tokens s)))
def vQ (s:ByteArray) (la lb Lc:List Int):ByteArray:=shorter (DB s la lb Lc) (shorter (yW s) (wY s))
theorem Du (s:ByteArray) (hs:s.size≤300):(tokens s).length≤300∧(∀t∈tokens s,xU t)∧vE 0 (tokens s)=true∧xq (tokens s) []=preB s s.size:=by
 obtain⟨t1,t2,t3,t4⟩:=yP s hs s.size 0 (by omega) (by omega)
 exact⟨by unfold tokens;omega,t2,t3,t4⟩
theorem Le (ts:List Tok):∀b∈v9 ts,b≤1:=by
 intro b h
 unfold v9 at h
 simp only[Sn]at h
 rcases h with h|h|h
 · exact xz _ _ _ b h
 · obtain⟨y,_,hy⟩:=List.mem_flatMap.1 h
   exact Ca _ _ y b hy
 · exact xF _ _ b h
theorem GS {E D : List (Int × Int)} : ∀ T : List Tok, (∀ x ∈ T, GU E D x) → T.length ≤ (v5 E D T).length
 |[],_=>by simp
 | x :: T, h => by
   have:=GS (E:=E) (D:=D) T fun z hz=>h z (by simp [hz])
   have o:=h x (by simp)
   have one:1≤(vK E D x).length:=by
    rcases o with ⟨h1,h2,h3⟩|⟨h1,h2,h3,h4,h5,h6⟩
    · obtain⟨n,v,_,q1,q2,q3,q4⟩:=h3.bits
      rw[vK,if_pos h1,q4,wh];omega
    · obtain⟨n,v,_,q1,q2,q3,q4⟩:=h5.bits
      rw[vK,if_neg (by omega),q4,u4,wh];omega
   unfold v5 at *
   rw[R3,u4,RX];omega
theorem BV {s:ByteArray} (hs:s.size≤300) {most:Int} (hm1:(s.size:Int)≤most) (hm2:most≤8192):vM (yW s) most=.ok (preB s s.size,(yW s).size):=by
 obtain⟨t1,t2,t3,t4⟩:=Du s hs
 have hb:=DL (v9 (tokens s)) (Le _)
 have psz:(yW s).size=((v9 (tokens s)).length+7)/8:=xW
 change y9 (yW s) 0 (v9 (tokens s))at hb
 generalize yW s=T at *
 have hb':y9 T 0 (vt 3 3++(v5 (u7 vG) (u7 xn) (tokens s)++vj (u7 vG) 256)):=hb
 obtain⟨h1,h2⟩:=hb'.app
 have pl:(vt 3 3).length=3:=rfl
 rw[pl,uM]at h2
 have KQ:∀x∈tokens s,GU (u7 vG) (u7 xn) x:=fun x hx=>DU (t2 x hx)
 have g:=GS (tokens s) KQ
 have h2l:=h2.1
 rw[u4]at h2l
 have cod:=z7 (most:=most) xk zH (AA xk yG (by rw[xp];omega)) (tokens s) (8* T.size+1) 3 [] h2 KQ t3 (by rw[t4,xf];exact hm1) (by omega)
 have fl:3+(v5 (u7 vG) (u7 xn) (tokens s)++vj (u7 vG) 256).length=(v9 (tokens s)).length:=by
  unfold v9;rw[@u4 _ (vt 3 3),pl]
 rw[fl,t4]at cod
 have v0:vg T 0 1=1:=by
  have b0:=h1.2 0 (by rw[pl];omega)
  have e0:(vt 3 3).getD 0 0=1:=by decide
  rw[e0]at b0
  simp [vg,b0]
 have v1:vg T 1 2=1:=by
  have b1:=h1.2 1 (by rw[pl];omega)
  have b2:=h1.2 2 (by rw[pl];omega)
  have e1:(vt 3 3).getD 1 0=1:=by decide
  have e2:(vt 3 3).getD 2 0=0:=by decide
  rw[e1]at b1
  rw[e2]at b2
  simp only[uM]at b1 b2
  simp [vg,b1,b2]
 have sz:3≤8* T.size:=by have:=h1.1;rw[pl]at this;omega
 unfold vM
 rw[if_neg (by omega)]
 have bl:wu T most 0 []=.ok (true,(v9 (tokens s)).length,preB s s.size):=by
  unfold wu
  simp only[uM]
  rw[if_pos sz,v1]
  simp only[Nat.reduceEqDiff,u5,if_true,reduceIte]
  have cod':wo T most vG (List.replicate 30 5) (8* T.size+1) 3 []=.ok ((v9 (tokens s)).length,preB s s.size):=cod
  rw[cod']
  simp [v0]
 rw[vU,bl]
 simp only[if_true,psz]
theorem Dj (a b:ByteArray):shorter a b=a∨shorter a b=b:=by
 unfold shorter;split
 · exact .inl rfl
 · exact .inr rfl
theorem Jv {g:H} {w id n b:Nat} {P:List Nat} {x:Nat} (hb:b≤1) (hw:g.get w=some [.aD id 0 (n/8+1) 1,.int .i64 n]) (hi:g.get id=some (xO P)) (hl:P.length=n/8+1) (hx:P[n/8]?=some x) (hx8:x<256) (hne:id≠w) (hf:g.floor≤w) (hf2:g.floor≤id) (hn:n<1000000):
 ∃e',aK (aQ AP.A) bu (KS 1 AP.f347.body) [(0,.aC w 0),(1,.int .i64 b)] g=some (.normal,e',(g.set id (xO (P.set (n/8) (x|||b* 2^(n%8))))).set w [.aD id 0 (n/8+1) 1,.int .i64 ((n:Int)+1)]):=by
 have c8:b* 2^(n%8)<256:=by
  have h1:2^(n%8)≤2^7:=Se (by omega) (by omega)
  have h2:b* 2^(n%8)≤1* 2^7:=Nat.mul_le_mul hb h1
  omega
 have s1:=Ly hb (show n%8<8 by omega)
 have o1:=Jw hx8 c8
 have w1:=Q8 (n:=b* 2^(n%8)) c8
 have rm:=Qp (a:=n) (n:=8) (by omega)
 have rm':bn .rem (.int .i64 (n:Int)) (.int .i64 8)=some (.int .i64 ((n%8:Nat):Int)):=rm
 have w2:IntKind.wrap .i64 (((n/8+1:Nat):Int)-1)=((n/8:Nat):Int):=by rw[wi (by omega)];omega
 have bl:=Mk P
 have gx:=OW hx
 have st:=Qx P (n/8) (x|||b* 2^(n%8))
 have sgn:((n/8:Nat):Int).toNat=n/8:=by omega
 have gw2:(g.set id (xO (P.set (n/8) (x|||b* 2^(n%8))))).get w=some [.aD id 0 (n/8+1) 1,.int .i64 n]:=by rw[u9 (fun q=>hne q.symm),hw]
 generalize xO P=BP at *
 generalize b* 2^(n%8)=Y at *
 generalize (x|||Y)=Z at *
 generalize xO (P.set (n/8) Z)=BZ at *
 refine⟨?_, ?_⟩
 rotate_left
 simp (disch:=first|omega|(simp only[wO,RX,RZ,uM,Nat.reduceAdd];first|done|omega|fail)|(simp (disch:=first|omega|(simp only[wO,RX,RZ,uM,Nat.reduceAdd];first|done|omega|fail)|fail)only[wO,Cf,R1,RX,RZ,uM,Nat.reduceAdd];done)|fail)only[go_sem,vz,Ce,AP.f347,hw,hi,s1,o1,w1,rm',w2,bl,hl,gx,st,sgn,gw2]
 rfl
theorem LP {h : H} {w b : Nat} {bs : List Nat} {ov : AV} (wr : Wr h w bs ov) (hb : b ≤ 1) (hn : bs.length < 1000000) :
 ∃h' ov',aQ AP.A 347 [.aC w 0,.int .i64 b] h=some (.bO [],h')∧Wr h' w (bs++[b]) ov'∧GW h w ov h' ov':=by
 obtain⟨gw,ow,fl,Jj,ne,HJ⟩:=wr
 obtain⟨n,en⟩:∃n,n=bs.length:=⟨_,rfl⟩
 rw[←en]at gw hn
 have pl:=xH bs
 rw[←en]at pl
 have pa:=Ee bs b
 rw[←en]at pa
 obtain⟨P,eP⟩:∃P,P=vH bs:=⟨_,rfl⟩
 rw[←eP]at ow HJ pa pl
 have wlt:=h.lt _ _ gw
 obtain ⟨g, ov', id, P', x, s1, hw, hi, hl, hx, hid, hne, hf, hf2, hflx, hP, hk, hx8, hids, hbt⟩ : ∃ g ov' id P' x, aK (aQ AP.A) bu (at_ 0 AP.f347.body) [(0, .aC w 0), (1, .int .i64 b)] h = some (.normal, [(0, .aC w 0), (1, .int .i64 b)], g) ∧ g.get w = some [.aD id 0 (n / 8 + 1) 1, .int .i64 n] ∧ g.get id = some (xO P') ∧ P'.length = n / 8 + 1 ∧ P'[n / 8]? = some x ∧ ov' = AV.aD id 0 (n / 8 + 1) 1 ∧ id ≠ w ∧ g.floor = h.floor ∧ h.floor ≤ id ∧ h.next ≤ g.next ∧ vV P n b = P'.set (n / 8) (x ||| b * 2 ^ (n % 8)) ∧ (∀ i, i < h.next → i ≠ w → ov.id? ≠ some i → g.get i = h.get i) ∧ x < 256 ∧ (ov.id? = some id ∨ h.next ≤ id) ∧ KM P' := by
  have rm:bn .rem (.int .i64 (n:Int)) (.int .i64 8)=some (.int .i64 ((n%8:Nat):Int)):=Qp (a:=n) (n:=8) (by omega)
  by_cases c:n%8=0
  · have cz:((n%8:Nat):Int)=0:=by omega
    obtain⟨v',h',p1,p2,p3,p4,p5,p6⟩:=ow.push Jj (z:=1) (m:=1) (by omega) (by omega) [.int .u8 0] rfl rfl (zO (by omega))
    have gw1:h'.get w=some [ov,.int .i64 n]:=by rw[p5 w ne wlt,gw]
    have e1:=p2.1
    rcases p2.2 with ⟨_,q⟩|⟨id,q1,q2,q3,q4⟩
    · omega
    · have hk:P.length+1=n/8+1:=by omega
      rw[hk]at q1
      have qid:id=h.next+1:=by rw[q1]at p6;exact uv p6
      refine⟨h'.set w [v',.int .i64 n],v',id,P++[0],0, ?_, ?_, ?_, ?_, ?_,q1,by omega,by simp [p3],by omega, ?_, ?_, ?_,by omega,.inr (by omega), ?_⟩
      · rw[q1]
        rw[q1]at p1
        have fl':h'.floor≤w:=by omega
        simp (disch:=omega)only[go_sem,vz,AP.f347,zX,gw,gw1,rm,cz,p1,fl',vA,u9]
      · rw[vA rfl,gw1,q1];rfl
      · rw[u9 (by omega),q2,FA];rfl
      · simp;omega
      · rw[R8 (by omega),show n/8-P.length=0 by omega];rfl
      · simp;omega
      · unfold vV;rw[if_pos c];dsimp only;rw[RW,R8 (by omega),show n/8-P.length=0 by omega];rfl
      · intro i hi hiw hio
        rw[u9 hiw,p5 i hio hi]
      · intro y hy
        rcases Sn.1 hy with q|q
        · exact HJ y q
        · simp at q;omega
  · have cz:¬((n%8:Nat):Int)=0:=by omega
    rcases ow.2 with ⟨_,q⟩|⟨id,q1,q2,q3,q4⟩
    · omega
    · have hk:P.length=n/8+1:=by omega
      rw[hk]at q1
      obtain⟨x,hx⟩:∃x,P[n/8]?=some x:=⟨_,RY (by omega)⟩
      have hneq:id≠w:=fun q=>ne (by rw[q1,q];rfl)
      refine⟨h,ov,id,P,x, ?_,by rw[gw,q1],q2,hk,hx,q1,hneq,rfl,q3,uH _, ?_,fun _ _ _ _=>rfl,HJ x (uL hx),.inl (by rw[q1];rfl),HJ⟩
      · simp (disch:=first|omega|(simp only[wO,RX,RZ,uM,Nat.reduceAdd];first|done|omega|fail)|(simp (disch:=first|omega|(simp only[wO,RX,RZ,uM,Nat.reduceAdd];first|done|omega|fail)|fail)only[wO,Cf,R1,RX,RZ,uM,Nat.reduceAdd];done)|fail)only[go_sem,vz,Ce,AP.f347,gw,rm,cz]
      · unfold vV;rw[if_neg c];dsimp only;rw[RW,hx];rfl
 obtain⟨e',s2⟩:=Jv hb hw hi hl hx hx8 hne (by omega) (by omega) hn
 have cs:aQ AP.A 347 [.aC w 0,.int .i64 b] h=some (.bO [],(g.set id (xO (P'.set (n/8) (x|||b* 2^(n%8))))).set w [.aD id 0 (n/8+1) 1,.int .i64 ((n:Int)+1)]):=by
  refine vW (fn:=AP.f347) (e:=e') (vs:=[]) rfl rfl rfl ?_ rfl
  have hb:AP.f347.body=.seq (at_ 0 AP.f347.body) (KS 1 AP.f347.body):=rfl
  rw[hb,rF]
  have s1':aK (aQ AP.A) bu (at_ 0 AP.f347.body) (params 0 [.aC w 0,.int .i64 b]) h=some (.normal,[(0,.aC w 0),(1,.int .i64 b)],g):=s1
  rw[s1',su,s2]
 rw[←hP]at cs
 have ol:(vV P n b).length=n/8+1:=by rw[hP,Sj,hl]
 refine⟨_,ov',cs,⟨?_, ?_, ?_, ?_, ?_, ?_⟩, ?_, ?_, ?_, ?_⟩
 · rw[vA rfl,u9 hne.symm,hw,hid,u4,←en];rfl
 · rw[pa,hid]
   exact⟨by simp [xO,ol],.inr ⟨id,by rw[ol],by rw[u9 hne,vA rfl,hi];rfl,by simpa [hf]using hf2,by omega⟩⟩
 · simpa [hf]using fl
 · simp;omega
 · rw[hid];exact fun q=>hne (uv q)
 · rw[pa];exact BW hb HJ
 · simp [hf]
 · simpa using hflx
 · intro i hi1 hi2 hi3
   have:i≠id:=by
    rcases hids with q|q
    · intro q2;exact hi3 (by rw[q,q2])
    · omega
   rw[u9 hi2,u9 this,hk i hi1 hi2 hi3]
 · intro j hj
   rw[hid]at hj
   obtain rfl:=uv hj
   exact hids
theorem JL {h:H} {w:Nat} {ov:AV} {v n up N:Nat} (gw:h.get w=some [ov,.int .i64 N]) (hn:n≤up) (hu:up≤16) (hv:v<2^n) (hb:N+n≤65536):aQ AP.A 346 [.aC w 0,.int .i64 v,.int .i64 n,.int .i64 up] h=some (.bool true,h):=by
 have hp:2^n≤2^16:=Se (by omega) (by omega)
 have s1:oW .shl .i64 1 (n:Int)=some (.int .i64 ((2^n:Nat):Int)):=by
  have:=Ba (a:=1) (s:=n) (by omega) (by omega)
  rwa [Nat.one_mul]at this
 refine tq (fn:=AP.f346) (e:=[(8,.bool true)]) (vs:=[.bool true]) rfl rfl rfl ?_ rfl
 have c1:(0:Int)≤(n:Int):=by omega
 have c2:(n:Int)≤(up:Int):=by omega
 have c3:(0:Int)≤(v:Int):=by omega
 have c4:(v:Int)<((2^n:Nat):Int):=by omega
 have c5:(N:Int)+(n:Int)≤65536:=by omega
 generalize 2^n=M at *
 simp (disch:=omega)only[go_sem,vz,AP.f346,s1,gw,c1,c2,c3,c4,c5]
theorem Ej (w v n:Nat) (hv:v<65536) (hn:n≤16):∀(m i:Nat) (h:H) (bs:List Nat) (ov:AV),i+m=n→Wr h w bs ov→bs.length+m<1000000→
 ∃e' h' ov',Lp AP.A [0,1,17,18] AP.f335L0 [(0,.aC w 0),(1,.int .i64 v),(17,.int .i64 n),(18,.int .i64 i)] h=some (.exit 1,e',h')∧Wr h' w (bs++BB v i m) ov'∧GW h w ov h' ov'
 | 0, i, h, bs, ov, hi, wr, hb => by
   obtain rfl:i=n:=by omega
   refine⟨[(0,.aC w 0),(1,.int .i64 v),(17,.int .i64 i),(18,.int .i64 i),(19,.bool false)],h,ov,sV ?_,by simpa [BB]using wr,GW.refl h w ov⟩
   simp (disch:=omega)only[go_sem,vz,AP.f335L0]
 | m + 1, i, h, bs, ov, hi, wr, hb => by
   have q:=Nat.div_le_self v (2^i)
   obtain⟨h1,o1,k1,wr1,f1⟩:=LP wr (b:=v/2^i%2) (by omega) (by omega)
   obtain⟨e',h',ov',r1,r2,r3⟩:=Ej w v n hv hn m (i+1) h1 _ o1 (by omega) wr1 (by simp;omega)
   have n1:((i+1:Nat):Int)=(i:Int)+1:=by omega
   have s1:=GD (a:=v) (s:=i) (by omega)
   have a1:=Fo (n:=v/2^i) (by omega)
   rw[R9]at r2
   refine⟨e',h',ov',sW ?_ r1,r2,f1.trans r3⟩
   rw[n1]
   simp (disch:=omega)only[go_sem,vz,AP.f335L0,s1,a1,k1]
theorem xR {h:H} {w:Nat} {bs:List Nat} {ov:AV} (wr:Wr h w bs ov) (v n:Nat) (hn:n≤16) (hv:v<2^n) (hb:bs.length+n≤65536):
 ∃h' ov',aQ AP.A 335 [.aC w 0,.int .i64 v,.int .i64 n] h=some (.int .i64 0,h')∧Wr h' w (bs++vt v n) ov'∧GW h w ov h' ov':=by
 have hp:2^n≤2^16:=Se (by omega) hn
 obtain⟨e',h',ov',r1,r2,r3⟩:=Ej w v n (by omega) hn n 0 h bs ov (by omega) wr (by omega)
 have r1':Lp AP.A [0,1,17,18] AP.f335L0 [(0,.aC w 0),(1,.int .i64 v),(17,.int .i64 n),(18,.int .i64 0)] h=some (.exit 1,e',h'):=r1
 clear r1
 have k:=JL (up:=16) wr.get hn (by omega) hv hb
 refine⟨h',ov',tq (fn:=AP.f335) (e:=[(6,.int .i64 0)]) (vs:=[.int .i64 0]) rfl rfl rfl ?_ rfl,r2,r3⟩
 have k':aQ AP.A 346 [.aC w 0,.int .i64 v,.int .i64 n,.int .i64 16] h=some (.bool true,h):=k
 simp (disch:=omega)only[go_sem,vz,AP.f335,rR,r1',k']
theorem C9 (w v:Nat) (A:List AV) (hA:A[1]?=some (.int .i64 v)) (hA2:A.length=2) (c:Nat) (hv:v<65536):∀(m:Nat) (h:H) (bs:List Nat) (ov:AV),m≤15→Wr h w bs ov→bs.length+m<1000000→h.get c=some A→c≠w→ov.id?≠some c→
 ∃e' h' ov',Lp AP.A [0,3,5] AP.f352L0 [(0,.aC w 0),(3,.aC c 0),(5,.int .i64 ((m:Int)-1))] h=some (.exit 1,e',h')∧Wr h' w (bs++yf v m) ov'∧GW h w ov h' ov'
 | 0, h, bs, ov, hm, wr, hb, hc, hcw, hco => by
   refine⟨[(0,.aC w 0),(3,.aC c 0),(5,.int .i64 (-1)),(26,.bool false)],h,ov,sV ?_,by simpa [yf]using wr,GW.refl h w ov⟩
   simp (disch:=omega)only[go_sem,vz,AP.f352L0]
 | m + 1, h, bs, ov, hm, wr, hb, hc, hcw, hco => by
   have q:=Nat.div_le_self v (2^m)
   obtain⟨h1,o1,k1,wr1,f1⟩:=LP wr (b:=v/2^m%2) (by omega) (by omega)
   have hcl:=h.lt _ _ hc
   obtain⟨e',h',ov',r1,r2,r3⟩:=C9 w v A hA hA2 c hv m h1 _ o1 (by omega) wr1 (by simp;omega) (by rw[f1.vR c hcl hcw hco,hc]) hcw (fun q=>by
    rcases f1.ids c q with q|q
    · exact hco q
    · omega)
   have n1:((m+1:Nat):Int)-1=(m:Int):=by omega
   have s1:=GD (a:=v) (s:=m) (by omega)
   have a1:=Fo (n:=v/2^m) (by omega)
   rw[R9]at r2
   refine⟨e',h',ov',sW ?_ r1,r2,f1.trans r3⟩
   rw[n1]
   simp (disch:=omega)only[go_sem,vz,AP.f352L0,s1,a1,k1,hc,hA,hA2]
theorem H7 {h:H} {w:Nat} {bs:List Nat} {ov:AV} (wr:Wr h w bs ov) (v n:Nat) (hn0:1≤n) (hn:n≤15) (hv:v<2^n) (hb:bs.length+n≤65536):
 ∃h' ov',aQ AP.A 352 [.aC w 0,.agg [.int .i64 n,.int .i64 v]] h=some (.int .i64 0,h')∧Wr h' w (bs++yf v n) ov'∧GW h w ov h' ov':=by
 have hp:2^n≤2^15:=Se (by omega) hn
 obtain⟨g,eg⟩:∃g,g=h.alloc [.int .i64 n,.int .i64 v]:=⟨_,rfl⟩
 have hw:=h.lt _ _ wr.get
 have frA:∀i,i<h.next→g.get i=h.get i:=fun i hi=>by rw[eg,vn (by omega)]
 have wr1:Wr g w bs ov:=⟨by rw[frA w hw,wr.get],wr.own.mono (by rw[eg];simp) (fun i q=>frA i (wr.own.lt q).2),by rw[eg];simpa using wr.fl,by rw[eg];have:=wr.Jj;simp;omega,wr.ne,wr.HJ⟩
 have gc:g.get h.next=some [.int .i64 n,.int .i64 v]:=by rw[eg,vp rfl]
 obtain⟨e',h',ov',r1,r2,r3⟩:=C9 w v _ rfl rfl h.next (by omega) n g bs ov hn wr1 (by omega) gc (by omega) (fun q=>by have:=(wr.own.lt q).2;omega)
 have k:aQ AP.A 346 [.aC w 0,.int .i64 v,.int .i64 n,.int .i64 15] g=some (.bool true,g):=JL (up:=15) wr1.get hn (by omega) hv hb
 refine⟨h',ov',tq (fn:=AP.f352) (e:=[(4,.int .i64 0)]) (vs:=[.int .i64 0]) rfl rfl rfl ?_ rfl,r2,⟨by rw[r3.floor,eg];simp,by have:=r3.next;rw[eg]at this;simp at this;omega,fun i h1 h2 h3=>by rw[r3.vR i (by rw[eg];simp;omega) h2 h3,frA i h1],fun j hj=>by
  rcases r3.ids j hj with q|q
  · exact .inl q
  · rw[eg]at q;simp at q;exact .inr (by omega)⟩⟩
 have c1:¬(n:Int)<1:=by omega
 simp (disch:=omega)only[go_sem,vz,AP.f352,rR,←eg,r1,c1,gc,k]
theorem Ia {h:H} {w:Nat} {bs:List Nat} {ov:AV} (wr:Wr h w bs ov):aQ AP.A 336 [.aC w 0] h=some (.str (bytesOf (vH bs)),h):=by
 have gw:=wr.get
 have b:=Fp wr.own
 refine tq (fn:=AP.f336) (e:=[(2,.str (bytesOf (vH bs)))]) (vs:=[.str (bytesOf (vH bs))]) rfl rfl rfl ?_ rfl
 simp (disch:=omega)only[go_sem,vz,AP.f336,gw,b]
theorem Gq (bs : List Nat) : ∀ m : Nat, (bs.length + m) % 8 = 0 → m < 8 → vH (bs ++ List.replicate m 0) = vH bs := by
 have step:∀(k:Nat) (cs:List Nat),k+cs.length%8≤8→(0<k→cs.length%8≠0)→vH (cs++List.replicate k 0)=vH cs:=by
  intro k
  induction k with
  |zero=>intro cs _ _;simp
  | succ k ih =>
    intro cs h1 h2
    have hne:=h2 (by omega)
    have e:cs++List.replicate (k+1) 0=(cs++[0])++List.replicate k 0:=by simp [List.replicate_succ]
    have l1:(cs++[0]).length=cs.length+1:=by simp
    have z:vH (cs++[0])=vH cs:=by
     rw[Ee]
     unfold vV
     rw[if_neg hne]
     dsimp only
     rw[Nat.zero_mul,Nat.or_zero]
     have hl:=xH cs
     have hlt:cs.length/8<(vH cs).length:=by omega
     rw[RW,RY hlt]
     exact List.set_getElem_self hlt
    rw[e]
    by_cases c:k=0
    · subst c;simpa using z
    · rw[ih (cs++[0]) (by rw[l1];omega) (fun _=>by rw[l1];omega),z]
 intro m hm h8
 refine step m bs (by omega) (fun h=>by omega)
theorem Ka {h:H} {w:Nat} {bs:List Nat} {ov:AV} (wr:Wr h w bs ov) (m:Nat) (hm:(bs.length+m)%8=0) (h8:m<8) (hb:bs.length+m<1000):
 ∃h',aQ AP.A 334 [.aC w 0] h=some (.int .i64 0,h')∧Wr h' w (bs++List.replicate m 0) ov∧GW h w ov h' ov:=by
 have gw:=wr.get
 have pz:=Gq bs m hm h8
 have pl:=xH bs
 have ln:=wr.own.rd.len
 have e8:(8:Int)* ((vH bs).length:Nat)=((bs.length+m:Nat):Int):=by omega
 have fl:=wr.fl
 refine⟨h.set w [ov,.int .i64 (bs.length+m:Nat)],tq (fn:=AP.f334) (e:=[(2,.int .i64 0)]) (vs:=[.int .i64 0]) rfl rfl rfl ?_ rfl,⟨by rw[vA rfl,gw];simp, ?_,by simpa using fl,by simpa using wr.Jj,wr.ne,by rw[pz];exact wr.HJ⟩,⟨by simp,by simp,fun i _ h2 _=>u9 h2,fun j hj=>.inl hj⟩⟩
 · have mb:((bs.length+m:Nat):Int)<1000:=by omega
   generalize ((bs.length+m:Nat):Int)=M at *
   have M0:0≤M:=by omega
   clear pz
   simp (disch:=omega)only[go_sem,vz,AP.f334,gw,ln,e8,fl]
 · rw[pz];exact wr.own.mono (by simp) fun j hj=>u9 (fun q=>wr.ne (by rw[hj,q]))
theorem HH {h:H} (hf:h.floor=h.next) (k:Nat) (hk:k<4):∃h' ov',aQ AP.A 333 [.int .i64 k] h=some (.aC h.next 0,h')∧WX h h' h.next (vt 1 1++vt k 2) ov'∧h'.floor=h.floor:=by
 have x0:=KK (h:=h) (by omega)
 obtain⟨h1,o1,k1,w1,f1⟩:=xR x0.wr 1 1 (by omega) (by omega) (by simp)
 have x1:=x0.step w1 f1
 obtain⟨h2,o2,k2,w2,f2⟩:=xR x1.wr k 2 (by omega) (by omega) (by simp [vt,vC])
 have x2:=x1.step w2 f2
 have kn:aQ AP.A 345 [] h=some (.aC h.next 0,h.alloc [.aO,.int .i64 0]):=by
  refine tq (fn:=AP.f345) (e:=[(0,.aC h.next 0)]) (vs:=[.aC h.next 0]) rfl rfl rfl ?_ rfl
  simp (disch:=omega)only[go_sem,vz,AP.f345]
 refine⟨h2,o2,tq (fn:=AP.f333) (e:=[(2,.aC h.next 0)]) (vs:=[.aC h.next 0]) rfl rfl rfl ?_ rfl, ?_,by rw[f2.floor,f1.floor];simp⟩
 · clear x0 x1 x2
   have k1':aQ AP.A 335 [.aC h.next 0,.int .i64 1,.int .i64 1] (h.alloc [.aO,.int .i64 0])=some (.int .i64 0,h1):=k1
   have k2':aQ AP.A 335 [.aC h.next 0,.int .i64 k,.int .i64 2] h1=some (.int .i64 0,h2):=k2
   simp (disch:=omega)only[go_sem,vz,AP.f333,kn,k1',k2']
 · simpa using x2
theorem Ni {F:Nat→Option (Nat×Nat)} {k to:Nat} (h:vr (F to)≤k):yQ F k to=to:=by
 cases to with
 |zero=>rfl
 |succ t=>rw[yQ,if_pos h]
theorem D4 {F : Nat → Option (Nat × Nat)} {fk : Nat} (hF : ∀ (g : H) (s : Nat), s < 1000000 → aQ AP.A fk [.int .i64 s] g = some (Dw (F s), g)) (k to : Nat) (hk : k < 1000000) (hto : to < 1000) (hl : vr (F to) ≤ k) (g : H) (id : Nat) (hf : g.floor ≤ id) (hg : g.get id = some [.int .i64 0, .int .i64 0, .int .i64 0]) : ∀ n : Nat, n < 1000 → (∀ s, to ≤ s → s ≤ to + n → ∃ a b, F s = some (a, b) ∧ a < 1000000) →
 (yQ F k (to+n)=to∧Lp AP.A [0,2,3,8,9] AP.f361L0 [(0,.int .i64 k),(2,.int .i64 to),(3,.fn fk [] []),(8,.aC id 0),(9,.int .i64 (to+n:Nat))] g=some (.exit 0,[(0,.int .i64 k),(2,.int .i64 to),(3,.fn fk [] []),(8,.aC id 0),(9,.int .i64 to),(16,.bool false)],g))∨
 (yQ F k (to+n)≠to∧Lp AP.A [0,2,3,8,9] AP.f361L0 [(0,.int .i64 k),(2,.int .i64 to),(3,.fn fk [] []),(8,.aC id 0),(9,.int .i64 (to+n:Nat))] g=some (.ret,[(8,.aC id 0)],g.set id [.int .i64 (yQ F k (to+n):Nat),.int .i64 (wz (F (yQ F k (to+n))):Nat),.int .i64 ((k-vr (F (yQ F k (to+n))):Nat):Int)]))
 | 0, _, _ => by
   refine .inl ⟨Ni hl,sV ?_⟩
   simp (disch:=omega)only[go_sem,vz,AP.f361L0]
 | n + 1, hn, hs => by
   obtain⟨a,b,hab,ha⟩:=hs (to+(n+1)) (by omega) (by omega)
   have kk:=fun g=>hF g (to+(n+1)) (by omega)
   rw[hab]at kk
   simp only[I,Dw]at kk
   have la:vr (F (to+(n+1)))=a:=by rw[hab];rfl
   have lb:wz (F (to+(n+1)))=b:=by rw[hab];rfl
   have c0:(to:Int)<((to+(n+1):Nat):Int):=by omega
   have ed:yQ F k (to+(n+1))=if a≤k then to+(n+1)else yQ F k (to+n):=by rw[←uG,yQ,←la];rfl
   by_cases c1:a≤k
   · rw[if_pos c1]at ed
     rw[ed,la,lb]
     refine .inr ⟨by omega,tB ?_⟩
     have n1:((k-a:Nat):Int)=(k:Int)-(a:Int):=by omega
     have c2:(a:Int)≤(k:Int):=by omega
     have sb:((to+(n+1):Nat):Int)<1000000:=by omega
     rw[n1]
     generalize ((to+(n+1):Nat):Int)=s at *
     clear hs hF
     simp (disch:=first|omega|(simp only[wO,RX,RZ,uM,Nat.reduceAdd];first|done|omega|fail)|(simp (disch:=first|omega|(simp only[wO,RX,RZ,uM,Nat.reduceAdd];first|done|omega|fail)|fail)only[wO,Cf,R1,RX,RZ,uM,Nat.reduceAdd];done)|fail)only[go_sem,vz,Ce,AP.f361L0,c0,kk,c2,hg]
   · rw[if_neg c1]at ed
     rw[ed]
     have n1:((to+(n+1):Nat):Int)-1=((to+n:Nat):Int):=by omega
     have c2:¬(a:Int)≤(k:Int):=by omega
     have st:aK (aQ AP.A) bu AP.f361L0 (ax [(0,.int .i64 k),(2,.int .i64 to),(3,.fn fk [] []),(8,.aC id 0),(9,.int .i64 (to+(n+1):Nat))] [0,2,3,8,9]) g=some (.normal,[(0,.int .i64 k),(2,.int .i64 to),(3,.fn fk [] []),(8,.aC id 0),(9,.int .i64 (to+n:Nat))],g):=by
      rw[←n1]
      have sb:((to+(n+1):Nat):Int)<1000000:=by omega
      have sb0:0≤((to+(n+1):Nat):Int):=by omega
      clear n1
      generalize ((to+(n+1):Nat):Int)=s at *
      clear hs hF
      simp (disch:=first|omega|(simp only[wO,RX,RZ,uM,Nat.reduceAdd];first|done|omega|fail)|(simp (disch:=first|omega|(simp only[wO,RX,RZ,uM,Nat.reduceAdd];first|done|omega|fail)|fail)only[wO,Cf,R1,RX,RZ,uM,Nat.reduceAdd];done)|fail)only[go_sem,vz,Ce,AP.f361L0,c0,kk,c2,hg]
     rcases D4 hF k to hk hto hl g id hf hg n (by omega) (fun s h1 h2=>hs s h1 (by omega))with ⟨e,L⟩|⟨e,L⟩
     · exact .inl ⟨e,sW st L⟩
     · exact .inr ⟨e,sW st L⟩
theorem JX {F:Nat→Option (Nat×Nat)} {fk:Nat} (hF:∀(g:H) (s:Nat),s<1000000→aQ AP.A fk [.int .i64 s] g=some (Dw (F s),g)) (k to n:Nat) (hk:k<1000000) (hto:to<1000) (hl:vr (F to)≤k) (hn:n<1000) (hs:∀s,to≤s→s≤to+n→∃a b,F s=some (a,b)∧a<1000000) (hz:yQ F k (to+n)=to→wz (F to)=0∧k=vr (F to)) (h:H):
 aQ AP.A 361 [.int .i64 k,.int .i64 (to+n:Nat),.int .i64 to,.fn fk [] []] h=some (.agg [.int .i64 (yQ F k (to+n):Nat),.int .i64 (wz (F (yQ F k (to+n))):Nat),.int .i64 ((k-vr (F (yQ F k (to+n))):Nat):Int)],h):=by
 rcases D4 hF k to hk hto hl (h.dL.alloc [.int .i64 0,.int .i64 0,.int .i64 0]) h.next (by simp) (by rw[vp (by simp)]) n hn hs with ⟨e,L⟩|⟨e,L⟩
 · obtain⟨z1,z2⟩:=hz e
   rw[e,z1,←z2,Nat.sub_self]
   refine tL (fn:=AP.f361) (h2:=(h.dL.alloc [.int .i64 0,.int .i64 0,.int .i64 0]).set h.next [.int .i64 to,.int .i64 0,.int .i64 0]) (e:=[(8,.aC h.next 0)]) (vs:=[.agg [.int .i64 to,.int .i64 0,.int .i64 0]]) rfl rfl rfl ?_ ?_ ?_
   · clear hs hF
     simp (disch:=first|omega|(simp only[wO,RX,RZ,uM,Nat.reduceAdd];first|done|omega|fail)|(simp (disch:=first|omega|(simp only[wO,RX,RZ,uM,Nat.reduceAdd];first|done|omega|fail)|fail)only[wO,Cf,R1,RX,RZ,uM,Nat.reduceAdd];done)|fail)only[go_sem,vz,Ce,AP.f361,rR,L]
   · simp (disch:=first|omega|(simp only[wO,RX,RZ,uM,Nat.reduceAdd];first|done|omega|fail)|(simp (disch:=first|omega|(simp only[wO,RX,RZ,uM,Nat.reduceAdd];first|done|omega|fail)|fail)only[wO,Cf,R1,RX,RZ,uM,Nat.reduceAdd];done)|fail)only[go_sem,vz,Ce,AP.f361,cu,mY];rfl
   · rfl
 · generalize yQ F k (to+n)=S at *
   generalize wz (F S)=B at *
   generalize k-vr (F S)=V at *
   refine tL (fn:=AP.f361) (h2:=(h.dL.alloc [.int .i64 0,.int .i64 0,.int .i64 0]).set h.next [.int .i64 S,.int .i64 B,.int .i64 V]) (e:=[(8,.aC h.next 0)]) (vs:=[.agg [.int .i64 S,.int .i64 B,.int .i64 V]]) rfl rfl rfl ?_ ?_ ?_
   · clear hs hF
     simp (disch:=first|omega|(simp only[wO,RX,RZ,uM,Nat.reduceAdd];first|done|omega|fail)|(simp (disch:=first|omega|(simp only[wO,RX,RZ,uM,Nat.reduceAdd];first|done|omega|fail)|fail)only[wO,Cf,R1,RX,RZ,uM,Nat.reduceAdd];done)|fail)only[go_sem,vz,Ce,AP.f361,rR,L]
   · simp (disch:=first|omega|(simp only[wO,RX,RZ,uM,Nat.reduceAdd];first|done|omega|fail)|(simp (disch:=first|omega|(simp only[wO,RX,RZ,uM,Nat.reduceAdd];first|done|omega|fail)|fail)only[wO,Cf,R1,RX,RZ,uM,Nat.reduceAdd];done)|fail)only[go_sem,vz,Ce,AP.f361,cu,mY];rfl
   · rfl
theorem Ov (h:H) (k:Nat) (h1:3≤k) (h2:k≤258):aQ AP.A 355 [.int .i64 k] h=some (.bO [.agg [.int .i64 (xu k:Nat),.int .i64 (zo k:Nat),.int .i64 (Ag k:Nat)],.int .i64 0],h):=by
 by_cases c:k=258
 · subst c
   have e1:xu 258=285:=by decide
   have e2:zo 258=0:=by decide
   have e3:Ag 258=0:=by decide
   rw[e1,e2,e3]
   refine tL (fn:=AP.f355) (h2:=(h.dL.alloc [.int .i64 0,.int .i64 0,.int .i64 0]).set h.next [.int .i64 285,.int .i64 0,.int .i64 0]) (e:=[(2,.aC h.next 0),(3,.int .i64 0)]) (vs:=[.agg [.int .i64 285,.int .i64 0,.int .i64 0],.int .i64 0]) rfl rfl rfl ?_ ?_ ?_
   · have a1:¬((258:Nat):Int)<3:=by omega
     have a2:¬(258:Int)<((258:Nat):Int):=by omega
     have a3:(((258:Nat):Int)==258)=true:=by decide
     generalize ((258:Nat):Int)=K at *
     simp (disch:=first|omega|(simp only[wO,RX,RZ,uM,Nat.reduceAdd];first|done|omega|fail)|(simp (disch:=first|omega|(simp only[wO,RX,RZ,uM,Nat.reduceAdd];first|done|omega|fail)|fail)only[wO,Cf,R1,RX,RZ,uM,Nat.reduceAdd];done)|fail)only[go_sem,vz,Ce,AP.f355,a1,a2,a3]
   · simp (disch:=first|omega|(simp only[wO,RX,RZ,uM,Nat.reduceAdd];first|done|omega|fail)|(simp (disch:=first|omega|(simp only[wO,RX,RZ,uM,Nat.reduceAdd];first|done|omega|fail)|fail)only[wO,Cf,R1,RX,RZ,uM,Nat.reduceAdd];done)|fail)only[go_sem,vz,Ce,AP.f355,cu,mY];rfl
   · rfl
 · have e:yQ lenOf k 285=yQ lenOf k 284:=by
    rw[yQ,if_neg]
    have:vr (lenOf (284+1))=258:=rfl
    omega
   have sp:=yc h1 h2
   have hz:yQ lenOf k (257+27)=257→wz (lenOf 257)=0∧k=vr (lenOf 257):=fun q=>by
    have q':xu k=257:=e.trans q
    rw[q']at sp
    have b1:wz (lenOf 257)=0:=rfl
    have l1:vr (lenOf 257)=3:=rfl
    rw[l1,b1]at sp
    exact⟨rfl,by rw[l1];omega⟩
   have r:=JX (F:=lenOf) (fk:=74) (fun g s hs=>HZ g s hs) k 257 27 (by omega) (by omega) (show vr (lenOf 257)≤k from h1) (by omega) (fun s q1 q2=>by
    obtain⟨a,b,hab⟩:=Af q1 (by omega)
    have:=CX hab
    exact⟨a,b,hab,by omega⟩) hz (h.dL.alloc [.int .i64 0,.int .i64 0,.int .i64 0])
   have el:yQ lenOf k (257+27)=xu k:=e.symm
   rw[el]at r
   have r':aQ AP.A 361 [.int .i64 k,.int .i64 284,.int .i64 257,.fn 74 [] []] (h.dL.alloc [.int .i64 0,.int .i64 0,.int .i64 0])=some (.agg [.int .i64 (xu k:Nat),.int .i64 (zo k:Nat),.int .i64 (Ag k:Nat)],h.dL.alloc [.int .i64 0,.int .i64 0,.int .i64 0]):=r
   clear r
   generalize xu k=S at *
   generalize zo k=B at *
   generalize Ag k=V at *
   refine tL (fn:=AP.f355) (h2:=(h.dL.alloc [.int .i64 0,.int .i64 0,.int .i64 0]).set h.next [.int .i64 S,.int .i64 B,.int .i64 V]) (e:=[(2,.aC h.next 0),(3,.int .i64 0)]) (vs:=[.agg [.int .i64 S,.int .i64 B,.int .i64 V],.int .i64 0]) rfl rfl rfl ?_ ?_ ?_
   · have a1:¬(k:Int)<3:=by omega
     have a2:¬(258:Int)<(k:Int):=by omega
     have a3:((k:Int)==258)=false:=by simp;omega
     clear sp hz
     simp (disch:=first|omega|(simp only[wO,RX,RZ,uM,Nat.reduceAdd];first|done|omega|fail)|(simp (disch:=first|omega|(simp only[wO,RX,RZ,uM,Nat.reduceAdd];first|done|omega|fail)|fail)only[wO,Cf,R1,RX,RZ,uM,Nat.reduceAdd];done)|fail)only[go_sem,vz,Ce,AP.f355,a1,a2,a3,r']
   · simp (disch:=first|omega|(simp only[wO,RX,RZ,uM,Nat.reduceAdd];first|done|omega|fail)|(simp (disch:=first|omega|(simp only[wO,RX,RZ,uM,Nat.reduceAdd];first|done|omega|fail)|fail)only[wO,Cf,R1,RX,RZ,uM,Nat.reduceAdd];done)|fail)only[go_sem,vz,Ce,AP.f355,cu,mY];rfl
   · rfl
theorem Lw (h:H) (k:Nat) (h1:1≤k) (h2:k≤32768):aQ AP.A 356 [.int .i64 k] h=some (.bO [.agg [.int .i64 (xQ k:Nat),.int .i64 (zT k:Nat),.int .i64 (AM k:Nat)],.int .i64 0],h):=by
 have sp:=xY h1 h2
 have hz:yQ vD k (0+29)=0→wz (vD 0)=0∧k=vr (vD 0):=fun q=>by
  have q':xQ k=0:=q
  rw[q']at sp
  have b1:wz (vD 0)=0:=rfl
  have l1:vr (vD 0)=1:=rfl
  rw[l1,b1]at sp
  exact⟨rfl,by rw[l1];omega⟩
 have r:=JX (F:=vD) (fk:=75) (fun g s hs=>FN g s hs) k 0 29 (by omega) (by omega) (show vr (vD 0)≤k from h1) (by omega) (fun s q1 q2=>by
  obtain⟨a,b,hab⟩:=zj (s:=s) (by omega)
  have:=Bi hab
  exact⟨a,b,hab,by omega⟩) hz (h.dL.alloc [.int .i64 0,.int .i64 0,.int .i64 0])
 have r':aQ AP.A 361 [.int .i64 k,.int .i64 29,.int .i64 0,.fn 75 [] []] (h.dL.alloc [.int .i64 0,.int .i64 0,.int .i64 0])=some (.agg [.int .i64 (xQ k:Nat),.int .i64 (zT k:Nat),.int .i64 (AM k:Nat)],h.dL.alloc [.int .i64 0,.int .i64 0,.int .i64 0]):=r
 clear r
 generalize xQ k=S at *
 generalize zT k=B at *
 generalize AM k=V at *
 refine tL (fn:=AP.f356) (h2:=(h.dL.alloc [.int .i64 0,.int .i64 0,.int .i64 0]).set h.next [.int .i64 S,.int .i64 B,.int .i64 V]) (e:=[(2,.aC h.next 0),(3,.int .i64 0)]) (vs:=[.agg [.int .i64 S,.int .i64 B,.int .i64 V],.int .i64 0]) rfl rfl rfl ?_ ?_ ?_
 · have a1:¬(k:Int)<1:=by omega
   have a2:¬(32768:Int)<(k:Int):=by omega
   clear sp hz
   simp (disch:=first|omega|(simp only[wO,RX,RZ,uM,Nat.reduceAdd];first|done|omega|fail)|(simp (disch:=first|omega|(simp only[wO,RX,RZ,uM,Nat.reduceAdd];first|done|omega|fail)|fail)only[wO,Cf,R1,RX,RZ,uM,Nat.reduceAdd];done)|fail)only[go_sem,vz,Ce,AP.f356,a1,a2,r']
 · simp (disch:=first|omega|(simp only[wO,RX,RZ,uM,Nat.reduceAdd];first|done|omega|fail)|(simp (disch:=first|omega|(simp only[wO,RX,RZ,uM,Nat.reduceAdd];first|done|omega|fail)|fail)only[wO,Cf,R1,RX,RZ,uM,Nat.reduceAdd];done)|fail)only[go_sem,vz,Ce,AP.f356,cu,mY];rfl
 · rfl
theorem GN (h:H) (x d:Int):aQ AP.A 349 [.agg [.int .i64 x,.int .i64 0,.int .i64 d]] h=some (.bO [.agg [.int .i64 x,.int .i64 0,.int .i64 0],.agg [.int .i64 0,.int .i64 0,.int .i64 0],.bool false],h):=by
 refine tL (fn:=AP.f349) (h2:=(((((h.dL.alloc [.int .i64 x,.int .i64 0,.int .i64 d]).alloc [.int .i64 0,.int .i64 0,.int .i64 0]).alloc [.int .i64 0,.int .i64 0,.int .i64 0]).set (h.next+1) [.int .i64 x,.int .i64 0,.int .i64 0]).set (h.next+2) [.int .i64 0,.int .i64 0,.int .i64 0])) (e:=[(2,.aC (h.next+1) 0),(3,.aC (h.next+2) 0),(4,.bool false)]) (vs:=[.agg [.int .i64 x,.int .i64 0,.int .i64 0],.agg [.int .i64 0,.int .i64 0,.int .i64 0],.bool false]) rfl rfl rfl ?_ ?_ ?_
 · simp (disch:=first|omega|(simp only[wO,RX,RZ,uM,Nat.reduceAdd];first|done|omega|fail)|(simp (disch:=first|omega|(simp only[wO,RX,RZ,uM,Nat.reduceAdd];first|done|omega|fail)|fail)only[wO,Cf,R1,RX,RZ,uM,Nat.reduceAdd];done)|fail)only[go_sem,vz,Ce,AP.f349]
 · simp (disch:=first|omega|(simp only[wO,RX,RZ,uM,Nat.reduceAdd];first|done|omega|fail)|(simp (disch:=first|omega|(simp only[wO,RX,RZ,uM,Nat.reduceAdd];first|done|omega|fail)|fail)only[wO,Cf,R1,RX,RZ,uM,Nat.reduceAdd];done)|fail)only[go_sem,vz,Ce,AP.f349,cu,mY];rfl
 · rfl
theorem Et (h:H) (k d:Nat) (h1:3≤k) (h2:k≤258) (d1:1≤d) (d2:d≤32768):aQ AP.A 349 [.agg [.int .i64 0,.int .i64 k,.int .i64 d]] h=some (.bO [.agg [.int .i64 (xu k:Nat),.int .i64 (zo k:Nat),.int .i64 (Ag k:Nat)],.agg [.int .i64 (xQ d:Nat),.int .i64 (zT d:Nat),.int .i64 (AM d:Nat)],.bool true],h):=by
 have k1:=fun g=>Ov g k h1 h2
 have k2:=fun g=>Lw g d d1 d2
 have c0:((k:Int)==0)=false:=by simp;omega
 generalize xu k=S at *
 generalize zo k=B at *
 generalize Ag k=V at *
 generalize xQ d=S' at *
 generalize zT d=B' at *
 generalize AM d=V' at *
 obtain⟨g,eg⟩:∃g,g=((((((((h.dL.alloc [.int .i64 0,.int .i64 k,.int .i64 d]).alloc [.int .i64 0,.int .i64 0,.int .i64 0]).alloc [.int .i64 0,.int .i64 0,.int .i64 0]).alloc [.int .i64 0,.int .i64 0,.int .i64 0]).set (h.next+3) [.int .i64 S,.int .i64 B,.int .i64 V]).alloc [.int .i64 0,.int .i64 0,.int .i64 0]).set (h.next+4) [.int .i64 S',.int .i64 B',.int .i64 V']).set (h.next+1) [.int .i64 S,.int .i64 B,.int .i64 V]).set (h.next+2) [.int .i64 S',.int .i64 B',.int .i64 V']:=⟨_,rfl⟩
 refine tL (fn:=AP.f349) (h2:=g) (e:=[(2,.aC (h.next+1) 0),(3,.aC (h.next+2) 0),(4,.bool true)]) (vs:=[.agg [.int .i64 S,.int .i64 B,.int .i64 V],.agg [.int .i64 S',.int .i64 B',.int .i64 V'],.bool true]) rfl rfl rfl ?_ ?_ ?_
 · rw[eg]
   simp (disch:=first|omega|(simp only[wO,RX,RZ,uM,Nat.reduceAdd];first|done|omega|fail)|(simp (disch:=first|omega|(simp only[wO,RX,RZ,uM,Nat.reduceAdd];first|done|omega|fail)|fail)only[wO,Cf,R1,RX,RZ,uM,Nat.reduceAdd];done)|fail)only[go_sem,vz,Ce,AP.f349,c0,k1,k2]
 · rw[eg]
   simp (disch:=first|omega|(simp only[wO,RX,RZ,uM,Nat.reduceAdd];first|done|omega|fail)|(simp (disch:=first|omega|(simp only[wO,RX,RZ,uM,Nat.reduceAdd];first|done|omega|fail)|fail)only[wO,Cf,R1,RX,RZ,uM,Nat.reduceAdd];done)|fail)only[go_sem,vz,Ce,AP.f349,cu,mY];rfl
 · rfl
theorem Hv {h0 h:H} {w:Nat} {bs:List Nat} {ov lv:AV} {E:List (Int×Int)} (rl:yB 2 h0 lv E.length (E.flatMap wJ)) (x:WX h0 h w bs ov) (s b v:Nat) (o:Ay E s) (hb:b≤16) (hv:v<2^b) (hl:bs.length+31≤65536):
 ∃h' ov',aQ AP.A 350 [.aC w 0,lv,.agg [.int .i64 s,.int .i64 b,.int .i64 v]] h=some (.bO [],h')∧WX h0 h' w (bs++(vj E s++vt v b)) ov'∧h.next≤h'.next∧(∀i,i<h.next→i≠w→ov.id?≠some i→h'.get i=h.get i)∧(∀j,ov'.id?=some j→ov.id?=some j∨h.next≤j):=by
 obtain⟨g,eg⟩:∃g,g=h.alloc [.int .i64 s,.int .i64 b,.int .i64 v]:=⟨_,rfl⟩
 have x1:WX h0 g w bs ov:=x.turn (by rw[eg];simp) (by rw[eg];simp) fun i hi=>by rw[eg,vn (by omega)]
 have gg:g.get h.next=some [.int .i64 s,.int .i64 b,.int .i64 v]:=by rw[eg,vp rfl]
 have hw:=h.lt _ _ x.wr.get
 have hon:ov.id?≠some h.next:=fun q=>by have:=(x.wr.own.lt q).2;omega
 obtain⟨le,l1,l2⟩:=rl.LX
 obtain⟨n,c,q0,q1,q2,q3,q4⟩:=o.bits
 have e1:=l1 s ⟨by omega,by have:=o.lt;omega⟩
 have e2:=l2 g x1.ext _ _ q0
 obtain⟨h2,o2,k1,k2,k3⟩:=H7 x1.wr c n q1 q2 q3 (by omega)
 have x2:=x1.step k2 k3
 have g2:h2.get h.next=some [.int .i64 s,.int .i64 b,.int .i64 v]:=(k3.vR h.next (by rw[eg];simp) (by omega) hon).trans gg
 obtain⟨h3,o3,k4,k5,k6⟩:=xR x2.wr v b hb hv (by simp [wh];omega)
 have x3:=x2.step k5 k6
 refine⟨h3,o3,vW (fn:=AP.f350) (e:=[]) (vs:=[]) rfl rfl rfl ?_ rfl,by rw[q4,←R9];exact x3, ?_,fun i hi hiw hio=> ?_,fun j hj=> ?_⟩
 · clear rl l1 l2 x x1 x2 x3 k2 k3 k5 k6 q4
   simp (disch:=omega)only[go_sem,vz,AP.f350,←eg,gg,e1,e2,k1,g2,k4]
 · have a1:=k3.next
   have a2:=k6.next
   rw[eg]at a1;simp at a1;omega
 · have a1:=k3.next
   have e:g.get i=h.get i:=by rw[eg,vn (by omega)]
   have gn:g.next=h.next+1:=by rw[eg];simp
   rw[k6.vR i (by omega) hiw (fun q=>by
    rcases k3.ids i q with z|z
    · exact hio z
    · omega),k3.vR i (by omega) hiw hio,e]
 · have gn:g.next=h.next+1:=by rw[eg];simp
   rcases k6.ids j hj with z|z
   · rcases k3.ids j z with y|y
     · exact .inl y
     · exact .inr (by omega)
   · have:=k3.next;exact .inr (by omega)
theorem Ja {v lv dv:AV} {ts:List Tok} {E D:List (Int×Int)} (hn:ts.length<1000000) (h0:H) (rd:yB 3 h0 v ts.length (wg ts)) (rl:yB 2 h0 lv E.length (E.flatMap wJ)) (rx:yB 2 h0 dv D.length (D.flatMap wJ)) (w i:Nat) (t:Tok) (ht:ts[i]?=some t) (o:GU E D t) (tk:xU t) (tl:t.len≠0→t.lit=0) (h:H) (bs:List Nat) (ov:AV) (x:WX h0 h w bs ov) (hb:bs.length+48≤65000):
 ∃h' ov',aK (aQ AP.A) bu AP.f339L0 (ax [(0,.aC w 0),(2,lv),(3,dv),(14,v),(15,.int .i64 ts.length),(16,.int .i64 i)] [0,2,3,14,15,16]) h=some (.normal,[(0,.aC w 0),(2,lv),(3,dv),(14,v),(15,.int .i64 ts.length),(16,.int .i64 (i+1:Nat))],h')∧WX h0 h' w (bs++vK E D t) ov':=by
 obtain⟨ad,a1,a2,a3⟩:=rd.OG
 have hi:i<ts.length:=(uD.1 ht).1
 have hI:(0:Int)≤(i:Int)∧(i:Int)<ts.length:=⟨by omega,by omega⟩
 have b1:=a1 _ hI
 obtain⟨_,_,_,b2⟩:=a3 h x.ext _ _ ht
 have n1:((i+1:Nat):Int)=(i:Int)+1:=by omega
 have ci:(i:Int)<(ts.length:Int):=hI.2
 have step:∀(S B V S' B' V':Nat) (cp:Bool),(∀g:H,aQ AP.A 349 [.agg [.int .i64 t.lit,.int .i64 t.len,.int .i64 t.vP]] g=some (.bO [.agg [.int .i64 S,.int .i64 B,.int .i64 V],.agg [.int .i64 S',.int .i64 B',.int .i64 V'],.bool cp],g))→Ay E S→B≤5→V<2^B→(cp=true→Ay D S'∧B'≤13∧V'<2^B')→
  ∃h' ov',aK (aQ AP.A) bu AP.f339L0 (ax [(0,.aC w 0),(2,lv),(3,dv),(14,v),(15,.int .i64 ts.length),(16,.int .i64 i)] [0,2,3,14,15,16]) h=some (.normal,[(0,.aC w 0),(2,lv),(3,dv),(14,v),(15,.int .i64 ts.length),(16,.int .i64 (i+1:Nat))],h')∧WX h0 h' w (bs++((vj E S++vt V B)++if cp=true then vj D S'++vt V' B' else [])) ov':=by
  intro S B V S' B' V' cp ks oS hB hV hcp
  obtain⟨g1,eg1⟩:∃g,g=(h.alloc [.int .i64 0,.int .i64 0,.int .i64 0]).set h.next [.int .i64 t.lit,.int .i64 t.len,.int .i64 t.vP]:=⟨_,rfl⟩
  obtain⟨g2,eg2⟩:∃g,g=(((g1.alloc [.int .i64 0,.int .i64 0,.int .i64 0]).alloc [.int .i64 0,.int .i64 0,.int .i64 0]).set g1.next [.int .i64 S,.int .i64 B,.int .i64 V]).set (g1.next+1) [.int .i64 S',.int .i64 B',.int .i64 V']:=⟨_,rfl⟩
  have n1':g1.next=h.next+1:=by rw[eg1];simp
  have n2':g2.next=h.next+3:=by rw[eg2];simp;omega
  have fl1:h.floor≤h.next:=x.wr.Jj
  have flg:g1.floor≤g1.next:=by rw[n1',eg1];simp;omega
  have gt1:g1.get h.next=some [.int .i64 t.lit,.int .i64 t.len,.int .i64 t.vP]:=by rw[eg1,vA rfl,vp rfl];rfl
  have gk1:∀j,j<h.next→g1.get j=h.get j:=fun j hj=>by rw[eg1,u9 (by omega),vn (by omega)]
  have gk2:∀j,j<h.next→g2.get j=h.get j:=fun j hj=>by rw[eg2,u9 (by omega),u9 (by omega),vn (by simp;omega),vn (by omega),gk1 j hj]
  have x2:WX h0 g2 w bs ov:=x.turn (by rw[eg2,eg1];simp) (by omega) gk2
  have ga:g2.get g1.next=some [.int .i64 S,.int .i64 B,.int .i64 V]:=by rw[eg2,u9 (by omega),vA rfl,vn (by simp),vp rfl];rfl
  have gb:g2.get (g1.next+1)=some [.int .i64 S',.int .i64 B',.int .i64 V']:=by rw[eg2,vA rfl,u9 (by omega),vp (by simp)];rfl
  have hA:((g1.alloc [.int .i64 0,.int .i64 0,.int .i64 0]).alloc [.int .i64 0,.int .i64 0,.int .i64 0]).get g1.next=some [.int .i64 0,.int .i64 0,.int .i64 0]:=by rw[vn (by simp),vp rfl]
  have hB:(((g1.alloc [.int .i64 0,.int .i64 0,.int .i64 0]).alloc [.int .i64 0,.int .i64 0,.int .i64 0]).set g1.next [.int .i64 S,.int .i64 B,.int .i64 V]).get (g1.next+1)=some [.int .i64 0,.int .i64 0,.int .i64 0]:=by rw[u9 (by omega),vp (by simp)]
  have hw:=h.lt _ _ x.wr.get
  have hov:∀j,h.next≤j→ov.id?≠some j:=fun j hj q=>by have:=(x.wr.own.lt q).2;omega
  obtain⟨h3,o3,k3,x3,nx3,kp3,id3⟩:=Hv rl x2 S B V oS (by omega) hV (by omega)
  have gb3:h3.get (g1.next+1)=some [.int .i64 S',.int .i64 B',.int .i64 V']:=(kp3 _ (by omega) (by omega) (hov _ (by omega))).trans gb
  have cl:(vj E S++vt V B).length≤20:=by
   obtain⟨n,c,q0,q1,q2,q3,q4⟩:=oS.bits
   rw[q4];simp [wh,vt,vC];omega
  cases cp with
  | false =>
    refine⟨h3,o3, ?_,by simpa using x3⟩
    rw[n1]
    clear rd rl rx a1 a2 a3 x x2 x3 kp3 id3 gk1 gk2 hov hcp
    simp (disch:=omega)only[go_sem,vz,AP.f339L0,ci,b1,b2,←eg1,gt1,ks,hA,hB,←eg2,ga,k3,KR,uO,SF,Si]
  | true =>
    obtain⟨oS',hB',hV'⟩:=hcp rfl
    obtain⟨h4,o4,k4,x4,_,_,_⟩:=Hv rx x3 S' B' V' oS' (by omega) hV' (by rw[u4];omega)
    refine⟨h4,o4, ?_,by rw[if_pos rfl,←R9];exact x4⟩
    rw[n1]
    clear rd rl rx a1 a2 a3 x x2 x3 x4 kp3 id3 gk1 gk2 hov hcp
    simp (disch:=omega)only[go_sem,vz,AP.f339L0,ci,b1,b2,←eg1,gt1,ks,hA,hB,←eg2,ga,k3,gb3,k4,KR,uO,SF,Si]
 rcases o with ⟨c0,h2,h3⟩|⟨h1,h2,h3,h4,h5,h6⟩
 · obtain⟨y,hy⟩:∃y:Nat,t.lit=y:=R4 h2
   have yt:t.lit.toNat=y:=by omega
   rw[yt]at h3
   obtain⟨h',ov',k,xx⟩:=step y 0 0 0 0 0 false (fun g=>by
    rw[hy,c0];exact GN g y t.vP) h3 (by omega) (by omega) (fun q=>by cases q)
   refine⟨h',ov',k, ?_⟩
   rw[vK,if_pos c0,yt]
   simpa [vt,BB]using xx
 · obtain⟨L,hL⟩:∃y:Nat,t.len=y:=R4 (by omega)
   obtain⟨K,hK⟩:∃y:Nat,t.vP=y:=R4 (by omega)
   have Lt:t.len.toNat=L:=by omega
   have Kt:t.vP.toNat=K:=by omega
   rw[Lt]at h5
   rw[Kt]at h6
   have lb:=EP (k:=L) (by omega) (by omega)
   have db:=EI (k:=K) (by omega) (by omega)
   obtain⟨h',ov',k,xx⟩:=step (xu L) (zo L) (Ag L) (xQ K) (zT K) (AM K) true (fun g=>by
    rw[tl (by omega),hL,hK];exact Et g L K (by omega) (by omega) (by omega) (by omega)) h5 lb.1 lb.2 (fun _=>⟨h6,db.1,db.2⟩)
   refine⟨h',ov',k, ?_⟩
   rw[vK,if_neg (by omega),Lt,Kt]
   simpa [R9]using xx
theorem Em {v lv dv:AV} {ts:List Tok} {E D:List (Int×Int)} (hn:ts.length<1000000) (h0:H) (rd:yB 3 h0 v ts.length (wg ts)) (rl:yB 2 h0 lv E.length (E.flatMap wJ)) (rx:yB 2 h0 dv D.length (D.flatMap wJ)) (ok:∀t∈ts,GU E D t∧xU t∧(t.len≠0→t.lit=0)) (w:Nat):∀(q p:List Tok) (bs:List Nat) (h:H) (ov:AV),ts=p++q→WX h0 h w bs ov→bs.length+48* q.length≤65000→
 ∃h' ov',Lp AP.A [0,2,3,14,15,16] AP.f339L0 [(0,.aC w 0),(2,lv),(3,dv),(14,v),(15,.int .i64 ts.length),(16,.int .i64 p.length)] h=some (.exit 0,[(0,.aC w 0),(2,lv),(3,dv),(14,v),(15,.int .i64 ts.length),(16,.int .i64 ts.length),(17,.bool false)],h')∧WX h0 h' w (bs++v5 E D q) ov'
 | [], p, bs, h, ov, hp, x, hb => by
   rw[Sf]at hp;subst hp
   refine⟨h,ov,sV ?_,by simpa [v5]using x⟩
   simp (disch:=omega)only[go_sem,vz,AP.f339L0]
 | t :: q, p, bs, h, ov, hp, x, hb => by
   have ht:ts[p.length]?=some t:=by rw[hp];simp
   obtain⟨o1,o2,o3⟩:=ok t (by rw[hp];simp)
   obtain⟨h1,ov1,k1,x1⟩:=Ja hn h0 rd rl rx w p.length t ht o1 o2 o3 h bs ov x (by simp only[RX]at hb;omega)
   have bl:=Cb o1
   obtain⟨h',ov',L,x2⟩:=Em hn h0 rd rl rx ok w q (p++[t]) _ h1 ov1 (by rw[hp];simp) x1 (by simp only[RX,u4]at hb ⊢;omega)
   have e3:(p++[t]).length=p.length+1:=by simp
   rw[e3]at L
   refine⟨h',ov',sW k1 L, ?_⟩
   have:v5 E D (t::q)=vK E D t++v5 E D q:=by simp [v5]
   rw[this,←R9];exact x2
theorem Ib {v lv dv:AV} {ts:List Tok} {E D:List (Int×Int)} (hn:ts.length<1000000) (h0:H) (rd:yB 3 h0 v ts.length (wg ts)) (rl:yB 2 h0 lv E.length (E.flatMap wJ)) (rx:yB 2 h0 dv D.length (D.flatMap wJ)) (ok:∀t∈ts,GU E D t∧xU t∧(t.len≠0→t.lit=0)) (o256:Ay E 256) (w:Nat) (bs:List Nat) (h:H) (ov:AV) (x:WX h0 h w bs ov) (hb:bs.length+48* ts.length≤65000):
 ∃h',aQ AP.A 339 [.aC w 0,v,lv,dv] h=some (.str (bytesOf (vH (bs++(v5 E D ts++vj E 256)))),h'):=by
 have ln:=rd.len
 obtain⟨h1,o1,L,x1⟩:=Em hn h0 rd rl rx ok w ts [] bs h ov rfl x hb
 have L':Lp AP.A [0,2,3,14,15,16] AP.f339L0 [(0,.aC w 0),(2,lv),(3,dv),(14,v),(15,.int .i64 ts.length),(16,.int .i64 0)] h=_:=L
 have bl:=Eu (E:=E) (D:=D) (ts:=ts) fun t ht=>(ok t ht).1
 obtain⟨h2,o2,k2,x2,_⟩:=Hv rl x1 256 0 0 o256 (by omega) (by omega) (by rw[u4];omega)
 have k3:=Ia x2.wr
 have e:bs++v5 E D ts++(vj E 256++vt 0 0)=bs++(v5 E D ts++vj E 256):=by simp [vt,BB]
 rw[e]at k3
 have k2':aQ AP.A 350 [.aC w 0,lv,.agg [.int .i64 256,.int .i64 0,.int .i64 0]] h1=some (.bO [],h2):=k2
 refine⟨h2,tq (fn:=AP.f339) (e:=[(8,.str (bytesOf (vH (bs++(v5 E D ts++vj E 256)))))]) (vs:=[.str (bytesOf (vH (bs++(v5 E D ts++vj E 256))))]) rfl rfl rfl ?_ rfl⟩
 clear x1 x2 rd rl rx ok x
 generalize bytesOf (vH (bs++(v5 E D ts++vj E 256)))=TX at *
 simp (disch:=omega)only[go_sem,vz,AP.f339,ln,rR,L',k2',k3]
theorem Aj (c:ae) (e:Env) (h:H) (x y:X):ah c e h (.mn [x,y])=da h (lW (x.ev e) (y.ev e)):=by
 show(fV lW (x.ev e) [y.ev e]).bind _=_
 simp only[fV]
 cases lW (x.ev e) (y.ev e)<;>rfl
def ES (a b:Int):Int:=if b<a then b else a
theorem yS (k:IntKind) (a b:Int):lW (.int k a) (.int k b)=some (.int k (ES a b)):=rfl
structure Tx (hb h:H) (x:Nat) (ov:AV) (out:List Nat):Prop where
 ext:Ext hb h
 fl:h.floor=hb.next
 Ji:h.floor≤h.next
 gx:h.get x=some [ov]
 lx:hb.next≤x
 own:v8 1 h ov out.length (xO out)
 nx:ov.id?≠some x
 HJ:KM out
theorem Tx.push {hb h:H} {x:Nat} {ov:AV} {out:List Nat} (v:Tx hb h x ov out) (b:Nat) (hb8:b<256) (hl:out.length<100000):∃h1 v1,kq (h.alloc [.int .u8 b]) 1 1 ov (.aD h.next 0 1 1)=some (v1,h1)∧v1.sc=true∧v1.cells=[v1]∧h1.get x=some [ov]∧h1.floor≤x∧Tx hb (h1.set x [v1]) x v1 (out++[b])∧h.next≤(h1.set x [v1]).next∧∀i,i<h.next→i≠x→ov.id?≠some i→(h1.set x [v1]).get i=h.get i:=by
 obtain⟨v1,h1,p1,p2,p3,p4,p5,p6⟩:=v.own.push v.Ji (z:=1) (m:=1) (by omega) (by omega) [.int .u8 b] rfl rfl (zO (by omega))
 have lx:=h.lt _ _ v.gx
 have fl:=v.fl
 have vlx:=v.lx
 have g1:h1.get x=some [ov]:=by rw[p5 x v.nx lx,v.gx]
 refine⟨h1,v1,p1,p2.sc,p2.cells,g1,by omega,⟨fun i c hi=> ?_,by simp;omega,by simp;have:=v.Ji;omega,by rw[vA rfl,g1];rfl,v.lx, ?_, ?_,fun y hy=> ?_⟩,by simp;omega,fun i h1' h2 h3=>by rw[u9 h2,p5 i h3 h1']⟩
 · have l1:=hb.lt _ _ hi
   have e:=v.ext i c hi
   have l2:=h.lt _ _ e
   rw[u9 (by omega),p5 i (fun q=>by have:=(v.own.lt q).1;omega) l2,e]
 · rw[FA,u4]
   exact p2.mono (by simp) fun j hj=>by
    rw[p6]at hj
    have:=uv hj
    rw[u9 (by omega)]
 · rw[p6];intro q;have:=uv q;omega
 · rcases Sn.1 hy with q|q
   · exact v.HJ y q
   · simp at q;omega
theorem Eh {hb : H} {x c L D : Nat} {l0 : AV} (hL : L ≤ 258) (hD1 : 1 ≤ D) : ∀ (m j : Nat) (out : List Nat) (h : H) (ov : AV), j + m = L → D ≤ out.length → out.length + m ≤ 10000 → Tx hb h x ov out → h.get c = some [l0, .int .i64 L, .int .i64 D] → c ≠ x → ov.id? ≠ some c →
 ∃h' ov',Lp AP.A [0,3,82,83] AP.f353L0 [(0,.aC x 0),(3,.aC c 0),(82,.int .i64 L),(83,.int .i64 j)] h=some (.exit 0,[(0,.aC x 0),(3,.aC c 0),(82,.int .i64 L),(83,.int .i64 L),(84,.bool false)],h')∧Tx hb h' x ov' (IG D m out)∧h.next≤h'.next
 | 0, j, out, h, ov, hj, hDo, hs, v, gc, hcx, hoc => by
   obtain rfl:j=L:=by omega
   refine⟨h,ov,sV ?_,v,uH _⟩
   simp (disch:=omega)only[go_sem,vz,AP.f353L0]
 | m + 1, j, out, h, ov, hj, hDo, hs, v, gc, hcx, hoc => by
   have cj:(j:Int)<(L:Int):=by omega
   have gx:=v.gx
   have lc:=h.lt _ _ gc
   obtain⟨y,hy⟩:∃y,out[out.length-D]?=some y:=⟨_,RY (by omega)⟩
   have gy:=OW hy
   have gd:out.getD (out.length-D) 0=y:=by rw[RW,hy];rfl
   have y8:=v.HJ y (uL hy)
   obtain⟨h1,v1,p1,p2,p3,p4,p5,t1,n1,k1⟩:=v.push y y8 (by omega)
   obtain ⟨h', ov', L', t2, n2⟩ := Eh hL hD1 m (j + 1) (out ++ [y]) (h1.set x [v1]) v1 (by omega) (by simp; omega) (by simp; omega) t1 (by rw [k1 c lc hcx hoc, gc]) hcx (fun q => by
    have:=t1.own.lt q
    have e:=t1.nx
    have:(h1.set x [v1]).get c=h.get c:=k1 c lc hcx hoc
    have q2:=t1.own.2
    rcases q2 with ⟨q3,_⟩|⟨i2,q3,q4,_⟩
    · rw[q3]at q;cases q
    · rw [q3] at q
      obtain rfl:=uv q
      rw[this,gc]at q4
      have:=Sp List.length (uv q4)
      have q5:=uv q4
      cases hbo:xO (out++[y])with
      |nil=>rw[hbo]at q5;cases q5
      | cons a r =>
        cases hout:out with
        |nil=>rw[hout]at hDo;simp at hDo;omega
        | cons o r2 =>
          have hl:(xO (out++[y])).length=3:=by rw[←q5];rfl
          have e2:(xO (out++[y]))[1]?=some (.int .i64 L):=by rw[←q5];rfl
          have e3:∃z:Nat,(xO (out++[y]))[1]?=some (.int .u8 z):=by
           simp only[xO,uQ]
           rw[Mk]at hl
           rw[RY (by omega)]
           exact⟨_,rfl⟩
          obtain⟨z,e3⟩:=e3
          rw[e2]at e3
          cases uv e3)
   have e1:((j+1:Nat):Int)=(j:Int)+1:=by omega
   have e2:(out.length:Int)-(D:Int)=((out.length-D:Nat):Int):=by omega
   have bl:=Mk out
   rw[IG,gd]
   refine⟨h',ov',sW ?_ L',t2,by omega⟩
   rw[e1]
   rcases v.own.2 with ⟨_,q⟩|⟨id,q1,q2,q3,q4⟩
   · omega
   subst q1
   have ib:cM (.int .i64 ((out.length:Int)-(D:Int))) out.length=some (out.length-D):=by
    rw[e2]
    have:((out.length-D:Nat):Int)<out.length:=by omega
    simp [cM,ny,this]
   have dl:(D:Int)≤100000:=by omega
   clear v t1 t2 L' k1 hoc e2
   generalize xO out=BO at *
   simp (disch:=omega)only[go_sem,vz,AP.f353L0,cj,gx,gc,ze,ib,q2,gy,bl,p1,p2,p3,p4,p5]
def HB (out:List Nat) (t:Tok):Option (List Nat):=match wc out.length t with
 |none=>none
 |some s'=>if 8192<s' then none else some (vL out t)
theorem Ow {hb h : H} {x : Nat} {ov : AV} {out : List Nat} (v : Tx hb h x ov out) (t : Tok) (hl : out.length ≤ 8192) :
 ∃h' ov',aQ AP.A 353 [.aC x 0,.agg [.int .i64 t.lit,.int .i64 t.len,.int .i64 t.vP]] h=some (.bool (HB out t).isSome,h')∧Tx hb h' x ov' ((HB out t).getD out)∧h.next≤h'.next:=by
 obtain⟨g,eg⟩:∃g,g=h.alloc [.int .i64 t.lit,.int .i64 t.len,.int .i64 t.vP]:=⟨_,rfl⟩
 have lx:=h.lt _ _ v.gx
 have gn:g.next=h.next+1:=by rw[eg];simp
 have gk:∀i,i<h.next→g.get i=h.get i:=fun i hi=>by rw[eg,vn (by omega)]
 have gc:g.get h.next=some [.int .i64 t.lit,.int .i64 t.len,.int .i64 t.vP]:=by rw[eg,vp rfl]
 have v1:Tx hb g x ov out:=⟨fun i c hi=>by
  have e:=v.ext i c hi
  have:=h.lt _ _ e
  rw[gk i this,e],by rw[eg];simpa using v.fl,by rw[gn,eg];have:=v.Ji;simp;omega,by rw[gk x lx,v.gx],v.lx,v.own.mono (by rw[eg];simp) fun i hi=>gk i (v.own.lt hi).2,v.nx,v.HJ⟩
 have gx:=v1.gx
 have hov:ov.id?≠some h.next:=fun q=>by have:=(v.own.lt q).2;omega
 have ln:iP false ov=some (.int .i64 out.length):=v.own.rd.len
 unfold HB wc
 by_cases c0:t.len=0
 · rw [if_pos c0]
   rw[c0]at eg gc
   rw[c0]
   by_cases c1:t.lit<0∨255<t.lit∨t.vP≠0
   · rw [if_pos c1]
     refine⟨g,ov,tq (fn:=AP.f353) (e:=[(4,.bool false)]) (vs:=[.bool false]) rfl rfl rfl ?_ rfl,v1,by omega⟩
     clear v v1
     by_cases d1:t.lit<0
     · simp (disch:=omega)only[go_sem,vz,AP.f353,←eg,gc,d1]
     · by_cases d2:255<t.lit
       · simp (disch:=omega)only[go_sem,vz,AP.f353,←eg,gc,d1,d2]
       · have d3:(t.vP !=0)=true:=by simp;omega
         simp (disch:=omega)only[go_sem,vz,AP.f353,←eg,gc,d1,d2,d3]
   · rw[if_neg c1]
     have d1:¬t.lit<0:=by omega
     have d2:¬255<t.lit:=by omega
     have d3:(t.vP !=0)=false:=by simp;omega
     by_cases c2:(8192:Int)<(out.length:Int)+1
     · simp only[if_pos c2]
       refine⟨g,ov,tq (fn:=AP.f353) (e:=[(4,.bool false)]) (vs:=[.bool false]) rfl rfl rfl ?_ rfl,v1,by omega⟩
       have d4:(8192:Int)≤(out.length:Int):=by omega
       clear v v1
       simp (disch:=omega)only[go_sem,vz,AP.f353,←eg,gc,d1,d2,d3,gx,ln,d4]
     · simp only[if_neg c2]
       obtain⟨b,hb8⟩:∃b:Nat,t.lit=b:=R4 (by omega)
       obtain⟨h1,w1,p1,p2,p3,p4,p5,t1,n1,k1⟩:=v1.push b (by omega) (by omega)
       have eo:vL out t=out++[b]:=by unfold vL;rw[if_pos c0,hb8];rfl
       refine⟨h1.set x [w1],w1,tq (fn:=AP.f353) (e:=[(4,.bool true)]) (vs:=[.bool true]) rfl rfl rfl ?_ rfl,by simp only[Option.getD_some];rw[eo];exact t1,by omega⟩
       have d4:¬(8192:Int)≤(out.length:Int):=by omega
       rw[hb8]at gc d1 d2 eg ⊢
       have wb1:IntKind.wrap .u8 (b:Int)=b:=Q8 (by omega)
       clear v v1 t1 k1
       simp (disch:=omega)only[go_sem,vz,AP.f353,←eg,gc,d1,d2,d3,gx,ln,d4,wb1,p1,p2,p3,p4,p5]
 · rw [if_neg c0]
   have cb:(t.len==0)=false:=by simp;omega
   by_cases c1:t.len<3∨258<t.len∨t.vP<1∨32768<t.vP∨(out.length:Int)<t.vP∨t.lit≠0
   · rw [if_pos c1]
     refine⟨g,ov,tq (fn:=AP.f353) (e:=[(4,.bool false)]) (vs:=[.bool false]) rfl rfl rfl ?_ rfl,v1,by omega⟩
     clear v v1
     by_cases d1:t.lit=0
     · have d1':(t.lit !=0)=false:=by simp [d1]
       by_cases d2:t.len<3
       · simp (disch:=omega)only[go_sem,vz,AP.f353,←eg,gc,cb,d1',d2]
       · by_cases d3:258<t.len
         · simp (disch:=omega)only[go_sem,vz,AP.f353,←eg,gc,cb,d1',d2,d3]
         · by_cases d4:t.vP<1
           · simp (disch:=omega)only[go_sem,vz,AP.f353,←eg,gc,cb,d1',d2,d3,d4]
           · have d5:ES out.length 32768<t.vP:=by unfold ES;split<;>omega
             simp (disch:=omega)only[go_sem,vz,AP.f353,←eg,gc,cb,d1',d2,d3,d4,gx,ln,Aj,yS,d5]
     · have d1':(t.lit !=0)=true:=by simp [d1]
       simp (disch:=omega)only[go_sem,vz,AP.f353,←eg,gc,cb,d1']
   · rw [if_neg c1]
     have d1:(t.lit !=0)=false:=by simp;omega
     have d2:¬t.len<3:=by omega
     have d3:¬258<t.len:=by omega
     have d4:¬t.vP<1:=by omega
     have d5:¬ES out.length 32768<t.vP:=by unfold ES;split<;>omega
     by_cases c2:(8192:Int)<(out.length:Int)+t.len
     · simp only[if_pos c2]
       refine⟨g,ov,tq (fn:=AP.f353) (e:=[(4,.bool false)]) (vs:=[.bool false]) rfl rfl rfl ?_ rfl,v1,by omega⟩
       have sb:t.len≤258:=by omega
       have sb2:0≤t.len:=by omega
       clear v v1
       simp (disch:=omega)only[go_sem,vz,AP.f353,←eg,gc,cb,d1,d2,d3,d4,gx,ln,Aj,yS,d5,c2]
     · simp only[if_neg c2]
       obtain⟨L,hL⟩:∃y:Nat,t.len=y:=R4 (by omega)
       obtain⟨D,hD⟩:∃y:Nat,t.vP=y:=R4 (by omega)
       rw[hL,hD]at gc eg
       obtain⟨h',ov',L1,t2,n2⟩:=Eh (hb:=hb) (c:=h.next) (l0:=.int .i64 t.lit) (L:=L) (D:=D) (by omega) (by omega) L 0 out g ov (by omega) (by omega) (by omega) v1 gc (by omega) hov
       have L1':Lp AP.A [0,3,82,83] AP.f353L0 [(0,.aC x 0),(3,.aC h.next 0),(82,.int .i64 L),(83,.int .i64 0)] g=_:=L1
       have eo:vL out t=IG D L out:=by
        unfold vL;rw[if_neg c0,hL,hD];rfl
       refine⟨h',ov',tq (fn:=AP.f353) (e:=[(4,.bool true)]) (vs:=[.bool true]) rfl rfl rfl ?_ rfl,by simp only[Option.getD_some];rw[eo];exact t2,by omega⟩
       rw[hL]at cb d2 d3 c2 ⊢
       rw[hD]at d4 d5 ⊢
       have sb:L≤258:=by omega
       clear v v1 t2 L1
       simp (disch:=omega)only[go_sem,vz,AP.f353,←eg,gc,cb,d1,d2,d3,d4,gx,ln,Aj,yS,d5,c2,rR,L1']
end Ab
