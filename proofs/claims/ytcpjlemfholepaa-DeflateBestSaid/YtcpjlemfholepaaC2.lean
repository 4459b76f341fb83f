/- Part C2. -/
import Derived.Test.YtcpjlemfholepaaC1
set_option linter.unusedSimpArgs false
set_option linter.unusedVariables false
namespace Ab
open Go
theorem dt {p:Prop} [Decidable p] (h:p):decide p=true:=Ry h
theorem df {p:Prop} [Decidable p] (h:¬p):decide p=false:=Rw h
theorem Qp {a b:Int} (h:a=b):(a==b)=true:=by simp [h]
theorem Qo {a b:Int} (h:¬a=b):(a==b)=false:=by simp [h]
theorem Qt {a b:Int} (h:¬a=b):(a !=b)=true:=by simp [h]
theorem Qs {a b:Int} (h:a=b):(a !=b)=false:=by simp [h]
theorem wi {n:Int} (h: -9223372036854775808≤n∧n<9223372036854775808):IntKind.wrap .i64 n=n:=tc h.1 (by omega)
theorem wb {n:Int} (h:0≤n∧n<256):IntKind.wrap .u8 n=n:=by
 simp [IntKind.wrap,IntKind.bits,IntKind.signed];omega
theorem Oq {i:Int} {n:Nat} (h:0≤i∧i<n):cG (.int .i64 i) n=some i.toNat:=by
 simp [cG,nj,h]
def at_:Nat→aF→aF
 |0,.seq a _=>a
 |0,c=>c
 |n+1,.seq _ b=>at_ n b
 |_+1,c=>c
def LP:Nat→aF→aF
 |0,c=>c
 |n+1,.seq _ b=>LP n b
 |_+1,c=>c
theorem GO (a b:aF):at_ 0 (.seq a b)=a:=rfl
theorem Ii (n:Nat) (a b:aF):at_ (n+1) (.seq a b)=at_ n b:=rfl
theorem Oh (c:aF):LP 0 c=c:=rfl
theorem Og (n:Nat) (a b:aF):LP (n+1) (.seq a b)=LP n b:=rfl
theorem AB {h:H} {id i:Nat} (e:¬i=id):(h.del id).get i=h.get i:=by rw[H.dJ,if_neg e]
theorem AU (h:H):h.dG.next=h.next:=um rfl rfl
theorem AF (h:H):h.dG.floor=h.next:=um rfl rfl
theorem AH (h:H) (i:Nat):h.dG.get i=h.get i:=um rfl rfl
theorem EF (h:H) (i:Nat):(h.del i).next=h.next:=um rfl rfl
theorem Ev (h:H) (i:Nat):(h.del i).floor=h.floor:=um rfl rfl
theorem vi {h:H} {cs:List AV} {i:Nat} (e:i=h.next):(h.alloc cs).get i=some cs:=by rw[H.aV,if_pos e]
theorem ve {h:H} {cs:List AV} {i:Nat} (e:¬i=h.next):(h.alloc cs).get i=h.get i:=by rw[H.aV,if_neg e]
theorem vp {h:H} {cs:List AV} {id i:Nat} (e:i=id):(h.set id cs).get i=(h.get i).map fun _=>cs:=by rw[H.dd,if_pos e,e]
theorem uX {h:H} {cs:List AV} {id i:Nat} (e:¬i=id):(h.set id cs).get i=h.get i:=by rw[H.dd,if_neg e]
def wS {α:Type} (b:Bool) (x:α):Option α:=if b then some x else none
theorem Hv {α:Type} (x:α):wS true x=some x:=rfl
theorem Kc (h:H) (id off n:Nat) (v cs:List AV):tF h id off n v (some cs)=wS (decide (h.floor≤id)&&(decide (v.length=n)&&(decide (off+n≤cs.length)&&AV.aB v))) (h.set id (setFrom cs off v)):=by
 simp only[tF,uu,wS]
 by_cases c:h.floor≤id∧v.length=n∧off+n≤cs.length∧AV.aB v=true
 · rw[if_pos c];obtain⟨c1,c2,c3,c4⟩:=c;simp [c1,c2,c3,c4]
 · rw[if_neg c,if_neg];simpa using c
theorem Kw (n:Nat) (cs:List AV) (off:Nat):gH true n cs off=wS (decide (off+n≤cs.length)) (.agg ((cs.drop off).take n)):=by
 simp only[gH,wS,if_true,decide_eq_true_eq]
theorem Js (z:List AV):dH z []=some z:=rfl
def FA (r:List (Nat×Nat×AV)) (p:Option (List AV)):Option (List AV):=p.bind fun z=>dH z r
theorem HE (r:List (Nat×Nat×AV)) (z:List AV):FA r (some z)=dH z r:=rfl
theorem Jr (z:List AV) (o n:Nat) (v:AV) (r:List (Nat×Nat×AV)):dH z ((o,n,v)::r)=FA r (wS (decide (v.cells.length=n)&&(decide (o+n≤z.length)&&AV.aB v.cells)) (setFrom z o v.cells)):=by
 simp only[dH,wS]
 by_cases c:v.cells.length=n∧o+n≤z.length∧AV.aB v.cells=true
 · rw[if_pos c];obtain⟨c1,c2,c3⟩:=c;simp [c1,c2,c3,FA]
 · rw[if_neg c,if_neg]; · rfl
   simpa using c
def Fe (p:Option (List AV)) (f:Nat→AV):Option (List AV×(Nat→AV)):=p.bind fun cs=>some (cs,f)
theorem Je (cs:List AV) (f:Nat→AV):Fe (some cs) f=some (cs,f):=rfl
theorem Du (e:Env) (z:List AV):aX e (.alloc z)=Fe (wS (AV.aB z) z) (fun i=>.aC i 0):=by
 simp only[aX,wS];split<;>rfl
theorem Hs (e:Env) (n:Nat) (x:X):aX e (.box n x)=Fe (wS (decide ((x.ev e).cells.length=n)&&AV.aB (x.ev e).cells) (x.ev e).cells) (fun i=>.aC i 0):=by
 simp only[aX,wS]
 by_cases c:(x.ev e).cells.length=n∧AV.aB (x.ev e).cells=true
 · rw[if_pos c];simp [c,Fe]
 · rw[if_neg c,if_neg]; · rfl
   simpa using c
theorem Ch (e:Env) (sz len:Nat) (z:List AV) (ps:List (Nat×X)):aX e (.cw sz len z ps)=Fe (FA (ps.map fun p=>(p.1* sz,sz,p.2.ev e)) (wS (decide (z.length=sz)&&(decide (0<sz)&&AV.aB z)) (dx len z))) (fun i=>.aD i 0 len sz):=by
 simp only[aX,wS]
 by_cases c:z.length=sz∧0<sz∧AV.aB z=true
 · rw[if_pos c];simp [c,Fe,FA]
 · rw[if_neg c,if_neg]; · rfl
   simpa using c
theorem J0 (z:List AV):dx 0 z=[]:=rfl
theorem JZ (n:Nat) (z:List AV):dx (n+1) z=z++dx n z:=rfl
def NU (vJ:List Nat) (e:Env) (h:H) (b:Bool):dk:=if b then some (.normal,ax e vJ,h)else none
theorem JA (vJ:List Nat) (e:Env) (h:H):NU vJ e h true=some (.normal,ax e vJ,h):=rfl
def Qq (c:ae) (ops:List aj) (fl:List (Nat×List Nat)) (vJ:List Nat) (p:Option (Env×H×List H)):dk:=p.bind fun q=>NU vJ q.1 q.2.1 (aY c ops q.1 q.2.2 fl)
theorem Lj (c:ae) (ops:List aj) (fl:List (Nat×List Nat)) (vJ:List Nat) (e:Env) (h:H) (gs:List H):Qq c ops fl vJ (some (e,h,gs))=NU vJ e h (aY c ops e gs fl):=rfl
theorem Hq (c:ae) (l:bE) (ord:List Nat) (ops:List aj) (x:Nat×List Nat) (fl:List (Nat×List Nat)) (vJ:List Nat) (e:Env) (h:H):aK c l (.iw ord ops (x::fl) vJ) e h=Qq c ops (x::fl) vJ (aM c ops e h):=by
 rw[aK];rfl
theorem LO (c:ae) (ops:List aj) (e:Env) (gs:List H):aY c ops e gs []=true:=rfl
def PW (c:ae) (ops:List aj) (e:Env) (gs:List H) (i:Nat) (ks:List Nat):Bool:=ks.all (bC c ops e gs i)
theorem LN (c:ae) (ops:List aj) (e:Env) (gs:List H) (i:Nat) (ks:List Nat) (r:List (Nat×List Nat)):aY c ops e gs ((i,ks)::r)=(PW c ops e gs i ks&&aY c ops e gs r):=rfl
theorem LK (c:ae) (ops:List aj) (e:Env) (gs:List H) (i:Nat):PW c ops e gs i []=true:=rfl
def Od (c : ae) (e : Env) (o : Option aj) (g : Option H) : Bool := match o, g with
 | some o, some g =>
   if o.op.aH then
    match o.dst.map (look e)with
    |some (.bJ [])=>true
    | some v => (match v.id?, aX e o.op with
      |some id,some b=>(match g.get id with|some cs=>AV.fG cs b.1|none=>false)
      |_,_=>false)
    |none=>false
   else match o.dst.map (look e)with
    |some v=>(match ai c o e g with|some (u,_)=>AV.beq u v|none=>false)
    |none=>false
 |_,_=>false
theorem LJ (c:ae) (ops:List aj) (e:Env) (gs:List H) (i k:Nat) (r:List Nat):PW c ops e gs i (k::r)=(Od c e (ops[i]?) (gs[k]?)&&PW c ops e gs i r):=by
 unfold PW
 rw[List.all_cons]
 congr 1
def Ql (v:AV) (p:Option (AV×H)):Bool:=match p with|some (u,_)=>AV.beq u v|none=>false
theorem LM (v u:AV) (h:H):Ql v (some (u,h))=AV.beq u v:=rfl
def Ol (b:Bool) (x y:Bool):Bool:=if b then x else y
theorem LG (x y:Bool):Ol false x y=y:=rfl
def Dq (c:ae) (e:Env) (o:Option aj) (g:Option H):Bool:=Od c e o g
theorem LF (c:ae) (e:Env) (d:Nat) (op:bR) (g:H):Od c e (some ⟨some d,op,none⟩) (some g)=Ol op.aH (Dq c e (some ⟨some d,op,none⟩) (some g)) (Ql (look e d) (ah c e g op)):=by
 unfold Dq Od Ol
 dsimp only
 cases op.aH<;>rfl
theorem LC (c:ae) (e:Env) (d:Nat) (op:bR) (k:Nat) (w:Bool) (g:H):Od c e (some ⟨some d,op,some (k,w)⟩) (some g)=Ol op.aH (Dq c e (some ⟨some d,op,some (k,w)⟩) (some g)) (Ql (look e d) (kG w c e g op (look e k))):=by
 unfold Dq Od Ol
 dsimp only
 cases op.aH with
 |true=>rfl
 |false=>rw[mu];rfl
mutual
theorem beq_refl:∀a:AV,AV.beq a a=true
 | .bot=>rfl
 | .bool b=>by simp [AV.beq]
 | .int k n=>by simp [AV.beq]
 | .str s=>B7 s
 | .b9=>rfl
 | .aC i o=>by simp [AV.beq]
 | .aJ c o=>by simp [AV.beq,wK c]
 | .aO=>rfl
 | .aD i o l z=>by simp [AV.beq]
 | .aU t c o l z=>by simp [AV.beq,wK c]
 | .fn f a b=>by simp [AV.beq,wK a,wK b]
 | .eE=>rfl
 | .iface t v=>by simp [AV.beq,beq_refl v]
 | .eF=>rfl
 | .agg c=>by simp [AV.beq,wK c]
 | .bJ c=>by simp [AV.beq,wK c]
theorem wK:∀l:List AV,AV.fG l l=true
 |[]=>rfl
 |a::l=>by simp [AV.fG,beq_refl a,wK l]
end
theorem LH (x y:Bool):Ol true x y=x:=rfl
def Ov (c:Option (List AV)) (d:List AV):Bool:=match c with|some cs=>AV.fG cs d|none=>false
theorem Lg (c d:List AV):Ov (some c) d=AV.fG c d:=rfl
def EX (v : AV) (b : Option (List AV × (Nat → AV))) (g : H) : Bool := match v with
 | .bJ []=>true
 | v => match v.id?, b with
   |some id,some b=>Ov (g.get id) b.1
   |_,_=>false
theorem Kb (b:Option (List AV×(Nat→AV))) (g:H):EX (.bJ []) b g=true:=rfl
theorem Ka (i o:Nat) (cs:List AV) (f:Nat→AV) (g:H):EX (.aC i o) (some (cs,f)) g=Ov (g.get i) cs:=rfl
theorem J9 (i o l z:Nat) (cs:List AV) (f:Nat→AV) (g:H):EX (.aD i o l z) (some (cs,f)) g=Ov (g.get i) cs:=rfl
theorem Cd {c : ae} {e : Env} {d : Nat} {op : bR} {gd : Option (Nat × Bool)} {g : H} (hb : op.aH = true) : Dq c e (some ⟨some d, op, gd⟩) (some g) = EX (look e d) (aX e op) g := by
 unfold Dq Od
 dsimp only
 rw[hb,if_pos rfl]
 show (match some (look e d) with
  |some (.bJ [])=>true
  | some v => (match v.id?, aX e op with
    |some id,some b=>(match g.get id with|some cs=>AV.fG cs b.1|none=>false)
    |_,_=>false)
  |none=>false)=_
 generalize look e d=v
 unfold EX Ov
 cases v with
 |bJ vs=>cases vs<;>rfl
 |_=>cases aX e op<;>rfl
theorem C7 (c:ae) (e:Env) (d:Nat) (z:List AV) (gd:Option (Nat×Bool)) (g:H):Dq c e (some ⟨some d,.alloc z,gd⟩) (some g)=EX (look e d) (aX e (.alloc z)) g:=Cd rfl
theorem Gp (c:ae) (e:Env) (d n:Nat) (x:X) (gd:Option (Nat×Bool)) (g:H):Dq c e (some ⟨some d,.box n x,gd⟩) (some g)=EX (look e d) (aX e (.box n x)) g:=Cd rfl
theorem BT (c:ae) (e:Env) (d n m:Nat) (z:List AV) (ps:List (Nat×X)) (gd:Option (Nat×Bool)) (g:H):Dq c e (some ⟨some d,.cw n m z ps,gd⟩) (some g)=EX (look e d) (aX e (.cw n m z ps)) g:=Cd rfl
theorem Ec (c:ae) (e:Env) (d n m:Nat) (z:List AV) (x y:X) (gd:Option (Nat×Bool)) (g:H):Dq c e (some ⟨some d,.iz n m z x y,gd⟩) (some g)=EX (look e d) (aX e (.iz n m z x y)) g:=Cd rfl
theorem E9 (b:Bool):AV.beq (.bool b) (.bool b)=true:=by simp [AV.beq]
theorem Fc:AV.beq (.bJ []) (.bJ [])=true:=rfl
theorem Fa:AV.beq .aO .aO=true:=rfl
theorem Ds:AV.beq .b9 .b9=true:=rfl
theorem JF (sz id off len:Nat) (i:AV):fD sz (.aD id off len sz) i=tP id off sz (cG i len):=by simp [fD,tP]
theorem JE (t:Bool) (cells:List AV) (sz off len:Nat) (i:AV):fD sz (.aU t cells off len sz) i=tQ cells off sz (cG i len):=by simp [fD,tQ]
def yU (n:Nat) (z:List AV):List AV:=dx n z
def Lq (sz bytes:Nat) (zero:List AV) (l c:AV):Option (List AV×(Nat→AV)):=
 match l,c with
 | .int .i64 l,.int .i64 c=>Fe (wS (decide (0≤l)&&(decide (l≤c)&&(decide (c≤9223372036854775807)&&(decide ((bytes:Int)* c≤281474976710656)&&(decide (zero.length=sz)&&(decide (0<sz)&&AV.aB zero)))))) (yU c.toNat zero)) (fun i=>.aD i 0 l.toNat sz)
 |_,_=>none
theorem EE (sz bytes:Nat) (zero:List AV) (l c:Int):Lq sz bytes zero (.int .i64 l) (.int .i64 c)=Fe (wS (decide (0≤l)&&(decide (l≤c)&&(decide (c≤9223372036854775807)&&(decide ((bytes:Int)* c≤281474976710656)&&(decide (zero.length=sz)&&(decide (0<sz)&&AV.aB zero)))))) (yU c.toNat zero)) (fun i=>.aD i 0 l.toNat sz):=rfl
theorem Ff (e : Env) (sz bytes : Nat) (zero : List AV) (l c : X) : aX e (.iz sz bytes zero l c) = Lq sz bytes zero (l.ev e) (c.ev e) := by
 simp only[aX]
 cases l.ev e with
 | int k l => cases k <;> cases c.ev e with
   | int k2 c => cases k2 <;> first
     |rfl
     | (simp only [EE, wS]
        by_cases q:0≤l∧l≤c∧c≤9223372036854775807∧(bytes:Int)* c≤281474976710656∧zero.length=sz∧0<sz∧AV.aB zero=true
        · rw[if_pos q];obtain⟨q1,q2,q3,q4,q5,q6,q7⟩:=q
          rw[if_pos]
          · rfl
          · simp [q1,q2,q3,q4,q5,q6,q7]
        · rw[if_neg q,if_neg]
          · rfl
          · simpa using q)
   |_=>rfl
 |_=>cases c.ev e<;>rfl
theorem yZ (i o l z:Nat):iI false (.aD i o l z)=some (.int .i64 l):=rfl
theorem El:iI false .aO=some (.int .i64 0):=rfl
theorem GL (t:Bool) (c:List AV) (o l z:Nat):iI false (.aU t c o l z)=some (.int .i64 l):=rfl
theorem vO (s:ByteArray):iI true (.str s)=some (.int .i64 s.size):=rfl
theorem Kk (a b:Nat):((a:Int)+(b:Int)).toNat=a+b:=by omega
theorem Hj (a:Nat):((a:Int)).toNat=a:=by omega
def xD (s:ByteArray) (i:Nat):Nat:=((s[i]?).map (·.toNat)).getD 0
theorem Ci (s:ByteArray) (i:Nat):xD s i<256:=by
 unfold xD
 cases s[i]? with
 |none=>simp
 |some b=>simp;exact b.toNat_lt
theorem zC {s:ByteArray} {i:Int} (h:0≤i∧i<s.size):lI (.str s) (.int .i64 i)=some (.int .u8 (xD s i.toNat:Nat)):=by
 have hi:i.toNat<s.size:=by omega
 simp [lI,Oq h,xD,hi]
def Bv {α:Type} (b:Bool) (x y:Option α):Option α:=if b then x else y
theorem J4 {α:Type} (x y:Option α):Bv true x y=x:=rfl
theorem J3 {α:Type} (x y:Option α):Bv false x y=y:=rfl
def Oc (n o k:Nat) (p:Option (List AV)):Option (Nat×List AV):=p.bind fun cs=>wS (decide (o+k* n≤cs.length)) (k,(cs.drop o).take (k* n))
theorem J8 (n o k:Nat) (cs:List AV):Oc n o k (some cs)=wS (decide (o+k* n≤cs.length)) (k,(cs.drop o).take (k* n)):=rfl
theorem Ly (h:H) (n p o k:Nat):aR h n (.aD p o k n)=Oc n o k (h.get p):=by
 simp only[aR,if_true,Oc]
 cases h.get p with
 |none=>rfl
 |some cs=>simp only[uu,wS,decide_eq_true_eq]
theorem Lw (h:H) (t:Bool) (n o k:Nat) (cs:List AV):aR h n (.aU t cs o k n)=wS (decide (o+k* n≤cs.length)) (k,(cs.drop o).take (k* n)):=by
 simp only[aR,if_true,wS,decide_eq_true_eq]
theorem Lx (h:H) (n:Nat):aR h n .aO=some (0,[]):=um rfl rfl
theorem Lz (h:H) (s:ByteArray):aR h 1 (.str s)=some (s.size,s.data.toList.map fun b=>.int .u8 b.toNat):=um rfl rfl
def Ot (h:H) (n z:Nat) (a:AV) (p:Option (Nat×List AV)):Option (AV×H):=p.bind fun r=>dC h n z a r.1 r.2
theorem Jb (h:H) (n z:Nat) (a:AV) (m:Nat) (bs:List AV):Ot h n z a (some (m,bs))=dC h n z a m bs:=rfl
theorem Lf (h:H) (n z:Nat) (a b:AV):ke h n z a b=Ot h n z a (aR h n b):=um rfl rfl
def P7 (h:H) (n z p o k m:Nat) (bs:List AV) (q:Option (List AV)):Option (AV×H):=q.bind fun cs=>
 Bv (decide (o+(k+m)* n≤cs.length)) (some (.aD p o (k+m) n,h.set p (setFrom cs (o+k* n) bs))) (Bv (decide (o+k* n=cs.length)&&roomy z (k+m)) (some (.aD h.next 0 (k+m) n,(h.del p).alloc (cs.drop o++bs))) none)
theorem Lb (h:H) (n z p o k m:Nat) (bs cs:List AV):P7 h n z p o k m bs (some cs)=Bv (decide (o+(k+m)* n≤cs.length)) (some (.aD p o (k+m) n,h.set p (setFrom cs (o+k* n) bs))) (Bv (decide (o+k* n=cs.length)&&roomy z (k+m)) (some (.aD h.next 0 (k+m) n,(h.del p).alloc (cs.drop o++bs))) none):=rfl
theorem Le (h : H) (n z p o k m : Nat) (bs : List AV) : dC h n z (.aD p o k n) m bs = Bv (decide (m = 0)) (some (.aD p o k n, h)) (Bv (AV.aB bs && (decide (0 < n) && decide (h.floor ≤ p))) (P7 h n z p o k m bs (h.get p)) none) := by
 unfold dC Bv
 by_cases c:m=0
 · simp [c]
 · rw [if_neg c]
   simp only[decide_eq_true_eq,if_neg c]
   by_cases c1:AV.aB bs=false∨n=0
   · rw[if_pos c1,if_neg]
     rcases c1 with c1|c1
     · simp [c1]
     · simp [c1]
   · rw[if_neg c1]
     have q1:AV.aB bs=true:=by cases q:AV.aB bs with|true=>rfl|false=>exact absurd (.inl q) c1
     by_cases c2:h.floor≤p
     · have qq:(AV.aB bs&&(decide (0<n)&&decide (h.floor≤p)))=true:=by simp [q1,c2];omega
       simp only[true_and,if_pos c2,qq,if_true,P7,Bv]
       cases h.get p with
       |none=>rfl
       |some cs=>simp only[uu,decide_eq_true_eq,uy]
     · have qq:(AV.aB bs&&(decide (0<n)&&decide (h.floor≤p)))=false:=by simp [c2]
       simp only[true_and,if_neg c2,qq];rfl
theorem Ld (h:H) (n z m:Nat) (bs:List AV):dC h n z .aO m bs=Bv (decide (m=0)) (some (.aO,h)) (Bv (AV.aB bs&&(decide (0<n)&&roomy z m)) (some (.aD h.next 0 m n,h.alloc bs)) none):=by
 unfold dC Bv
 by_cases c:m=0
 · simp [c]
 · rw[if_neg c]
   simp only[decide_eq_true_eq,if_neg c]
   by_cases c1:AV.aB bs=false∨n=0
   · rw[if_pos c1,if_neg]
     rcases c1 with c1|c1
     · simp [c1]
     · simp [c1]
   · rw[if_neg c1]
     have q1:AV.aB bs=true:=by cases q:AV.aB bs with|true=>rfl|false=>exact absurd (.inl q) c1
     have q2:0<n:=by omega
     simp [q1,q2]
theorem zG {b n:Nat} (h:1≤b∧(n+n/4+512)* b≤281474976710656):roomy b n=true:=by simp only[roomy,h.1,h.2,and_self,decide_true]
theorem Lv {h:H} {n p o k:Nat} {m:Int} {cs:List AV} (hg:h.get p=some cs) (hn:0<n) (hk:o+k* n≤cs.length) (hm:0≤m∧m.toNat≤(cs.length-o)/n):rE h n (.aD p o k n) none (some (.int .i64 m)) none=some (.aD p o m.toNat n):=by
 have h1:k≤(cs.length-o)/n:=by rw[Nat.le_div_iff_mul_le hn];omega
 simp only[rE,hn,and_self,if_true,hg,uu,aA]
 rw[if_pos ⟨by omega,h1⟩]
 have h3:jS (.int .i64 m) ((cs.length-o)/n)=some m.toNat:=by
  simp only[jS,nj,uu]
  rw[if_pos]
  omega
 simp [h3]
theorem Jv {α:Type} {C:α→List AV} {n:Nat} (hC:∀x,(C x).length=n):∀{l:List α} {i f:Nat} {x:α},l[i]?=some x→f<n→(l.flatMap C)[i* n+f]?=(C x)[f]?
 |[],i,f,x,h,_=>by simp at h
 | y :: l, 0, f, x, h, hf => by
   obtain rfl:y=x:=by simpa using h
   rw[Rz,Nat.zero_mul,uE,RD (by rw[hC];exact hf)]
 | y :: l, i + 1, f, x, h, hf => by
   rw[Rz,RE (by rw[hC,uP];omega),hC]
   rw[show(i+1)* n+f-n=i* n+f by rw[uP];omega]
   exact Jv hC (by simpa using h) hf
theorem Be {α:Type} {C:α→List AV} {n:Nat} (hC:∀x,(C x).length=n):∀l:List α,(l.flatMap C).length=l.length* n
 |[]=>by simp
 |y::l=>by rw[Rz,uT,hC,Be hC l,Rt,uP];omega
theorem Ew {α:Type} {C:α→List AV} {n:Nat} (hC:∀x,(C x).length=n):∀{l:List α} {i:Nat} {x:α},l[i]?=some x→((l.flatMap C).drop (i* n)).take n=C x
 |[],i,x,h=>by simp at h
 | y :: l, 0, x, h => by
   obtain rfl:y=x:=by simpa using h
   rw[Rz,Nat.zero_mul,RN,List.take_append_of_le_length (by rw[hC];omega),uO (by rw[hC];omega)]
 | y :: l, i + 1, x, h => by
   rw[Rz,List.drop_append,List.drop_of_length_le (by rw[hC,uP];omega),List.nil_append,hC,show(i+1)* n-n=i* n by rw[uP];omega]
   exact Ew hC (by simpa using h)
def yn (n:Nat) (h:H) (v:AV) (k:Nat) (cs:List AV):Prop:=aR h n v=some (k,cs)∧cs.length=k* n∧∀s,v≠.str s
theorem Rd.Qu {h:H} {v:AV} {cs:List AV} (r:Rd h v cs):yn 1 h v cs.length cs:=⟨r.1,by omega,r.2⟩
theorem yn.len {n:Nat} {h:H} {v:AV} {k:Nat} {cs:List AV} (r:yn n h v k cs):iI false v=some (.int .i64 k):=by
 obtain⟨r,_,hs⟩:=r
 unfold aR at r
 split at r
 · obtain⟨h1,h2⟩:=ui (uf r);subst h1;rfl
 · exact absurd rfl (hs _)
 · split at r
   · simp only[ue]at r
     obtain⟨c,_,r⟩:=r
     split at r
     · obtain⟨h1,h2⟩:=ui (uf r);simp [iI,h1]
     · cases r
   · cases r
 · split at r
   · split at r
     · obtain⟨h1,h2⟩:=ui (uf r);simp [iI,h1]
     · cases r
   · cases r
 · cases r
theorem yn.mono {n:Nat} {h g:H} {v:AV} {k:Nat} {cs:List AV} (r:yn n h v k cs) (hg:∀id c,h.get id=some c→g.get id=some c):yn n g v k cs:=by
 obtain⟨r,hl,hs⟩:=r
 refine⟨?_,hl,hs⟩
 unfold aR at r ⊢
 split at r
 · exact r
 · exact r
 · split at r
   · rename_i q;simp only[if_pos q,ue]at r ⊢
     obtain⟨c,h1,r⟩:=r
     exact⟨c,hg _ _ h1,r⟩
   · cases r
 · exact r
 · cases r
theorem yn.at_ {n : Nat} {h : H} {v : AV} {k : Nat} {cs : List AV} (r : yn n h v k cs) : ∃ ad : Int → Nat → AV,
 (∀i:Int,0≤i∧i<k→fD n v (.int .i64 i)=some (ad i 0))∧
 (∀(i:Int) (f g:Nat),0≤i∧i<k→eQ g (ad i f)=some (ad i (f+g)))∧
 (∀(i:Int) (f:Nat) (g:H),0≤i∧i<k→jg g (ad i f)=some (ad i f,g))∧
 (∀g:H,(∀id c,h.get id=some c→g.get id=some c)→(∀(i:Int) (f:Nat) (c:AV),0≤i∧i<k→cs[i.toNat* n+f]?=some c→bN false 1 (ad i f) g=some c)∧
   ∀i:Int,0≤i∧i<k→bN true n (ad i 0) g=some (.agg ((cs.drop (i.toNat* n)).take n))):=by
 obtain⟨r,hl,hs⟩:=r
 unfold aR at r
 split at r
 · obtain⟨h1,h2⟩:=ui (uf r);subst h1
   exact⟨fun _ _=>.bot,fun i hi=>by omega,fun i f g hi=>by omega,fun i f g hi=>by omega,fun g _=>⟨fun i f c hi=>by omega,fun i hi=>by omega⟩⟩
 · exact absurd rfl (hs _)
 · rename_i id off len s
   split at r
   · rename_i q
     subst q
     simp only[ue]at r
     obtain⟨d,hd,r⟩:=r
     split at r
     · rename_i hle
       obtain⟨h1,h2⟩:=ui (uf r)
       subst h1
       have bnd:∀i:Int,0≤i∧i<len→i.toNat* s+s≤len* s:=fun i hi=>by
        have:=uC s (show i.toNat+1≤len by omega);rw[uP]at this;omega
       refine⟨fun i f=>.aC id (off+i.toNat* s+f),fun i hi=>by simp [fD,Oq hi],fun i f g _=>by simp [eQ];omega,fun i f g _=>rfl,fun g hg=>⟨fun i f c hi hc=> ?_,fun i hi=> ?_⟩⟩
       · simp only[bN,hg _ _ hd,uu,gH,uv,uU]
         rw[←h2,uS]at hc
         split at hc
         · rw[uK]at hc;rw[uw];exact hc
         · cases hc
       · have:=bnd i hi
         simp only[bN,hg _ _ hd,uu,gH,if_true,Nat.add_zero]
         rw[if_pos (by omega),←h2,List.drop_take,List.take_take,List.drop_drop,Nat.min_eq_left (by omega)]
     · cases r
   · cases r
 · rename_i t cells off len s
   split at r
   · rename_i q
     subst q
     split at r
     · rename_i hle
       obtain⟨h1,h2⟩:=ui (uf r)
       subst h1
       have bnd:∀i:Int,0≤i∧i<len→i.toNat* s+s≤len* s:=fun i hi=>by
        have:=uC s (show i.toNat+1≤len by omega);rw[uP]at this;omega
       refine⟨fun i f=>.aJ cells (off+i.toNat* s+f),fun i hi=>by simp [fD,Oq hi],fun i f g _=>by simp [eQ];omega,fun i f g _=>rfl,fun g hg=>⟨fun i f c hi hc=> ?_,fun i hi=> ?_⟩⟩
       · simp only[bN,gH,uv,uU]
         rw[←h2,uS]at hc
         split at hc
         · rw[uK]at hc;rw[uw];exact hc
         · cases hc
       · have:=bnd i hi
         simp only[bN,gH,if_true,Nat.add_zero]
         rw[if_pos (by omega),←h2,List.drop_take,List.take_take,List.drop_drop,Nat.min_eq_left (by omega)]
     · cases r
   · cases r
 · cases r
def vT (n:Nat) (h:H) (v:AV) (k:Nat) (cs:List AV):Prop:=cs.length=k* n∧((v=.aO∧k=0)∨∃id,v=.aD id 0 k n∧h.get id=some cs∧h.floor≤id∧0<k)
theorem vT.nil {n:Nat} {h:H}:vT n h .aO 0 []:=⟨by simp,.inl ⟨rfl,rfl⟩⟩
theorem vT.mono {n:Nat} {h g:H} {v:AV} {k:Nat} {cs:List AV} (o:vT n h v k cs) (hf:g.floor=h.floor) (hg:∀i,v.id?=some i→g.get i=h.get i):vT n g v k cs:=by
 obtain⟨l,o⟩:=o
 refine⟨l, ?_⟩
 rcases o with o|⟨id,rfl,h1,h2,h3⟩
 · exact .inl o
 · exact .inr ⟨id,rfl,by rw[hg id rfl];exact h1,by rw[hf];exact h2,h3⟩
theorem vT.sc {n:Nat} {h:H} {v:AV} {k:Nat} {cs:List AV} (o:vT n h v k cs):v.sc=true:=by
 rcases o.2 with ⟨rfl,_⟩|⟨id,rfl,_⟩<;>rfl
theorem vT.lt {n:Nat} {h:H} {v:AV} {k:Nat} {cs:List AV} (o:vT n h v k cs) {i:Nat} (hi:v.id?=some i):h.floor≤i∧i<h.next:=by
 rcases o.2 with ⟨rfl,_⟩|⟨id,rfl,h1,h2⟩
 · cases hi
 · obtain rfl:=uf hi;exact⟨h2.1,h.lt _ _ h1⟩
theorem vT.rd {n:Nat} {h:H} {v:AV} {k:Nat} {cs:List AV} (o:vT n h v k cs):yn n h v k cs:=by
 obtain⟨l,o⟩:=o
 rcases o with ⟨rfl,rfl⟩|⟨id,rfl,h1,h2⟩
 · have:cs=[]:=RP (by omega)
   subst this
   exact⟨rfl,by simp,fun _=>by simp⟩
 · refine⟨?_,l,fun _=>by simp⟩
   simp only[aR,if_true,h1,uu,uE]
   rw[if_pos (by omega),RN,uO (by omega)]
theorem vT.app {n:Nat} {h:H} {v:AV} {k:Nat} {cs:List AV} (o:vT n h v k cs) (hfn:h.floor≤h.next) {z m:Nat} (hm:0<m) (hn:0<n) (bs:List AV) (hb:bs.length=m* n) (hc:AV.aB bs=true) (hr:roomy z (k+m)=true):
 ∃v' h',dC h n z v m bs=some (v',h')∧vT n h' v' (k+m) (cs++bs)∧h'.floor=h.floor∧h.next≤h'.next∧(∀i,v.id?≠some i→i≠h.next→h'.get i=h.get i)∧v'.id?=some h.next:=by
 obtain⟨hl,o⟩:=o
 have hll:(cs++bs).length=(k+m)* n:=by rw[uT,hl,hb,uP]
 rcases o with ⟨rfl,rfl⟩|⟨id,rfl,hg,hf,_⟩
 · have:cs=[]:=RP (by omega)
   subst this
   refine⟨.aD h.next 0 m n,h.alloc bs, ?_,⟨hll,.inr ⟨h.next,by simp,by simp [H.aV],by simp;omega,by omega⟩⟩,by simp,by simp,fun i _ hi=>by rw[H.aV,if_neg hi],rfl⟩
   unfold dC
   rw[if_neg (by omega),if_neg (by simp [hc];omega)]
   rw[uE]at hr
   simp only[hr,if_true]
 · have hmn:0<m* n:=Nat.mul_pos hm hn
   have hnot:¬0+(k+m)* n≤cs.length:=by rw[hl,uP];omega
   refine⟨.aD h.next 0 (k+m) n,(h.del id).alloc (cs++bs), ?_,⟨hll,.inr ⟨h.next,by simp,by simp [H.aV], ?_,by omega⟩⟩,by simp,by simp,fun i h1 h2=> ?_,rfl⟩
   · unfold dC
     rw[if_neg (by omega),if_neg (by simp [hc];omega)]
     simp only[hf,and_self,if_true,hg,uu]
     rw[if_neg hnot,if_pos ⟨by omega,hr⟩]
     simp
   · have:=h.lt id cs hg;simp;omega
   · rw[H.aV,H.je,if_neg h2,H.dJ,if_neg]
     intro e;subst e;exact h1 rfl
theorem vT.push {n:Nat} {h:H} {v:AV} {k:Nat} {cs:List AV} (o:vT n h v k cs) (hfn:h.floor≤h.next) {z m:Nat} (hm:0<m) (hn:0<n) (bs:List AV) (hb:bs.length=m* n) (hc:AV.aB bs=true) (hr:roomy z (k+m)=true):
 ∃v' h',ke (h.alloc bs) n z v (.aD h.next 0 m n)=some (v',h')∧vT n h' v' (k+m) (cs++bs)∧h'.floor=h.floor∧h.next+1≤h'.next∧(∀i,v.id?≠some i→i<h.next→h'.get i=h.get i)∧v'.id?=some (h.next+1):=by
 have o1:vT n (h.alloc bs) v k cs:=o.mono (by simp) fun i q=>by rw[H.aV,if_neg];have:=o.lt q;omega
 obtain⟨v',h',p1,p2,p3,p4,p5,p6⟩:=o1.app (z:=z) (by simp;omega) hm hn bs hb hc hr
 refine⟨v',h', ?_,p2,by rw[p3];simp,by simpa using p4,fun i q1 q2=> ?_,by simpa using p6⟩
 · have src:aR (h.alloc bs) n (.aD h.next 0 m n)=some (m,bs):=by
    simp only[aR,if_true,H.aV,uu,uE]
    rw[if_pos (by omega),RN,uO (by omega)]
   unfold ke;rw[src,uu];exact p1
 · rw[p5 i q1 (by simp;omega),H.aV,if_neg (by omega)]
def yY (n k:Nat) (cs:List AV):AV:=if k=0 then .aO else .aU false cs 0 k n
theorem Hh {n k:Nat} {h:H} {cs:List AV} (hl:cs.length=k* n):yn n h (yY n k cs) k cs:=by
 unfold yY
 by_cases hk:k=0
 · subst hk
   have:cs=[]:=RP (by omega)
   subst this
   exact⟨rfl,by simp,fun _=>by simp⟩
 · rw[if_neg hk]
   refine⟨?_,hl,fun _=>by simp⟩
   simp only[aR,if_true,uE]
   rw[if_pos (by omega),RN,uO (by omega)]
theorem vT.zH {n:Nat} {h:H} {v:AV} {k:Nat} {l:List Int} {fl m:Nat} {t:Bool} (o:vT n h v k (ints l)) (hf:fl≤h.floor):snap h.get fl (m+2) t v=some (yY n k (ints l)):=by
 obtain⟨hl,o⟩:=o
 rw[ph]at hl
 rcases o with ⟨rfl,rfl⟩|⟨id,rfl,q,h2,hk⟩
 · rfl
 · unfold snap
   rw[if_neg (by omega),q,uu,if_pos (by rw[ph];omega)]
   rw[RN,uO (by rw[ph];omega),xq]
   unfold yY
   rw[if_neg (by omega)];rfl
attribute [go_sem] List.map_cons List.map_nil Bool.and_true Bool.true_and Bool.and_self List.append_nil Option.map_some Option.map_none Bool.and_false Bool.false_and Bool.or_false Bool.or_true Bool.true_or Bool.false_or Bool.or_self bR.aN bR.aH Int.reduceAdd Int.reduceSub Int.reduceMul Int.reduceNeg Int.reduceToNat List.take_succ_cons List.take_zero List.drop_zero List.drop_succ_cons Int.cast_ofNat_Int Int.natCast_one Int.natCast_zero List.length_set
theorem vq:type_of% @dt∧type_of% @df∧type_of% @Qp∧type_of% @Qo∧type_of% @Qt∧type_of% @Qs∧type_of% @wi∧type_of% @wb∧type_of% @vO∧type_of% @zC∧type_of% @Kk∧type_of% @Hj∧type_of% @Oq∧type_of% @vi∧type_of% @ve∧type_of% @vp∧type_of% @uX∧type_of% @H.iY∧type_of% @H.jO∧type_of% @H.kF∧type_of% @H.jf∧type_of% @Kc∧type_of% @Hv∧type_of% @Js∧type_of% @Jr∧type_of% @HE∧type_of% @Ch∧type_of% @Du∧type_of% @Hs∧type_of% @Je∧type_of% @JZ∧type_of% @J0∧type_of% @pD∧type_of% @oN∧type_of% @qV∧type_of% @pM∧type_of% @JF∧type_of% @JE∧type_of% @sf∧type_of% @sg∧type_of% @Ff∧type_of% @EE∧type_of% @yZ∧type_of% @El∧type_of% @GL∧type_of% @Hq∧type_of% @Lj∧type_of% @JA∧type_of% @LO∧type_of% @LN∧type_of% @LK∧type_of% @LJ∧type_of% @LM∧type_of% @LG∧type_of% @Ep∧type_of% @E9∧type_of% @Fc∧type_of% @Fa∧type_of% @Ds∧type_of% @B7∧type_of% @Cf∧type_of% @Fb∧type_of% @AW∧type_of% @EI∧type_of% @JM∧type_of% @Ey∧type_of% @EO∧type_of% @EN∧type_of% @LF∧type_of% @LC∧type_of% @tv∧type_of% @beq_refl∧type_of% @wK∧type_of% @LH∧type_of% @Lg∧type_of% @Kb∧type_of% @Ka∧type_of% @J9∧type_of% @C7∧type_of% @Gp∧type_of% @BT∧type_of% @Ec:=⟨@dt, @df, @Qp, @Qo, @Qt, @Qs, @wi, @wb, @vO, @zC, @Kk, @Hj, @Oq, @vi, @ve, @vp, @uX, @H.iY, @H.jO, @H.kF, @H.jf, @Kc, @Hv, @Js, @Jr, @HE, @Ch, @Du, @Hs, @Je, @JZ, @J0, @pD, @oN, @qV, @pM, @JF, @JE, @sf, @sg, @Ff, @EE, @yZ, @El, @GL, @Hq, @Lj, @JA, @LO, @LN, @LK, @LJ, @LM, @LG, @Ep, @E9, @Fc, @Fa, @Ds, @B7, @Cf, @Fb, @AW, @EI, @JM, @Ey, @EO, @EN, @LF, @LC, @tv, @beq_refl, @wK, @LH, @Lg, @Kb, @Ka, @J9, @C7, @Gp, @BT, @Ec⟩
theorem B5:type_of% @AU∧type_of% @AH∧type_of% @AF∧type_of% @EF∧type_of% @Ev∧type_of% @AB∧type_of% @Kw∧type_of% @J4∧type_of% @J3∧type_of% @J8∧type_of% @Ly∧type_of% @Lw∧type_of% @Lx∧type_of% @Lz∧type_of% @Jb∧type_of% @Lf∧type_of% @Lb∧type_of% @Le∧type_of% @Ld∧type_of% @zG∧type_of% @GO∧type_of% @Ii∧type_of% @Oh∧type_of% @Og:=⟨@AU, @AH, @AF, @EF, @Ev, @AB, @Kw, @J4, @J3, @J8, @Ly, @Lw, @Lx, @Lz, @Jb, @Lf, @Lb, @Le, @Ld, @zG, @GO, @Ii, @Oh, @Og⟩
theorem wF:type_of% @H.jO∧type_of% @H.jf∧type_of% @EF∧type_of% @AU∧type_of% @H.iY∧type_of% @H.kF∧type_of% @Ev∧type_of% @AF:=⟨@H.jO, @H.jf, @EF, @AU, @H.iY, @H.kF, @Ev, @AF⟩
theorem B6:type_of% @vi∧type_of% @ve∧type_of% @vp∧type_of% @uX∧type_of% @AB∧type_of% @AH:=⟨@vi, @ve, @vp, @uX, @AB, @AH⟩
end Ab
set_option maxRecDepth 100000
namespace Ab
open Go
def MR (c:Nat):Nat:=if c%2=1 then(c/2)^^^3988292384 else c/2
def Hx:Nat→Nat→Nat
 |0,c=>c
 |n+1,c=>Hx n (MR c)
def KL (c b:Nat):Nat:=Hx 8 (c^^^b)
def Jk (s:ByteArray):Nat→Nat→Nat→Nat
 |0,_,c=>c
 |n+1,i,c=>Jk s n (i+1) (KL c (xD s i))
def PO (a:Nat) (s:ByteArray):Nat:=4294967295-Jk s s.size 0 (4294967295-a)
def Pb (s:ByteArray):Nat:=PO 0 s
theorem Gn {a s:Nat} (hs:s≤64):oO .shr .i64 (a:Int) (s:Int)=some (.int .i64 ((a/2^s:Nat):Int)):=by
 unfold oO
 rw[if_neg (by omega)]
 simp only[IntKind.bits,Int.toNat_natCast,Nat.min_eq_left hs]
 rw[Int.fdiv_eq_ediv_of_nonneg _ (Int.pow_nonneg (by omega))]
 simp
theorem E8 {h:H} {v:AV} {k:Nat} {l:List Nat} (o:vT 1 h v k (yf l)):tt h v (aR h 1 v)=some (.str (bytesOf l),h):=by
 rw[o.rd.1]
 simp only[tt,uu,En]
 rcases o.2 with ⟨rfl,_⟩|⟨id,rfl,_⟩<;>rfl
def xY (s:ByteArray) (i j:Nat):Nat→Nat→Nat
 |0,k=>k
 |f+1,k=>if k<258∧i+k<s.size∧xD s (i+k)=xD s (j+k)then xY s i j f (k+1)else k
def same (s:ByteArray) (i j:Nat):Nat:=xY s i j 258 0
def vG (s:ByteArray) (i:Nat):Nat→Nat×Nat→Nat×Nat
 |0,b=>b
 |j+1,b=>vG s i j (if b.1<same s i j then(same s i j,i-j)else b)
theorem Gm (s:ByteArray) (i j:Nat):∀f k,xY s i j f k≤k+f
 |0,k=>by simp [xY]
 | f + 1, k => by
   unfold xY
   split
   · have:=Gm s i j f (k+1);omega
   · omega
theorem HZ (s:ByteArray) (i j:Nat):same s i j≤258:=by have:=Gm s i j 258 0;unfold same;omega
theorem C4 (s:ByteArray) (i j:Nat) (hi:i≤s.size):∀f k,i+k≤s.size→i+xY s i j f k≤s.size
 |0,k,h=>by simpa [xY]using h
 | f + 1, k, h => by
   unfold xY
   split
   · rename_i q;exact C4 s i j hi f (k+1) (by omega)
   · exact h
theorem Ea (s:ByteArray) (i j:Nat) (hi:i≤s.size):i+same s i j≤s.size:=C4 s i j hi 258 0 (by omega)
theorem Cg (s:ByteArray) (i:Nat) (hi:i≤s.size):∀(j:Nat) (b:Nat×Nat),i+b.1≤s.size→i+(vG s i j b).1≤s.size
 |0,b,h=>h
 | j + 1, b, h => by
   unfold vG
   refine Cg s i hi j _ ?_
   split
   · exact Ea s i j hi
   · exact h
structure Tok where
 lit:Int
 len:Int
 vH:Int
deriving DecidableEq
def K8 (t:Tok):List Int:=[t.lit,t.len,t.vH]
def GD (t:Tok):List AV:=ints (K8 t)
def LQ (ts:List Tok):List Int:=ts.flatMap K8
def vX (ts:List Tok):List AV:=ts.flatMap GD
theorem De (t:Tok):(GD t).length=3:=rfl
theorem IX (ts:List Tok):(vX ts).length=ts.length* 3:=Be De ts
theorem Ap:∀ts:List Tok,vX ts=ints (LQ ts)
 |[]=>rfl
 | t :: ts => by
   have:=Ap ts
   unfold vX LQ at *
   rw[Rz,Rz,pg,this];rfl
theorem Hm (ts:List Tok) (t:Tok):vX (ts++[t])=vX ts++GD t:=by simp [vX]
def wv (s:ByteArray) (i:Nat):Tok×Nat:=
 if(vG s i i (0,0)).1<3 then(⟨xD s i,0,0⟩,i+1)else(⟨0,(vG s i i (0,0)).1,(vG s i i (0,0)).2⟩,i+(vG s i i (0,0)).1)
def zt (s:ByteArray):Nat→Nat→List Tok
 |0,_=>[]
 |f+1,i=>if i<s.size then(wv s i).1::zt s f (wv s i).2 else []
theorem GC (s:ByteArray) (i:Nat):i<(wv s i).2:=by
 unfold wv;split<;>simp<;>omega
theorem GB (s:ByteArray) (i:Nat) (hi:i<s.size):(wv s i).2≤s.size:=by
 unfold wv;split
 · exact hi
 · exact Cg s i (by omega) i (0,0) (by show i+0≤_;omega)
def yH (ts:List Tok):AV:=yY 3 ts.length (vX ts)
def tokens (s:ByteArray):List Tok:=zt s s.size 0
def Ext (h g:H):Prop:=∀id c,h.get id=some c→g.get id=some c
theorem Ext.refl (h:H):Ext h h:=fun _ _ q=>q
theorem Ext.trans {a b c:H} (x:Ext a b) (y:Ext b c):Ext a c:=fun i d q=>y i d (x i d q)
theorem Ext.alloc {a h:H} (x:Ext a h) (cs:List AV):Ext a (h.alloc cs):=fun i d q=>by
 have:=h.lt _ _ (x i d q)
 rw[H.aV,if_neg (by omega)];exact x i d q
theorem Ext.set {a h:H} (x:Ext a h) {id:Nat} (hid:a.next≤id) (cs:List AV):Ext a (h.set id cs):=fun i d q=>by
 have:=a.lt _ _ q
 rw[H.dd,if_neg (by omega)];exact x i d q
theorem yn.Ok {h:H} {v:AV} {ts:List Tok} (r:yn 3 h v ts.length (vX ts)):∃ad:Int→Nat→AV,
 (∀i:Int,0≤i∧i<ts.length→fD 3 v (.int .i64 i)=some (ad i 0))∧
 (∀(i:Int) (f g:Nat),0≤i∧i<ts.length→eQ g (ad i f)=some (ad i (f+g)))∧
 ∀ g : H, Ext h g → ∀ (i : Nat) (t : Tok), ts[i]? = some t → bN false 1 (ad i 0) g = some (.int .i64 t.lit) ∧ bN false 1 (ad i 1) g = some (.int .i64 t.len) ∧ bN false 1 (ad i 2) g = some (.int .i64 t.vH) ∧
   bN true 3 (ad i 0) g=some (.agg [.int .i64 t.lit,.int .i64 t.len,.int .i64 t.vH]):=by
 obtain⟨ad,a1,a2,_,a3⟩:=r.at_
 refine⟨ad,a1,a2,fun g hg i t ht=> ?_⟩
 obtain⟨b1,b2⟩:=a3 g hg
 have hi:i<ts.length:=(uq.1 ht).1
 have hI:(0:Int)≤(i:Int)∧(i:Int)<ts.length:=⟨by omega,by omega⟩
 have ti:((i:Int)).toNat=i:=by omega
 have q:∀f,f<3→(vX ts)[((i:Int)).toNat* 3+f]?=(GD t)[f]?:=fun f hf=>by rw[ti];exact Jv De ht hf
 refine⟨b1 i 0 _ hI (q 0 (by omega)),b1 i 1 _ hI (q 1 (by omega)),b1 i 2 _ hI (q 2 (by omega)), ?_⟩
 rw[b2 i hI,ti,vX,Ew De ht];rfl
def vV (size:Int) (t:Tok):Option Int:=
 if t.len=0 then(if t.lit<0∨255<t.lit∨t.vH≠0 then none else some (size+1))
 else if t.len<3∨258<t.len∨t.vH<1∨32768<t.vH∨size<t.vH∨t.lit≠0 then none else some (size+t.len)
def vw : Int → List Tok → Bool
 |_,[]=>true
 | s, t :: r => match vV s t with
   |none=>false
   |some s'=>if 8192<s' then false else vw s' r
theorem Rd.wW {h:H} {v:AV} {l:List Int} (r:Rd h v (ints l)):∃ad:Int→AV,(∀i:Int,0≤i∧i<l.length→fD 1 v (.int .i64 i)=some (ad i))∧
 ∀g:H,Ext h g→∀(i:Nat) (n:Int),l[i]?=some n→bN false 1 (ad i) g=some (.int .i64 n):=by
 have r2:=r.Qu
 rw[ph]at r2
 obtain⟨ad,a1,_,_,a3⟩:=r2.at_
 refine⟨fun i=>ad i 0,a1,fun g hg i n hn=> ?_⟩
 have hi:i<l.length:=(uq.1 hn).1
 refine(a3 g hg).1 i 0 _ ⟨by omega,by omega⟩ ?_
 rw[Hj,Nat.mul_one,Nat.add_zero]
 exact sh hn
structure Om where
 name:ByteArray
 gone:Bool
 vec:List Int
 Kd:Int
 node:Int
 method:Int
 packed:ByteArray
 size:Int
 QN:Int
structure PE (h:H) (p:AV) (cs:List AV):Prop where
 nil:∀g:H,jg g p=some (p,g)
 sS:∃q:Nat→AV,(∀k,eQ k p=some (q k))∧∀g:H,Ext h g→∀(k:Nat) (c:AV),cs[k]?=some c→bN false 1 (q k) g=some c
abbrev On:=Om×AV
structure P4 (h:H) (x:On):Prop where
 vec:Rd h x.2 (ints x.1.vec)
 vl:x.1.vec.length<1125899906842624
 nl:x.1.name.size<1125899906842624
 pl:x.1.packed.size<1125899906842624
theorem P4.mono {h g:H} {x:On} (o:P4 h x) (e:Ext h g):P4 g x:=⟨o.vec.mono fun i c q=>e i c q,o.vl,o.nl,o.pl⟩
def xL (method : Int) (s : ByteArray) (size : Int) : Option ByteArray :=
 if size<0∨300<size then none
 else if method=0 then(if(s.size:Int)=size then some s else none)
 else if method=8 then(match vI s size with
  | .ok (o,took)=>if(o.length:Int)=size∧took=s.size then some (bytesOf o)else none
  | .error _=>none)
 else none
def PZ:Option ByteArray→AV
 |some t=>.bJ [.str t,.int .i64 0]
 |none=>.bJ [.str ⟨#[]⟩,.int .i64 900]
theorem Dh (h : H) (hf : h.floor ≤ h.next) (m : Int) (s : ByteArray) (z : Int) (hs : s.size < 1125899906842624) : aQ AP.A 114 [.int .i64 m, .str s, .int .i64 z] h = some (PZ (xL m s z), h) := by
 unfold xL
 by_cases c1:z<0
 · rw[if_pos (.inl c1)]
   refine tD (fn:=AP.f114) (h2:=h.dG) (e:=[(6,.str ⟨#[]⟩),(7,.int .i64 900)]) rfl rfl rfl ?_ rfl rfl
   simp (disch:=omega)only[go_sem,vq,AP.f114]
 by_cases c2:300<z
 · rw[if_pos (.inr c2)]
   refine tD (fn:=AP.f114) (h2:=h.dG) (e:=[(6,.str ⟨#[]⟩),(7,.int .i64 900)]) rfl rfl rfl ?_ rfl rfl
   simp (disch:=omega)only[go_sem,vq,AP.f114]
 rw[if_neg (by omega)]
 by_cases c3:m=0
 · rw[if_pos c3]
   by_cases c4:(s.size:Int)=z
   · rw[if_pos c4]
     refine tD (fn:=AP.f114) (h2:=h.dG) (e:=[(6,.str s),(7,.int .i64 0)]) rfl rfl rfl ?_ rfl rfl
     simp (disch:=omega)only[go_sem,vq,AP.f114]
   · rw[if_neg c4]
     refine tD (fn:=AP.f114) (h2:=h.dG) (e:=[(6,.str ⟨#[]⟩),(7,.int .i64 900)]) rfl rfl rfl ?_ rfl rfl
     simp (disch:=omega)only[go_sem,vq,AP.f114]
 rw[if_neg c3]
 by_cases c5:m=8
 · rw [if_pos c5]
   have k1:=Iy h.dG (by simp) s z hs
   simp only[I]at k1
   cases hi:vI s z with
   | error k =>
     rw[hi]at k1
     simp only[NY,I]at k1
     have hk:=EA hi
     have hk':¬k=0:=by rcases hk with rfl|rfl<;>decide
     clear hk
     refine tD (fn:=AP.f114) (h2:=h.dG) (e:=[(6,.str ⟨#[]⟩),(7,.int .i64 900)]) rfl rfl rfl ?_ rfl rfl
     simp (disch:=omega)only[go_sem,vq,AP.f114,k1]
   | ok r =>
     obtain⟨o,took⟩:=r
     rw[hi]at k1
     simp only[NY,I]at k1
     dsimp only
     have sz:=vU o
     by_cases c6:(o.length:Int)=z
     · by_cases c7:took=s.size
       · rw[if_pos ⟨c6,c7⟩]
         refine tD (fn:=AP.f114) (h2:=h.dG) (e:=[(6,.str (bytesOf o)),(7,.int .i64 0)]) rfl rfl rfl ?_ rfl rfl
         simp (disch:=omega)only[go_sem,vq,AP.f114,k1,sz]
       · rw[if_neg (fun q=>c7 q.2)]
         refine tD (fn:=AP.f114) (h2:=h.dG) (e:=[(6,.str ⟨#[]⟩),(7,.int .i64 900)]) rfl rfl rfl ?_ rfl rfl
         simp (disch:=omega)only[go_sem,vq,AP.f114,k1,sz]
     · rw[if_neg (fun q=>c6 q.1)]
       refine tD (fn:=AP.f114) (h2:=h.dG) (e:=[(6,.str ⟨#[]⟩),(7,.int .i64 900)]) rfl rfl rfl ?_ rfl rfl
       simp (disch:=omega)only[go_sem,vq,AP.f114,k1,sz]
 · rw[if_neg c5]
   refine tD (fn:=AP.f114) (h2:=h.dG) (e:=[(6,.str ⟨#[]⟩),(7,.int .i64 900)]) rfl rfl rfl ?_ rfl rfl
   simp (disch:=omega)only[go_sem,vq,AP.f114]
theorem Ha (c:ae) (e:Env) (h:H) (x y:X):ah c e h (.mx [x,y])=cU h (lK (x.ev e) (y.ev e)):=by
 simp only[ah,aW,RB,R7,fQ]
 cases lK (x.ev e) (y.ev e)<;>rfl
def CP (a b:Int):Int:=if a<b then b else a
theorem Em (k:IntKind) (a b:Int):lK (.int k a) (.int k b)=some (.int k (CP a b)):=rfl
theorem Rd.Qi {h:H} {v:AV} {cs:List AV} (r:Rd h v cs) (hc:cs≠[]):fm 1 v .aO=some false:=by
 obtain⟨r,hs⟩:=r
 unfold aR at r
 split at r
 · obtain⟨_,h2⟩:=ui (uf r);exact absurd h2.symm hc
 · exact absurd rfl (hs _)
 · rfl
 · rfl
 · cases r
theorem Ih {n:Nat} {h:H} {v:AV} {k:Nat} {cs:List AV} (r:yn n h v k cs) (hfn:h.floor≤h.next) (hn:0<n) (hk:0<k) {z:Nat} (hr:roomy z k=true) (hc:AV.aB cs=true):
 ke (h.alloc []) n z (.aD h.next 0 0 n) v=some (.aD (h.next+1) 0 k n,((h.alloc []).del h.next).alloc cs):=by
 have r2:yn n (h.alloc []) v k cs:=r.mono fun i c q=>by rw[H.aV,if_neg (by have:=h.lt _ _ q;omega)];exact q
 unfold ke
 rw[r2.1,uu]
 have hkn:0<k* n:=Nat.mul_pos hk hn
 unfold dC
 rw[if_neg (by omega),if_neg (by simp [hc];omega)]
 simp only[H.iY,hfn,and_self,if_true]
 rw[vi rfl,uu,if_neg (by simp;omega),if_pos ⟨by simp,by simpa using hr⟩]
 simp
theorem CH:∀l:List Int,AV.aB (ints l)=true
 |[]=>rfl
 | n :: l => by
   have:=CH l
   show AV.aB (I n::ints l)=true
   rw[pM,this];rfl
theorem KJ (h:H) (v:AV) (l:List Int) (rd:Rd h v (ints l)) (hl:0<l.length) (hb:l.length<1000000) (hfn:h.floor≤h.next):aQ AP.A 118 [v] h=some (.aD (h.next+1) 0 l.length 1,((h.alloc []).del h.next).alloc (ints l)):=by
 have r2:=rd.Qu
 rw[ph]at r2
 have ap:=Ih r2 hfn (by omega) hl (z:=8) (by simp [roomy];omega) (CH l)
 have nn:=rd.Qi (fun q=>by
  have q2:(ints l).length=0:=by rw[q];rfl
  rw[ph]at q2
  omega)
 refine s6 (fn:=AP.f118) (h2:=((h.alloc []).del h.next).alloc (ints l)) (e:=[(2,.aD (h.next+1) 0 l.length 1)]) (vs:=[.aD (h.next+1) 0 l.length 1]) rfl rfl rfl ?_ rfl
 clear rd r2
 simp (disch:=omega)only[go_sem,vq,AP.f118,nn,ap]
def J6 (name:ByteArray) (node:Nat) (Kd:Int) (text:ByteArray):Om:=⟨name,false,[0,0,0,0].set node Kd,Kd,node,0,text,text.size,Pb text⟩
def nA:ByteArray:=⟨#[97]⟩
def Qv:ByteArray:=⟨#[104,105]⟩
def QQ:ByteArray:=⟨#[104,111]⟩
def eA:Om:=J6 nA 0 1 Qv
def eB:Om:=J6 nA 2 1 QQ
def eD:Om:={eA with QN:=(Pb Qv^^^1:Nat)}
def Oe:Ty:=.str
theorem Oa {avs:List AV} (h:Sh reachBytes .str avs):∃s:ByteArray,avs=[.str s]∧s.size<140737488355328:=by
 cases h with
 |str h=>exact⟨_,rfl,tG h⟩
theorem Qk {P:Ty×List AV→Prop} {a:Ty} {r:List (Ty×List AV)} (h:r.map (·.1)=[a]) (hp:∀x∈r,P x):∃x,r=[(a,x)]∧P (a,x):=by
 match r,h with
 |[(b,x)],h=>simp at h;subst h;exact⟨x,rfl,hp _ (by simp)⟩
def Oi (s:ByteArray):List Nat:=s.data.toList.map (·.toNat)
theorem H6 (s:ByteArray):(Oi s).length=s.size:=by unfold Oi;rw[List.length_map,Array.length_toList];rfl
theorem Oj (s:ByteArray):∀b∈Oi s,b<256:=by
 intro b hb
 obtain⟨x,_,rfl⟩:=RC.1 hb
 exact x.toNat_lt
theorem BG (s:ByteArray):bytesOf (Oi s)=s:=by
 unfold Oi bytesOf;rw[List.map_map];apply ByteArray.ext;simp [Function.comp_def]
theorem Ig (x:Int) (k:Nat) (hk:k≤62):bits .and .i64 x ((2^k-1:Nat):Int)=x%((2^k:Nat):Int):=by
 have h2:2^k≤2^62:=RK (by omega) hk
 have h3:0<2^k:=Nat.pow_pos (by omega)
 show IntKind.wrap .i64 (((BitVec.ofInt 64 x&&&BitVec.ofInt 64 ((2^k-1:Nat):Int)).toNat:Nat):Int)=_
 rw[BitVec.toNat_and,xR 64 (2^k-1) (by omega),BitVec.toNat_ofInt,Nat.and_two_pow_sub_one_eq_mod,uZ (by
  have:=Nat.mod_lt (x%((2^64:Nat):Int)).toNat h3
  omega)]
 have e:(((x%((2^64:Nat):Int)).toNat:Nat):Int)=x%((2^64:Nat):Int):=Int.toNat_of_nonneg (Int.emod_nonneg _ (by decide))
 rw[Int.natCast_emod,e]
 refine Int.emod_emod_of_dvd x ?_
 refine Int.natCast_dvd_natCast.2 (Nat.pow_dvd_pow 2 (by omega))
theorem QJ {n:Nat} (h:n<256):IntKind.wrap .u8 (n:Int)=n:=wb (by omega)
theorem PY {a n:Nat} (hn:0<n):bh .rem (.int .i64 ((a:Nat):Int)) (.int .i64 (n:Int))=some (.int .i64 ((a%n:Nat):Int)):=by
 show(if(n:Int)=0 then none else some (AV.int .i64 ((a:Int).tmod n)))=_
 rw[if_neg (by omega),Int.tmod_eq_emod_of_nonneg (by omega)];rfl
theorem Ah:∀(l cs:List AV) (off:Nat),off+l.length≤cs.length→setFrom cs off l=cs.take off++(l++cs.drop (off+l.length))
 |[],cs,off,h=>by simp [setFrom]
 | v :: l, cs, off, h => by
   rw[Rt]at h
   rw[setFrom,Ah l (cs.set off v) (off+1) (by rw[RO];omega)]
   rw[List.take_set,List.drop_set_of_lt (by omega),Rt,show off+1+l.length=off+(l.length+1)by omega]
   rw[List.take_succ_eq_append_getElem (by omega),List.set_append_right _ _ (by simp;omega)]
   simp [show min off cs.length=off by omega]
def vz (bs:List Nat):List Nat:=wI bs 0 []
theorem Aa:∀(a b:List Nat) (i:Nat) (out:List Nat),wI (a++b) i out=wI b (i+a.length) (wI a i out)
 |[],b,i,out=>rfl
 | x :: a, b, i, out => by
   show wI (a++b) (i+1) (vM out i x)=_
   rw[Aa a b]
   show wI b (i+1+a.length) _=wI b (i+(a.length+1)) _
   rw[show i+1+a.length=i+(a.length+1)by omega];rfl
theorem DX (bs:List Nat) (b:Nat):vz (bs++[b])=vM (vz bs) bs.length b:=by
 unfold vz;rw[Aa,uE];rfl
theorem xu (bs:List Nat):(vz bs).length=(bs.length+7)/8:=by
 have:∀(l:List Nat) (i:Nat) (out:List Nat),out.length=(i+7)/8→(wI l i out).length=(i+l.length+7)/8:=by
  intro l
  induction l with
  |nil=>intro i out h;exact h
  |cons x l ih=>intro i out h;rw[wI,ih (i+1) _ (by rw[BM h]),Rt];congr 1;omega
 have:=this bs 0 [] rfl
 rw[vz,this,uE]
structure Wr (h:H) (w:Nat) (bs:List Nat) (ov:AV):Prop where
 get:h.get w=some [ov,.int .i64 (bs.length:Nat)]
 own:vT 1 h ov (vz bs).length (yf (vz bs))
 fl:h.floor≤w
 I4:h.floor≤h.next
 ne:ov.id?≠some w
 Ht:Kq (vz bs)
structure GI (h:H) (w:Nat) (ov:AV) (h':H) (ov':AV):Prop where
 floor:h'.floor=h.floor
 next:h.next≤h'.next
 vJ:∀i,i<h.next→i≠w→ov.id?≠some i→h'.get i=h.get i
 ids:∀j,ov'.id?=some j→ov.id?=some j∨h.next≤j
theorem GI.refl (h:H) (w:Nat) (ov:AV):GI h w ov h ov:=⟨rfl,ux _,fun _ _ _ _=>rfl,fun _ h=>.inl h⟩
theorem GI.trans {h1 h2 h3:H} {w:Nat} {o1 o2 o3:AV} (a:GI h1 w o1 h2 o2) (b:GI h2 w o2 h3 o3):GI h1 w o1 h3 o3:=
 ⟨by rw [b.floor, a.floor], uR a.next b.next, fun i h hw ho => by
   rw[b.vJ i (by have:=a.next;omega) hw (fun q=>by rcases a.ids i q with q|q;exact ho q;omega),a.vJ i h hw ho],
  fun j h=>by
   rcases b.ids j h with q|q
   · exact a.ids j q
   · exact .inr (uR a.next q)⟩
theorem K7 {b k:Nat} (hb:b≤1) (hk:k<8):oO .shl .i64 (b:Int) ((k:Nat):Int)=some (.int .i64 ((b* 2^k:Nat):Int)):=by
 unfold oO
 rw[if_neg (by omega)]
 simp only[IntKind.bits,Int.toNat_natCast,show min k 64=k by omega]
 have h1:2^k≤2^7:=RK (by omega) (by omega)
 have h2:b* 2^k≤1* 2^7:=Nat.mul_le_mul hb h1
 have:(b:Int)* 2^k=((b* 2^k:Nat):Int):=by rw[Int.natCast_mul,Int.natCast_pow];rfl
 rw[this,wi (by omega)]
theorem Oy {l:List Nat} {i x:Nat} (h:l[i]?=some x):(yf l)[i]?=some (.int .u8 (x:Int)):=by simp [yf,h]
theorem Qa (l:List Nat) (i x:Nat):(yf l).set i (.int .u8 (x:Int))=yf (l.set i x):=by simp [yf,List.map_set]
theorem LU (l:List Nat):(yf l).length=l.length:=by simp [yf]
theorem Fi (P:List Nat) (x:Nat):yf (P++[x])=yf P++[.int .u8 (x:Int)]:=by simp [yf]
def Bs (v:Nat):Nat→Nat→List Nat
 |_,0=>[]
 |i,m+1=>v/2^i%2::Bs v (i+1) m
def vj (v n:Nat):List Nat:=Bs v 0 n
def xS (v:Nat):Nat→List Nat
 |0=>[]
 |m+1=>v/2^m%2::xS v m
theorem vt (v:Nat):∀m i,(Bs v i m).length=m
 |0,_=>rfl
 |m+1,i=>by simp [Bs,vt v m]
theorem vY (v:Nat):∀m,(xS v m).length=m
 |0=>rfl
 |m+1=>by simp [xS,vY v m]
theorem E6 {n:Nat} (h:n<1000000000):bits .and .i64 (n:Int) 1=((n%2:Nat):Int):=by
 have:=Ig (n:Int) 1 (by omega)
 exact this.trans (by omega)
def vh (o:Option (Nat×Nat)):Nat:=(o.getD (0,0)).1
def wk (o:Option (Nat×Nat)):Nat:=(o.getD (0,0)).2
def yI (f:Nat→Option (Nat×Nat)) (k:Nat):Nat→Nat
 |0=>0
 |s+1=>if vh (f (s+1))≤k then s+1 else yI f k s
def xf (k:Nat):Nat:=yI lenOf k 285
def ze (k:Nat):Nat:=wk (lenOf (xf k))
def zZ (k:Nat):Nat:=k-vh (lenOf (xf k))
def xE (k:Nat):Nat:=yI vu k 29
def zL (k:Nat):Nat:=wk (vu (xE k))
def AD (k:Nat):Nat:=k-vh (vu (xE k))
theorem zY {s:Nat} (h1:257≤s) (h2:s≤285):∃a b,lenOf s=some (a,b):=by
 unfold lenOf;rw[if_neg (by omega)];split;exact⟨_,_,rfl⟩;split<;>exact⟨_,_,rfl⟩
theorem za {s:Nat} (h2:s≤29):∃a b,vu s=some (a,b):=by
 unfold vu;rw[if_neg (by omega)];split<;>exact⟨_,_,rfl⟩
theorem HL:∀s,257≤s→s<285→vh (lenOf (s+1))≤vh (lenOf s)+2^wk (lenOf s):=by
 intro s h1 h2
 have:∀s<285,257≤s→vh (lenOf (s+1))≤vh (lenOf s)+2^wk (lenOf s):=by decide+kernel
 exact this s h2 h1
theorem Fw:∀s,s<29→vh (vu (s+1))≤vh (vu s)+2^wk (vu s):=by decide+kernel
theorem xP {k : Nat} (h1 : 3 ≤ k) (h2 : k ≤ 258) : 257 ≤ xf k ∧ xf k ≤ 285 ∧ vh (lenOf (xf k)) ≤ k ∧ k < vh (lenOf (xf k)) + 2 ^ wk (lenOf (xf k)) := by
 have key:∀n s,s=257+n→s≤285→(s=285∨k<vh (lenOf (s+1)))→257≤yI lenOf k s∧yI lenOf k s≤285∧vh (lenOf (yI lenOf k s))≤k∧k<vh (lenOf (yI lenOf k s))+2^wk (lenOf (yI lenOf k s)):=by
  intro n
  induction n with
  | zero =>
    intro s hs h hk
    obtain rfl:s=257:=hs
    have e:yI lenOf k 257=257:=by rw[yI,if_pos (show vh (lenOf (256+1))≤k from h1)]
    have g:=HL 257 (by omega) (by omega)
    rw[e]
    refine⟨by omega,by omega,h1, ?_⟩
    rcases hk with q|q
    · omega
    · omega
  | succ n ih =>
    intro s hs h hk
    obtain⟨s,rfl⟩:∃t,s=t+1:=⟨s-1,by omega⟩
    by_cases c:vh (lenOf (s+1))≤k
    · rw [yI, if_pos c]
      refine⟨by omega,by omega,c, ?_⟩
      rcases hk with q|q
      · obtain rfl:s=284:=by omega
        have:vh (lenOf (284+1))=258:=rfl
        have:0<2^wk (lenOf (284+1)):=Nat.pow_pos (by omega)
        omega
      · by_cases c2:s+1=285
        · obtain rfl:s=284:=by omega
          have:vh (lenOf (284+1))=258:=rfl
          have:0<2^wk (lenOf (284+1)):=Nat.pow_pos (by omega)
          omega
        · have:=HL (s+1) (by omega) (by omega);omega
    · rw[yI,if_neg c]
      exact ih s (by omega) (by omega) (.inr (by omega))
 exact key 28 285 (by omega) (by omega) (.inl rfl)
theorem xM {k : Nat} (h1 : 1 ≤ k) (h2 : k ≤ 32768) : xE k ≤ 29 ∧ vh (vu (xE k)) ≤ k ∧ k < vh (vu (xE k)) + 2 ^ wk (vu (xE k)) := by
 have l0:vh (vu 0)=1:=rfl
 have key:∀s,s≤29→(s=29∨k<vh (vu (s+1)))→yI vu k s≤29∧vh (vu (yI vu k s))≤k∧k<vh (vu (yI vu k s))+2^wk (vu (yI vu k s)):=by
  intro s
  induction s with
  | zero =>
    intro h hk
    rw[yI]
    have g:=Fw 0 (by omega)
    refine⟨by omega,by omega, ?_⟩
    rcases hk with q|q<;>omega
  | succ s ih =>
    intro h hk
    by_cases c:vh (vu (s+1))≤k
    · rw[yI,if_pos c]
      refine⟨by omega,c, ?_⟩
      by_cases c2:s+1=29
      · obtain rfl:s=28:=by omega
        have a1:vh (vu (28+1))=24577:=rfl
        have a2:2^wk (vu (28+1))=8192:=rfl
        omega
      · have:=Fw (s+1) (by omega)
        rcases hk with q|q<;>omega
    · rw[yI,if_neg c]
      exact ih (by omega) (.inr (by omega))
 exact key 29 (by omega) (.inl rfl)
def Is (d:Nat):Nat→List Nat→List Nat
 |0,o=>o
 |n+1,o=>Is d n (o++[o.getD (o.length-d) 0])
theorem B8 (d:Nat):∀n o,(Is d n o).length=o.length+n
 |0,o=>rfl
 |n+1,o=>by rw[Is,B8 d n];simp;omega
def vE (o:List Nat) (t:Tok):List Nat:=if t.len=0 then o++[t.lit.toNat]else Is t.vH.toNat t.len.toNat o
def xe:List Tok→List Nat→List Nat
 |[],o=>o
 |t::r,o=>xe r (vE o t)
def yh (ts:List Tok):Option ByteArray:=if vw 0 ts=true then some (bytesOf (xe ts []))else none
def MU:Option ByteArray→AV
 |some t=>.bJ [.str t,.int .i64 0]
 |none=>.bJ [.str ⟨#[]⟩,.int .i64 500]
def Dm (ts:List Tok):Bool:=match yh ts with
 |some t=>decide (t.size≤300)
 |none=>false
theorem Ca {p q:Prop} [Decidable p] [Decidable q] {α:Type} {a b:α} (h:p↔q):(if p then a else b)=if q then a else b:=by
 by_cases c:p
 · rw[if_pos c,if_pos (h.1 c)]
 · rw[if_neg c,if_neg (fun x=>c (h.2 x))]
def wA (p:Int×Int):List AV:=[.int .i64 p.1,.int .i64 p.2]
theorem yC (p:Int×Int):(wA p).length=2:=rfl
theorem Jw {α:Type} {C:α→List AV} {n:Nat} (hC:∀x,(C x).length=n):∀(l:List α) (i:Nat) (x:α),i<l.length→setFrom (l.flatMap C) (i* n) (C x)=(l.set i x).flatMap C
 |[],i,x,h=>by simp at h
 | y :: l, 0, x, h => by
   have:=yk (C y) (C x) [] (l.flatMap C) (by rw[hC,hC])
   simpa using this
 | y :: l, i + 1, x, h => by
   have ih:=Jw hC l i x (by simpa using h)
   rw[Rz,List.set_cons_succ,Rz,←ih]
   have e:=Be hC l
   have:i<l.length:=by simpa using h
   have hi:i* n+n≤l.length* n:=by
    have:=uC n (show i+1≤l.length from this)
    rwa [Nat.succ_mul]at this
   have hs:(i+1)* n=n+i* n:=by rw[Nat.succ_mul];omega
   rw[Ah _ _ _ (by rw[uT,hC,hC,e,hs];omega),Ah _ _ _ (by rw[hC,e];omega),hs,hC]
   rw[List.take_append,List.drop_append,hC]
   rw[uO (by rw[hC];omega),List.drop_of_length_le (by rw[hC];omega)]
   rw[show n+i* n-n=i* n by omega,show n+i* n+n-n=i* n+n by omega]
   simp
def yu (l:List Int) (i:Nat):Int×Int:=if 1≤l.getD i 0 then(l.getD i 0,vb l (l.getD i 0).toNat+wD (l.take i) (l.getD i 0).toNat)else(0,0)
def uW (l:List Int):List (Int×Int):=(List.range l.length).map (yu l)
def wu (l:List Int) (b i:Nat):List (Int×Int):=(List.range l.length).map fun j=>if 1≤l.getD j 0∧(l.getD j 0<b∨(l.getD j 0=b∧j<i))then yu l j else(0,0)
theorem Ba (l:List Int) (b i:Nat):(wu l b i).length=l.length:=by simp [wu]
theorem Iq {l:List Int} {b i:Nat} (hi:i<l.length) (hb:1≤b) (hl:l.getD i 0=(b:Int)):(wu l b i).set i ((b:Int),vb l b+wD (l.take i) b)=wu l b (i+1):=by
 apply List.ext_getElem?
 intro j
 rw[RH]
 by_cases e:i=j
 · subst e
   rw[if_pos rfl,if_pos (by rw[Ba];exact hi)]
   simp only[wu,uI,RW hi,Rx]
   rw[if_pos ⟨by omega,.inr ⟨hl,by omega⟩⟩,yu,if_pos (by omega),hl];rfl
 · rw[if_neg e]
   simp only[wu,uI]
   by_cases hj:j<l.length
   · rw[RW hj]
     simp only[Rx]
     exact RU some (Ca (by omega))
   · rw[RG (by simp;omega)];rfl
theorem GQ {l:List Int} {b i:Nat} (hl:¬l.getD i 0=(b:Int)):wu l b (i+1)=wu l b i:=by
 unfold wu
 refine RX fun j hj=> ?_
 by_cases e:j=i
 · subst e
   exact Ca (by omega)
 · exact Ca (by omega)
theorem GR (l:List Int) (b:Nat):wu l (b+1) 0=wu l b l.length:=by
 unfold wu
 refine RX fun j hj=> ?_
 have hj':j<l.length:=List.mem_range.1 hj
 exact Ca (by omega)
theorem Ip {l:List Int} (hr:∀y∈l,0≤y∧y<16):wu l 16 0=uW l:=by
 unfold wu uW
 refine RX fun j hj=> ?_
 have hj':j<l.length:=List.mem_range.1 hj
 have hm:=hr (l.getD j 0) (by rw[Rr,Ru hj'];simp)
 by_cases c:1≤l.getD j 0
 · rw[if_pos ⟨c,.inl (by omega)⟩]
 · rw[if_neg (fun q=>c q.1),yu,if_neg c]
theorem GS (l:List Int):wu l 1 0=List.replicate l.length (0,0):=by
 unfold wu
 have:(List.range l.length).map (fun j=>if 1≤l.getD j 0∧(l.getD j 0<(1:Nat)∨(l.getD j 0=(1:Nat)∧j<0))then yu l j else((0:Int),(0:Int)))=(List.range l.length).map (fun _=>((0:Int),(0:Int))):=by
  refine RX fun j hj=> ?_
  rw[if_neg (by omega)]
 rw[this,List.map_const',List.length_range]
theorem Dl {l:List Int} {i:Nat} (hi:i<l.length) (b:Nat) (hb:1≤b):wD (l.take (i+1)) b=wD (l.take i) b+if l.getD i 0=(b:Int)then 1 else 0:=by
 have e:l.take (i+1)=l.take i++[l.getD i 0]:=by
  rw[List.take_add_one,Ru hi,Rr,Ru hi];rfl
 rw[e,y7]
 congr 1
 by_cases c:l.getD i 0=(b:Int)
 · rw[if_pos ⟨by omega,c⟩,if_pos c]
 · rw[if_neg (fun q=>c q.2),if_neg c]
theorem Ac:∀E:List (Int×Int),E.flatMap wA=ints (E.flatMap fun p=>[p.1,p.2])
 |[]=>rfl
 |p::E=>by rw[Rz,Rz,pg,Ac E];rfl
theorem BR:∀n,yU n [.int .i64 0,.int .i64 0]=(List.replicate n ((0:Int),(0:Int))).flatMap wA
 |0=>rfl
 | n + 1 => by
   have:=BR n
   unfold yU at *
   rw[dx,this,List.replicate_succ,Rz];rfl
def y9 (l:List Int):AV:=yY 2 l.length ((uW l).flatMap wA)
def vA (l:List Int) (least:Nat):Nat→Nat
 |0=>least
 |i+1=>if i+1≤least then least else if 0<l.getD i 0 then i+1 else vA l least i
structure WX (h0 h:H) (w:Nat) (bs:List Nat) (ov:AV):Prop where
 wr:Wr h w bs ov
 ext:Ext h0 h
 lw:h0.next≤w
 ln:h0.next≤h.next
 lo:∀j,ov.id?=some j→h0.next≤j
theorem WX.step {h0 h h':H} {w:Nat} {bs bs':List Nat} {ov ov':AV} (x:WX h0 h w bs ov) (wr:Wr h' w bs' ov') (f:GI h w ov h' ov'):WX h0 h' w bs' ov':=
 ⟨wr,fun i c hi=>by
  have:=h0.lt _ _ hi
  have:=x.ln
  have:=x.lw
  rw[f.vJ i (by omega) (by omega) (fun q=>by have:=x.lo i q;omega),x.ext i c hi],x.lw,by have:=f.next;have:=x.ln;omega,fun j hj=>by
  rcases f.ids j hj with q|q
  · exact x.lo j q
  · have:=x.ln;omega⟩
theorem WX.turn {h0 h h':H} {w:Nat} {bs:List Nat} {ov:AV} (x:WX h0 h w bs ov) (hf:h'.floor=h.floor) (hn:h.next≤h'.next) (hk:∀i,i<h.next→h'.get i=h.get i):WX h0 h' w bs ov:=
 ⟨⟨by rw [hk w (h.lt _ _ x.wr.get), x.wr.get], x.wr.own.mono hf fun i q => hk i (x.wr.own.lt q).2, by rw [hf]; exact x.wr.fl, by rw [hf]; exact uR x.wr.I4 hn, x.wr.ne, x.wr.Ht⟩,
   fun i c hi=>by have:=h0.lt _ _ hi;have:=x.ln;rw[hk i (by omega),x.ext i c hi],x.lw,uR x.ln hn,x.lo⟩
def Aq (E:List (Int×Int)) (s:Nat):Prop:=∃n v:Nat,E[s]?=some ((n:Int),(v:Int))∧1≤n∧n≤15∧v<2^n
def u6 (E:List (Int×Int)) (s:Nat):List Nat:=xS (E.getD s (0,0)).2.toNat (E.getD s (0,0)).1.toNat
theorem Aq.bits {E:List (Int×Int)} {s:Nat} (o:Aq E s):∃n v:Nat,E[s]?=some ((n:Int),(v:Int))∧1≤n∧n≤15∧v<2^n∧u6 E s=xS v n:=by
 obtain⟨n,v,h,h1,h2,h3⟩:=o
 refine⟨n,v,h,h1,h2,h3, ?_⟩
 unfold u6
 rw[Rr,h];rfl
theorem Aq.lt {E:List (Int×Int)} {s:Nat} (o:Aq E s):s<E.length:=by
 obtain⟨n,v,h,_⟩:=o
 exact(uq.1 h).1
theorem yn.Ls {h:H} {v:AV} {E:List (Int×Int)} (r:yn 2 h v E.length (E.flatMap wA)):∃ad:Int→AV,
 (∀i:Int,0≤i∧i<E.length→fD 2 v (.int .i64 i)=some (ad i))∧
 ∀g:H,Ext h g→∀(i:Nat) (p:Int×Int),E[i]?=some p→bN true 2 (ad i) g=some (.agg [.int .i64 p.1,.int .i64 p.2]):=by
 obtain⟨ad,a1,a2,_,a3⟩:=r.at_
 refine⟨fun i=>ad i 0,a1,fun g hg i t ht=> ?_⟩
 obtain⟨b1,b2⟩:=a3 g hg
 have hi:i<E.length:=(uq.1 ht).1
 have hI:(0:Int)≤(i:Int)∧(i:Int)<E.length:=⟨by omega,by omega⟩
 have ti:((i:Int)).toNat=i:=by omega
 rw[b2 i hI,ti,Ew yC ht];rfl
def vC (E D:List (Int×Int)) (t:Tok):List Nat:=
 if t.len=0 then u6 E t.lit.toNat
 else u6 E (xf t.len.toNat)++(vj (zZ t.len.toNat) (ze t.len.toNat)++(u6 D (xE t.vH.toNat)++vj (AD t.vH.toNat) (zL t.vH.toNat)))
def vS (E D:List (Int×Int)) (ts:List Tok):List Nat:=ts.flatMap (vC E D)
def GG (E D:List (Int×Int)) (t:Tok):Prop:=
 (t.len=0∧0≤t.lit∧Aq E t.lit.toNat)∨(3≤t.len∧t.len≤258∧1≤t.vH∧t.vH≤32768∧Aq E (xf t.len.toNat)∧Aq D (xE t.vH.toNat))
theorem EB {k:Nat} (h1:3≤k) (h2:k≤258):ze k≤5∧zZ k<2^ze k:=by
 obtain⟨a1,a2,a3,a4⟩:=xP h1 h2
 obtain⟨a,b,hab⟩:=zY a1 a2
 have:=CL hab
 refine⟨by unfold ze;rw[hab];show b≤5;omega, ?_⟩
 unfold zZ ze;omega
theorem Et {k:Nat} (h1:1≤k) (h2:k≤32768):zL k≤13∧AD k<2^zL k:=by
 obtain⟨a2,a3,a4⟩:=xM h1 h2
 obtain⟨a,b,hab⟩:=za a2
 have:=Bc hab
 refine⟨by unfold zL;rw[hab];show b≤13;omega, ?_⟩
 unfold AD zL;omega
theorem BX {E D:List (Int×Int)} {t:Tok} (o:GG E D t):(vC E D t).length≤48:=by
 rcases o with ⟨h1,h2,h3⟩|⟨h1,h2,h3,h4,h5,h6⟩
 · obtain⟨n,v,_,q1,q2,q3,q4⟩:=h3.bits
   rw[vC,if_pos h1,q4,vY];omega
 · obtain⟨n,v,_,q1,q2,q3,q4⟩:=h5.bits
   obtain⟨n',v',_,q1',q2',q3',q4'⟩:=h6.bits
   have l:=EB (k:=t.len.toNat) (by omega) (by omega)
   have d:=Et (k:=t.vH.toNat) (by omega) (by omega)
   rw[vC,if_neg (by omega),q4,q4']
   simp only[uT,vY,vj,vt];omega
theorem Ef {E D:List (Int×Int)}:∀{ts:List Tok},(∀t∈ts,GG E D t)→(vS E D ts).length≤48* ts.length
 |[],_=>by simp [vS]
 | t :: ts, h => by
   have a:=BX (h t (by simp))
   have b:=Ef (E:=E) (D:=D) (ts:=ts) fun u hu=>h u (by simp [hu])
   unfold vS at *
   simp only[Rz,uT,Rt];omega
structure Ro (h:H) (f:Nat) (vs:List AV) (cs:List (List AV)):Prop where
 get:h.get f=some vs
 own:∀(i:Nat) (v:AV) (c:List AV),vs[i]?=some v→cs[i]?=some c→vT 1 h v c.length c
 len:vs.length=cs.length
 ne:∀(i:Nat) (v:AV),vs[i]?=some v→v.id?≠some f
 Ks:∀(i j:Nat) (v u:AV),i≠j→vs[i]?=some v→vs[j]?=some u→∀id,v.id?=some id→u.id?≠some id
 fl:h.floor≤f
 I4:h.floor≤h.next
structure Lo (h h':H):Prop where
 floor:h'.floor=h.floor
 next:h.next≤h'.next
 vJ:∀i,i<h.floor→h'.get i=h.get i
theorem Lo.refl (h:H):Lo h h:=⟨rfl,ux _,fun _ _=>rfl⟩
theorem Lo.trans {a b c:H} (x:Lo a b) (y:Lo b c):Lo a c:=⟨y.floor.trans x.floor,uR x.next y.next,fun i hi=>(y.vJ i (by rw[x.floor];exact hi)).trans (x.vJ i hi)⟩
theorem Ext.lo {h0 a b:H} (x:Ext h0 a) (y:Lo a b) (hf:a.floor=h0.next):Ext h0 b:=fun i c hi=>by
 rw[y.vJ i (by rw[hf];exact h0.lt _ _ hi),x i c hi]
theorem Ro.push {h : H} {f : Nat} {vs : List AV} {cs : List (List AV)} (r : Ro h f vs cs) (k : Nat) {v : AV} {c : List AV} (hv : vs[k]? = some v) (hc : cs[k]? = some c) (x : AV) (sc : x.sc = true) {z : Nat} (hz : roomy z (c.length + 1) = true) :
 ∃v' h1,ke (h.alloc [x]) 1 z v (.aD h.next 0 1 1)=some (v',h1)∧h1.get f=some vs∧h1.floor=h.floor∧Ro (h1.set f (vs.set k v')) f (vs.set k v') (cs.set k (c++[x]))∧Lo h (h1.set f (vs.set k v')):=by
 have o:=r.own k v c hv hc
 have hfl:=h.lt _ _ r.get
 obtain⟨v',h1,p1,p2,p3,p4,p5,p6⟩:=o.push r.I4 (z:=z) (m:=1) (by omega) (by omega) [x] rfl (by simp [AV.aB,sc]) hz
 have hk:k<vs.length:=(uq.1 hv).1
 have gf:h1.get f=some vs:=by rw[p5 f (r.ne k v hv) hfl,r.get]
 have key:∀(i:Nat) (u:AV),(vs.set k v')[i]?=some u→(i=k∧u=v')∨(i≠k∧vs[i]?=some u):=by
  intro i u hu
  by_cases e:k=i
  · subst e
    rw[RH,if_pos rfl,if_pos hk]at hu
    exact .inl ⟨rfl,(uf hu).symm⟩
  · rw[RH,if_neg e]at hu
    exact .inr ⟨fun q=>e q.symm,hu⟩
 have hY:∀(i:Nat) (u:AV),vs[i]?=some u→∀id,u.id?=some id→id<h.next:=by
  intro i u hu id hid
  have hi:i<cs.length:=by rw[←r.len];exact(uq.1 hu).1
  exact((r.own i u _ hu (Ru hi)).lt hid).2
 refine⟨v',h1,p1,gf,p3,⟨?_, ?_, ?_, ?_, ?_, ?_, ?_⟩,⟨by simp [p3],by simp;omega, ?_⟩⟩
 · rw[vp rfl,gf];rfl
 · intro i u d hu hd
   rcases key i u hu with ⟨rfl,rfl⟩|⟨hne,hu⟩
   · rw[RH,if_pos rfl,if_pos (by rw[←r.len];exact hk)]at hd
     obtain rfl:=uf hd
     have:(c++[x]).length=c.length+1:=by simp
     rw[this]
     exact p2.mono (by simp) fun j hj=>by rw[uX];rw[p6]at hj;have:=uf hj;omega
   · rw[RH,if_neg (fun q=>hne q.symm)]at hd
     exact(r.own i u d hu hd).mono (by simp [p3]) fun j hj=>by
      rw[uX (fun q=>r.ne i u hu (by rw[hj,q])),p5 j (fun q=>r.Ks i k u v hne hu hv j hj q) (hY i u hu j hj)]
 · simp [r.len]
 · intro i u hu
   rcases key i u hu with ⟨rfl,rfl⟩|⟨hne,hu⟩
   · rw[p6];intro q;have:=uf q;omega
   · exact r.ne i u hu
 · intro i j u w hij hu hw id hid
   rcases key i u hu with ⟨e1,e2⟩|⟨hne,hu2⟩
   · rcases key j w hw with ⟨e3,e4⟩|⟨hne2,hw2⟩
     · exact absurd (e1.trans e3.symm) hij
     · intro q;have:=hY j w hw2 id q;rw[e2,p6]at hid;have:=uf hid;omega
   · rcases key j w hw with ⟨e3,e4⟩|⟨hne2,hw2⟩
     · intro q;have:=hY i u hu2 id hid;rw[e4,p6]at q;have:=uf q;omega
     · exact r.Ks i j u w hij hu2 hw2 id hid
 · simpa [p3]using r.fl
 · simp [p3];have:=r.I4;omega
 · intro i hi
   have:=r.fl
   rw[uX (by omega),p5 i (fun q=>by have:=(o.lt q).1;omega) (by have:=r.I4;omega)]
theorem Ro.put {h:H} {f:Nat} {vs:List AV} {cs:List (List AV)} (r:Ro h f vs cs) (k i:Nat) {v:AV} {c:List AV} (hv:vs[k]?=some v) (hc:cs[k]?=some c) (x:AV) (sc:x.sc=true) (hi:i<c.length):
 ∃id,v=.aD id 0 c.length 1∧h.get id=some c∧h.floor≤id∧id≠f∧(∀(j:Nat) (u:AV),j≠k→vs[j]?=some u→u.id?≠some id)∧Ro (h.set id (c.set i x)) f vs (cs.set k (c.set i x))∧Lo h (h.set id (c.set i x)):=by
 have o:=r.own k v c hv hc
 rcases o.2 with ⟨_,q⟩|⟨id,q1,q2,q3,q4⟩
 · omega
 have hid:v.id?=some id:=by rw[q1];rfl
 have hne:id≠f:=fun q=>r.ne k v hv (by rw[hid,q])
 have hk:k<vs.length:=(uq.1 hv).1
 refine⟨id,q1,q2,q3,hne,fun j u hj hu q=>r.Ks j k u v hj hu hv id q hid,⟨?_, ?_, ?_,r.ne,r.Ks,by simpa using r.fl,by simpa using r.I4⟩,⟨by simp,by simp,fun j hj=>by rw[uX (by omega)]⟩⟩
 · rw[uX hne.symm,r.get]
 · intro j u d hu hd
   by_cases e:k=j
   · subst e
     rw[hv]at hu
     obtain rfl:=uf hu
     rw[RH,if_pos rfl,if_pos (by rw[←r.len];exact hk)]at hd
     obtain rfl:=uf hd
     have lc:(c.set i x).length=c.length:=RO
     rw[lc]
     exact⟨by omega,.inr ⟨id,q1,by rw[vp rfl,q2];rfl,by simpa using q3,q4⟩⟩
   · rw[RH,if_neg e]at hd
     exact(r.own j u d hu hd).mono (by simp) fun m hm=>by rw[uX];intro q;subst q;exact r.Ks j k u v (fun q=>e q.symm) hu hv m hm hid
 · simp [r.len]
def QM (F:List Bool):List AV:=F.map .bool
abbrev QO (W U:List Int) (F:List Bool):List (List AV):=[ints W,ints U,QM F]
theorem vT.cells {n:Nat} {h:H} {v:AV} {k:Nat} {cs:List AV} (o:vT n h v k cs):v.cells=[v]:=by
 rcases o.2 with ⟨e,_⟩|⟨id,e,_⟩<;>rw[e]<;>rfl
def wE (W:List Int) (F:List Bool):Nat→Nat→Int→Int
 |0,_,a=>a
 |m+1,i,a=>wE W F m (i+1) (if F.getD i false=true∧(a<0∨W.getD i 0<W.getD a.toNat 0)then i else a)
def w9 (W:List Int) (F:List Bool):Nat:=(wE W F W.length 0 (-1)).toNat
structure FS where
 W:List Int
 U:List Int
 F:List Bool
def FS.add (s:FS) (x:Int):FS:=⟨s.W++[x],s.U++[-1],s.F++[true]⟩
def FS.a (s:FS):Nat:=w9 s.W s.F
def FS.F1 (s:FS):List Bool:=s.F.set s.a false
def FS.b (s:FS):Nat:=w9 s.W s.F1
def FS.F2 (s:FS):List Bool:=s.F1.set s.b false
def FS.sum (s:FS):Int:=s.W.getD s.a 0+s.W.getD s.b 0
def FS.EC (s:FS):FS:=FS.add ⟨s.W,(s.U.set s.a s.U.length).set s.b s.U.length,s.F2⟩ s.sum
structure FS.ok (s:FS):Prop where
 lu:s.U.length=s.W.length
 lf:s.F.length=s.W.length
 l1:0≤wE s.W s.F s.W.length 0 (-1)
 l2:0≤wE s.W s.F1 s.W.length 0 (-1)
 sm:0≤s.sum∧s.sum<1000000000000000
abbrev FS.C (s:FS):List (List AV):=QO s.W s.U s.F
theorem xU (l:List Int) (i:Nat) (x:Int):(ints l).set i (.int .i64 x)=ints (l.set i x):=by simp [ints,List.map_set,I]
def FS.xW:Nat→FS→FS
 |0,s=>s
 |n+1,s=>FS.xW n s.EC
theorem FS.HM (s:FS):s.EC.W.length=s.W.length+1:=by simp [FS.EC,FS.add]
theorem FS.AR:∀(n:Nat) (s:FS),(FS.xW n s).W.length=s.W.length+n
 |0,s=>rfl
 |n+1,s=>by rw[FS.xW,FS.AR n,FS.HM];omega
def B3 (ws:List Int):FS:=⟨ws,List.replicate ws.length (-1),List.replicate ws.length true⟩
def BB (U:List Int):Nat→Int→Nat
 |0,_=>0
 |m+1,j=>if 0≤j then BB U m (U.getD j.toNat (-1))+1 else 0
def Ho (U:List Int):Prop:=∀j:Nat,j<U.length→U.getD j (-1)= -1∨((j:Int)<U.getD j (-1)∧U.getD j (-1)<U.length)
def Eu (U:List Int) (n:Nat):List Int:=(List.range n).map fun i=>((BB U U.length (U.getD i (-1)):Nat):Int)
theorem Jn (U:List Int) (n:Nat):(Eu U n).length=n:=by simp [Eu]
def vg (ws:List Int):List Int:=Eu (FS.xW (ws.length-1) (B3 ws)).U ws.length
def I5 (u v:AV):Prop:=∀j,u.id?=some j→v.id?≠some j
theorem I5.symm {u v:AV} (a:I5 u v):I5 v u:=fun j h q=>a j q h
def u5:Nat→List Int→List Int
 |_,[]=>[]
 |i,c::r=>if 0<c then(i:Int)::u5 (i+1) r else u5 (i+1) r
def u7:List Int→List Int
 |[]=>[]
 |c::r=>if 0<c then c::u7 r else u7 r
theorem vT.yJ {h:H} {v:AV} {cs:List AV} (o:vT 1 h v cs.length cs):Rd h v cs:=⟨o.rd.1,o.rd.2.2⟩
def vF:List Int→List Int→List Int→List Int
 |s::ss,d::ds,o=>vF ss ds (o.set s.toNat d)
 |_,_,o=>o
theorem wm:∀(ss ds o:List Int),(vF ss ds o).length=o.length
 |[],_,o=>by simp [vF]
 |s::ss,[],o=>by simp [vF]
 |s::ss,d::ds,o=>by rw[vF,wm ss ds,RO]
def z4:List Int→Int→Int
 |[],m=>m
 |d::ds,m=>z4 ds (CP m d)
theorem Ext.H0 {hb h:H} {o:Nat} (x:Ext hb h) (hn:hb.get o=none) (c:List AV):Ext hb (h.set o c):=fun i d q=>by
 have:i≠o:=fun e=>by rw[e,hn]at q;cases q
 rw[uX this,x i d q]
def yi (w:Int):Int:=(w+1)/2
def vW (ws:List Int):List Int:=ws.map yi
theorem zy (ws:List Int):(vW ws).length=ws.length:=by simp [vW]
def HN (ws:List Int):Prop:=ws=[]∨(1≤ws.length∧ws.length≤288∧(∀k,k<ws.length-1→(FS.xW k (B3 ws)).ok)∧Ho (FS.xW (ws.length-1) (B3 ws)).U∧(FS.xW (ws.length-1) (B3 ws)).U.length=(FS.xW (ws.length-1) (B3 ws)).W.length)
theorem H7 (U:List Int):∀(m:Nat) (j:Int),BB U m j≤m
 |0,j=>ux _
 | m + 1, j => by
   rw[BB]
   split
   · have:=H7 U m (U.getD j.toNat (-1));omega
   · omega
theorem Fu {ws:List Int} (o:HN ws):∀d∈vg ws,0≤d∧d<1000:=by
 intro d hd
 rcases o with rfl|⟨h1,h2,_,_,h5⟩
 · simp [vg,Eu]at hd
 · unfold vg Eu at hd
   obtain⟨i,_,rfl⟩:=RC.1 hd
   have:=H7 (FS.xW (ws.length-1) (B3 ws)).U (FS.xW (ws.length-1) (B3 ws)).U.length ((FS.xW (ws.length-1) (B3 ws)).U.getD i (-1))
   rw[h5,FS.AR]at this
   rw[h5,FS.AR]
   have:(B3 ws).W.length=ws.length:=rfl
   omega
theorem wc (ws:List Int):(vg ws).length=ws.length:=Jn _ _
def yj (S:List Int):Nat→List Int→List Int→List Int
 |0,W,O=>vF S (vg W) O
 |K+1,W,O=>yj S K (vW W) (vF S (vg W) O)
theorem I7 {h:H} {v:AV} {k:Nat} {cs:List AV} (o:vT 1 h v k cs) (hk:0<k):∃id,v=.aD id 0 k 1∧h.get id=some cs∧h.floor≤id:=by
 rcases o.2 with ⟨_,q⟩|⟨id,q1,q2,q3,_⟩
 · omega
 · exact⟨id,q1,q2,q3⟩
inductive wG (most:Int):Nat→List Int→Prop
 |last {W:List Int}:HN W→z4 (vg W) 0≤most→wG most 0 W
 |more {K:Nat} {W:List Int}:HN W→most<z4 (vg W) 0→W≠[]→wG most K (vW W)→wG most (K+1) W
def AX (S:List Int):List Int:=if S.length=1 then(if 0<S.getD 0 0 then [0,S.getD 0 0]else S++[1])else S
def Hd (S W:List Int):List Int:=if S.length=1 then(if 0<S.getD 0 0 then [1,W.getD 0 0]else W++[1])else W
theorem K3 {S W:List Int} (h:W.length=S.length):(Hd S W).length=(AX S).length:=by
 unfold Hd AX
 split
 · split
   · rfl
   · simp [h]
 · exact h
theorem vB:∀(i:Nat) (C:List Int),(u5 i C).length=(u7 C).length
 |i,[]=>rfl
 | i, c :: r => by
   rw[u5,u7]
   split
   · simp [vB (i+1) r]
   · exact vB (i+1) r
theorem wq:∀(i:Nat) (C:List Int),(u5 i C).length≤C.length
 |i,[]=>ux _
 | i, c :: r => by
   have:=wq (i+1) r
   rw[u5]
   split<;>simp<;>omega
theorem wJ:∀(i:Nat) (C:List Int),∀s∈u5 i C,(i:Int)≤s∧s<i+C.length
 |i,[],s,h=>by simp [u5]at h
 | i, c :: r, s, h => by
   rw[u5]at h
   split at h
   · rcases uQ.1 h with q|q
     · subst q;simp;omega
     · have:=wJ (i+1) r s q;simp only[Rt];omega
   · have:=wJ (i+1) r s h;simp only[Rt];omega
theorem xQ:∀(C:List Int),∀y∈u7 C,y∈C∧0<y
 |[],y,h=>by simp [u7]at h
 | c :: r, y, h => by
   rw[u7]at h
   split at h
   · rcases uQ.1 h with q|q
     · subst q;exact⟨by simp,by assumption⟩
     · have:=xQ r y q;exact⟨by simp [this.1],this.2⟩
   · have:=xQ r y h;exact⟨by simp [this.1],this.2⟩
theorem JP {S : List Int} {n : Nat} (hn : 2 ≤ n) (h : ∀ s ∈ S, 0 ≤ s ∧ s < n) : ∀ s ∈ AX S, 0 ≤ s ∧ s < n := by
 intro s hs
 unfold AX at hs
 split at hs
 · split at hs
   · rename_i h1 h2
     rcases uQ.1 hs with q|q
     · subst q;omega
     · simp at q
       subst q
       match S,h1 with
       |[t],_=>exact h t (by simp)
   · rcases RS.1 hs with q|q
     · exact h s q
     · simp at q;subst q;omega
 · exact h s hs
theorem Ge {S:List Int} {n:Nat} (hn:2≤n) (h:S.length≤n):(AX S).length≤n:=by
 unfold AX
 split
 · split
   · simpa using hn
   · simp;omega
 · exact h
theorem yS (n:Nat):yU n [.int .i64 0]=ints (List.replicate n 0):=by
 unfold yU;rw[EU];simp [ints,I]
def we (C:List Int):List Int:=AX (u5 0 C)
def wz (C:List Int):List Int:=Hd (u5 0 C) (u7 C)
theorem G5 (C:List Int):(wz C).length=(we C).length:=K3 (vB 0 C).symm
def vR (C:List Int) (K:Nat):List Int:=yj (we C) K (wz C) (List.replicate C.length 0)
theorem CJ (W : List Int) (F : List Bool) : ∀ (m i : Nat) (a : Int), (a = -1 ∧ (∀ j, j < i → F.getD j false = false)) ∨ (∃ k : Nat, a = k ∧ k < i ∧ F.getD k false = true ∧ ∀ j, j < i → F.getD j false = true → W.getD k 0 ≤ W.getD j 0) →
 (wE W F m i a= -1∧(∀j,j<i+m→F.getD j false=false))∨(∃k:Nat,wE W F m i a=k∧k<i+m∧F.getD k false=true∧∀j,j<i+m→F.getD j false=true→W.getD k 0≤W.getD j 0)
 |0,i,a,h=>by simpa [wE]using h
 | m + 1, i, a, h => by
   rw[wE]
   have e:i+(m+1)=i+1+m:=by omega
   rw[e]
   refine CJ W F m (i+1) _ ?_
   by_cases c:F.getD i false=true∧(a<0∨W.getD i 0<W.getD a.toNat 0)
   · rw [if_pos c]
     refine .inr ⟨i,rfl,by omega,c.1,fun j hj hf=> ?_⟩
     by_cases q:j=i
     · subst q;exact R2 _
     · rcases h with ⟨_,h2⟩|⟨k,rfl,h1,h2,h3⟩
       · rw[h2 j (by omega)]at hf;cases hf
       · have:=h3 j (by omega) hf
         have tk:((k:Nat):Int).toNat=k:=by omega
         rw[tk]at c
         have:=c.2
         omega
   · rw [if_neg c]
     rcases h with ⟨rfl,h2⟩|⟨k,rfl,h1,h2,h3⟩
     · refine .inl ⟨rfl,fun j hj=> ?_⟩
       by_cases q:j=i
       · subst q
         cases e:F.getD j false with
         |false=>rfl
         |true=>exact absurd ⟨e,.inl (by omega)⟩ c
       · exact h2 j (by omega)
     · refine .inr ⟨k,rfl,by omega,h2,fun j hj hf=> ?_⟩
       by_cases q:j=i
       · subst q
         have tk:((k:Nat):Int).toNat=k:=by omega
         rw[tk]at c
         have:¬(W.getD j 0<W.getD k 0):=fun x=>c ⟨hf,.inr x⟩
         omega
       · exact h3 j (by omega) hf
theorem zX {W:List Int} {F:List Bool} (hl:F.length=W.length) {i:Nat} (hi:F.getD i false=true):0≤wE W F W.length 0 (-1)∧w9 W F<W.length∧F.getD (w9 W F) false=true∧∀j,F.getD j false=true→W.getD (w9 W F) 0≤W.getD j 0:=by
 have hiL:∀j,F.getD j false=true→j<F.length:=by
  intro j hj
  rw[Rr]at hj
  cases e:F[j]? with
  |none=>rw[e]at hj;cases hj
  |some b=>exact(uq.1 e).1
 rcases CJ W F W.length 0 (-1) (.inl ⟨rfl,fun j hj=>by omega⟩)with ⟨_,h2⟩|⟨k,h1,h2,h3,h4⟩
 · have:=h2 i (by have:=hiL i hi;omega)
   rw[hi]at this;cases this
 · have ek:w9 W F=k:=by unfold w9;rw[h1];omega
   rw[ek]
   exact⟨by omega,by omega,h3,fun j hj=>h4 j (by have:=hiL j hj;omega) hj⟩
def K6 (U:List Int):Nat→Nat→Nat→Prop
 |0,i,r=>i=r
 |d+1,i,r=>∃j:Nat,U[i]?=some (j:Int)∧K6 U d j r
theorem CW {U:List Int}:∀{d i r:Nat} {j:Nat},K6 U d i r→U[r]?=some (j:Int)→K6 U (d+1) i j
 | 0, i, r, j, h, hj => by
   have:i=r:=h
   subst this
   exact⟨j,hj,rfl⟩
 |d+1,i,r,j,⟨k,h1,h2⟩,hj=>⟨k,h1,CW h2 hj⟩
theorem ER {U:List Int} (up:Ho U):∀{d i r:Nat},K6 U d i r→U.getD r (-1)= -1→∀m,d≤m→BB U m (U.getD i (-1))=d
 | 0, i, r, h, hr, m, hm => by
   have:i=r:=h
   subst this
   rw[hr]
   cases m with
   |zero=>rfl
   |succ m=>rw[BB,if_neg (by omega)]
 | d + 1, i, r, ⟨j, h1, h2⟩, hr, m, hm => by
   obtain⟨m,rfl⟩:∃k,m=k+1:=⟨m-1,by omega⟩
   have e:U.getD i (-1)=(j:Int):=by rw[Rr,h1];rfl
   rw[e,BB,if_pos (by omega)]
   have tj:((j:Nat):Int).toNat=j:=by omega
   rw[tj,ER up h2 hr m (by omega)]
theorem EP {U:List Int} (up:Ho U):∀{d i r:Nat},K6 U d i r→i+d≤r
 | 0, i, r, h => by
   have:i=r:=h
   omega
 | d + 1, i, r, ⟨j, h1, h2⟩ => by
   have:=EP up h2
   have hi:=(uq.1 h1).1
   have e:U.getD i (-1)=(j:Int):=by rw[Rr,h1];rfl
   have:=up i hi
   rw[e]at this
   omega
def xV (U:List Int) (a b:Nat):List Int:=(U.set a U.length).set b U.length++[-1]
theorem DM (U:List Int) (a b:Nat):(xV U a b).length=U.length+1:=by simp [xV]
theorem Bl {U:List Int} {a b i:Nat} (hi:i<U.length) (ha:a≠i) (hb:b≠i):(xV U a b)[i]?=U[i]?:=by
 unfold xV
 rw[RD (by simpa using hi),RH,if_neg hb,RH,if_neg ha]
theorem HH {U:List Int} {a b:Nat} (ha:a<U.length):(xV U a b)[a]?=some (U.length:Int):=by
 unfold xV
 rw[RD (by simpa using ha),RH]
 split
 · rename_i e;subst e;simp [ha]
 · rw[RH,if_pos rfl,if_pos ha]
theorem HI {U:List Int} {a b:Nat} (hb:b<U.length):(xV U a b)[b]?=some (U.length:Int):=by
 unfold xV
 rw[RD (by simpa using hb),RH,if_pos rfl,if_pos (by simpa using hb)]
theorem HJ {U:List Int} {a b:Nat}:(xV U a b)[U.length]?=some (-1):=by
 unfold xV
 rw[RE (by simp)];simp
theorem AY {U:List Int} {a b:Nat} (ha:U[a]?=some (-1)) (hb:U[b]?=some (-1)):∀{d i r:Nat},K6 U d i r→K6 (xV U a b) d i r
 |0,i,r,h=>h
 | d + 1, i, r, ⟨j, h1, h2⟩ => by
   refine⟨j, ?_,AY ha hb h2⟩
   rw[Bl (uq.1 h1).1 (fun e=>by rw[e,h1]at ha;have:=uf ha;omega) (fun e=>by rw[e,h1]at hb;have:=uf hb;omega),h1]
theorem IZ {U : List Int} {a b : Nat} (ha : a < U.length) (hb : b < U.length) (up : Ho U) : Ho (xV U a b) := by
 intro j hj
 rw[DM]at hj ⊢
 by_cases e:j=U.length
 · subst e
   left
   rw[Rr,HJ];rfl
 · by_cases ea:a=j
   · subst ea
     right
     rw[Rr,HH ha]
     simp;omega
   · by_cases eb:b=j
     · subst eb
       right
       rw[Rr,HI hb]
       simp;omega
     · have:=up j (by omega)
       rw[Rr,Bl (by omega) ea eb,←Rr]
       omega
theorem FS.PQ (s:FS):s.EC.U=xV s.U s.a s.b:=rfl
abbrev Tr:=Nat×List (Nat×Nat)
def kr (D:Nat) (l:List (Nat×Nat)):Nat:=(l.map fun p=>2^(D-p.2)).sum
structure yl (bal:Bool) (n:Nat) (tot:Int) (s:FS) (T:List Tr):Prop where
 lu:s.U.length=s.W.length
 lf:s.F.length=s.W.length
 root:∀t∈T,s.F.getD t.1 false=true∧s.U[t.1]?=some (-1)
 free:∀i,s.F.getD i false=true→∃t∈T,t.1=i
 nd:(T.map (·.1)).Nodup
 pt:∀t∈T,∀p∈t.2,K6 s.U p.2 p.1 t.1
 leaves:(T.flatMap fun t=>t.2.map (·.1)).Perm (List.range n)
 CI:∀t∈T,∀D,(∀p∈t.2,p.2≤D)→kr D t.2=2^D
 ne:∀t∈T,t.2≠[]
 Hp:∀t∈T,1≤s.W.getD t.1 0
 up:Ho s.U
 sum:(T.map fun t=>s.W.getD t.1 0).sum=tot
 KE:bal=true→∀t∈T,∀u∈T,s.W.getD t.1 0≤2* s.W.getD u.1 0
 Ij:bal=true→∀t∈T,∀p∈t.2,(3:Int)^p.2≤s.W.getD t.1 0* 2^p.2
theorem IL {l l':List Int} (p:l.Perm l'):l.sum=l'.sum:=by
 induction p with
 |nil=>rfl
 |cons x _ ih=>simp only[RR,ih]
 |swap x y l=>simp only[RR];omega
 |trans _ _ h1 h2=>exact h1.trans h2
theorem D3 {l l':List Nat} (p:l.Perm l'):l.sum=l'.sum:=by
 induction p with
 |nil=>rfl
 |cons x _ ih=>simp only[RR,ih]
 |swap x y l=>simp only[RR];omega
 |trans _ _ h1 h2=>exact h1.trans h2
theorem yl.perm {bal:Bool} {n:Nat} {tot:Int} {s:FS} {T T':List Tr} (v:yl bal n tot s T) (p:T.Perm T'):yl bal n tot s T' where
 lu:=v.lu
 lf:=v.lf
 root t h:=v.root t (p.mem_iff.2 h)
 free i h:=by
  obtain⟨t,h1,h2⟩:=v.free i h
  exact⟨t,p.mem_iff.1 h1,h2⟩
 nd:=(p.map _).nodup_iff.1 v.nd
 pt t h:=v.pt t (p.mem_iff.2 h)
 leaves:=((p.flatMap_right _).symm).trans v.leaves
 CI t h:=v.CI t (p.mem_iff.2 h)
 ne t h:=v.ne t (p.mem_iff.2 h)
 Hp t h:=v.Hp t (p.mem_iff.2 h)
 up:=v.up
 sum:=by rw[←v.sum];exact(IL (p.map _)).symm
 KE hb t h u h2:=v.KE hb t (p.mem_iff.2 h) u (p.mem_iff.2 h2)
 Ij hb t h:=v.Ij hb t (p.mem_iff.2 h)
def xg (l:List (Nat×Nat)):List (Nat×Nat):=l.map fun p=>(p.1,p.2+1)
theorem IA {D:Nat} {l:List (Nat×Nat)}:kr (D+1) (xg l)=kr D l:=by
 unfold kr xg
 rw[List.map_map]
 congr 1
 refine RX fun p _=> ?_
 show 2^(D+1-(p.2+1))=_
 rw[Nat.add_sub_add_right]
theorem NZ (D:Nat) (a b:List (Nat×Nat)):kr D (a++b)=kr D a+kr D b:=by simp [kr]
theorem getD_set_ne {α:Type} {l:List α} {i j:Nat} {x d:α} (h:i≠j):(l.set i x).getD j d=l.getD j d:=by
 rw[Rr,RH,if_neg h,←Rr]
theorem yO {l:List Bool} {i:Nat}:(l.set i false).getD i false=false:=by
 rw[Rr,RH,if_pos rfl]
 split<;>rfl
theorem yl.two {bal:Bool} {n:Nat} {tot:Int} {s:FS} {T:List Tr} (v:yl bal n tot s T) (h2:2≤T.length):
 ∃ta tb T2,T.Perm (ta::tb::T2)∧ta.1=s.a∧tb.1=s.b∧0≤wE s.W s.F s.W.length 0 (-1)∧0≤wE s.W s.F1 s.W.length 0 (-1)∧s.W.getD s.a 0≤s.W.getD s.b 0∧(∀t∈T2,s.W.getD s.b 0≤s.W.getD t.1 0):=by
 obtain⟨t0,t1,T0,rfl⟩:∃t0 t1 T0,T=t0::t1::T0:=by
  match T,h2 with
  |t0::t1::T0,_=>exact⟨t0,t1,T0,rfl⟩
 obtain⟨l1,la,fa,ma⟩:=zX v.lf (v.root t0 (by simp)).1
 obtain⟨ta,hta,ea⟩:=v.free _ fa
 have p1:=List.perm_cons_erase hta
 have v1:=v.perm p1
 obtain⟨T1,eT1⟩:∃T1,T1=(t0::t1::T0).erase ta:=⟨_,rfl⟩
 rw[←eT1]at p1 v1
 have lT1:T1≠[]:=by
  intro e
  have:=p1.length_eq
  rw[e]at this
  simp at this
 obtain⟨tx,hx⟩:=List.exists_mem_of_ne_nil _ lT1
 have nd1:∀t∈T1,t.1≠ta.1:=by
  intro t ht e
  have:=v1.nd
  rw[RB,R6]at this
  exact this.1 (RC.2 ⟨t,ht,e⟩)
 have f1:∀t∈T1,s.F1.getD t.1 false=true:=by
  intro t ht
  have:=(v1.root t (by simp [ht])).1
  show(s.F.set s.a false).getD t.1 false=true
  rw[getD_set_ne (by have:=nd1 t ht;intro e;exact this (by rw[ea,←e];rfl)),this]
 obtain⟨l2,lb,fb,mb⟩:=zX (W:=s.W) (F:=s.F1) (by show(s.F.set s.a false).length=_;rw[RO];exact v.lf) (f1 tx hx)
 have hnb:s.a≠s.b:=by
  intro e
  have fb':s.F1.getD s.b false=true:=fb
  rw[←e]at fb'
  have:(s.F.set s.a false).getD s.a false=true:=fb'
  rw[yO]at this;cases this
 have fb2:s.F.getD s.b false=true:=by
  have fb':(s.F.set s.a false).getD s.b false=true:=fb
  rwa [getD_set_ne hnb]at fb'
 obtain⟨tb,htb,eb⟩:=v1.free _ fb2
 have htb1:tb∈T1:=by
  rcases uQ.1 htb with q|q
  · subst q;exact absurd (ea.symm.trans eb) hnb
  · exact q
 have p2:=List.perm_cons_erase htb1
 refine⟨ta,tb,T1.erase tb,p1.trans (p2.cons ta),ea,eb,l1,l2,ma _ fb2,fun t ht=>mb _ (f1 t (List.mem_of_mem_erase ht))⟩
theorem yl.Kf {bal : Bool} {n : Nat} {tot : Int} {s : FS} {T T2 : List Tr} {ta tb : Tr} (v : yl bal n tot s T) (p : T.Perm (ta :: tb :: T2)) (ea : ta.1 = s.a) (eb : tb.1 = s.b) (l1 : 0 ≤ wE s.W s.F s.W.length 0 (-1)) (l2 : 0 ≤ wE s.W s.F1 s.W.length 0 (-1)) (wab : s.W.getD s.a 0 ≤ s.W.getD s.b 0) (wbt : ∀ t ∈ T2, s.W.getD s.b 0 ≤ s.W.getD t.1 0) (ht : tot < 1000000000000000) : s.ok ∧ yl bal n tot s.EC ((s.U.length, xg (ta.2 ++ tb.2)) :: T2) := by
 have lT:=p.length_eq
 have v1:=v.perm p
 have nd:=v1.nd
 rw[RB,RB,R6,R6]at nd
 obtain⟨nd1,nd2,nd3⟩:=nd
 have ra:=v1.root ta (by simp)
 have rb:=v1.root tb (by simp)
 rw[ea]at ra
 rw[eb]at rb
 have hla:s.a<s.U.length:=(uq.1 ra.2).1
 have hlb:s.b<s.U.length:=(uq.1 rb.2).1
 have wa:=v1.Hp ta (by simp)
 have wb1:=v1.Hp tb (by simp)
 rw[ea]at wa
 rw[eb]at wb1
 have sm:=v1.sum
 rw[RB,RB,RR,RR,ea,eb]at sm
 have nn:0≤(T2.map fun t=>s.W.getD t.1 0).sum:=by
  have:∀l:List Tr,(∀t∈l,1≤s.W.getD t.1 0)→0≤(l.map fun t=>s.W.getD t.1 0).sum:=by
   intro l
   induction l with
   |nil=>intro _;simp
   |cons x l ih=>intro h;have:=ih fun t ht=>h t (by simp [ht]);have:=h x (by simp);simp only[RB,RR];omega
  exact this T2 fun t ht=>v1.Hp t (by simp [ht])
 have es:s.sum=s.W.getD s.a 0+s.W.getD s.b 0:=rfl
 refine⟨⟨v.lu,v.lf,l1,l2,by omega⟩, ?_⟩
 have nT2:∀t∈T2,t.1≠s.a∧t.1≠s.b∧t.1<s.U.length:=fun t ht=>⟨fun e=>nd1 (by simp only[uQ,RC];exact .inr ⟨t,ht,by rw[e,ea]⟩),fun e=>nd2 (RC.2 ⟨t,ht,by rw[e,eb]⟩),(uq.1 (v1.root t (by simp [ht])).2).1⟩
 have mW:∀i,i<s.W.length→s.EC.W.getD i 0=s.W.getD i 0:=fun i hi=>by
  show(s.W++[s.sum]).getD i 0=_
  rw[Rr,RD hi,←Rr]
 have mWn:s.EC.W.getD s.U.length 0=s.sum:=by
  show(s.W++[s.sum]).getD s.U.length 0=_
  rw[v.lu,Rr,RE (ux _)];simp
 have lF2:s.F2.length=s.W.length:=by show((s.F.set s.a false).set s.b false).length=_;rw[RO,RO,v.lf]
 have mF:∀i,i<s.W.length→s.EC.F.getD i false=s.F2.getD i false:=fun i hi=>by
  show(s.F2++[true]).getD i false=_
  rw[Rr,RD (by omega),←Rr]
 have mFn:s.EC.F.getD s.U.length false=true:=by
  show(s.F2++[true]).getD s.U.length false=_
  rw[v.lu,Rr,RE (by omega),lF2];simp
 have F2o:∀i,i≠s.a→i≠s.b→s.F2.getD i false=s.F.getD i false:=fun i h1 h2=>by
  show((s.F.set s.a false).set s.b false).getD i false=_
  rw[getD_set_ne h2.symm,getD_set_ne h1.symm]
 have F2a:s.a≠s.b→s.F2.getD s.a false=false:=fun h=>by
  show((s.F.set s.a false).set s.b false).getD s.a false=_
  rw[getD_set_ne h.symm,yO]
 have F2b:s.F2.getD s.b false=false:=yO
 have hab:s.a≠s.b:=fun e=>nd1 (by simp only[uQ];exact .inl (by rw[ea,eb,e]))
 have jl:∀p∈ta.2++tb.2,K6 (xV s.U s.a s.b) (p.2+1) p.1 s.U.length:=fun q hq=>by
  rcases RS.1 hq with h|h
  · have:=v1.pt ta (by simp) q h
    rw[ea]at this
    exact CW (AY ra.2 rb.2 this) (HH hla)
  · have:=v1.pt tb (by simp) q h
    rw[eb]at this
    exact CW (AY ra.2 rb.2 this) (HI hlb)
 have lu:=v.lu
 have lf:=v.lf
 have getT2:∀t∈T2,s.EC.W.getD t.1 0=s.W.getD t.1 0:=fun t ht=>mW _ (by have:=(nT2 t ht).2.2;omega)
 have W2:∀t∈(s.U.length,xg (ta.2++tb.2))::T2,(t.1=s.U.length∧t.2=xg (ta.2++tb.2)∧s.EC.W.getD t.1 0=s.sum)∨(t∈T2∧s.EC.W.getD t.1 0=s.W.getD t.1 0):=fun t ht=>by
  rcases uQ.1 ht with q|q
  · subst q;exact .inl ⟨rfl,rfl,mWn⟩
  · exact .inr ⟨q,getT2 t q⟩
 constructor
 · show(xV s.U s.a s.b).length=(s.W++[s.sum]).length
   rw[DM];simp [lu]
 · show(s.F2++[true]).length=(s.W++[s.sum]).length
   simp [lF2]
 · intro t ht
   rcases uQ.1 ht with q|q
   · subst q
     exact⟨mFn,HJ⟩
   · have n:=nT2 t q
     have r:=v1.root t (by simp [q])
     refine⟨by rw[mF _ (by omega),F2o _ n.1 n.2.1];exact r.1, ?_⟩
     rw[FS.PQ,Bl n.2.2 n.1.symm n.2.1.symm];exact r.2
 · intro i hi
   by_cases e:i=s.U.length
   · exact⟨_,List.mem_cons_self ..,e.symm⟩
   · have hiL:i<s.W.length:=by
      apply RM
      intro c
      have:s.EC.F.length=s.W.length+1:=by show(s.F2++[true]).length=_;simp [lF2]
      rw[Rr,RG (by omega)]at hi
      cases hi
     rw[mF i hiL]at hi
     have h1:i≠s.a:=fun q=>by rw[q,F2a hab]at hi;cases hi
     have h2:i≠s.b:=fun q=>by rw[q,F2b]at hi;cases hi
     rw[F2o i h1 h2]at hi
     obtain⟨t,ht,et⟩:=v1.free i hi
     rcases uQ.1 ht with q|q
     · subst q;exact absurd (et.symm.trans ea) h1
     · rcases uQ.1 q with q|q
       · subst q;exact absurd (et.symm.trans eb) h2
       · exact⟨t,R3 _ q,et⟩
 · rw[RB,R6]
   refine⟨fun hm=> ?_,nd3⟩
   obtain⟨t,ht,e⟩:=RC.1 hm
   have:=(nT2 t ht).2.2
   rw[e]at this
   exact absurd this (by simp)
 · intro t ht
   rcases uQ.1 ht with q|q
   · subst q
     intro q hq
     obtain⟨q',hq',rfl⟩:=RC.1 hq
     exact jl q' hq'
   · intro x hx
     exact AY ra.2 rb.2 (v1.pt t (by simp [q]) x hx)
 · have lv:=v1.leaves
   refine List.Perm.trans ?_ lv
   rw[Rz,Rz,Rz,←RF]
   have:(xg (ta.2++tb.2)).map (·.1)=ta.2.map (·.1)++tb.2.map (·.1):=by
    unfold xg;rw[List.map_map,List.map_append];rfl
   rw[this]
 · intro t ht
   rcases uQ.1 ht with q|q
   · subst q
     intro D hD
     have hne:=v1.ne ta (by simp)
     obtain⟨x,hx⟩:=List.exists_mem_of_ne_nil _ hne
     have h1:=hD (x.1,x.2+1) (RC.2 ⟨x,List.mem_append_left _ hx,rfl⟩)
     obtain⟨D,rfl⟩:∃E,D=E+1:=⟨D-1,by simp at h1;omega⟩
     rw[IA,NZ]
     rw[v1.CI ta (by simp) D fun y hy=>by have:=hD (y.1,y.2+1) (RC.2 ⟨y,List.mem_append_left _ hy,rfl⟩);simp at this;omega]
     rw[v1.CI tb (by simp) D fun y hy=>by have:=hD (y.1,y.2+1) (RC.2 ⟨y,List.mem_append_right _ hy,rfl⟩);simp at this;omega]
     rw[Nat.pow_succ];omega
   · exact v1.CI t (by simp [q])
 · intro t ht
   rcases uQ.1 ht with q|q
   · subst q
     have hne:=v1.ne ta (by simp)
     intro e
     have:xg (ta.2++tb.2)=[]:=e
     unfold xg at this
     rw[List.map_eq_nil_iff,List.append_eq_nil_iff]at this
     exact hne this.1
   · exact v1.ne t (by simp [q])
 · intro t ht
   rcases W2 t ht with ⟨_,_,e⟩|⟨q,e⟩
   · rw[e];omega
   · rw[e];exact v1.Hp t (by simp [q])
 · exact IZ hla hlb v.up
 · rw[RB,RR,mWn,RX getT2];omega
 · intro hb t ht u hu
   have b1:=v1.KE hb
   have ba:=b1 tb (by simp) ta (by simp)
   rw[ea,eb]at ba
   rcases W2 t ht with ⟨_,_,e⟩|⟨q,e⟩
   · rcases W2 u hu with ⟨_,_,e'⟩|⟨q',e'⟩
     · rw[e,e'];omega
     · rw[e,e'];have:=wbt u q';omega
   · rcases W2 u hu with ⟨_,_,e'⟩|⟨q',e'⟩
     · rw[e,e'];have:=b1 t (by simp [q]) ta (by simp);rw[ea]at this;omega
     · rw[e,e'];exact b1 t (by simp [q]) u (by simp [q'])
 · intro hb t ht x hx
   have b1:=v1.KE hb
   have ba:=b1 tb (by simp) ta (by simp)
   have bb:=b1 ta (by simp) tb (by simp)
   rw[ea,eb]at ba bb
   rcases W2 t ht with ⟨_,e2,e⟩|⟨q,e⟩
   · rw[e]
     rw[e2]at hx
     obtain⟨y,hy,rfl⟩:=RC.1 hx
     have p2:(0:Int)<2^y.2:=Int.pow_pos (by omega)
     show(3:Int)^(y.2+1)≤s.sum* 2^(y.2+1)
     rw[Int.pow_succ,Int.pow_succ]
     have key:∀w:Int,(3:Int)^y.2≤w* 2^y.2→3* w≤2* s.sum→(3:Int)^y.2* 3≤s.sum* (2^y.2* 2):=fun w h1 h2=>by
      have a1:(3:Int)^y.2* 3≤(w* 2^y.2)* 3:=Int.mul_le_mul_of_nonneg_right h1 (by omega)
      have a2:(3* w)* 2^y.2≤(2* s.sum)* 2^y.2:=Int.mul_le_mul_of_nonneg_right h2 (by omega)
      have a3:(w* 2^y.2)* 3=(3* w)* 2^y.2:=by rw[Int.mul_comm 3 w,Int.mul_assoc,Int.mul_assoc,Int.mul_comm _ 3]
      have a4:s.sum* (2^y.2* 2)=(2* s.sum)* 2^y.2:=by rw[Int.mul_comm 2 s.sum,Int.mul_assoc,Int.mul_comm 2 (2^y.2)]
      omega
     rcases RS.1 hy with h|h
     · have:=v1.Ij hb ta (by simp) y h
       rw[ea]at this
       exact key _ this (by omega)
     · have:=v1.Ij hb tb (by simp) y h
       rw[eb]at this
       exact key _ this (by omega)
   · rw[e];exact v1.Ij hb t (by simp [q]) x hx
theorem yl.step {bal:Bool} {n:Nat} {tot:Int} {s:FS} {T:List Tr} (v:yl bal n tot s T) (h2:2≤T.length) (ht:tot<1000000000000000):s.ok∧∃T',T'.length+1=T.length∧yl bal n tot s.EC T':=by
 obtain⟨ta,tb,T2,p,ea,eb,l1,l2,wab,wbt⟩:=v.two h2
 have lT:=p.length_eq
 obtain⟨a,b⟩:=v.Kf p ea eb l1 l2 wab wbt ht
 exact⟨a,_,by rw[lT];simp,b⟩
def T0 (n:Nat):List Tr:=(List.range n).map fun i=>(i,[(i,0)])
theorem Da:∀(ws:List Int),((List.range ws.length).map fun i=>ws.getD i 0).sum=ws.sum:=by
 intro ws
 have:(List.range ws.length).map (fun i=>ws.getD i 0)=ws:=by
  apply List.ext_getElem?
  intro i
  rw[uI]
  by_cases h:i<ws.length
  · rw[RW h,Ru h];simp [Rr,h]
  · rw[RG (by simp;omega),RG (by omega)];rfl
 rw[this]
theorem zF {α:Type} {n i:Nat} {x d:α} (h:i<n):(List.replicate n x).getD i d=x:=by
 rw[Rr,RQ,if_pos h];rfl
theorem yl.init (ws : List Int) (bal : Bool) (pos : ∀ y ∈ ws, 1 ≤ y) (hb : bal = true → ∀ y ∈ ws, y = 1) : yl bal ws.length ws.sum (B3 ws) (T0 ws.length) := by
 have mem:∀t∈T0 ws.length,∃i,i<ws.length∧t=(i,[(i,0)]):=fun t ht=>by
  obtain⟨i,hi,rfl⟩:=RC.1 ht
  exact⟨i,List.mem_range.1 hi,rfl⟩
 have gw:∀i,i<ws.length→ws.getD i 0∈ws:=fun i hi=>by
  rw[Rr,Ru hi];exact RJ hi
 constructor
 · simp [B3]
 · simp [B3]
 · intro t ht
   obtain⟨i,hi,rfl⟩:=mem t ht
   exact⟨zF hi,by show(List.replicate ws.length (-1:Int))[i]?=_;rw[RQ,if_pos hi]⟩
 · intro i hi
   have:i<ws.length:=by
    apply RM
    intro c
    have e:(B3 ws).F.getD i false=false:=by
     show(List.replicate ws.length true).getD i false=false
     rw[Rr,RG (by simp;omega)];rfl
    rw[e]at hi;cases hi
   exact⟨(i,[(i,0)]),RC.2 ⟨i,List.mem_range.2 this,rfl⟩,rfl⟩
 · unfold T0
   rw[List.map_map]
   have:((fun t:Tr=>t.1)∘fun i=>((i,[(i,0)]):Tr))=id:=rfl
   rw[this,List.map_id];exact List.nodup_range
 · intro t ht q hq
   obtain⟨i,hi,rfl⟩:=mem t ht
   simp at hq
   subst hq
   exact rfl
 · have:(T0 ws.length).flatMap (fun t=>t.2.map (·.1))=List.range ws.length:=by
    unfold T0
    rw[List.flatMap_map]
    have:∀l:List Nat,(l.flatMap fun i=>([(i,0)]:List (Nat×Nat)).map (·.1))=l:=by
     intro l
     induction l with
     |nil=>rfl
     |cons x l ih=>rw[Rz,ih];rfl
    exact this _
   rw[this]
 · intro t ht D _
   obtain⟨i,hi,rfl⟩:=mem t ht
   simp [kr]
 · intro t ht
   obtain⟨i,hi,rfl⟩:=mem t ht
   simp
 · intro t ht
   obtain⟨i,hi,rfl⟩:=mem t ht
   exact pos _ (gw i hi)
 · intro j hj
   have:j<ws.length:=by simpa [B3]using hj
   exact .inl (zF this)
 · unfold T0
   rw[List.map_map]
   exact Da ws
 · intro h t ht u hu
   obtain⟨i,hi,rfl⟩:=mem t ht
   obtain⟨j,hj,rfl⟩:=mem u hu
   have a:=hb h _ (gw i hi)
   have b:=hb h _ (gw j hj)
   show ws.getD i 0≤2* ws.getD j 0
   omega
 · intro h t ht q hq
   obtain⟨i,hi,rfl⟩:=mem t ht
   simp at hq
   subst hq
   have a:=hb h _ (gw i hi)
   show(3:Int)^0≤ws.getD i 0* 2^0
   rw[a];simp
theorem yl.run {bal:Bool} {n:Nat} {tot:Int} (ht:tot<1000000000000000):∀(m:Nat) (s:FS) (T:List Tr),yl bal n tot s T→T.length=m+1→(∀k,k<m→(FS.xW k s).ok)∧∃t,yl bal n tot (FS.xW m s) [t]
 | 0, s, T, v, h => by
   refine⟨fun k hk=>by omega, ?_⟩
   match T,h with
   |[t],_=>exact⟨t,v⟩
 | m + 1, s, T, v, h => by
   obtain⟨ok,T',hl,v'⟩:=v.step (by omega) ht
   obtain⟨h1,t,h2⟩:=yl.run ht m s.EC T' v' (by omega)
   refine⟨fun k hk=> ?_,t,h2⟩
   cases k with
   |zero=>exact ok
   |succ k=>exact h1 k (by omega)
theorem NW (ws:List Int) (bal:Bool) (h1:1≤ws.length) (pos:∀y∈ws,1≤y) (hs:ws.sum<1000000000000000) (hb:bal=true→∀y∈ws,y=1):
 (∀k,k<ws.length-1→(FS.xW k (B3 ws)).ok)∧Ho (FS.xW (ws.length-1) (B3 ws)).U∧(FS.xW (ws.length-1) (B3 ws)).U.length=(FS.xW (ws.length-1) (B3 ws)).W.length∧
 (∀D:Nat,(∀d∈vg ws,d≤(D:Int))→((vg ws).map fun d=>2^(D-d.toNat)).sum=2^D)∧
 (bal=true→∀d∈vg ws,(3:Int)^d.toNat≤ws.sum* 2^d.toNat)∧(2≤ws.length→∀d∈vg ws,1≤d):=by
 obtain⟨ok,t,v⟩:=yl.run hs (ws.length-1) (B3 ws) (T0 ws.length) (yl.init ws bal pos hb) (by simp [T0];omega)
 obtain⟨S,hS⟩:∃S,S=FS.xW (ws.length-1) (B3 ws):=⟨_,rfl⟩
 have eD:vg ws=Eu S.U ws.length:=by rw[hS];rfl
 rw[←hS]at v ⊢
 have up:=v.up
 have rt:=(v.root t (by simp)).2
 have rtD:S.U.getD t.1 (-1)= -1:=by rw[Rr,rt];rfl
 have rl:=(uq.1 rt).1
 have lv:=v.leaves
 simp only[Rz,List.flatMap_nil,RL]at lv
 have dep:∀q∈t.2,BB S.U S.U.length (S.U.getD q.1 (-1))=q.2:=fun q hq=>by
  have:=v.pt t (by simp) q hq
  have l:=EP up this
  exact ER up this rtD _ (by omega)
 have pm:(vg ws).Perm (t.2.map fun q=>((q.2:Nat):Int)):=by
  rw[eD]
  unfold Eu
  have:=lv.symm.map (fun i=>((BB S.U S.U.length (S.U.getD i (-1)):Nat):Int))
  refine this.trans ?_
  rw[List.map_map]
  have e:t.2.map ((fun i=>((BB S.U S.U.length (S.U.getD i (-1)):Nat):Int))∘fun x=>x.1)=t.2.map fun q=>((q.2:Nat):Int):=RX fun q hq=>by
   show((BB S.U S.U.length (S.U.getD q.1 (-1)):Nat):Int)=_
   rw[dep q hq]
  rw[e]
 have mem:∀d∈vg ws,∃q∈t.2,d=((q.2:Nat):Int):=fun d hd=>by
  obtain⟨q,hq,rfl⟩:=RC.1 (pm.mem_iff.1 hd)
  exact⟨q,hq,rfl⟩
 refine⟨ok,up,v.lu,fun D hD=> ?_,fun hbt d hd=> ?_,fun h2 d hd=> ?_⟩
 · have:=D3 (pm.map fun d=>2^(D-d.toNat))
   rw[this,List.map_map]
   have kk:=v.CI t (by simp) D fun q hq=>by
    have:=hD ((q.2:Nat):Int) (pm.mem_iff.2 (RC.2 ⟨q,hq,rfl⟩))
    omega
   rw[←kk]
   unfold kr
   congr 1
 · obtain⟨q,hq,rfl⟩:=mem d hd
   have:=v.Ij hbt t (by simp) q hq
   have sm:=v.sum
   rw[RB,R7,RR,List.sum_nil,Int.add_zero]at sm
   rw[←sm]
   exact this
 · obtain⟨q,hq,rfl⟩:=mem d hd
   have pq:=v.pt t (by simp) q hq
   apply RM
   intro c
   have z:q.2=0:=by omega
   rw[z]at pq
   have e:q.1=t.1:=pq
   have ql:q.1<ws.length:=List.mem_range.1 (lv.mem_iff.1 (RC.2 ⟨q,hq,rfl⟩))
   have rr:S.W.length=ws.length+(ws.length-1):=by rw[hS,FS.AR];rfl
   have kk:∀D,(∀p∈t.2,p.2≤D)→kr D t.2=2^D:=v.CI t (by simp)
   obtain⟨D,hDD⟩:∃D,∀p∈t.2,p.2≤D:=⟨t.1,fun p hp=>by have:=EP up (v.pt t (by simp) p hp);omega⟩
   have k:=kk D hDD
   have l2:t.2.length=ws.length:=by
    have:=lv.length_eq
    simpa using this
   have pe:=List.perm_cons_erase hq
   have:kr D t.2=kr D (q::t.2.erase q):=D3 (pe.map _)
   rw[this]at k
   have:kr D (q::t.2.erase q)=2^(D-q.2)+kr D (t.2.erase q):=by simp [kr]
   rw[this,z,Nat.sub_zero]at k
   have le:=pe.length_eq
   rw[Rt]at le
   cases hE:t.2.erase q with
   |nil=>rw[hE]at le;simp at le;omega
   | cons y r =>
     rw[hE]at k
     have:kr D (y::r)=2^(D-y.2)+kr D r:=by simp [kr]
     have:=Nat.pow_pos (n:=D-y.2) (show 0<2 by omega)
     omega
def wH (l:List Int) (i:Nat):List Int:=l.set i (l.getD i 0+1)
theorem wT (l:List Int) (i:Nat):(wH l i).length=l.length:=by simp [wH]
theorem yz {l:List Int} {i:Nat} {n:Int} (h:∀y∈l,0≤y∧y≤n) (hn:0≤n):∀y∈wH l i,0≤y∧y≤n+1:=by
 intro y hy
 rcases RY hy with q|q
 · have:=h y q;omega
 · subst q
   rw[Rr]
   cases e:l[i]? with
   |none=>simp;omega
   |some z=>have:=h z (uD e);simp;omega
def xH (t:Tok):Prop:=(t.len=0∧0≤t.lit∧t.lit≤255)∨(3≤t.len∧t.len≤258∧1≤t.vH∧t.vH≤32768)
def y6:List Tok→List Int→List Int
 |[],A=>A
 |t::r,A=>y6 r (if t.len=0 then wH A t.lit.toNat else wH A (xf t.len.toNat))
def zK:List Tok→List Int→List Int
 |[],B=>B
 |t::r,B=>zK r (if t.len=0 then B else wH B (xE t.vH.toNat))
structure Kr (h h':H) (a b:Nat):Prop where
 floor:h'.floor=h.floor
 next:h.next≤h'.next
 vJ:∀i,i<h.next→i≠a→i≠b→h'.get i=h.get i
theorem Kr.refl (h:H) (a b:Nat):Kr h h a b:=⟨rfl,ux _,fun _ _ _ _=>rfl⟩
theorem Kr.trans {x y z:H} {a b:Nat} (p:Kr x y a b) (q:Kr y z a b):Kr x z a b:=⟨q.floor.trans p.floor,uR p.next q.next,fun i h1 h2 h3=>(q.vJ i (Nat.lt_of_lt_of_le h1 p.next) h2 h3).trans (p.vJ i h1 h2 h3)⟩
theorem AG {l:List Int} {i:Nat} (h:i<l.length):(ints l)[i]?=some (.int .i64 (l.getD i 0)):=sh (by rw[Rr,Ru h];rfl)
theorem Ck:∀(ts:List Tok) (A:List Int),(y6 ts A).length=A.length
 |[],A=>rfl
 |t::r,A=>by rw[y6,Ck r];split<;>rw[wT]
theorem Cn:∀(ts:List Tok) (A:List Int),(zK ts A).length=A.length
 |[],A=>rfl
 | t :: r, A => by
   rw[zK,Cn r]
   split
   · rfl
   · rw[wT]
theorem Cm:∀(ts:List Tok) (A:List Int) (n:Int),0≤n→(∀y∈A,0≤y∧y≤n)→∀y∈y6 ts A,0≤y∧y≤n+ts.length
 |[],A,n,hn,h=>by simpa [y6]using h
 | t :: r, A, n, hn, h => by
   intro y hy
   rw[y6]at hy
   have:=Cm r _ (n+1) (by omega) (by split<;>exact yz h hn) y hy
   simp only[Rt];omega
theorem Co:∀(ts:List Tok) (A:List Int) (n:Int),0≤n→(∀y∈A,0≤y∧y≤n)→∀y∈zK ts A,0≤y∧y≤n+ts.length
 |[],A,n,hn,h=>by simpa [zK]using h
 | t :: r, A, n, hn, h => by
   intro y hy
   rw[zK]at hy
   have:=Co r _ (n+1) (by omega) (by
    split
    · intro z hz;have:=h z hz;omega
    · exact yz h hn) y hy
   simp only[Rt];omega
def wR:List Int→List Int→List Int
 |[],C=>C
 |d::r,C=>wR r (wH C d.toNat)
theorem Aw:∀(ds C:List Int),(wR ds C).length=C.length
 |[],C=>rfl
 |d::r,C=>by rw[wR,Aw r,wT]
theorem Ax:∀(ds A:List Int) (n:Int),0≤n→(∀y∈A,0≤y∧y≤n)→∀y∈wR ds A,0≤y∧y≤n+ds.length
 |[],A,n,hn,h=>by simpa [wR]using h
 | t :: r, A, n, hn, h => by
   intro y hy
   rw[wR]at hy
   have:=Ax r _ (n+1) (by omega) (yz h hn) y hy
   simp only[Rt];omega
def yW (R:List Int):List Nat:=R.flatMap fun y=>vj y.toNat 3
theorem A3:∀R:List Int,(yW R).length=3* R.length
 |[]=>rfl
 | y :: R => by
   have:=A3 R
   unfold yW at *
   rw[Rz,uT,this];simp [vj,vt];omega
def ym (E:List (Int×Int)) (D:List Int):List Nat:=D.flatMap fun y=>u6 E y.toNat
theorem E4 {E:List (Int×Int)}:∀{D:List Int},(∀y∈D,Aq E y.toNat)→(ym E D).length≤15* D.length
 |[],_=>by simp [ym]
 | y :: D, h => by
   have:=E4 (E:=E) (D:=D) fun z hz=>h z (by simp [hz])
   obtain⟨n,v,_,q1,q2,q3,q4⟩:=(h y (by simp)).bits
   unfold ym at *
   rw[Rz,uT,q4,vY,Rt];omega
theorem wx (l:List Int) (k:Nat):∀n,k≤vA l k n∧vA l k n≤max k n
 |0=>⟨ux _,by rw[vA];omega⟩
 | n + 1 => by
   rw[vA]
   have:=wx l k n
   split
   · omega
   · split
     · omega
     · omega
theorem Bm:∀(K:Nat) (S W O:List Int),(yj S K W O).length=O.length
 |0,S,W,O=>by rw[yj,wm]
 |K+1,S,W,O=>by rw[yj,Bm K,wm]
theorem yA (C:List Int) (K:Nat):(vR C K).length=C.length:=by unfold vR;rw[Bm];simp
theorem HX (h:H) (l:List Int) {k:Nat} (hk:k≤l.length):Rd h (.aU false (ints l) 0 k 1) (ints (l.take k)):=by
 refine⟨?_,by intro s e;cases e⟩
 have:(ints (l.take k)).length=k:=by rw[ph,R0];omega
 rw[this]
 simp [aR,ints,hk,List.map_take]
def dA (ts:List Tok):List Int:=y6 ts ((List.replicate 286 0).set 256 1)
def dB (ts:List Tok):List Int:=zK ts (List.replicate 30 0)
def yd (l:List Int) (k:Nat):List Int:=l.take (vA l k l.length)
theorem AA (l:List Int) {k:Nat} (h:k≤l.length):(yd l k).length=vA l k l.length:=by
 have:=wx l k l.length
 unfold yd;rw[R0];omega
def vK (ts:List Tok) (la lb Lc:List Int):List Nat:=
 let all:=la++lb
 let row:=vm.map (fun o=>Lc.getD o.toNat 0)
 let k:=vA row 4 19
 vj 5 3++(vj (la.length-257) 5++(vj (lb.length-1) 5++(vj (k-4) 4++(yW (row.take k)++(ym (uW Lc) all++(vS (uW la) (uW lb) ts++u6 (uW la) 256))))))
structure BE (ts:List Tok) (KA KB KC:Nat) (la lb Lc:List Int):Prop where
 Fz:Dm ts=true
 n:ts.length≤300
 tok:∀t∈ts,xH t
 ra:wG 15 KA (wz (dA ts))
 rb:wG 15 KB (wz (dB ts))
 ea:la=yd (vR (dA ts) KA) 257
 eb:lb=yd (vR (dB ts) KB) 1
 all:∀y∈la++lb,0≤y∧y<19
 rc:wG 7 KC (wz (wR (la++lb) (List.replicate 19 0)))
 ec:Lc=vR (wR (la++lb) (List.replicate 19 0)) KC
 row:∀y∈Lc,0≤y∧y<8
 ca:vo la=0∨vo la=302
 cb:vo lb=0∨vo lb=302
 cc:vo Lc=0∨vo Lc=302
 zj:∀y∈la++lb,Aq (uW Lc) y.toNat
 Kv:∀t∈ts,GG (uW la) (uW lb) t
 DV:Aq (uW la) 256
theorem yN (l:List Int):(uW l).length=l.length:=by simp [uW]
theorem zq (h:H) (l:List Int):yn 2 h (y9 l) (uW l).length ((uW l).flatMap wA):=by
 have:=Hh (n:=2) (k:=l.length) (h:=h) (cs:=(uW l).flatMap wA) (by rw[Be yC,yN])
 rw[yN];exact this
theorem Ag (h:H) (l:List Int):Rd h (yY 1 l.length (ints l)) (ints l):=by
 have:=Hh (n:=1) (k:=l.length) (h:=h) (cs:=ints l) (by rw[ph];omega)
 exact⟨by have:=this.1;rw[ph];exact this,this.2.2⟩
theorem CN {C:List Int} (h:2≤C.length):(we C).length≤C.length:=Ge h (wq 0 C)
theorem Lu (c:Int):∀k:Nat,c* 2^k<3^k→0≤c→∀m:Nat,c* 2^(k+m)<3^(k+m)
 |k,h,hc,0=>h
 | k, h, hc, m + 1 => by
   have ih:=Lu c k h hc m
   rw[←uw,Int.pow_succ,Int.pow_succ,←Int.mul_assoc]
   have p:(0:Int)≤c* 2^(k+m):=Int.mul_nonneg hc (Int.pow_nonneg (by omega))
   omega
theorem AQ:∀(ds:List Int) (a m:Int),(∀d∈ds,d≤m)→a≤m→z4 ds a≤m
 |[],a,m,_,h=>h
 | d :: ds, a, m, hd, h => by
   rw[z4]
   refine AQ ds _ m (fun x hx=>hd x (by simp [hx])) ?_
   have:=hd d (by simp)
   unfold CP;split<;>omega
theorem Cc:∀(ds:List Int) (a:Int),a≤z4 ds a∧∀d∈ds,d≤z4 ds a
 |[],a=>⟨R2 _,by simp⟩
 | d :: ds, a => by
   have⟨h1,h2⟩:=Cc ds (CP a d)
   have:a≤CP a d∧d≤CP a d:=by unfold CP;split<;>omega
   rw[z4]
   refine⟨by omega,fun x hx=> ?_⟩
   rcases uQ.1 hx with q|q
   · subst q;omega
   · exact h2 x q
theorem F0:∀ws:List Int,(∀y∈ws,y=1)→ws.sum=ws.length
 |[],_=>rfl
 | y :: ws, h => by
   have:=F0 ws fun z hz=>h z (by simp [hz])
   have:=h y (by simp)
   rw[RR,Rt];omega
theorem EM:∀ws:List Int,(∀y∈ws,1≤y)→(ws.length:Int)≤ws.sum
 |[],_=>by simp
 | y :: ws, h => by
   have:=EM ws fun z hz=>h z (by simp [hz])
   have:=h y (by simp)
   rw[RR,Rt];omega
theorem Bh:∀ws:List Int,(∀y∈ws,1≤y)→(vW ws).sum≤ws.sum∧((∃y∈ws,y≠1)→(vW ws).sum<ws.sum)
 |[],_=>⟨R2 _,by simp⟩
 | y :: ws, h => by
   obtain⟨h1,h2⟩:=Bh ws fun z hz=>h z (by simp [hz])
   have hy:=h y (by simp)
   have e:(vW (y::ws)).sum=yi y+(vW ws).sum:=by simp [vW]
   rw[e,RR]
   have a:yi y≤y:=by unfold yi;omega
   refine⟨by omega,fun ⟨z,hz,hz1⟩=> ?_⟩
   rcases uQ.1 hz with q|q
   · subst q
     have:yi z<z:=by unfold yi;omega
     omega
   · have:=h2 ⟨z,q,hz1⟩;omega
theorem DF {ws:List Int} (h:∀y∈ws,1≤y):∀y∈vW ws,1≤y:=by
 intro y hy
 obtain⟨z,hz,rfl⟩:=RC.1 hy
 have:=h z hz
 unfold yi;omega
theorem CR {ws:List Int} (h1:1≤ws.length) (ho:∀y∈ws,y=1) {c:Int} {k:Nat} (hc:(ws.length:Int)≤c) (hk:c* 2^(k+1)<3^(k+1)) (hs:ws.length≤288):∀d∈vg ws,d≤k:=by
 intro d hd
 have sm:=F0 ws ho
 obtain⟨_,_,_,_,hb,_⟩:=NW ws true h1 (fun y hy=>by have:=ho y hy;omega) (by omega) (fun _=>ho)
 have b:=hb rfl d hd
 apply RM
 intro q
 obtain⟨m,hm⟩:∃m:Nat,d.toNat=k+1+m:=⟨d.toNat-(k+1),by omega⟩
 rw[hm]at b
 have:=Lu c (k+1) hk (by omega) m
 have p:(0:Int)<2^(k+1+m):=Int.pow_pos (by omega)
 have:ws.sum* 2^(k+1+m)≤c* 2^(k+1+m):=Int.mul_le_mul_of_nonneg_right (by omega) (by omega)
 omega
theorem FZ {ws:List Int} (hl:ws.length≤288) (pos:∀y∈ws,1≤y) (hs:ws.sum<1000000000000000):HN ws:=by
 by_cases e:ws=[]
 · exact .inl e
 · have h1:1≤ws.length:=List.length_pos_iff.2 e
   obtain⟨a,b,c,_⟩:=NW ws false h1 pos hs (fun h=>by cases h)
   exact .inr ⟨h1,hl,a,b,c⟩
theorem IW {most : Int} (hm : 0 ≤ most) : ∀ (f : Nat) (ws : List Int), ws.sum ≤ f → (∀ y ∈ ws, 1 ≤ y) → ws.sum < 1000000000000000 → ((13 ≤ most ∧ ws.length ≤ 288) ∨ (7 ≤ most ∧ ws.length ≤ 19)) → ∃ K, wG most K ws := by
 intro f
 induction f with
 | zero =>
   intro ws hf pos hs hl
   have:=EM ws pos
   have:ws=[]:=List.length_eq_zero_iff.1 (by omega)
   subst this
   exact⟨0,.last (.inl rfl) hm⟩
 | succ f ih =>
   intro ws hf pos hs hl
   have o:=FZ (by omega) pos hs
   by_cases c:z4 (vg ws) 0≤most
   · exact⟨0,.last o c⟩
   · have hne:ws≠[]:=fun e=>by subst e;exact c hm
     have h1:1≤ws.length:=List.length_pos_iff.2 hne
     have ho:∃y∈ws,y≠1:=by
      apply RM
      intro q
      have all1:∀y∈ws,y=1:=fun y hy=>RM fun r=>q ⟨y,hy,r⟩
      rcases hl with ⟨a,b⟩|⟨a,b⟩
      · have:=CR (c:=288) (k:=13) h1 all1 (by omega) (by decide) (by omega)
        exact c (AQ _ _ _ (fun d hd=>by have:=this d hd;omega) hm)
      · have:=CR (c:=19) (k:=7) h1 all1 (by omega) (by decide) (by omega)
        exact c (AQ _ _ _ (fun d hd=>by have:=this d hd;omega) hm)
     have hh:=(Bh ws pos).2 ho
     obtain⟨K,r⟩:=ih (vW ws) (by omega) (DF pos) (by omega) (by rw[zy];exact hl)
     exact⟨K+1,.more o (by omega) hne r⟩
theorem wB:∀(S D O:List Int) (p:Nat),(∀s∈S,s.toNat≠p)→(vF S D O)[p]?=O[p]?
 |[],D,O,p,h=>by simp [vF]
 |s::S,[],O,p,h=>by simp [vF]
 | s :: S, d :: D, O, p, h => by
   rw[vF,wB S D _ p fun t ht=>h t (by simp [ht]),RH,if_neg (h s (by simp))]
theorem xw:∀(S D O:List Int) (j:Nat) (s d:Int),(S.map Int.toNat).Nodup→S[j]?=some s→D[j]?=some d→s.toNat<O.length→(vF S D O)[s.toNat]?=some d
 |[],D,O,j,s,d,nd,h1,h2,h3=>by simp at h1
 |t::S,[],O,j,s,d,nd,h1,h2,h3=>by simp at h2
 | t :: S, e :: D, O, 0, s, d, nd, h1, h2, h3 => by
   simp at h1 h2
   subst h1;subst h2
   rw[RB,R6]at nd
   rw[vF,wB S D _ _ fun u hu q=>nd.1 (RC.2 ⟨u,hu,q⟩),RH,if_pos rfl,if_pos h3]
 | t :: S, e :: D, O, j + 1, s, d, nd, h1, h2, h3 => by
   rw[RB,R6]at nd
   rw[vF]
   exact xw S D _ j s d nd.2 (by simpa using h1) (by simpa using h2) (by rw[RO];exact h3)
theorem xC {S D O:List Int} {n:Nat} (hl:D.length=S.length) (nd:(S.map Int.toNat).Nodup) (hO:O.length=n) (hr:∀s∈S,s.toNat<n) (hz:∀p,p<n→(∀s∈S,s.toNat≠p)→O[p]?=some 0):vF S D O=vF S D (List.replicate n 0):=by
 apply List.ext_getElem?
 intro p
 by_cases hp:p<n
 · by_cases c:∃s∈S,s.toNat=p
   · obtain⟨s,hs,rfl⟩:=c
     obtain⟨j,hj,ej⟩:=R1.1 hs
     have h1:S[j]?=some s:=by rw[Ru hj,ej]
     have h2:D[j]?=some (D[j]'(by omega)):=Ru (by omega)
     rw[xw S D O j s _ nd h1 h2 (by omega),xw S D _ j s _ nd h1 h2 (by simpa using hp)]
   · have c':∀s∈S,s.toNat≠p:=fun s hs q=>c ⟨s,hs,q⟩
     rw[wB _ _ _ _ c',wB _ _ _ _ c',hz p hp c',RQ,if_pos hp]
 · rw[RG (by rw[wm];omega),RG (by rw[wm];simp;omega)]
theorem CM {most:Int} {S:List Int} {n:Nat} (nd:(S.map Int.toNat).Nodup) (hr:∀s∈S,s.toNat<n):∀(K:Nat) (W O:List Int),wG most K W→W.length=S.length→(∀y∈W,1≤y)→W.sum<1000000000000000→O.length=n→(∀p,p<n→(∀s∈S,s.toNat≠p)→O[p]?=some 0)→
 ∃W',W'.length=S.length∧(∀y∈W',1≤y)∧W'.sum<1000000000000000∧z4 (vg W') 0≤most∧yj S K W O=vF S (vg W') (List.replicate n 0)
 | 0, W, O, r, hl, pos, hs, hO, hz => by
   cases r with
   |last o c=>exact⟨W,hl,pos,hs,c,xC (by rw[wc,hl]) nd hO hr hz⟩
 | K + 1, W, O, r, hl, pos, hs, hO, hz => by
   cases r with
   | more o c hne r =>
     have:=(Bh W pos).1
     exact CM nd hr K (vW W) _ r (by rw[zy,hl]) (DF pos) (by omega) (by rw[wm,hO]) (fun p hp hq=>by rw[wB _ _ _ _ hq];exact hz p hp hq)
theorem H4 (f:Int→Nat):∀(O:List Int) (i:Nat) (d:Int),i<O.length→((O.set i d).map f).sum+f (O.getD i 0)=(O.map f).sum+f d
 |[],i,d,h=>by simp at h
 |x::O,0,d,h=>by simp;omega
 | x :: O, i + 1, d, h => by
   have:=H4 f O i d (by simpa using h)
   simp only[List.set_cons_succ,RB,RR,List.getD_cons_succ];omega
theorem C6 (f:Int→Nat):∀(S D O:List Int),D.length=S.length→(S.map Int.toNat).Nodup→(∀s∈S,s.toNat<O.length)→((vF S D O).map f).sum+(S.map fun s=>f (O.getD s.toNat 0)).sum=(O.map f).sum+(D.map f).sum
 | [], D, O, hl, nd, hr => by
   have:D=[]:=List.length_eq_zero_iff.1 (by simpa using hl)
   subst this
   simp [vF]
 |s::S,[],O,hl,nd,hr=>by simp at hl
 | s :: S, d :: D, O, hl, nd, hr => by
   rw[RB,R6]at nd
   have ih:=C6 f S D (O.set s.toNat d) (by simpa using hl) nd.2 (fun t ht=>by rw[RO];exact hr t (by simp [ht]))
   have e:(S.map fun t=>f ((O.set s.toNat d).getD t.toNat 0))=S.map fun t=>f (O.getD t.toNat 0):=RX fun t ht=>by
    rw[getD_set_ne (fun q=>nd.1 (RC.2 ⟨t,ht,q.symm⟩))]
   rw[e]at ih
   have ss:=H4 f O s.toNat d (hr s (by simp))
   simp only[vF,RB,RR]
   omega
def f15 (n:Nat) (x:Int):Nat:=if 1≤x∧x≤n then 2^(n-x.toNat)else 0
theorem DQ:∀n,vn [] n=2^n
 |0=>rfl
 | n + 1 => by
   have c:wD [] (n+1)=0:=KK _
   rw[vn,DQ n,c,Int.pow_succ];omega
theorem DO (n:Nat):∀(q p:List Int),vn (p++q) n=vn p n-((q.map (f15 n)).sum:Nat)
 |[],p=>by simp
 | x :: q, p => by
   have e:p++x::q=(p++[x])++q:=by simp
   rw[e,DO n q (p++[x]),CK,RB,RR]
   unfold f15
   split
   · push_cast;omega
   · push_cast;omega
theorem zD (l:List Int) (n:Nat):vn l n=2^n-((l.map (f15 n)).sum:Nat):=by
 have:=DO n l []
 rwa [List.nil_append,DQ]at this
theorem DP (l:List Int):∀n,vb l n+wD l n+vn l n=2^n
 |0=>by simp [vb,vn,wD]
 | n + 1 => by
   have:=DP l n
   rw[vb,vn,Int.pow_succ];omega
theorem G3 {l:List Int} {n:Nat} (h:0≤vn l n):∀m,m≤n→0≤vn l m:=by
 have:∀k m,m+k=n→0≤vn l m:=by
  intro k
  induction k with
  | zero =>
    intro m hm
    have:m=n:=by omega
    subst this;exact h
  | succ k ih =>
    intro m hm
    have:=ih (m+1) (by omega)
    rw[vn]at this
    omega
 exact fun m hm=>this (n-m) m (by omega)
theorem Fq {l:List Int} {s:Nat} (hs:s<l.length) {n:Nat} (hn:1≤n) (e:l.getD s 0=(n:Int)):wD (l.take s) n<wD l n:=by
 have a:=Dl hs n hn
 rw[if_pos e]at a
 have:∀(p q:List Int),wD p n≤wD (p++q) n:=fun p q=>by
  unfold wD;split
  · exact ux _
  · rw[List.countP_append];omega
 have b:=this (l.take (s+1)) (l.drop (s+1))
 rw[List.take_append_drop]at b
 omega
theorem EH {l:List Int} (hl:0≤vn l 15) (hr:∀y∈l,0≤y∧y<16) {s:Nat} (hs:s<l.length) (h1:1≤l.getD s 0):Aq (uW l) s:=by
 have hm:l.getD s 0∈l:=by rw[Rr,Ru hs];exact RJ hs
 have r:=hr _ hm
 obtain⟨n,hn⟩:=RA r.1
 have n1:1≤n:=by omega
 have lt:=Fq hs n1 hn
 have f:=DP l n
 have m:=G3 hl n (by omega)
 have fb:=(show 0≤vb l n from by
  have:∀n,0≤vb l n:=by
   intro n
   induction n with
   |zero=>simp [vb]
   |succ n ih=>rw[vb];omega
  exact this n)
 have tn:((n:Nat):Int).toNat=n:=by omega
 refine⟨n,(vb l n+wD (l.take s) n).toNat, ?_,n1,by omega, ?_⟩
 · unfold uW
   rw[uI,RW hs,Rx]
   unfold yu
   rw[if_pos h1,hn,tn]
   congr 2
   omega
 · have e2:((2^n:Nat):Int)=(2:Int)^n:=by push_cast;rfl
   omega
theorem BA:∀(C:List Int) (i:Nat),((u5 i C).map Int.toNat).Nodup
 |[],i=>by simp [u5]
 | c :: r, i => by
   have ih:=BA r (i+1)
   rw[u5]
   split
   · rw[RB,R6]
     refine⟨fun h=> ?_,ih⟩
     obtain⟨s,hs,e⟩:=RC.1 h
     have:=wJ (i+1) r s hs
     omega
   · exact ih
theorem Am:∀(C:List Int) (i p:Nat),0<C.getD p 0→((i+p:Nat):Int)∈u5 i C
 |[],i,p,h=>by simp at h
 | c :: r, i, 0, h => by
   rw[u5,if_pos (by simpa using h)]
   simp
 | c :: r, i, p + 1, h => by
   have ih:=Am r (i+1) p (by simpa using h)
   have e:i+1+p=i+(p+1):=by omega
   rw[e]at ih
   rw[u5]
   split
   · exact R3 _ ih
   · exact ih
theorem Dc:∀(C:List Int) (i:Nat),(∀y∈C,¬0<y)→u5 i C=[]
 |[],i,h=>rfl
 | c :: r, i, h => by
   rw[u5,if_neg (h c (by simp))]
   exact Dc r (i+1) fun y hy=>h y (by simp [hy])
theorem Gf {S:List Int} {s:Int} (h:s∈S):s∈AX S:=by
 unfold AX
 split
 · rename_i h1
   match S,h1 with
   | [t], _ =>
     simp at h;subst h
     split<;>simp
 · exact h
theorem K2 {S : List Int} (h : (S.map Int.toNat).Nodup) (hp : ∀ s ∈ S, 0 ≤ s) : ((AX S).map Int.toNat).Nodup := by
 unfold AX
 split
 · rename_i h1
   match S,h1 with
   | [t], _ =>
     have:=hp t (by simp)
     split
     · rename_i c
       simp at c ⊢
       omega
     · rename_i c
       simp at c ⊢
       omega
 · exact h
theorem JQ {S:List Int} (h:S≠[]):2≤(AX S).length:=by
 unfold AX
 split
 · rename_i h1
   split
   · simp
   · simp [h1]
 · rename_i h1
   have:=List.length_pos_iff.2 h
   omega
theorem JR {S W:List Int} (hl:W.length=S.length) (h:∀y∈W,1≤y):∀y∈Hd S W,1≤y:=by
 intro s hs
 unfold Hd at hs
 split at hs
 · rename_i h1
   rw[←hl]at h1
   match W,h1 with
   | [t], _ =>
     have:=h t (by simp)
     split at hs
     · simp at hs;omega
     · simp at hs;omega
 · exact h s hs
theorem Gt {α:Type}:∀l:List α,(l.map fun _=>(0:Nat)).sum=0
 |[]=>rfl
 |x::l=>by rw[RB,RR,Gt l]
theorem IE {C:List Int} (h:∀y∈C,¬0<y):we C=[]:=by
 unfold we;rw[Dc C 0 h];rfl
theorem Aj:∀(l:List Int) (b:Int),(∀y∈l,y≤b)→l.sum≤b* l.length
 |[],b,_=>by simp
 | y :: l, b, h => by
   have:=Aj l b fun z hz=>h z (by simp [hz])
   have hy:=h y (by simp)
   rw[RR,Rt]
   have e:b* ((l.length+1:Nat):Int)=b* l.length+b:=by rw[Int.natCast_add,Int.mul_add];simp
   omega
theorem FW {C : List Int} (hC : ∀ y ∈ C, 0 ≤ y ∧ y ≤ 2147483647) (h2 : 2 ≤ C.length) (hl : C.length ≤ 288) : (∀ y ∈ wz C, 1 ≤ y) ∧ (wz C).sum < 1000000000000000 := by
 have pos:∀y∈wz C,1≤y:=JR (vB 0 C).symm fun y hy=>by have:=(xQ C y hy).2;omega
 refine⟨pos, ?_⟩
 have up:∀y∈wz C,y≤2147483647:=by
  intro y hy
  have w:∀z∈u7 C,z≤2147483647:=fun z hz=>(hC z (xQ C z hz).1).2
  unfold wz Hd at hy
  split at hy
  · rename_i h1
    rw[vB]at h1
    match hW:u7 C,h1 with
    | [t], _ =>
      rw[hW]at w hy
      have:=w t (by simp)
      split at hy
      · simp at hy;omega
      · simp at hy;omega
  · exact w y hy
 have:=Aj (wz C) 2147483647 up
 have l1:(wz C).length=(we C).length:=G5 C
 have l2:=CN h2
 omega
theorem zf {C:List Int} {most:Int} (hC:∀y∈C,0≤y∧y≤2147483647) (h2:2≤C.length) (hm:0≤most) (hl:(13≤most∧C.length≤288)∨(7≤most∧C.length≤19)):∃K,wG most K (wz C):=by
 obtain⟨a,b⟩:=FW hC h2 (by omega)
 have l1:(wz C).length=(we C).length:=G5 C
 have l2:=CN h2
 exact IW hm (wz C).sum.toNat (wz C) (by have:=EM _ a;omega) a b (by omega)
theorem xN {C : List Int} {most : Int} {K : Nat} (hC : ∀ y ∈ C, 0 ≤ y ∧ y ≤ 2147483647) (h2 : 2 ≤ C.length) (hl : C.length ≤ 288) (hm : 0 ≤ most ∧ most ≤ 15) (r : wG most K (wz C)) :
 (vR C K).length=C.length∧(∀y∈vR C K,0≤y∧y≤most)∧(∀p,0<C.getD p 0→1≤(vR C K).getD p 0)∧((∃y∈C,0<y)→vn (vR C K) 15=0)∧((∀y∈C,¬0<y)→vR C K=List.replicate C.length 0):=by
 obtain⟨a,b⟩:=FW hC h2 hl
 have nd:((we C).map Int.toNat).Nodup:=K2 (BA C 0) fun s hs=>by have:=wJ 0 C s hs;omega
 have rg:∀s∈we C,0≤s∧s<C.length:=JP h2 fun s hs=>by have:=wJ 0 C s hs;omega
 have rg':∀s∈we C,s.toNat<C.length:=fun s hs=>by have:=rg s hs;omega
 obtain⟨W',w1,w2,w3,w4,w5⟩:=CM nd rg' K (wz C) (List.replicate C.length 0) r (G5 C) a b (by simp) (fun p hp _=>by rw[RQ,if_pos hp])
 have e:vR C K=vF (we C) (vg W') (List.replicate C.length 0):=w5
 have dl:(vg W').length=(we C).length:=by rw[wc,w1]
 have dm:∀d∈vg W',d≤most:=fun d hd=>by have:=(Cc (vg W') 0).2 d hd;omega
 have o:=FZ (ws:=W') (by have:=CN h2;omega) w2 w3
 have d0:=Fu o
 have gin:∀(j:Nat) (s d:Int),(we C)[j]?=some s→(vg W')[j]?=some d→(vR C K)[s.toNat]?=some d:=fun j s d h1 h2=>by
  rw[e];exact xw _ _ _ j s d nd h1 h2 (by simpa using rg' s (uD h1))
 have gout:∀p:Nat,(∀s∈we C,s.toNat≠p)→(vR C K)[p]?=(List.replicate C.length (0:Int))[p]?:=fun p hp=>by rw[e,wB _ _ _ _ hp]
 have hu:we C≠[]→2≤(we C).length:=fun hne=>by
  refine JQ fun q=>hne ?_
  unfold we;rw[q];rfl
 have h1w:we C≠[]→_:=fun hne=>NW W' false (by have:=hu hne;omega) w2 w3 (fun h=>by cases h)
 refine⟨yA C K, ?_, ?_, ?_, ?_⟩
 · intro y hy
   obtain⟨p,hp⟩:=uL.1 hy
   by_cases c:∃s∈we C,s.toNat=p
   · obtain⟨s,hs,rfl⟩:=c
     obtain⟨j,hj⟩:=uL.1 hs
     have jl:=(uq.1 hj).1
     have hd:(vg W')[j]?=some ((vg W')[j]'(by omega)):=Ru (by omega)
     rw[gin j s _ hj hd]at hp
     obtain rfl:=uf hp
     have m:=RJ (l:=vg W') (n:=j) (by omega)
     exact⟨(d0 _ m).1,dm _ m⟩
   · rw[gout p fun s hs q=>c ⟨s,hs,q⟩,RQ]at hp
     split at hp
     · obtain rfl:=uf hp;omega
     · cases hp
 · intro p hp
   have sm:=Am C 0 p hp
   rw[uE]at sm
   have hs:(p:Int)∈we C:=Gf sm
   obtain⟨j,hj⟩:=uL.1 hs
   have jl:=(uq.1 hj).1
   have hd:(vg W')[j]?=some ((vg W')[j]'(by omega)):=Ru (by omega)
   have g:=gin j _ _ hj hd
   have tp:((p:Nat):Int).toNat=p:=by omega
   rw[tp]at g
   rw[Rr,g]
   have hne:we C≠[]:=fun q=>by rw[q]at hs;simp at hs
   exact(h1w hne).2.2.2.2.2 (by have:=hu hne;omega) _ (RJ _)
 · rintro ⟨y,hy,hpos⟩
   obtain⟨p,hp⟩:=uL.1 hy
   have sm:=Am C 0 p (by rw[Rr,hp];exact hpos)
   have hs:((0+p:Nat):Int)∈we C:=Gf sm
   have hne:we C≠[]:=fun q=>by rw[q]at hs;simp at hs
   have H:=h1w hne
   have kr:=H.2.2.2.1 15 (fun d hd=>by have:=dm d hd;omega)
   have one:=H.2.2.2.2.2 (by have:=hu hne;omega)
   have ss:=C6 (f15 15) (we C) (vg W') (List.replicate C.length 0) dl nd (fun s hs=>by simpa using rg' s hs)
   rw[←e]at ss
   have z1:((we C).map fun s=>f15 15 ((List.replicate C.length (0:Int)).getD s.toNat 0)).sum=0:=by
    have:(we C).map (fun s=>f15 15 ((List.replicate C.length (0:Int)).getD s.toNat 0))=(we C).map fun _=>0:=RX fun s hs=>by
     rw[zF (rg' s hs)];rfl
    rw[this,Gt]
   have z2:((List.replicate C.length (0:Int)).map (f15 15)).sum=0:=by
    rw[List.map_replicate]
    have:f15 15 0=0:=rfl
    rw[this];simp
   have z3:(vg W').map (f15 15)=(vg W').map fun d=>2^(15-d.toNat):=RX fun d hd=>by
    unfold f15
    rw[if_pos ⟨one d hd,by have:=dm d hd;omega⟩]
   rw[z1,z2,z3,kr]at ss
   rw[zD,show((vR C K).map (f15 15)).sum=2^15 by omega]
   rfl
 · intro h
   rw[e,IE h]
   simp [vF]
theorem ya (l : List Int) (k : Nat) : ∀ n p, vA l k n ≤ p → p < n → ¬ 0 < l.getD p 0
 |0,p,h1,h2=>by omega
 | n + 1, p, h1, h2 => by
   rw[vA]at h1
   split at h1
   · omega
   · split at h1
     · omega
     · by_cases e:p=n
       · subst e;assumption
       · exact ya l k n p h1 (by omega)
theorem B9 {l : List Int} (hr : ∀ y ∈ l, 0 ≤ y) (k n : Nat) : vn (yd l k) n = vn l n := by
 have e:l=yd l k++l.drop (vA l k l.length):=(List.take_append_drop _ _).symm
 have z:((l.drop (vA l k l.length)).map (f15 n)).sum=0:=by
  have:∀q:List Int,(∀y∈q,y=0)→(q.map (f15 n)).sum=0:=by
   intro q
   induction q with
   |nil=>intro _;rfl
   | cons x q ih =>
     intro h
     rw[RB,RR,ih fun y hy=>h y (by simp [hy]),h x (by simp)]
     unfold f15;simp
  refine this _ fun y hy=> ?_
  obtain⟨j,hj⟩:=uL.1 hy
  rw[uK]at hj
  have hl:=(uq.1 hj).1
  have:=ya l k l.length (vA l k l.length+j) (by omega) hl
  rw[Rr,hj]at this
  have:=hr y (List.mem_of_mem_drop hy)
  simp at *
  omega
 rw[zD,zD]
 have:(l.map (f15 n)).sum=((yd l k).map (f15 n)).sum:=by
  conv=>lhs;rw[e]
  rw[List.map_append,List.sum_append,z,Nat.add_zero]
 rw[this]
theorem KM {l:List Int} (k:Nat) {p:Nat} (h:0<l.getD p 0):p<(yd l k).length∧(yd l k).getD p 0=l.getD p 0:=by
 have hp:p<l.length:=by
  apply RM
  intro c
  rw[Rr,RG (by omega)]at h
  simp at h
 have:p<vA l k l.length:=by
  apply RM
  intro c
  exact ya l k l.length p (by omega) hp h
 unfold yd
 refine⟨by rw[R0];omega, ?_⟩
 rw[Rr,uS,if_pos this,←Rr]
theorem xz {l:List Int} (h1:1≤l.length) (h2:l.length≤288) (hr:∀y∈l,0≤y∧y<16) (h:0≤vn l 15):vo l=if vn l 15=0 then 0 else 302:=by
 have hm:z5 l=true:=by
  unfold z5
  have:(ints l).any Eo=false:=by
   rw[List.any_eq_false]
   intro x hx
   obtain⟨y,hy,rfl⟩:=RC.1 hx
   have:=hr y hy
   simp [Eo,I];omega
  rw[this];simp;omega
 unfold vo
 rw[if_neg (by rw[hm];simp),if_neg (by omega)]
 split
 · rw[if_neg (by omega)]
 · rw[if_pos (by omega)]
theorem Gl (s:ByteArray) (i j:Nat):∀f k,(∀m,m<k→xD s (i+m)=xD s (j+m))→∀m,m<xY s i j f k→xD s (i+m)=xD s (j+m)
 |0,k,h=>by simpa [xY]using h
 | f + 1, k, h => by
   unfold xY
   split
   · rename_i q
     refine Gl s i j f (k+1) fun m hm=> ?_
     by_cases e:m=k
     · subst e;exact q.2.2
     · exact h m (by omega)
   · exact h
theorem zO (s:ByteArray) (i:Nat) (hi:i≤s.size):∀(n:Nat) (b:Nat×Nat),n≤i→(b.1=0∨(b.1≤258∧1≤b.2∧b.2≤i∧i+b.1≤s.size∧∀m,m<b.1→xD s (i+m)=xD s (i-b.2+m)))→
 ((vG s i n b).1=0∨((vG s i n b).1≤258∧1≤(vG s i n b).2∧(vG s i n b).2≤i∧i+(vG s i n b).1≤s.size∧∀m,m<(vG s i n b).1→xD s (i+m)=xD s (i-(vG s i n b).2+m)))
 |0,b,hn,h=>h
 | n + 1, b, hn, h => by
   unfold vG
   refine zO s i hi n _ (by omega) ?_
   split
   · right
     refine⟨HZ s i n,by show 1≤i-n;omega,by show i-n≤i;omega,Ea s i n hi,fun m hm=> ?_⟩
     have:=Gl s i n 258 0 (fun m hm=>by omega) m hm
     have e:i-(i-n)=n:=by omega
     show xD s (i+m)=xD s (i-(i-n)+m)
     rw[e];exact this
   · exact h
def preB (s:ByteArray) (i:Nat):List Nat:=(List.range i).map (xD s)
theorem wU (s:ByteArray) (i:Nat):(preB s i).length=i:=by simp [preB]
theorem Br (s:ByteArray) (i:Nat):preB s (i+1)=preB s i++[xD s i]:=by simp [preB,List.range_succ]
theorem Gh (s:ByteArray) {i j:Nat} (h:j<i):(preB s i).getD j 0=xD s j:=by
 rw[Rr,preB,uI,RW h];rfl
theorem Hw (s:ByteArray) {d:Nat} (hd:1≤d):∀(n i:Nat),d≤i→(∀m,m<n→xD s (i+m)=xD s (i-d+m))→Is d n (preB s i)=preB s (i+n)
 |0,i,h,_=>rfl
 | n + 1, i, h, hm => by
   have e0:=hm 0 (by omega)
   simp only[Nat.add_zero]at e0
   rw[Is,wU,Gh s (by omega),←e0,←Br,Hw s hd n (i+1) (by omega) fun m h2=>by
    have:=hm (m+1) (by omega)
    have a1:i+(m+1)=i+1+m:=by omega
    have a2:i-d+(m+1)=i+1-d+m:=by omega
    rw[a1,a2]at this;exact this]
   congr 1;omega
theorem Hk (s:ByteArray) {i:Nat} (hi:i<s.size):((wv s i).1.len=0∧(wv s i).1.lit=xD s i∧(wv s i).1.vH=0∧(wv s i).2=i+1)∨
 (∃L D:Nat,(wv s i).1.len=L∧(wv s i).1.vH=D∧(wv s i).1.lit=0∧3≤L∧L≤258∧1≤D∧D≤i∧(wv s i).2=i+L∧i+L≤s.size∧∀m,m<L→xD s (i+m)=xD s (i-D+m)):=by
 unfold wv
 split
 · exact .inl ⟨rfl,rfl,rfl,rfl⟩
 · rename_i c
   right
   rcases zO s i (by omega) i (0,0) (ux _) (.inl rfl)with h|⟨h1,h2,h3,h4,h5⟩
   · omega
   · exact⟨_,_,rfl,rfl,rfl,by omega,h1,h2,h3,rfl,h4,h5⟩
theorem yG (s : ByteArray) (hs : s.size ≤ 300) : ∀ (f i : Nat), s.size - i ≤ f → i ≤ s.size → (zt s f i).length ≤ s.size - i ∧ (∀ t ∈ zt s f i, xH t) ∧ vw i (zt s f i) = true ∧ xe (zt s f i) (preB s i) = preB s s.size
 | 0, i, hf, hi => by
   have:i=s.size:=by omega
   subst this
   simp [zt,vw,xe]
 | f + 1, i, hf, hi => by
   rw[zt]
   split
   · rename_i c
     have lt:=GC s i
     have le:=GB s i c
     obtain⟨i1,i2,i3,i4⟩:=yG s hs f (wv s i).2 (by omega) le
     have sp:=Hk s c
     refine⟨by rw[Rt];omega, ?_, ?_, ?_⟩
     · intro t ht
       rcases uQ.1 ht with q|q
       · subst q
         rcases sp with ⟨a,b,_,_⟩|⟨L,D,a,b,_,c1,c2,c3,c4,_,_,_⟩
         · have:=Ci s i
           exact .inl ⟨a,by omega,by omega⟩
         · exact .inr ⟨by omega,by omega,by omega,by omega⟩
       · exact i2 t q
     · rw [vw]
       rcases sp with ⟨a,b,c0,d⟩|⟨L,D,a,b,c0,c1,c2,c3,c4,d,e,_⟩
       · have hb:=Ci s i
         have st:vV (i:Int) (wv s i).1=some ((i:Int)+1):=by
          unfold vV
          rw[if_pos a,if_neg (by omega)]
         rw[st]
         simp only
         rw[if_neg (by omega)]
         have e:(((wv s i).2:Nat):Int)=(i:Int)+1:=by omega
         rw[←e];exact i3
       · have st:vV (i:Int) (wv s i).1=some ((i:Int)+L):=by
          unfold vV
          rw[if_neg (by omega),if_neg (by omega),a]
         rw[st]
         simp only
         rw[if_neg (by omega)]
         have e':(((wv s i).2:Nat):Int)=(i:Int)+L:=by omega
         rw[←e'];exact i3
     · rw [xe]
       rcases sp with ⟨a,b,c0,d⟩|⟨L,D,a,b,c0,c1,c2,c3,c4,d,e,g⟩
       · have:vE (preB s i) (wv s i).1=preB s (wv s i).2:=by
          unfold vE
          rw[if_pos a,b,d,Br];rfl
         rw[this];exact i4
       · have:vE (preB s i) (wv s i).1=preB s (wv s i).2:=by
          unfold vE
          rw[if_neg (by omega),a,b,d]
          exact Hw s c3 L i c4 g
         rw[this];exact i4
   · have:i=s.size:=by omega
     subst this
     simp [vw,xe]
theorem zV (s:ByteArray) (hs:s.size≤300):Dm (tokens s)=true:=by
 obtain⟨_,_,h3,h4⟩:=yG s hs s.size 0 (by omega) (by omega)
 unfold Dm yh tokens
 have h3':vw 0 (zt s s.size 0)=true:=h3
 rw[if_pos h3']
 have:xe (zt s s.size 0) []=preB s s.size:=h4
 rw[this]
 simp only[vU,wU]
 simpa using hs
theorem CE (l:List Int) (i p:Nat):l.getD p 0≤(wH l i).getD p 0:=by
 unfold wH
 by_cases e:i=p
 · subst e
   by_cases h:i<l.length
   · rw[Rr (l:=l.set i _),RH,if_pos rfl,if_pos h]
     show l.getD i 0≤l.getD i 0+1
     omega
   · rw[List.set_eq_of_length_le (by omega)];exact R2 _
 · rw[getD_set_ne e];exact R2 _
theorem AJ {l:List Int} {i:Nat} (h:i<l.length):(wH l i).getD i 0=l.getD i 0+1:=by
 unfold wH
 rw[Rr (l:=l.set i _),RH,if_pos rfl,if_pos h];rfl
theorem Av:∀(ts:List Tok) (A:List Int) (p:Nat),A.getD p 0≤(y6 ts A).getD p 0
 |[],A,p=>R2 _
 | t :: r, A, p => by
   rw[y6]
   refine Int.le_trans ?_ (Av r _ p)
   split<;>exact CE _ _ _
theorem Fm:∀(ts:List Tok) (A:List Int) (p:Nat),A.getD p 0≤(zK ts A).getD p 0
 |[],A,p=>R2 _
 | t :: r, A, p => by
   rw[zK]
   refine Int.le_trans ?_ (Fm r _ p)
   split
   · exact R2 _
   · exact CE _ _ _
theorem Fp:∀(ts:List Int) (A:List Int) (p:Nat),A.getD p 0≤(wR ts A).getD p 0
 |[],A,p=>R2 _
 | t :: r, A, p => by
   rw[wR]
   exact Int.le_trans (CE _ _ _) (Fp r _ p)
theorem AS {A:List Int} (h:∀y∈A,0≤y) (p:Nat):0≤A.getD p 0:=by
 rw[Rr]
 cases e:A[p]? with
 |none=>simp
 |some y=>exact h y (uD e)
theorem G9 {A:List Int} (h:∀y∈A,0≤y) (i:Nat):∀y∈wH A i,0≤y:=by
 intro y hy
 rcases RY hy with q|q
 · exact h y q
 · have:=AS h i;omega
theorem Fl : ∀ (ts : List Tok) (A : List Int), (∀ y ∈ A, 0 ≤ y) → A.length = 286 → ∀ t ∈ ts, xH t → (t.len = 0 → 1 ≤ (y6 ts A).getD t.lit.toNat 0) ∧ (t.len ≠ 0 → 1 ≤ (y6 ts A).getD (xf t.len.toNat) 0)
 |[],A,_,_,t,h,_=>by simp at h
 | u :: r, A, hA, hl, t, h, o => by
   rw[y6]
   rcases uQ.1 h with q|q
   · subst q
     refine⟨fun h0=> ?_,fun h0=> ?_⟩
     · rw[if_pos h0]
       refine Int.le_trans ?_ (Av r _ _)
       rcases o with ⟨_,b,c⟩|⟨a,_⟩
       · rw[AJ (by omega)]
         have:=AS hA t.lit.toNat;omega
       · omega
     · rw[if_neg h0]
       refine Int.le_trans ?_ (Av r _ _)
       rcases o with ⟨a,_⟩|⟨a,b,_⟩
       · exact absurd a h0
       · have:=xP (k:=t.len.toNat) (by omega) (by omega)
         rw[AJ (by omega)]
         have:=AS hA (xf t.len.toNat);omega
   · exact Fl r _ (by split<;>exact G9 hA _) (by split<;>rw[wT,hl]) t q o
theorem Fo : ∀ (ts : List Tok) (A : List Int), (∀ y ∈ A, 0 ≤ y) → A.length = 30 → ∀ t ∈ ts, xH t → t.len ≠ 0 → 1 ≤ (zK ts A).getD (xE t.vH.toNat) 0
 |[],A,_,_,t,h,_,_=>by simp at h
 | u :: r, A, hA, hl, t, h, o, h0 => by
   rw[zK]
   rcases uQ.1 h with q|q
   · subst q
     rw[if_neg h0]
     refine Int.le_trans ?_ (Fm r _ _)
     rcases o with ⟨a,_⟩|⟨a,b,c,d⟩
     · exact absurd a h0
     · have:=xM (k:=t.vH.toNat) (by omega) (by omega)
       rw[AJ (by omega)]
       have:=AS hA (xE t.vH.toNat);omega
   · refine Fo r _ ?_ ?_ t q o h0
     · split
       · exact hA
       · exact G9 hA _
     · split
       · exact hl
       · rw[wT,hl]
theorem Cp:∀(ds:List Int) (A:List Int),(∀y∈A,0≤y)→A.length=19→∀y∈ds,0≤y∧y<19→1≤(wR ds A).getD y.toNat 0
 |[],A,_,_,t,h,_=>by simp at h
 | u :: r, A, hA, hl, t, h, o => by
   rw[wR]
   rcases uQ.1 h with q|q
   · subst q
     refine Int.le_trans ?_ (Fp r _ _)
     rw[AJ (by omega)]
     have:=AS hA t.toNat;omega
   · exact Cp r _ (G9 hA _) (by rw[wT,hl]) t q o
theorem yR (n:Nat):∀y∈List.replicate n (0:Int),0≤y∧y≤0:=fun y hy=>by have:=RT hy;omega
theorem Hy (ts:List Tok) (hn:ts.length≤300):(dA ts).length=286∧(∀y∈dA ts,0≤y∧y≤2147483647)∧1≤(dA ts).getD 256 0:=by
 have z:∀y∈(List.replicate 286 (0:Int)).set 256 1,0≤y∧y≤1:=fun y hy=>by
  rcases RY hy with q|q
  · have:=RT q;omega
  · omega
 refine⟨by unfold dA;rw[Ck,RO,RI],fun y hy=> ?_, ?_⟩
 · have:=Cm ts _ 1 (by omega) z y hy;omega
 · have h:((List.replicate 286 (0:Int)).set 256 1).getD 256 0=1:=by decide
   have:=Av ts ((List.replicate 286 0).set 256 1) 256
   rw[h]at this
   exact this
theorem HA (ts:List Tok) (hn:ts.length≤300):(dB ts).length=30∧(∀y∈dB ts,0≤y∧y≤2147483647):=by
 refine⟨by unfold dB;rw[Cn,RI],fun y hy=> ?_⟩
 have:=Co ts _ 0 (by omega) (yR 30) y hy;omega
theorem JL {ts:List Tok} {la lb:List Int} {t:Tok} (o:xH t) (hA:t.len=0→Aq (uW la) t.lit.toNat) (hL:t.len≠0→Aq (uW la) (xf t.len.toNat)) (hB:t.len≠0→Aq (uW lb) (xE t.vH.toNat)):GG (uW la) (uW lb) t:=by
 rcases o with ⟨a,b,c⟩|⟨a,b,c,d⟩
 · exact .inl ⟨a,b,hA a⟩
 · exact .inr ⟨a,b,c,d,hL (by omega),hB (by omega)⟩
theorem Cv {C l:List Int} {K k m:Nat} (hC:∀y∈C,0≤y∧y≤2147483647) (h2:2≤C.length) (hl:C.length≤288) (hk:k≤C.length) (hk1:1≤k) (r:wG 15 K (wz C)) (e:l=yd (vR C K) k):
 (k≤l.length∧l.length≤C.length)∧(∀y∈l,0≤y∧y<16)∧(vo l=0∨vo l=302)∧(∀p,0<C.getD p 0→Aq (uW l) p)∧0≤vn l 15:=by
 obtain⟨f1,f2,f3,f4,f5⟩:=xN hC h2 hl (by omega) r
 have ug:=wx (vR C K) k (vR C K).length
 have ll:l.length=vA (vR C K) k (vR C K).length:=by rw[e];exact AA _ (by omega)
 have hr:∀y∈l,0≤y∧y<16:=fun y hy=>by
  rw[e]at hy
  have:=f2 y (List.mem_of_mem_take hy)
  omega
 have lc:vn l 15=vn (vR C K) 15:=by rw[e];exact B9 (fun y hy=>(f2 y hy).1) k 15
 have l0:0≤vn l 15:=by
  rw[lc]
  by_cases c:∃y∈C,0<y
  · rw[f4 c];omega
  · rw[f5 fun y hy q=>c ⟨y,hy,q⟩]
    rw[zD,List.map_replicate]
    have:f15 15 0=0:=rfl
    rw[this];simp
 have ck:=xz (l:=l) (by omega) (by omega) hr l0
 refine⟨by omega,hr, ?_,fun p hp=> ?_,l0⟩
 · rw[ck];split
   · exact .inl rfl
   · exact .inr rfl
 · have g:=f3 p hp
   obtain⟨c1,c2⟩:=KM k (show 0<(vR C K).getD p 0 by omega)
   rw[←e]at c1 c2
   exact EH l0 hr c1 (by omega)
theorem KQ {ts:List Tok} (hn:ts.length≤300) (Fz:Dm ts=true) (t2:∀t∈ts,xH t):∃KA KB KC la lb Lc,BE ts KA KB KC la lb Lc:=by
 obtain⟨a1,a2,a3⟩:=Hy ts hn
 obtain⟨b1,b2⟩:=HA ts hn
 obtain⟨KA,rA⟩:=zf (most:=15) a2 (by omega) (by omega) (.inl (by omega))
 obtain⟨KB,rB⟩:=zf (most:=15) b2 (by omega) (by omega) (.inl (by omega))
 obtain⟨la,ea⟩:∃l,l=yd (vR (dA ts) KA) 257:=⟨_,rfl⟩
 obtain⟨lb,eb⟩:∃l,l=yd (vR (dB ts) KB) 1:=⟨_,rfl⟩
 obtain⟨x1,x2,x3,x4,x5⟩:=Cv (m:=0) a2 (by omega) (by omega) (by omega) (by omega) rA ea
 obtain⟨y1,y2,y3,y4,y5⟩:=Cv (m:=0) b2 (by omega) (by omega) (by omega) (by omega) rB eb
 have hall:∀y∈la++lb,0≤y∧y<19:=fun y hy=>by
  rcases RS.1 hy with q|q
  · have:=x2 y q;omega
  · have:=y2 y q;omega
 have c1:(wR (la++lb) (List.replicate 19 0)).length=19:=by rw[Aw,RI]
 have c2:∀y∈wR (la++lb) (List.replicate 19 0),0≤y∧y≤2147483647:=fun y hy=>by
  have:=Ax (la++lb) _ 0 (by omega) (yR 19) y hy
  rw[uT]at this
  omega
 obtain⟨KC,rC⟩:=zf (most:=7) c2 (by omega) (by omega) (.inr (by omega))
 obtain⟨f1,f2,f3,f4,f5⟩:=xN c2 (by omega) (by omega) (by omega) rC
 have hit:=Cp (la++lb) (List.replicate 19 0) (fun y hy=>(yR 19 y hy).1) (by rw[RI])
 have ex:∃y∈wR (la++lb) (List.replicate 19 0),0<y:=by
  obtain⟨z,hz⟩:=List.exists_mem_of_ne_nil (la++lb) (fun q=>by
   have:=RU List.length q
   rw[uT,Rv]at this
   omega)
  have h:=hit z hz (hall z hz)
  refine⟨_, ?_,show 0<(wR (la++lb) (List.replicate 19 0)).getD z.toNat 0 by omega⟩
  have zl:z.toNat<(wR (la++lb) (List.replicate 19 0)).length:=by have:=hall z hz;omega
  rw[Rr,Ru zl]
  exact RJ zl
 have l0:=f4 ex
 have r16:∀y∈vR (wR (la++lb) (List.replicate 19 0)) KC,0≤y∧y<16:=fun y hy=>by have:=f2 y hy;omega
 refine⟨KA,KB,KC,la,lb,_,⟨Fz,hn,t2,rA,rB,ea,eb,hall,rC,rfl,fun y hy=>by have:=f2 y hy;omega,x3,y3, ?_, ?_, ?_, ?_⟩⟩
 · have:=xz (by omega) (by omega) r16 (by omega)
   rw[this,if_pos l0];exact .inl rfl
 · intro y hy
   have h:=hit y hy (hall y hy)
   have g:=f3 y.toNat (by omega)
   exact EH (by omega) r16 (by have:=hall y hy;omega) g
 · intro t ht
   have o:=t2 t ht
   have zA:∀y∈(List.replicate 286 (0:Int)).set 256 1,0≤y:=fun y hy=>by
    rcases RY hy with q|q
    · have:=RT q;omega
    · omega
   have hA:=Fl ts _ zA (by rw[RO,RI]) t ht o
   have hB:=Fo ts (List.replicate 30 0) (fun y hy=>(yR 30 y hy).1) (by rw[RI]) t ht o
   exact JL (ts:=ts) o (fun h0=>x4 _ (by have:=hA.1 h0;unfold dA;omega)) (fun h0=>x4 _ (by have:=hA.2 h0;unfold dA;omega)) (fun h0=>y4 _ (by have:=hB h0;unfold dB;omega))
 · exact x4 256 (by omega)
theorem GY (s:ByteArray) (hs:s.size≤300):∃KA KB KC la lb Lc,BE (tokens s) KA KB KC la lb Lc:=by
 obtain⟨t1,t2,t3,t4⟩:=yG s hs s.size 0 (by omega) (by omega)
 change (tokens s).length≤s.size-0 at t1
 exact KQ (by omega) (zV s hs) t2
theorem II:∀bs:List Nat,(∀b∈bs,b≤1)→Kq (vz bs):=by
 have:∀(l:List Nat) (i:Nat) (out:List Nat),(∀b∈l,b≤1)→Kq out→Kq (wI l i out):=by
  intro l
  induction l with
  |nil=>intro i out _ h;exact h
  |cons x l ih=>intro i out hl h;exact ih (i+1) _ (fun b hb=>hl b (by simp [hb])) (BL (hl x (by simp)) h)
 exact fun bs h=>this bs 0 [] h fun _ q=>by simp at q
theorem xp (v:Nat):∀m,∀b∈xS v m,b≤1
 |0,b,h=>by simp [xS]at h
 | m + 1, b, h => by
   rw[xS]at h
   rcases uQ.1 h with q|q
   · omega
   · exact xp v m b q
theorem xi (v:Nat):∀m i,∀b∈Bs v i m,b≤1
 |0,i,b,h=>by simp [Bs]at h
 | m + 1, i, b, h => by
   rw[Bs]at h
   rcases uQ.1 h with q|q
   · omega
   · exact xi v m (i+1) b q
theorem BW (E D:List (Int×Int)) (t:Tok):∀b∈vC E D t,b≤1:=by
 intro b h
 unfold vC u6 vj at h
 split at h
 · exact xp _ _ b h
 · simp only[RS]at h
   rcases h with h|h|h|h
   · exact xp _ _ b h
   · exact xi _ _ _ b h
   · exact xp _ _ b h
   · exact xi _ _ _ b h
theorem KP (ts:List Tok) (la lb Lc:List Int):∀b∈vK ts la lb Lc,b≤1:=by
 intro b h
 unfold vK at h
 simp only[RS]at h
 rcases h with h|h|h|h|h|h|h|h
 · exact xi _ _ _ b h
 · exact xi _ _ _ b h
 · exact xi _ _ _ b h
 · exact xi _ _ _ b h
 · obtain⟨y,_,hy⟩:=List.mem_flatMap.1 h
   exact xi _ _ _ b hy
 · obtain⟨y,_,hy⟩:=List.mem_flatMap.1 h
   exact xp _ _ b hy
 · obtain⟨y,_,hy⟩:=List.mem_flatMap.1 h
   exact BW _ _ y b hy
 · exact xp _ _ b h
def yV (t:ByteArray) (p:Nat) (bs:List Nat):Prop:=p+bs.length≤8* t.size∧∀i,i<bs.length→wP t (p+i)=bs.getD i 0
theorem yV.app {t:ByteArray} {p:Nat} {a b:List Nat} (h:yV t p (a++b)):yV t p a∧yV t (p+a.length) b:=by
 obtain⟨h1,h2⟩:=h
 rw[uT]at h1 h2
 refine⟨⟨by omega,fun i hi=> ?_⟩,⟨by omega,fun i hi=> ?_⟩⟩
 · have:=h2 i (by omega)
   rw[this,Rr,Rr,RD hi]
 · have:=h2 (a.length+i) (by omega)
   rw[uw,this,Rr,Rr,RE (by omega),Nat.add_sub_cancel_left]
theorem Dw (l:List Nat) (h:Kq l) (i:Nat):(((bytesOf l)[i]?).map (·.toNat)).getD 0=l.getD i 0:=by
 have e:(bytesOf l)[i]?=(l.map UInt8.ofNat)[i]?:=by
  show(l.map UInt8.ofNat).toArray[i]?=_
  simp
 rw[e,uI,Rr]
 cases hx:l[i]? with
 |none=>rfl
 | some x =>
   have:=h x (uD hx)
   simp [UInt8.toNat_ofNat_of_lt' this]
theorem Jf {x b k j:Nat} (hb:b≤1) (hx:x<2^k):(x|||b* 2^k)/2^j%2=if j=k then b else x/2^j%2:=by
 rw[←Nat.toNat_testBit,←Nat.toNat_testBit,Nat.testBit_or]
 have hb':b=0∨b=1:=by omega
 rcases hb' with rfl|rfl
 · rw[Nat.zero_mul,Nat.zero_testBit,Bool.or_false]
   split
   · rename_i e;subst e
     rw[Nat.testBit_lt_two_pow hx];rfl
   · rfl
 · rw[Nat.one_mul,Nat.testBit_two_pow]
   split
   · rename_i e;subst e;simp
   · rename_i e
     have:decide (k=j)=false:=by simp;omega
     rw[this,Bool.or_false]
structure Ia (out:List Nat) (bs:List Nat):Prop where
 len:out.length=(bs.length+7)/8
 bit:∀j,j<bs.length→out.getD (j/8) 0/2^(j%8)%2=bs.getD j 0
 top:bs.length%8≠0→out.getD (bs.length/8) 0<2^(bs.length%8)
theorem Ia.step {out bs : List Nat} {b : Nat} (hb : b ≤ 1) (v : Ia out bs) : Ia (vM out bs.length b) (bs ++ [b]) := by
 obtain⟨len,bit,top⟩:=v
 obtain⟨n,hn⟩:∃n,n=bs.length:=⟨_,rfl⟩
 rw[←hn]at len bit top ⊢
 obtain⟨o,ho⟩:∃o,o=if n%8=0 then out++[0]else out:=⟨_,rfl⟩
 have es:vM out n b=o.set (n/8) (o.getD (n/8) 0|||b* 2^(n%8)):=by rw[ho];rfl
 have ol:n/8<o.length:=by
  rw[ho];split
  · rw[uT,len];simp;omega
  · rw[len];omega
 have og:∀j,j<n→o.getD (j/8) 0=out.getD (j/8) 0:=fun j hj=>by
  rw[ho];split
  · rw[Rr,RD (by omega),←Rr]
  · rfl
 have ox:o.getD (n/8) 0<2^(n%8):=by
  by_cases c:n%8=0
  · rw[ho,if_pos c,Rr,RE (by omega),c]
    have:n/8-out.length=0:=by omega
    rw[this];simp
  · rw[ho,if_neg c];exact top c
 have gn:∀m,(vM out n b).getD m 0=if m=n/8 then o.getD (n/8) 0|||b* 2^(n%8)else o.getD m 0:=fun m=>by
  rw[es]
  by_cases e:m=n/8
  · subst e
    rw[if_pos rfl,Rr,RH,if_pos rfl,if_pos ol];rfl
  · rw[if_neg e,getD_set_ne (fun q=>e q.symm)]
 have bl:(bs++[b]).length=n+1:=by simp [hn]
 refine⟨by rw[bl,BM len],fun j hj=> ?_,fun hc=> ?_⟩
 · rw [bl] at hj
   rw[gn]
   by_cases e:j=n
   · subst e
     rw[if_pos rfl,Jf hb ox,if_pos rfl,Rr,hn,RE (ux _)];simp
   · have hjn:j<n:=by omega
     have gb:(bs++[b]).getD j 0=bs.getD j 0:=by rw[Rr,RD (by omega),←Rr]
     rw[gb,←bit j hjn,←og j hjn]
     split
     · rename_i e2
       rw[Jf hb ox,if_neg (by omega),e2]
     · rfl
 · rw[bl]at hc ⊢
   have e8:(n+1)/8=n/8:=by omega
   have m8:(n+1)%8=n%8+1:=by omega
   rw[gn,e8,if_pos rfl,m8,JN ox,Nat.pow_succ]
   have:b* 2^(n%8)≤1* 2^(n%8):=uC _ hb
   omega
theorem IJ:∀bs:List Nat,(∀b∈bs,b≤1)→Ia (vz bs) bs:=by
 have key:∀(q p:List Nat) (out:List Nat),(∀b∈q,b≤1)→Ia out p→Ia (wI q p.length out) (p++q):=by
  intro q
  induction q with
  |nil=>intro p out _ h;simpa [wI]using h
  | cons x q ih =>
    intro p out hb h
    have:=ih (p++[x]) (vM out p.length x) (fun b q=>hb b (by simp [q])) (h.step (hb x (by simp)))
    rw[uT,RF]at this
    exact this
 intro bs hb
 exact key bs [] [] hb ⟨rfl,fun j hj=>by simp at hj,fun h=>by simp at h⟩
theorem Dv (bs:List Nat) (hb:∀b∈bs,b≤1):yV (bytesOf (vz bs)) 0 bs:=by
 have v:=IJ bs hb
 have y:=II bs hb
 refine⟨by rw[vU,v.len];omega,fun i hi=> ?_⟩
 rw[uE]
 unfold wP
 rw[Dw _ y]
 exact v.bit i hi
theorem H8 {t:ByteArray} {p:Nat} {v:Nat}:∀(n:Nat),(∀i,i<n→wP t (p+i)=v/2^i%2)→u0 t p n=v%2^n
 |0,h=>by simp [u0,Nat.mod_one]
 | n + 1, h => by
   rw[u0,H8 n fun i hi=>h i (by omega),h n (by omega),Nat.pow_succ,Nat.mod_mul,Nat.mul_comm]
theorem Gi (v:Nat):∀m i j,j<m→(Bs v i m).getD j 0=v/2^(i+j)%2
 |0,i,j,h=>by omega
 |m+1,i,0,h=>rfl
 | m + 1, i, j + 1, h => by
   show(Bs v (i+1) m).getD j 0=_
   rw[Gi v m (i+1) j (by omega)]
   congr 3;omega
theorem yV.put {t:ByteArray} {p v n:Nat} (h:yV t p (vj v n)) (hv:v<2^n):u0 t p n=v∧p+n≤8* t.size:=by
 obtain⟨h1,h2⟩:=h
 unfold vj at h1 h2
 rw[vt]at h1 h2
 refine⟨?_,h1⟩
 rw[H8 n fun i hi=>by rw[h2 i hi,Gi v n 0 i hi,uE],Nat.mod_eq_of_lt hv]
theorem GA (n:Nat):∀(q p:List Int),∃r,syms (p++q) n=syms p n++r
 |[],p=>⟨[],by simp⟩
 | x :: q, p => by
   obtain⟨r,hr⟩:=GA n q (p++[x])
   rw[RF,zJ]at hr
   exact⟨_,by rw[show p++x::q=p++([x]++q)by simp,hr,RF]⟩
theorem H5 {l:List Int} {s n:Nat} (hs:s<l.length) (hn:1≤n) (e:l.getD s 0=(n:Int)):(syms l n)[wD (l.take s) n]?=some (s:Int):=by
 have e2:l.take (s+1)=l.take s++[l.getD s 0]:=by
  rw[List.take_add_one,Ru hs,Rr,Ru hs];rfl
 obtain⟨r,hr⟩:=GA n (l.drop (s+1)) (l.take (s+1))
 rw[List.take_append_drop,e2,zJ,if_pos ⟨by omega,e⟩]at hr
 have ls:=zr (l.take s) n
 have lt:(l.take s).length=s:=by rw[R0];omega
 rw[hr,RF,RE (by omega),ls,Nat.sub_self,lt];rfl
theorem BJ (l:List Int) (n:Nat):∀m,(vb l n+wD l n)* 2^(m+1)≤vb l (n+m+1)
 |0=>by rw[vb];simp
 | m + 1 => by
   have ih:=BJ l n m
   rw[show n+(m+1)+1=(n+m+1)+1 by omega,vb,Int.pow_succ,←Int.mul_assoc]
   omega
theorem KR {l:List Int} {n m:Nat} {c:Nat} (hc:vb l (n+m+1)≤(c:Int)):xn l n ((c/2^(m+1):Nat):Int)=none:=by
 have g:=BJ l n m
 have h1:vb l n+wD l n≤((c/2^(m+1):Nat):Int):=by
  have p2:((2^(m+1):Nat):Int)=(2:Int)^(m+1):=by push_cast;rfl
  have:(vb l n+wD l n)* ((2^(m+1):Nat):Int)≤(c:Int):=by rw[p2];omega
  rw[Int.natCast_ediv]
  exact(Int.le_ediv_iff_mul_le (by have:=Nat.pow_pos (n:=m+1) (show 0<2 by omega);omega)).2 this
 unfold xn
 split
 · rw[RG]
   rw[zr];omega
 · rfl
theorem Gu {t : ByteArray} {l : List Int} {s N c : Nat} (hs : s < l.length) (hN : 1 ≤ N) (e : l.getD s 0 = (N : Int)) (hc : (c : Int) = vb l N + wD (l.take s) N) : ∀ (m n k p : Nat), n + m = N → m + 1 ≤ k → yV t p (xS c (m + 1)) → xk t l k n (c / 2 ^ (m + 1)) p = some ((s : Int), p + (m + 1))
 |m,n,0,p,hn,hk,hb=>by omega
 | m, n, k + 1, p, hn, hk, hb => by
   have hb1:yV t p ([c/2^m%2]++xS c m):=hb
   obtain⟨b1,b2⟩:=hb1.app
   have v1:u0 t p 1=c/2^m%2:=by
    have:=b1.2 0 (by simp)
    simp only[Nat.add_zero,List.getD_cons_zero]at this
    simp [u0,this]
   have pl:p+1≤8* t.size:=b1.1
   have vv:c/2^(m+1)* 2+c/2^m%2=c/2^m:=by
    rw[Nat.pow_succ,←Nat.div_div_eq_div_mul];omega
   rw[xk,if_pos pl,v1,vv]
   cases m with
   | zero =>
     have:xn l n ((c/2^0:Nat):Int)=some (s:Int):=by
      have hn':n=N:=by omega
      subst hn'
      unfold xn
      rw[Nat.pow_zero,Nat.div_one,if_pos (by omega)]
      have:((c:Int)-vb l n).toNat=wD (l.take s) n:=by omega
      rw[this]
      exact H5 hs hN e
     rw[this]
   | succ m =>
     have:xn l n ((c/2^(m+1):Nat):Int)=none:=KR (by rw[show n+m+1=N by omega];omega)
     rw[this]
     have r:=Gu hs hN e hc m (n+1) k (p+1) (by omega) (by omega) b2
     rw[r]
     simp only[uj,uo,true_and];omega
theorem Ki {t:ByteArray} {l:List Int} (hl:0≤vn l 15) (hr:∀y∈l,0≤y∧y<16) {s p:Nat} (hs:s<l.length) (h1:1≤l.getD s 0) (hb:yV t p (u6 (uW l) s)):xk t l 15 1 0 p=some ((s:Int),p+(u6 (uW l) s).length):=by
 obtain⟨n,v,g,n1,n2,n3,n4⟩:=(EH hl hr hs h1).bits
 have g2:(uW l)[s]?=some (yu l s):=by
  unfold uW
  rw[uI,RW hs];rfl
 rw[g2]at g
 have g3:=uf g
 unfold yu at g3
 rw[if_pos h1]at g3
 have e1:l.getD s 0=(n:Int):=RU Prod.fst g3
 have e2:vb l (l.getD s 0).toNat+wD (l.take s) (l.getD s 0).toNat=(v:Int):=RU Prod.snd g3
 have tn:((n:Nat):Int).toNat=n:=by omega
 rw[e1,tn]at e2
 rw[n4]at hb ⊢
 rw[vY]
 obtain⟨m,rfl⟩:∃m,n=m+1:=⟨n-1,by omega⟩
 have:=Gu hs n1 e1 e2.symm m 1 15 p (by omega) (by omega) hb
 rw[Nat.div_eq_of_lt n3]at this
 exact this
theorem EG {l:List Int} {s:Nat} (o:Aq (uW l) s):s<l.length∧1≤l.getD s 0:=by
 have hs:s<l.length:=by have:=o.lt;rwa [yN]at this
 obtain⟨n,v,g,n1,_⟩:=o
 have g2:(uW l)[s]?=some (yu l s):=by
  unfold uW
  rw[uI,RW hs];rfl
 rw[g2]at g
 have g3:=uf g
 unfold yu at g3
 refine⟨hs, ?_⟩
 apply RM
 intro c
 rw[if_neg c]at g3
 have:=RU Prod.fst g3
 simp at this
 omega
theorem Dy {most:Int} (d:Nat):∀(n:Nat) (out:List Nat),(out.length:Int)+n≤most→wQ most d n out=.ok (Is d n out)
 |0,out,h=>rfl
 | n + 1, out, h => by
   rw[wQ,if_neg (by omega),Is]
   exact Dy d n _ (by simp;omega)
structure A9 (l:List Int):Prop where
 left:0≤vn l 15
 N8:∀y∈l,0≤y∧y<16
theorem A9.sym {l:List Int} (b:A9 l) {t:ByteArray} {s p:Nat} (o:Aq (uW l) s) (hb:yV t p (u6 (uW l) s)):xk t l 15 1 0 p=some ((s:Int),p+(u6 (uW l) s).length):=
 Ki b.left b.N8 (EG o).1 (EG o).2 hb
theorem Fx (o:List Nat) (t:Tok):o.length≤(vE o t).length:=by
 unfold vE
 split
 · simp
 · rw[B8];omega
theorem Fy:∀(ts:List Tok) (o:List Nat),o.length≤(xe ts o).length
 |[],o=>ux _
 |t::r,o=>uR (Fx o t) (Fy r _)
theorem zS {t : ByteArray} {la lb : List Int} (bA : A9 la) (bB : A9 lb) (o256 : Aq (uW la) 256) {most : Int} : ∀ (ts : List Tok) (k p : Nat) (out : List Nat), yV t p (vS (uW la) (uW lb) ts ++ u6 (uW la) 256) → (∀ x ∈ ts, GG (uW la) (uW lb) x) → vw out.length ts = true → ((xe ts out).length : Int) ≤ most → ts.length < k →
 v5 t most la lb k p out=.ok (p+(vS (uW la) (uW lb) ts++u6 (uW la) 256).length,xe ts out)
 |ts,0,p,out,hb,ok,hm,hl,hk=>by omega
 | [], k + 1, p, out, hb, ok, hm, hl, hk => by
   have hb':yV t p (u6 (uW la) 256):=hb
   have s:=bA.sym o256 hb'
   rw[v5,s]
   simp only
   rw[if_neg (by omega),if_pos (by omega)]
   rfl
 | x :: r, k + 1, p, out, hb, ok, hm, hl, hk => by
   have ox:=ok x (by simp)
   have e:vS (uW la) (uW lb) (x::r)++u6 (uW la) 256=vC (uW la) (uW lb) x++(vS (uW la) (uW lb) r++u6 (uW la) 256):=by
    unfold vS;rw[Rz,RF]
   rw[e]at hb ⊢
   obtain⟨h1,h2⟩:=hb.app
   have gl:=Fy r (vE out x)
   have hl':((xe r (vE out x)).length:Int)≤most:=hl
   rw[vw]at hm
   cases hst:vV out.length x with
   |none=>rw[hst]at hm;cases hm
   | some s' =>
     rw[hst]at hm
     simp only at hm
     by_cases k8:8192<s'
     · rw[if_pos k8]at hm;cases hm
     rw[if_neg k8]at hm
     unfold vV at hst
     have rec_:s'=((vE out x).length:Nat)→v5 t most la lb k (p+(vC (uW la) (uW lb) x).length) (vE out x)=.ok (p+(vC (uW la) (uW lb) x++(vS (uW la) (uW lb) r++u6 (uW la) 256)).length,xe r (vE out x)):=fun es=>by
      have:=zS bA bB o256 r k _ (vE out x) h2 (fun y hy=>ok y (by simp [hy])) (by rw[←es];exact hm) hl' (by simp at hk;omega)
      rw[this, @uT _ (vC _ _ _),uw]
     rw[xe]
     by_cases c0:x.len=0
     · rw[if_pos c0]at hst
       by_cases c:x.lit<0∨255<x.lit∨x.vH≠0
       · rw[if_pos c]at hst;cases hst
       rw[if_neg c]at hst
       obtain rfl:=uf hst
       have tb:vC (uW la) (uW lb) x=u6 (uW la) x.lit.toNat:=by rw[vC,if_pos c0]
       rcases ox with ⟨_,q2,q3⟩|⟨q,_⟩
       · have es:vE out x=out++[x.lit.toNat]:=by unfold vE;rw[if_pos c0]
         rw[es]at gl hl' rec_ ⊢
         rw[uT,RZ]at gl rec_
         rw[tb]at h1 rec_ ⊢
         have s:=bA.sym q3 h1
         rw[v5,s]
         simp only
         have tl:((x.lit.toNat:Nat):Int)<256:=by omega
         rw[if_pos tl,if_neg (by omega)]
         have tn:(((x.lit.toNat:Nat):Int)).toNat=x.lit.toNat:=by omega
         rw[tn]
         exact rec_ (by push_cast;rfl)
       · omega
     · rw[if_neg c0]at hst
       by_cases c:x.len<3∨258<x.len∨x.vH<1∨32768<x.vH∨(out.length:Int)<x.vH∨x.lit≠0
       · rw[if_pos c]at hst;cases hst
       rw[if_neg c]at hst
       obtain rfl:=uf hst
       obtain⟨L,hL⟩:∃y:Nat,x.len=y:=RA (by omega)
       obtain⟨D,hD⟩:∃y:Nat,x.vH=y:=RA (by omega)
       have Lt:x.len.toNat=L:=by omega
       have Dt:x.vH.toNat=D:=by omega
       rcases ox with ⟨q,_⟩|⟨_,_,_,_,q5,q6⟩
       · exact absurd q c0
       rw[Lt]at q5
       rw[Dt]at q6
       have es:vE out x=Is D L out:=by unfold vE;rw[if_neg c0,Lt,Dt]
       have cl:=B8 D L out
       have tb:vC (uW la) (uW lb) x=u6 (uW la) (xf L)++(vj (zZ L) (ze L)++(u6 (uW lb) (xE D)++vj (AD D) (zL D))):=by rw[vC,if_neg c0,Lt,Dt]
       rw[es]at gl hl' rec_ ⊢
       rw[tb]at h1 rec_ ⊢
       obtain⟨i1,i2⟩:=h1.app
       obtain⟨i3,i4⟩:=i2.app
       obtain⟨i5,i6⟩:=i4.app
       have s1:=bA.sym q5 i1
       have lb_:=EB (k:=L) (by omega) (by omega)
       have db_:=Et (k:=D) (by omega) (by omega)
       have ls:=xP (k:=L) (by omega) (by omega)
       have ds:=xM (k:=D) (by omega) (by omega)
       obtain⟨a,b,hab⟩:=zY ls.1 ls.2.1
       obtain⟨a',b',hab'⟩:=za ds.1
       have ea:vh (lenOf (xf L))=a:=by rw[hab];rfl
       have eb:ze L=b:=by unfold ze;rw[hab];rfl
       have ea':vh (vu (xE D))=a':=by rw[hab'];rfl
       have eb':zL D=b':=by unfold zL;rw[hab'];rfl
       have v1:=i3.put lb_.2
       have v2:=i6.put db_.2
       have pl:∀v n,(vj v n).length=n:=fun v n=>by unfold vj;exact vt v n 0
       rw[pl]at i5 v2
       have s2:=bB.sym q6 i5
       have eL:a+zZ L=L:=by unfold zZ;rw[ea];omega
       have eD:a'+AD D=D:=by unfold AD;rw[ea'];omega
       rw[v5,s1]
       simp only
       rw[if_neg (by omega),if_neg (by omega)]
       have tn:(((xf L:Nat):Int)).toNat=xf L:=by omega
       have tn2:(((xE D:Nat):Int)).toNat=xE D:=by omega
       have cp:xm t most lb (xf L) (p+(u6 (uW la) (xf L)).length) out=.ok (p+(u6 (uW la) (xf L)++(vj (zZ L) (ze L)++(u6 (uW lb) (xE D)++vj (AD D) (zL D)))).length,Is D L out):=by
        unfold xm
        rw[hab]
        simp only
        rw[←eb,if_pos v1.2,s2]
        simp only
        rw[tn2,hab']
        simp only
        rw[←eb',v2.1,v1.1,eL,eD,if_pos ⟨v2.2,by omega⟩,Dy D L out (by omega)]
        simp only[uT,pl,Except.ok.injEq,uo,and_true]
        omega
       rw[tn,cp]
       simp only
       exact rec_ (by rw[cl,hL];push_cast;rfl)
theorem A9.JK {C l:List Int} {K k:Nat} (hC:∀y∈C,0≤y∧y≤2147483647) (h2:2≤C.length) (hl:C.length≤288) (hk:k≤C.length) (hk1:1≤k) (r:wG 15 K (wz C)) (e:l=yd (vR C K) k):A9 l∧((∃y∈C,0<y)→vo l=0)∧((∀y∈C,¬0<y)→∀y∈l,y=0):=by
 obtain⟨a,b,c,d,l0⟩:=Cv (m:=0) hC h2 hl hk hk1 r e
 obtain⟨f1,f2,f3,f4,f5⟩:=xN hC h2 hl (by omega) r
 refine⟨⟨l0,b⟩,fun ex=> ?_,fun nn y hy=> ?_⟩
 · rw[xz (by omega) (by omega) b l0,if_pos]
   rw[e,B9 (fun y hy=>(f2 y hy).1) k 15]
   exact f4 ex
 · rw[e,f5 nn]at hy
   exact RT (List.mem_of_mem_take hy)
theorem Bz:∀(l:List Int) (a:Int),(∀y∈l,y=0)→Kh l a=a
 |[],a,h=>rfl
 | y :: l, a, h => by
   have:=h y (by simp)
   subst this
   rw[Kh]
   first
    |exact Bz l a fun z hz=>h z (by simp [hz])
    |(simp;exact Bz l a fun z hz=>h z (by simp [hz]))
theorem AM {t:ByteArray} {Lc:List Int} (bk:A9 Lc) (many:Nat):∀(q acc:List Int) (f p:Nat),yV t p (ym (uW Lc) q)→(∀y∈q,Aq (uW Lc) y.toNat)→(∀y∈q,0≤y∧y<16)→acc.length+q.length=many→q.length<f→vQ t Lc many f acc p=some (acc++q,p+(ym (uW Lc) q).length)
 |q,acc,0,p,hb,ok,hr,hm,hf=>by omega
 | [], acc, f + 1, p, hb, ok, hr, hm, hf => by
   simp at hm
   rw[vQ,if_neg (by omega),if_neg (by omega)]
   simp [ym]
 | y :: q, acc, f + 1, p, hb, ok, hr, hm, hf => by
   have e:ym (uW Lc) (y::q)=u6 (uW Lc) y.toNat++ym (uW Lc) q:=by unfold ym;rw[Rz]
   rw[e]at hb ⊢
   obtain⟨h1,h2⟩:=hb.app
   have s:=bk.sym (ok y (by simp)) h1
   have yr:=hr y (by simp)
   have ty:((y.toNat:Nat):Int)=y:=by omega
   simp only[Rt]at hm hf
   rw[vQ,if_pos (by omega),s]
   simp only
   rw[ty]
   have ag:wY t y acc (p+(u6 (uW Lc) y.toNat).length)=some (y,1,p+(u6 (uW Lc) y.toNat).length):=by
    unfold wY
    rw[if_neg (by omega),if_neg (by omega),if_neg (by omega)]
   rw[ag]
   simp only
   have r:=AM bk many q (acc++[y]) f _ h2 (fun z hz=>ok z (by simp [hz])) (fun z hz=>hr z (by simp [hz])) (by simp;omega) (by omega)
   have e1:List.replicate 1 y=[y]:=rfl
   rw[e1,r,uT,←uw,RF];rfl
def Dp (L:List Int):List Int→List Int→List Int
 |[],o=>o
 |s::r,o=>Dp L r (o.set s.toNat (L.getD s.toNat 0))
theorem F7 {t:ByteArray} {L:List Int} (hr:∀y∈L,0≤y∧y<8):∀(os:List Int) (p:Nat) (o:List Int),yV t p (yW (os.map fun s=>L.getD s.toNat 0))→(∀s∈os,s.toNat<L.length)→Bp t os p o=Dp L os o
 |[],p,o,hb,hs=>rfl
 | s :: os, p, o, hb, hs => by
   have e:yW ((s::os).map fun s=>L.getD s.toNat 0)=vj (L.getD s.toNat 0).toNat 3++yW (os.map fun s=>L.getD s.toNat 0):=by unfold yW;rw[RB,Rz]
   rw[e]at hb
   obtain⟨h1,h2⟩:=hb.app
   have hl:=hs s (by simp)
   have yr:0≤L.getD s.toNat 0∧L.getD s.toNat 0<8:=hr _ (by rw[Rr,Ru hl];exact RJ hl)
   have v:=h1.put (by omega)
   have pl:(vj (L.getD s.toNat 0).toNat 3).length=3:=by unfold vj;exact vt _ _ _
   rw[pl]at h2
   rw[Bp,Dp,v.1,F7 hr os _ _ h2 (fun z hz=>hs z (by simp [hz]))]
   congr 2;omega
theorem F5 (L:List Int):∀(os o:List Int),(Dp L os o).length=o.length
 |[],o=>rfl
 |s::os,o=>by rw[Dp,F5 L os,RO]
theorem F4 (L : List Int) : ∀ (os o : List Int) (j : Nat), j < o.length → (Dp L os o).getD j 0 = if (∃ s ∈ os, s.toNat = j) then L.getD j 0 else o.getD j 0
 |[],o,j,hj=>by simp [Dp]
 | s :: os, o, j, hj => by
   rw[Dp,F4 L os _ j (by rw[RO];exact hj)]
   by_cases c:∃s∈os,s.toNat=j
   · rw[if_pos c,if_pos (by obtain⟨u,hu,e⟩:=c;exact⟨u,by simp [hu],e⟩)]
   · rw[if_neg c]
     by_cases e:s.toNat=j
     · subst e
       rw[if_pos ⟨s,by simp,rfl⟩,Rr,RH,if_pos rfl,if_pos hj];rfl
     · rw[getD_set_ne e,if_neg]
       rintro ⟨u,hu,e2⟩
       rcases uQ.1 hu with q|q
       · subst q;exact e e2
       · exact c ⟨u,q,e2⟩
theorem IH:∀j:Nat,j<19→∃i:Nat,i<19∧vm[i]?=some (j:Int):=by
 intro j hj
 have:∀j:Nat,j<19→∃i:Nat,i<19∧vm[i]?=some (j:Int):=by decide
 exact this j hj
theorem JO {L : List Int} (hl : L.length = 19) (h0 : ∀ y ∈ L, 0 ≤ y) : Dp L (vm.take (vA (vm.map fun s => L.getD s.toNat 0) 4 19)) (List.replicate 19 0) = L := by
 apply List.ext_getElem?
 intro j
 have fl:=F5 L (vm.take (vA (vm.map fun s=>L.getD s.toNat 0) 4 19)) (List.replicate 19 0)
 rw[RI]at fl
 by_cases hj:j<19
 · have g:=F4 L (vm.take (vA (vm.map fun s=>L.getD s.toNat 0) 4 19)) (List.replicate 19 0) j (by simpa using hj)
   rw[Ru (by omega),Ru (by omega)]
   rw[Rr,Ru (by omega)]at g
   congr 1
   have g':(Dp L (vm.take (vA (vm.map fun s=>L.getD s.toNat 0) 4 19)) (List.replicate 19 0))[j]'(by omega)=_:=g
   rw[g']
   have e:L.getD j 0=L[j]'(by omega):=by rw[Rr,Ru (by omega)];rfl
   split
   · exact e
   · rename_i c
     rw[zF hj]
     obtain⟨i,hi,oi⟩:=IH j hj
     have hk:vA (vm.map fun s=>L.getD s.toNat 0) 4 19≤i:=by
      apply RM
      intro q
      refine c ⟨(j:Int), ?_,by omega⟩
      refine uD (i:=i) ?_
      rw[uS,if_pos (by omega),oi]
     have z:=ya (vm.map fun s=>L.getD s.toNat 0) 4 19 i hk hi
     have tj:((j:Nat):Int).toNat=j:=by omega
     rw[Rr,uI,oi]at z
     simp only[Rx,Option.getD_some,tj]at z
     have nn:=h0 _ (RJ (l:=L) (n:=j) (by omega))
     omega
 · rw[RG (by omega),RG (by omega)]
theorem KO {t : ByteArray} {ts : List Tok} {KA KB KC : Nat} {la lb Lc : List Int} (ok : BE ts KA KB KC la lb Lc) (hb : yV t 0 (vK ts la lb Lc)) (hm : vw 0 ts = true) {most : Int} (hl : ((xe ts []).length : Int) ≤ most) : zT t most 3 [] = .ok ((vK ts la lb Lc).length, xe ts []) ∧ u0 t 0 1 = 1 ∧ u0 t 1 2 = 2 ∧ 3 ≤ 8 * t.size := by
 obtain⟨Fz,hn,tok,ra,rb,ea,eb,hall,rc,ec,hrow,ca,cb,cc,zj,Kv,DV⟩:=ok
 obtain⟨a1,a2,a3⟩:=Hy ts hn
 obtain⟨b1,b2⟩:=HA ts hn
 obtain⟨x1,x2,x3,x4,x5⟩:=Cv (m:=0) a2 (by omega) (by omega) (by omega) (by omega) ra ea
 obtain⟨y1,y2,y3,y4,y5⟩:=Cv (m:=0) b2 (by omega) (by omega) (by omega) (by omega) rb eb
 obtain⟨bkA,chA,_⟩:=A9.JK a2 (by omega) (by omega) (by omega) (by omega) ra ea
 obtain⟨bkB,chB,zB⟩:=A9.JK b2 (by omega) (by omega) (by omega) (by omega) rb eb
 have c1:(wR (la++lb) (List.replicate 19 0)).length=19:=by rw[Aw,RI]
 have c2:∀y∈wR (la++lb) (List.replicate 19 0),0≤y∧y≤2147483647:=fun y hy=>by
  have:=Ax (la++lb) _ 0 (by omega) (yR 19) y hy
  rw[uT]at this
  omega
 obtain⟨f1,f2,f3,f4,f5⟩:=xN c2 (by omega) (by omega) (by omega) rc
 rw[←ec]at f1 f2 f3 f4 f5
 have lLc:Lc.length=19:=by omega
 have hit:=Cp (la++lb) (List.replicate 19 0) (fun y hy=>(yR 19 y hy).1) (by rw[RI])
 have exC:∃y∈wR (la++lb) (List.replicate 19 0),0<y:=by
  obtain⟨z,hz⟩:=List.exists_mem_of_ne_nil (la++lb) (fun q=>by
   have:=RU List.length q
   rw[uT,Rv]at this
   omega)
  have h:=hit z hz (hall z hz)
  refine⟨_, ?_,show 0<(wR (la++lb) (List.replicate 19 0)).getD z.toNat 0 by omega⟩
  have zl:z.toNat<(wR (la++lb) (List.replicate 19 0)).length:=by have:=hall z hz;omega
  rw[Rr,Ru zl]
  exact RJ zl
 have l0:=f4 exC
 have r16:∀y∈Lc,0≤y∧y<16:=fun y hy=>by have:=f2 y hy;omega
 have bkC:A9 Lc:=⟨by omega,r16⟩
 have chC:vo Lc=0:=by rw[xz (by omega) (by omega) r16 (by omega),if_pos l0]
 have exA:∃y∈dA ts,0<y:=by
  have zl:256<(dA ts).length:=by omega
  refine⟨(dA ts).getD 256 0, ?_,by omega⟩
  rw[Rr,Ru zl]
  exact RJ zl
 have chA':=chA exA
 have chB':¬(vo lb≠0∧xj lb=false):=by
  rintro ⟨q1,q2⟩
  by_cases c:∃y∈dB ts,0<y
  · exact q1 (chB c)
  · have:=Bz lb 0 (zB fun y hy q=>c ⟨y,hy,q⟩)
    unfold xj at q2
    rw[this]at q2
    simp at q2
 obtain⟨R,hR⟩:∃R,R=vm.map (fun o=>Lc.getD o.toNat 0):=⟨_,rfl⟩
 obtain⟨k,hk⟩:∃k,k=vA R 4 19:=⟨_,rfl⟩
 have uk:=wx R 4 19
 rw[←hk]at uk
 have eD:vK ts la lb Lc=vj 5 3++(vj (la.length-257) 5++(vj (lb.length-1) 5++(vj (k-4) 4++(yW (R.take k)++(ym (uW Lc) (la++lb)++(vS (uW la) (uW lb) ts++u6 (uW la) 256)))))):=by rw[hk,hR];rfl
 rw[eD]at hb ⊢
 have pl:∀v n,(vj v n).length=n:=fun v n=>by unfold vj;exact vt v n 0
 obtain⟨h1,g1⟩:=hb.app
 rw[pl]at g1
 obtain⟨h2,g2⟩:=g1.app
 rw[pl]at g2
 obtain⟨h3,g3⟩:=g2.app
 rw[pl]at g3
 obtain⟨h4,g4⟩:=g3.app
 rw[pl]at g4
 obtain⟨h5,g5⟩:=g4.app
 obtain⟨h6,g6⟩:=g5.app
 have v2:=h2.put (by omega)
 have v3:=h3.put (by omega)
 have v4:=h4.put (by omega)
 have rl:(yW (R.take k)).length=3* k:=by rw[A3,R0,hR,List.length_map];show 3* min k 19=_;omega
 rw[rl]at g5 g6 h6
 have rb5:yW (R.take k)=yW ((vm.take k).map fun s=>Lc.getD s.toNat 0):=by rw[hR,List.map_take]
 have h5':=h5
 rw[rb5]at h5'
 have own:=F7 hrow (vm.take k) _ (List.replicate 19 0) h5' (fun s hs=>by have:=DW s (List.mem_of_mem_take hs);omega)
 have back:=JO lLc (fun y hy=>(hrow y hy).1)
 rw[←hR,←hk]at back
 rw[back]at own
 have okr:∀y∈la++lb,0≤y∧y<16:=fun y hy=>by
  rcases RS.1 hy with q|q
  · exact x2 y q
  · exact y2 y q
 have h5l:=h5.1
 rw[rl]at h5l
 have h6l:=h6.1
 have g6l:=g6.1
 have ll:(la++lb).length=la.length+lb.length:=uT
 have all:=AM bkC (la.length+lb.length) (la++lb) [] (8* t.size+1) _ h6 zj okr (by simp) (by
  have:∀D:List Int,(∀y∈D,Aq (uW Lc) y.toNat)→D.length≤(ym (uW Lc) D).length:=by
   intro D
   induction D with
   |nil=>intro _;simp
   | cons y D ih =>
     intro h
     have:=ih fun z hz=>h z (by simp [hz])
     obtain⟨n,v,_,q1,q2,q3,q4⟩:=(h y (by simp)).bits
     unfold ym at *
     rw[Rz,uT,q4,vY,Rt];omega
  have:=this _ zj
  omega)
 have cod:=zS bkA bkB DV ts (8* t.size+1) _ [] g6 Kv hm hl (by
  have:∀T:List Tok,(∀x∈T,GG (uW la) (uW lb) x)→T.length≤(vS (uW la) (uW lb) T).length:=by
   intro T
   induction T with
   |nil=>intro _;simp
   | cons x T ih =>
     intro h
     have:=ih fun z hz=>h z (by simp [hz])
     have o:=h x (by simp)
     have one:1≤(vC (uW la) (uW lb) x).length:=by
      rcases o with ⟨h1,h2,h3⟩|⟨h1,h2,h3,h4,h5,h6⟩
      · obtain⟨n,v,_,q1,q2,q3,q4⟩:=h3.bits
        rw[vC,if_pos h1,q4,vY];omega
      · obtain⟨n,v,_,q1,q2,q3,q4⟩:=h5.bits
        rw[vC,if_neg (by omega),q4,uT,vY];omega
     unfold vS at *
     rw[Rz,uT,Rt];omega
  have:=this _ Kv
  rw[uT]at g6l
  omega)
 have v1:=h1.put (by omega)
 simp only[uE,Nat.reduceAdd,List.nil_append]at v1 v2 v3 v4 own all cod h5l
 have n1:u0 t 3 5+257=la.length:=by rw[v2.1];omega
 have n2:u0 t 8 5+1=lb.length:=by rw[v3.1];omega
 have n3:u0 t 13 4+4=k:=by rw[v4.1];omega
 have lens:xh t (la.length+lb.length) 13=some (la++lb,17+3* k+(ym (uW Lc) (la++lb)).length):=by
  unfold xh
  simp only[Nat.reduceAdd,n3]
  rw[if_pos (by omega),if_pos (by omega),own,if_pos chC,all]
 have tk:(la++lb).take la.length=la:=List.take_left' rfl
 have dr:(la++lb).drop la.length=lb:=List.drop_left' rfl
 have g256:la.getD 256 0≠0:=by have:=(EG DV).2;omega
 refine⟨?_, ?_, ?_,by omega⟩
 · unfold zT
   simp only[Nat.reduceAdd,n1,n2]
   rw[if_pos (by omega),if_neg (by omega),lens]
   simp only[tk,dr]
   rw[if_neg (by rintro (q|q|q);exact q chA';exact g256 q;exact chB' q),cod]
   simp only[uT,pl,rl,Except.ok.injEq,uo,and_true]
   omega
 · have b0:=h1.2 0 (by rw[pl];omega)
   have e0:(vj 5 3).getD 0 0=1:=by decide
   rw[e0]at b0
   simp [u0,b0]
 · have b1:=h1.2 1 (by rw[pl];omega)
   have b2:=h1.2 2 (by rw[pl];omega)
   have e1:(vj 5 3).getD 1 0=0:=by decide
   have e2:(vj 5 3).getD 2 0=1:=by decide
   rw[e1]at b1
   rw[e2]at b2
   simp only[uE]at b1 b2
   simp [u0,b1,b2]
theorem FO {s:ByteArray} (hs:s.size≤300) {KA KB KC:Nat} {la lb Lc:List Int} (ok:BE (tokens s) KA KB KC la lb Lc) {most:Int} (hm1:(s.size:Int)≤most) (hm2:most≤8192):vI (bytesOf (vz (vK (tokens s) la lb Lc))) most=.ok (preB s s.size,(bytesOf (vz (vK (tokens s) la lb Lc))).size):=by
 obtain⟨t1,t2,t3,t4⟩:=yG s hs s.size 0 (by omega) (by omega)
 have t3':vw 0 (tokens s)=true:=t3
 have t4':xe (tokens s) []=preB s s.size:=t4
 have hb:=Dv (vK (tokens s) la lb Lc) (KP _ _ _ _)
 obtain⟨d,v1,v2,sz⟩:=KO ok hb t3' (most:=most) (by rw[t4',wU];omega)
 rw[t4']at d
 have psz:(bytesOf (vz (vK (tokens s) la lb Lc))).size=((vK (tokens s) la lb Lc).length+7)/8:=by rw[vU,xu]
 generalize bytesOf (vz (vK (tokens s) la lb Lc))=T at *
 unfold vI
 rw[if_neg (by omega)]
 have bl:v9 T most 0 []=.ok (true,(vK (tokens s) la lb Lc).length,preB s s.size):=by
  unfold v9
  simp only[uE]
  rw[if_pos sz,v2]
  simp only[Nat.reduceEqDiff,uU,if_true,reduceIte]
  rw[d]
  simp [v1]
 rw[vL,bl]
 simp only[if_true,psz]
theorem Hf (s:ByteArray):bytesOf (preB s s.size)=s:=by
 have:preB s s.size=Oi s:=by
  apply List.ext_getElem?
  intro i
  by_cases h:i<s.size
  · have g:=Dw (Oi s) (Oj s) i
    rw[BG]at g
    have l1:=H6 s
    rw[Ru (by rw[wU];exact h),Ru (by omega)]
    congr 1
    have a:=Gh s h
    rw[Rr,Ru (by rw[wU];exact h)]at a
    rw[Rr,Ru (by omega)]at g
    exact a.trans g
  · rw[RG (by rw[wU];omega),RG (by rw[H6];omega)]
 rw[this,BG]
theorem Kn {h:H} (hf:h.floor≤h.next):WX h (h.alloc [.aO,.int .i64 0]) h.next [] .aO:=by
 refine⟨⟨by rw[vi rfl];rfl,vT.nil,by simpa using hf,by simp;omega,by simp [AV.id?],fun b hb=>by simp [vz,wI]at hb⟩,(Ext.refl _).alloc _,ux _,by simp,fun j hj=>by simp [AV.id?]at hj⟩
def wo (n:Nat):List Nat:=vj 1 3++(List.replicate 5 0++(vj n 16++vj (65535-n) 16))
def wh (s:ByteArray):ByteArray:=bytesOf (vz (wo s.size))++s
theorem A7 (s:ByteArray):(wh s).size=s.size+5:=by
 unfold wh
 rw[ByteArray.size_append,vU,xu]
 simp [wo,vj,vt];omega
def xb:List Int:=List.replicate 30 5
theorem Cx:vn vy 15=0:=by decide+kernel
theorem DD:vn xb 15=2048:=by decide+kernel
theorem xc:vy.length=288:=by decide+kernel
theorem yx:∀y∈vy,1≤y∧y<16:=by
 have:vy.all (fun y=>decide (1≤y∧y<16))=true:=by decide+kernel
 intro y hy
 simpa using List.all_eq_true.1 this y hy
theorem FB:∀y∈xb,1≤y∧y<16:=fun y hy=>by have:=RT hy;omega
theorem wZ:A9 vy:=⟨by rw[Cx];omega,fun y hy=>by have:=yx y hy;omega⟩
theorem zu:A9 xb:=⟨by rw[DD];omega,fun y hy=>by have:=FB y hy;omega⟩
theorem At {l:List Int} (b:A9 l) (hr:∀y∈l,1≤y∧y<16) {s:Nat} (hs:s<l.length):Aq (uW l) s:=by
 refine EH b.left b.N8 hs ?_
 rw[Rr,Ru hs]
 exact(hr _ (RJ hs)).1
theorem DE {t:Tok} (o:xH t):GG (uW vy) (uW xb) t:=by
 refine JL (ts:=[]) o (fun h=> ?_) (fun h=> ?_) (fun h=> ?_)
 · rcases o with ⟨_,b,c⟩|⟨a,_⟩
   · exact At wZ yx (by rw[xc];omega)
   · omega
 · rcases o with ⟨a,_⟩|⟨a,b,_⟩
   · exact absurd a h
   · have:=xP (k:=t.len.toNat) (by omega) (by omega)
     exact At wZ yx (by rw[xc];omega)
 · rcases o with ⟨a,_⟩|⟨a,b,c,d⟩
   · exact absurd a h
   · have:=xM (k:=t.vH.toNat) (by omega) (by omega)
     have l:xb.length=30:=by simp [xb]
     exact At zu FB (by rw[l];omega)
def v8 (ts:List Tok):List Nat:=vj 3 3++(vS (uW vy) (uW xb) ts++u6 (uW vy) 256)
theorem xJ {bs:List Nat}:(bytesOf (vz bs)).size=(bs.length+7)/8:=by rw[vU,xu]
def shorter (a b:ByteArray):ByteArray:=if a.size<b.size then a else b
def AE (s:ByteArray) (la lb Lc:List Int):ByteArray:=bytesOf (vz (vK (tokens s) la lb Lc))
def ye (s:ByteArray):ByteArray:=bytesOf (vz (v8 (tokens s)))
def vD (s:ByteArray) (la lb Lc:List Int):ByteArray:=shorter (AE s la lb Lc) (shorter (ye s) (wh s))
theorem Ao (s:ByteArray) (hs:s.size≤300):(tokens s).length≤300∧(∀t∈tokens s,xH t)∧vw 0 (tokens s)=true∧xe (tokens s) []=preB s s.size:=by
 obtain⟨t1,t2,t3,t4⟩:=yG s hs s.size 0 (by omega) (by omega)
 exact⟨by unfold tokens;omega,t2,t3,t4⟩
theorem KS (ts:List Tok):∀b∈v8 ts,b≤1:=by
 intro b h
 unfold v8 at h
 simp only[RS]at h
 rcases h with h|h|h
 · exact xi _ _ _ b h
 · obtain⟨y,_,hy⟩:=List.mem_flatMap.1 h
   exact BW _ _ y b hy
 · exact xp _ _ b h
theorem GF {E D : List (Int × Int)} : ∀ T : List Tok, (∀ x ∈ T, GG E D x) → T.length ≤ (vS E D T).length
 |[],_=>by simp
 | x :: T, h => by
   have:=GF (E:=E) (D:=D) T fun z hz=>h z (by simp [hz])
   have o:=h x (by simp)
   have one:1≤(vC E D x).length:=by
    rcases o with ⟨h1,h2,h3⟩|⟨h1,h2,h3,h4,h5,h6⟩
    · obtain⟨n,v,_,q1,q2,q3,q4⟩:=h3.bits
      rw[vC,if_pos h1,q4,vY];omega
    · obtain⟨n,v,_,q1,q2,q3,q4⟩:=h5.bits
      rw[vC,if_neg (by omega),q4,uT,vY];omega
   unfold vS at *
   rw[Rz,uT,Rt];omega
theorem FP {s:ByteArray} (hs:s.size≤300) {most:Int} (hm1:(s.size:Int)≤most) (hm2:most≤8192):vI (ye s) most=.ok (preB s s.size,(ye s).size):=by
 obtain⟨t1,t2,t3,t4⟩:=Ao s hs
 have hb:=Dv (v8 (tokens s)) (KS _)
 have psz:(ye s).size=((v8 (tokens s)).length+7)/8:=xJ
 change yV (ye s) 0 (v8 (tokens s))at hb
 generalize ye s=T at *
 have hb':yV T 0 (vj 3 3++(vS (uW vy) (uW xb) (tokens s)++u6 (uW vy) 256)):=hb
 obtain⟨h1,h2⟩:=hb'.app
 have pl:(vj 3 3).length=3:=rfl
 rw[pl,uE]at h2
 have Kv:∀x∈tokens s,GG (uW vy) (uW xb) x:=fun x hx=>DE (t2 x hx)
 have g:=GF (tokens s) Kv
 have h2l:=h2.1
 rw[uT]at h2l
 have cod:=zS (most:=most) wZ zu (At wZ yx (by rw[xc];omega)) (tokens s) (8* T.size+1) 3 [] h2 Kv t3 (by rw[t4,wU];exact hm1) (by omega)
 have fl:3+(vS (uW vy) (uW xb) (tokens s)++u6 (uW vy) 256).length=(v8 (tokens s)).length:=by
  unfold v8;rw[@uT _ (vj 3 3),pl]
 rw[fl,t4]at cod
 have v0:u0 T 0 1=1:=by
  have b0:=h1.2 0 (by rw[pl];omega)
  have e0:(vj 3 3).getD 0 0=1:=by decide
  rw[e0]at b0
  simp [u0,b0]
 have v1:u0 T 1 2=1:=by
  have b1:=h1.2 1 (by rw[pl];omega)
  have b2:=h1.2 2 (by rw[pl];omega)
  have e1:(vj 3 3).getD 1 0=1:=by decide
  have e2:(vj 3 3).getD 2 0=0:=by decide
  rw[e1]at b1
  rw[e2]at b2
  simp only[uE]at b1 b2
  simp [u0,b1,b2]
 have sz:3≤8* T.size:=by have:=h1.1;rw[pl]at this;omega
 unfold vI
 rw[if_neg (by omega)]
 have bl:v9 T most 0 []=.ok (true,(v8 (tokens s)).length,preB s s.size):=by
  unfold v9
  simp only[uE]
  rw[if_pos sz,v1]
  simp only[Nat.reduceEqDiff,uU,if_true,reduceIte]
  have cod':v5 T most vy (List.replicate 30 5) (8* T.size+1) 3 []=.ok ((v8 (tokens s)).length,preB s s.size):=cod
  rw[cod']
  simp [v0]
 rw[vL,bl]
 simp only[if_true,psz]
theorem yT (a b:ByteArray):shorter a b=a∨shorter a b=b:=by
 unfold shorter;split
 · exact .inl rfl
 · exact .inr rfl
theorem Jg {g:H} {w id n b:Nat} {P:List Nat} {x:Nat} (hb:b≤1) (hw:g.get w=some [.aD id 0 (n/8+1) 1,.int .i64 n]) (hi:g.get id=some (yf P)) (hl:P.length=n/8+1) (hx:P[n/8]?=some x) (hx8:x<256) (hne:id≠w) (hf:g.floor≤w) (hf2:g.floor≤id) (hn:n<1000000):
 ∃e',aK (aQ AP.A) bo (LP 1 AP.f347.body) [(0,.aC w 0),(1,.int .i64 b)] g=some (.normal,e',(g.set id (yf (P.set (n/8) (x|||b* 2^(n%8))))).set w [.aD id 0 (n/8+1) 1,.int .i64 ((n:Int)+1)]):=by
 have c8:b* 2^(n%8)<256:=by
  have h1:2^(n%8)≤2^7:=RK (by omega) (by omega)
  have h2:b* 2^(n%8)≤1* 2^7:=Nat.mul_le_mul hb h1
  omega
 have s1:=K7 hb (show n%8<8 by omega)
 have o1:=Jh hx8 c8
 have w1:=QJ (n:=b* 2^(n%8)) c8
 have rm:=PY (a:=n) (n:=8) (by omega)
 have rm':bh .rem (.int .i64 (n:Int)) (.int .i64 8)=some (.int .i64 ((n%8:Nat):Int)):=rm
 have w2:IntKind.wrap .i64 (((n/8+1:Nat):Int)-1)=((n/8:Nat):Int):=by rw[wi (by omega)];omega
 have bl:=LU P
 have gx:=Oy hx
 have st:=Qa P (n/8) (x|||b* 2^(n%8))
 have sgn:((n/8:Nat):Int).toNat=n/8:=by omega
 have gw2:(g.set id (yf (P.set (n/8) (x|||b* 2^(n%8))))).get w=some [.aD id 0 (n/8+1) 1,.int .i64 n]:=by rw[uX (fun q=>hne q.symm),hw]
 generalize yf P=BP at *
 generalize b* 2^(n%8)=Y at *
 generalize (x|||Y)=Z at *
 generalize yf (P.set (n/8) Z)=BZ at *
 refine⟨?_, ?_⟩
 rotate_left
 simp (disch:=first|omega|(simp only[wF,Rt,Rv,uE,Nat.reduceAdd];first|done|omega|fail)|(simp (disch:=first|omega|(simp only[wF,Rt,Rv,uE,Nat.reduceAdd];first|done|omega|fail)|fail)only[wF,B6,Rx,Rt,Rv,uE,Nat.reduceAdd];done)|fail)only[go_sem,vq,B5,AP.f347,hw,hi,s1,o1,w1,rm',w2,bl,hl,gx,st,sgn,gw2]
 rfl
theorem Lh {h : H} {w b : Nat} {bs : List Nat} {ov : AV} (wr : Wr h w bs ov) (hb : b ≤ 1) (hn : bs.length < 1000000) :
 ∃h' ov',aQ AP.A 347 [.aC w 0,.int .i64 b] h=some (.bJ [],h')∧Wr h' w (bs++[b]) ov'∧GI h w ov h' ov':=by
 obtain⟨gw,ow,fl,I4,ne,Ht⟩:=wr
 obtain⟨n,en⟩:∃n,n=bs.length:=⟨_,rfl⟩
 rw[←en]at gw hn
 have pl:=xu bs
 rw[←en]at pl
 have pa:=DX bs b
 rw[←en]at pa
 obtain⟨P,eP⟩:∃P,P=vz bs:=⟨_,rfl⟩
 rw[←eP]at ow Ht pa pl
 have wlt:=h.lt _ _ gw
 obtain ⟨g, ov', id, P', x, s1, hw, hi, hl, hx, hid, hne, hf, hf2, hflx, hP, hk, hx8, hids, hbt⟩ : ∃ g ov' id P' x, aK (aQ AP.A) bo (at_ 0 AP.f347.body) [(0, .aC w 0), (1, .int .i64 b)] h = some (.normal, [(0, .aC w 0), (1, .int .i64 b)], g) ∧ g.get w = some [.aD id 0 (n / 8 + 1) 1, .int .i64 n] ∧ g.get id = some (yf P') ∧ P'.length = n / 8 + 1 ∧ P'[n / 8]? = some x ∧ ov' = AV.aD id 0 (n / 8 + 1) 1 ∧ id ≠ w ∧ g.floor = h.floor ∧ h.floor ≤ id ∧ h.next ≤ g.next ∧ vM P n b = P'.set (n / 8) (x ||| b * 2 ^ (n % 8)) ∧ (∀ i, i < h.next → i ≠ w → ov.id? ≠ some i → g.get i = h.get i) ∧ x < 256 ∧ (ov.id? = some id ∨ h.next ≤ id) ∧ Kq P' := by
  have rm:bh .rem (.int .i64 (n:Int)) (.int .i64 8)=some (.int .i64 ((n%8:Nat):Int)):=PY (a:=n) (n:=8) (by omega)
  by_cases c:n%8=0
  · have cz:((n%8:Nat):Int)=0:=by omega
    obtain⟨v',h',p1,p2,p3,p4,p5,p6⟩:=ow.push I4 (z:=1) (m:=1) (by omega) (by omega) [.int .u8 0] rfl rfl (zG (by omega))
    have gw1:h'.get w=some [ov,.int .i64 n]:=by rw[p5 w ne wlt,gw]
    have e1:=p2.1
    rcases p2.2 with ⟨_,q⟩|⟨id,q1,q2,q3,q4⟩
    · omega
    · have hk:P.length+1=n/8+1:=by omega
      rw[hk]at q1
      have qid:id=h.next+1:=by rw[q1]at p6;exact uf p6
      refine⟨h'.set w [v',.int .i64 n],v',id,P++[0],0, ?_, ?_, ?_, ?_, ?_,q1,by omega,by simp [p3],by omega, ?_, ?_, ?_,by omega,.inr (by omega), ?_⟩
      · rw[q1]
        rw[q1]at p1
        have fl':h'.floor≤w:=by omega
        simp (disch:=omega)only[go_sem,vq,AP.f347,GO,gw,gw1,rm,cz,p1,fl',vp,uX]
      · rw[vp rfl,gw1,q1];rfl
      · rw[uX (by omega),q2,Fi];rfl
      · simp;omega
      · rw[RE (by omega),show n/8-P.length=0 by omega];rfl
      · simp;omega
      · unfold vM;rw[if_pos c];dsimp only;rw[Rr,RE (by omega),show n/8-P.length=0 by omega];rfl
      · intro i hi hiw hio
        rw[uX hiw,p5 i hio hi]
      · intro y hy
        rcases RS.1 hy with q|q
        · exact Ht y q
        · simp at q;omega
  · have cz:¬((n%8:Nat):Int)=0:=by omega
    rcases ow.2 with ⟨_,q⟩|⟨id,q1,q2,q3,q4⟩
    · omega
    · have hk:P.length=n/8+1:=by omega
      rw[hk]at q1
      obtain⟨x,hx⟩:∃x,P[n/8]?=some x:=⟨_,Ru (by omega)⟩
      have hneq:id≠w:=fun q=>ne (by rw[q1,q];rfl)
      refine⟨h,ov,id,P,x, ?_,by rw[gw,q1],q2,hk,hx,q1,hneq,rfl,q3,ux _, ?_,fun _ _ _ _=>rfl,Ht x (uD hx),.inl (by rw[q1];rfl),Ht⟩
      · simp (disch:=first|omega|(simp only[wF,Rt,Rv,uE,Nat.reduceAdd];first|done|omega|fail)|(simp (disch:=first|omega|(simp only[wF,Rt,Rv,uE,Nat.reduceAdd];first|done|omega|fail)|fail)only[wF,B6,Rx,Rt,Rv,uE,Nat.reduceAdd];done)|fail)only[go_sem,vq,B5,AP.f347,gw,rm,cz]
      · unfold vM;rw[if_neg c];dsimp only;rw[Rr,hx];rfl
 obtain⟨e',s2⟩:=Jg hb hw hi hl hx hx8 hne (by omega) (by omega) hn
 have cs:aQ AP.A 347 [.aC w 0,.int .i64 b] h=some (.bJ [],(g.set id (yf (P'.set (n/8) (x|||b* 2^(n%8))))).set w [.aD id 0 (n/8+1) 1,.int .i64 ((n:Int)+1)]):=by
  refine vN (fn:=AP.f347) (e:=e') (vs:=[]) rfl rfl rfl ?_ rfl
  have hb:AP.f347.body=.seq (at_ 0 AP.f347.body) (LP 1 AP.f347.body):=rfl
  rw[hb,rk]
  have s1':aK (aQ AP.A) bo (at_ 0 AP.f347.body) (params 0 [.aC w 0,.int .i64 b]) h=some (.normal,[(0,.aC w 0),(1,.int .i64 b)],g):=s1
  rw[s1',r8,s2]
 rw[←hP]at cs
 have ol:(vM P n b).length=n/8+1:=by rw[hP,RO,hl]
 refine⟨_,ov',cs,⟨?_, ?_, ?_, ?_, ?_, ?_⟩, ?_, ?_, ?_, ?_⟩
 · rw[vp rfl,uX hne.symm,hw,hid,uT,←en];rfl
 · rw[pa,hid]
   exact⟨by simp [yf,ol],.inr ⟨id,by rw[ol],by rw[uX hne,vp rfl,hi];rfl,by simpa [hf]using hf2,by omega⟩⟩
 · simpa [hf]using fl
 · simp;omega
 · rw[hid];exact fun q=>hne (uf q)
 · rw[pa];exact BL hb Ht
 · simp [hf]
 · simpa using hflx
 · intro i hi1 hi2 hi3
   have:i≠id:=by
    rcases hids with q|q
    · intro q2;exact hi3 (by rw[q,q2])
    · omega
   rw[uX hi2,uX this,hk i hi1 hi2 hi3]
 · intro j hj
   rw[hid]at hj
   obtain rfl:=uf hj
   exact hids
theorem Ju {h:H} {w:Nat} {ov:AV} {v n up N:Nat} (gw:h.get w=some [ov,.int .i64 N]) (hn:n≤up) (hu:up≤16) (hv:v<2^n) (hb:N+n≤65536):aQ AP.A 346 [.aC w 0,.int .i64 v,.int .i64 n,.int .i64 up] h=some (.bool true,h):=by
 have hp:2^n≤2^16:=RK (by omega) (by omega)
 have s1:oO .shl .i64 1 (n:Int)=some (.int .i64 ((2^n:Nat):Int)):=by
  have:=A4 (a:=1) (s:=n) (by omega) (by omega)
  rwa [Nat.one_mul]at this
 refine s6 (fn:=AP.f346) (e:=[(8,.bool true)]) (vs:=[.bool true]) rfl rfl rfl ?_ rfl
 have c1:(0:Int)≤(n:Int):=by omega
 have c2:(n:Int)≤(up:Int):=by omega
 have c3:(0:Int)≤(v:Int):=by omega
 have c4:(v:Int)<((2^n:Nat):Int):=by omega
 have c5:(N:Int)+(n:Int)≤65536:=by omega
 generalize 2^n=M at *
 simp (disch:=omega)only[go_sem,vq,AP.f346,s1,gw,c1,c2,c3,c4,c5]
theorem D4 (w v n:Nat) (hv:v<65536) (hn:n≤16):∀(m i:Nat) (h:H) (bs:List Nat) (ov:AV),i+m=n→Wr h w bs ov→bs.length+m<1000000→
 ∃e' h' ov',Lp AP.A [0,1,17,18] AP.f335L0 [(0,.aC w 0),(1,.int .i64 v),(17,.int .i64 n),(18,.int .i64 i)] h=some (.exit 1,e',h')∧Wr h' w (bs++Bs v i m) ov'∧GI h w ov h' ov'
 | 0, i, h, bs, ov, hi, wr, hb => by
   obtain rfl:i=n:=by omega
   refine⟨[(0,.aC w 0),(1,.int .i64 v),(17,.int .i64 i),(18,.int .i64 i),(19,.bool false)],h,ov,sL ?_,by simpa [Bs]using wr,GI.refl h w ov⟩
   simp (disch:=omega)only[go_sem,vq,AP.f335L0]
 | m + 1, i, h, bs, ov, hi, wr, hb => by
   have q:=Nat.div_le_self v (2^i)
   obtain⟨h1,o1,k1,wr1,f1⟩:=Lh wr (b:=v/2^i%2) (by omega) (by omega)
   obtain⟨e',h',ov',r1,r2,r3⟩:=D4 w v n hv hn m (i+1) h1 _ o1 (by omega) wr1 (by simp;omega)
   have n1:((i+1:Nat):Int)=(i:Int)+1:=by omega
   have s1:=Gn (a:=v) (s:=i) (by omega)
   have a1:=E6 (n:=v/2^i) (by omega)
   rw[RF]at r2
   refine⟨e',h',ov',sM ?_ r1,r2,f1.trans r3⟩
   rw[n1]
   simp (disch:=omega)only[go_sem,vq,AP.f335L0,s1,a1,k1]
theorem xF {h:H} {w:Nat} {bs:List Nat} {ov:AV} (wr:Wr h w bs ov) (v n:Nat) (hn:n≤16) (hv:v<2^n) (hb:bs.length+n≤65536):
 ∃h' ov',aQ AP.A 335 [.aC w 0,.int .i64 v,.int .i64 n] h=some (.int .i64 0,h')∧Wr h' w (bs++vj v n) ov'∧GI h w ov h' ov':=by
 have hp:2^n≤2^16:=RK (by omega) hn
 obtain⟨e',h',ov',r1,r2,r3⟩:=D4 w v n (by omega) hn n 0 h bs ov (by omega) wr (by omega)
 have r1':Lp AP.A [0,1,17,18] AP.f335L0 [(0,.aC w 0),(1,.int .i64 v),(17,.int .i64 n),(18,.int .i64 0)] h=some (.exit 1,e',h'):=r1
 clear r1
 have k:=Ju (up:=16) wr.get hn (by omega) hv hb
 refine⟨h',ov',s6 (fn:=AP.f335) (e:=[(6,.int .i64 0)]) (vs:=[.int .i64 0]) rfl rfl rfl ?_ rfl,r2,r3⟩
 have k':aQ AP.A 346 [.aC w 0,.int .i64 v,.int .i64 n,.int .i64 16] h=some (.bool true,h):=k
 simp (disch:=omega)only[go_sem,vq,AP.f335,rJ,r1',k']
theorem CT (w v:Nat) (A:List AV) (hA:A[1]?=some (.int .i64 v)) (hA2:A.length=2) (c:Nat) (hv:v<65536):∀(m:Nat) (h:H) (bs:List Nat) (ov:AV),m≤15→Wr h w bs ov→bs.length+m<1000000→h.get c=some A→c≠w→ov.id?≠some c→
 ∃e' h' ov',Lp AP.A [0,3,5] AP.f352L0 [(0,.aC w 0),(3,.aC c 0),(5,.int .i64 ((m:Int)-1))] h=some (.exit 1,e',h')∧Wr h' w (bs++xS v m) ov'∧GI h w ov h' ov'
 | 0, h, bs, ov, hm, wr, hb, hc, hcw, hco => by
   refine⟨[(0,.aC w 0),(3,.aC c 0),(5,.int .i64 (-1)),(26,.bool false)],h,ov,sL ?_,by simpa [xS]using wr,GI.refl h w ov⟩
   simp (disch:=omega)only[go_sem,vq,AP.f352L0]
 | m + 1, h, bs, ov, hm, wr, hb, hc, hcw, hco => by
   have q:=Nat.div_le_self v (2^m)
   obtain⟨h1,o1,k1,wr1,f1⟩:=Lh wr (b:=v/2^m%2) (by omega) (by omega)
   have hcl:=h.lt _ _ hc
   obtain⟨e',h',ov',r1,r2,r3⟩:=CT w v A hA hA2 c hv m h1 _ o1 (by omega) wr1 (by simp;omega) (by rw[f1.vJ c hcl hcw hco,hc]) hcw (fun q=>by
    rcases f1.ids c q with q|q
    · exact hco q
    · omega)
   have n1:((m+1:Nat):Int)-1=(m:Int):=by omega
   have s1:=Gn (a:=v) (s:=m) (by omega)
   have a1:=E6 (n:=v/2^m) (by omega)
   rw[RF]at r2
   refine⟨e',h',ov',sM ?_ r1,r2,f1.trans r3⟩
   rw[n1]
   simp (disch:=omega)only[go_sem,vq,AP.f352L0,s1,a1,k1,hc,hA,hA2]
theorem HR {h:H} {w:Nat} {bs:List Nat} {ov:AV} (wr:Wr h w bs ov) (v n:Nat) (hn0:1≤n) (hn:n≤15) (hv:v<2^n) (hb:bs.length+n≤65536):
 ∃h' ov',aQ AP.A 352 [.aC w 0,.agg [.int .i64 n,.int .i64 v]] h=some (.int .i64 0,h')∧Wr h' w (bs++xS v n) ov'∧GI h w ov h' ov':=by
 have hp:2^n≤2^15:=RK (by omega) hn
 obtain⟨g,eg⟩:∃g,g=h.alloc [.int .i64 n,.int .i64 v]:=⟨_,rfl⟩
 have hw:=h.lt _ _ wr.get
 have frA:∀i,i<h.next→g.get i=h.get i:=fun i hi=>by rw[eg,ve (by omega)]
 have wr1:Wr g w bs ov:=⟨by rw[frA w hw,wr.get],wr.own.mono (by rw[eg];simp) (fun i q=>frA i (wr.own.lt q).2),by rw[eg];simpa using wr.fl,by rw[eg];have:=wr.I4;simp;omega,wr.ne,wr.Ht⟩
 have gc:g.get h.next=some [.int .i64 n,.int .i64 v]:=by rw[eg,vi rfl]
 obtain⟨e',h',ov',r1,r2,r3⟩:=CT w v _ rfl rfl h.next (by omega) n g bs ov hn wr1 (by omega) gc (by omega) (fun q=>by have:=(wr.own.lt q).2;omega)
 have k:aQ AP.A 346 [.aC w 0,.int .i64 v,.int .i64 n,.int .i64 15] g=some (.bool true,g):=Ju (up:=15) wr1.get hn (by omega) hv hb
 refine⟨h',ov',s6 (fn:=AP.f352) (e:=[(4,.int .i64 0)]) (vs:=[.int .i64 0]) rfl rfl rfl ?_ rfl,r2,⟨by rw[r3.floor,eg];simp,by have:=r3.next;rw[eg]at this;simp at this;omega,fun i h1 h2 h3=>by rw[r3.vJ i (by rw[eg];simp;omega) h2 h3,frA i h1],fun j hj=>by
  rcases r3.ids j hj with q|q
  · exact .inl q
  · rw[eg]at q;simp at q;exact .inr (by omega)⟩⟩
 have c1:¬(n:Int)<1:=by omega
 simp (disch:=omega)only[go_sem,vq,AP.f352,rJ,←eg,r1,c1,gc,k]
theorem HU {h:H} {w:Nat} {bs:List Nat} {ov:AV} (wr:Wr h w bs ov):aQ AP.A 336 [.aC w 0] h=some (.str (bytesOf (vz bs)),h):=by
 have gw:=wr.get
 have b:=E8 wr.own
 refine s6 (fn:=AP.f336) (e:=[(2,.str (bytesOf (vz bs)))]) (vs:=[.str (bytesOf (vz bs))]) rfl rfl rfl ?_ rfl
 simp (disch:=omega)only[go_sem,vq,AP.f336,gw,b]
theorem Gc (bs : List Nat) : ∀ m : Nat, (bs.length + m) % 8 = 0 → m < 8 → vz (bs ++ List.replicate m 0) = vz bs := by
 have step:∀(k:Nat) (cs:List Nat),k+cs.length%8≤8→(0<k→cs.length%8≠0)→vz (cs++List.replicate k 0)=vz cs:=by
  intro k
  induction k with
  |zero=>intro cs _ _;simp
  | succ k ih =>
    intro cs h1 h2
    have hne:=h2 (by omega)
    have e:cs++List.replicate (k+1) 0=(cs++[0])++List.replicate k 0:=by simp [List.replicate_succ]
    have l1:(cs++[0]).length=cs.length+1:=by simp
    have z:vz (cs++[0])=vz cs:=by
     rw[DX]
     unfold vM
     rw[if_neg hne]
     dsimp only
     rw[Nat.zero_mul,Nat.or_zero]
     have hl:=xu cs
     have hlt:cs.length/8<(vz cs).length:=by omega
     rw[Rr,Ru hlt]
     exact List.set_getElem_self hlt
    rw[e]
    by_cases c:k=0
    · subst c;simpa using z
    · rw[ih (cs++[0]) (by rw[l1];omega) (fun _=>by rw[l1];omega),z]
 intro m hm h8
 refine step m bs (by omega) (fun h=>by omega)
theorem JS {h:H} {w:Nat} {bs:List Nat} {ov:AV} (wr:Wr h w bs ov) (m:Nat) (hm:(bs.length+m)%8=0) (h8:m<8) (hb:bs.length+m<1000):
 ∃h',aQ AP.A 334 [.aC w 0] h=some (.int .i64 0,h')∧Wr h' w (bs++List.replicate m 0) ov∧GI h w ov h' ov:=by
 have gw:=wr.get
 have pz:=Gc bs m hm h8
 have pl:=xu bs
 have ln:=wr.own.rd.len
 have e8:(8:Int)* ((vz bs).length:Nat)=((bs.length+m:Nat):Int):=by omega
 have fl:=wr.fl
 refine⟨h.set w [ov,.int .i64 (bs.length+m:Nat)],s6 (fn:=AP.f334) (e:=[(2,.int .i64 0)]) (vs:=[.int .i64 0]) rfl rfl rfl ?_ rfl,⟨by rw[vp rfl,gw];simp, ?_,by simpa using fl,by simpa using wr.I4,wr.ne,by rw[pz];exact wr.Ht⟩,⟨by simp,by simp,fun i _ h2 _=>uX h2,fun j hj=>.inl hj⟩⟩
 · have mb:((bs.length+m:Nat):Int)<1000:=by omega
   generalize ((bs.length+m:Nat):Int)=M at *
   have M0:0≤M:=by omega
   clear pz
   simp (disch:=omega)only[go_sem,vq,AP.f334,gw,ln,e8,fl]
 · rw[pz];exact wr.own.mono (by simp) fun j hj=>uX (fun q=>wr.ne (by rw[hj,q]))
theorem Hr {h:H} (hf:h.floor=h.next) (k:Nat) (hk:k<4):∃h' ov',aQ AP.A 333 [.int .i64 k] h=some (.aC h.next 0,h')∧WX h h' h.next (vj 1 1++vj k 2) ov'∧h'.floor=h.floor:=by
 have x0:=Kn (h:=h) (by omega)
 obtain⟨h1,o1,k1,w1,f1⟩:=xF x0.wr 1 1 (by omega) (by omega) (by simp)
 have x1:=x0.step w1 f1
 obtain⟨h2,o2,k2,w2,f2⟩:=xF x1.wr k 2 (by omega) (by omega) (by simp [vj,vt])
 have x2:=x1.step w2 f2
 have kn:aQ AP.A 345 [] h=some (.aC h.next 0,h.alloc [.aO,.int .i64 0]):=by
  refine s6 (fn:=AP.f345) (e:=[(0,.aC h.next 0)]) (vs:=[.aC h.next 0]) rfl rfl rfl ?_ rfl
  simp (disch:=omega)only[go_sem,vq,AP.f345]
 refine⟨h2,o2,s6 (fn:=AP.f333) (e:=[(2,.aC h.next 0)]) (vs:=[.aC h.next 0]) rfl rfl rfl ?_ rfl, ?_,by rw[f2.floor,f1.floor];simp⟩
 · clear x0 x1 x2
   have k1':aQ AP.A 335 [.aC h.next 0,.int .i64 1,.int .i64 1] (h.alloc [.aO,.int .i64 0])=some (.int .i64 0,h1):=k1
   have k2':aQ AP.A 335 [.aC h.next 0,.int .i64 k,.int .i64 2] h1=some (.int .i64 0,h2):=k2
   simp (disch:=omega)only[go_sem,vq,AP.f333,kn,k1',k2']
 · simpa using x2
theorem MS {F:Nat→Option (Nat×Nat)} {k to:Nat} (h:vh (F to)≤k):yI F k to=to:=by
 cases to with
 |zero=>rfl
 |succ t=>rw[yI,if_pos h]
theorem DN {F : Nat → Option (Nat × Nat)} {fk : Nat} (hF : ∀ (g : H) (s : Nat), s < 1000000 → aQ AP.A fk [.int .i64 s] g = some (Dg (F s), g)) (k to : Nat) (hk : k < 1000000) (hto : to < 1000) (hl : vh (F to) ≤ k) (g : H) (id : Nat) (hf : g.floor ≤ id) (hg : g.get id = some [.int .i64 0, .int .i64 0, .int .i64 0]) : ∀ n : Nat, n < 1000 → (∀ s, to ≤ s → s ≤ to + n → ∃ a b, F s = some (a, b) ∧ a < 1000000) →
 (yI F k (to+n)=to∧Lp AP.A [0,2,3,8,9] AP.f361L0 [(0,.int .i64 k),(2,.int .i64 to),(3,.fn fk [] []),(8,.aC id 0),(9,.int .i64 (to+n:Nat))] g=some (.exit 0,[(0,.int .i64 k),(2,.int .i64 to),(3,.fn fk [] []),(8,.aC id 0),(9,.int .i64 to),(16,.bool false)],g))∨
 (yI F k (to+n)≠to∧Lp AP.A [0,2,3,8,9] AP.f361L0 [(0,.int .i64 k),(2,.int .i64 to),(3,.fn fk [] []),(8,.aC id 0),(9,.int .i64 (to+n:Nat))] g=some (.ret,[(8,.aC id 0)],g.set id [.int .i64 (yI F k (to+n):Nat),.int .i64 (wk (F (yI F k (to+n))):Nat),.int .i64 ((k-vh (F (yI F k (to+n))):Nat):Int)]))
 | 0, _, _ => by
   refine .inl ⟨MS hl,sL ?_⟩
   simp (disch:=omega)only[go_sem,vq,AP.f361L0]
 | n + 1, hn, hs => by
   obtain⟨a,b,hab,ha⟩:=hs (to+(n+1)) (by omega) (by omega)
   have kk:=fun g=>hF g (to+(n+1)) (by omega)
   rw[hab]at kk
   simp only[I,Dg]at kk
   have la:vh (F (to+(n+1)))=a:=by rw[hab];rfl
   have lb:wk (F (to+(n+1)))=b:=by rw[hab];rfl
   have c0:(to:Int)<((to+(n+1):Nat):Int):=by omega
   have ed:yI F k (to+(n+1))=if a≤k then to+(n+1)else yI F k (to+n):=by rw[←uw,yI,←la];rfl
   by_cases c1:a≤k
   · rw[if_pos c1]at ed
     rw[ed,la,lb]
     refine .inr ⟨by omega,th ?_⟩
     have n1:((k-a:Nat):Int)=(k:Int)-(a:Int):=by omega
     have c2:(a:Int)≤(k:Int):=by omega
     have sb:((to+(n+1):Nat):Int)<1000000:=by omega
     rw[n1]
     generalize ((to+(n+1):Nat):Int)=s at *
     clear hs hF
     simp (disch:=first|omega|(simp only[wF,Rt,Rv,uE,Nat.reduceAdd];first|done|omega|fail)|(simp (disch:=first|omega|(simp only[wF,Rt,Rv,uE,Nat.reduceAdd];first|done|omega|fail)|fail)only[wF,B6,Rx,Rt,Rv,uE,Nat.reduceAdd];done)|fail)only[go_sem,vq,B5,AP.f361L0,c0,kk,c2,hg]
   · rw[if_neg c1]at ed
     rw[ed]
     have n1:((to+(n+1):Nat):Int)-1=((to+n:Nat):Int):=by omega
     have c2:¬(a:Int)≤(k:Int):=by omega
     have st:aK (aQ AP.A) bo AP.f361L0 (ax [(0,.int .i64 k),(2,.int .i64 to),(3,.fn fk [] []),(8,.aC id 0),(9,.int .i64 (to+(n+1):Nat))] [0,2,3,8,9]) g=some (.normal,[(0,.int .i64 k),(2,.int .i64 to),(3,.fn fk [] []),(8,.aC id 0),(9,.int .i64 (to+n:Nat))],g):=by
      rw[←n1]
      have sb:((to+(n+1):Nat):Int)<1000000:=by omega
      have sb0:0≤((to+(n+1):Nat):Int):=by omega
      clear n1
      generalize ((to+(n+1):Nat):Int)=s at *
      clear hs hF
      simp (disch:=first|omega|(simp only[wF,Rt,Rv,uE,Nat.reduceAdd];first|done|omega|fail)|(simp (disch:=first|omega|(simp only[wF,Rt,Rv,uE,Nat.reduceAdd];first|done|omega|fail)|fail)only[wF,B6,Rx,Rt,Rv,uE,Nat.reduceAdd];done)|fail)only[go_sem,vq,B5,AP.f361L0,c0,kk,c2,hg]
     rcases DN hF k to hk hto hl g id hf hg n (by omega) (fun s h1 h2=>hs s h1 (by omega))with ⟨e,L⟩|⟨e,L⟩
     · exact .inl ⟨e,sM st L⟩
     · exact .inr ⟨e,sM st L⟩
theorem JG {F:Nat→Option (Nat×Nat)} {fk:Nat} (hF:∀(g:H) (s:Nat),s<1000000→aQ AP.A fk [.int .i64 s] g=some (Dg (F s),g)) (k to n:Nat) (hk:k<1000000) (hto:to<1000) (hl:vh (F to)≤k) (hn:n<1000) (hs:∀s,to≤s→s≤to+n→∃a b,F s=some (a,b)∧a<1000000) (hz:yI F k (to+n)=to→wk (F to)=0∧k=vh (F to)) (h:H):
 aQ AP.A 361 [.int .i64 k,.int .i64 (to+n:Nat),.int .i64 to,.fn fk [] []] h=some (.agg [.int .i64 (yI F k (to+n):Nat),.int .i64 (wk (F (yI F k (to+n))):Nat),.int .i64 ((k-vh (F (yI F k (to+n))):Nat):Int)],h):=by
 rcases DN hF k to hk hto hl (h.dG.alloc [.int .i64 0,.int .i64 0,.int .i64 0]) h.next (by simp) (by rw[vi (by simp)]) n hn hs with ⟨e,L⟩|⟨e,L⟩
 · obtain⟨z1,z2⟩:=hz e
   rw[e,z1,←z2,Nat.sub_self]
   refine tD (fn:=AP.f361) (h2:=(h.dG.alloc [.int .i64 0,.int .i64 0,.int .i64 0]).set h.next [.int .i64 to,.int .i64 0,.int .i64 0]) (e:=[(8,.aC h.next 0)]) (vs:=[.agg [.int .i64 to,.int .i64 0,.int .i64 0]]) rfl rfl rfl ?_ ?_ ?_
   · clear hs hF
     simp (disch:=first|omega|(simp only[wF,Rt,Rv,uE,Nat.reduceAdd];first|done|omega|fail)|(simp (disch:=first|omega|(simp only[wF,Rt,Rv,uE,Nat.reduceAdd];first|done|omega|fail)|fail)only[wF,B6,Rx,Rt,Rv,uE,Nat.reduceAdd];done)|fail)only[go_sem,vq,B5,AP.f361,rJ,L]
   · simp (disch:=first|omega|(simp only[wF,Rt,Rv,uE,Nat.reduceAdd];first|done|omega|fail)|(simp (disch:=first|omega|(simp only[wF,Rt,Rv,uE,Nat.reduceAdd];first|done|omega|fail)|fail)only[wF,B6,Rx,Rt,Rv,uE,Nat.reduceAdd];done)|fail)only[go_sem,vq,B5,AP.f361,cm,mQ];rfl
   · rfl
 · generalize yI F k (to+n)=S at *
   generalize wk (F S)=B at *
   generalize k-vh (F S)=V at *
   refine tD (fn:=AP.f361) (h2:=(h.dG.alloc [.int .i64 0,.int .i64 0,.int .i64 0]).set h.next [.int .i64 S,.int .i64 B,.int .i64 V]) (e:=[(8,.aC h.next 0)]) (vs:=[.agg [.int .i64 S,.int .i64 B,.int .i64 V]]) rfl rfl rfl ?_ ?_ ?_
   · clear hs hF
     simp (disch:=first|omega|(simp only[wF,Rt,Rv,uE,Nat.reduceAdd];first|done|omega|fail)|(simp (disch:=first|omega|(simp only[wF,Rt,Rv,uE,Nat.reduceAdd];first|done|omega|fail)|fail)only[wF,B6,Rx,Rt,Rv,uE,Nat.reduceAdd];done)|fail)only[go_sem,vq,B5,AP.f361,rJ,L]
   · simp (disch:=first|omega|(simp only[wF,Rt,Rv,uE,Nat.reduceAdd];first|done|omega|fail)|(simp (disch:=first|omega|(simp only[wF,Rt,Rv,uE,Nat.reduceAdd];first|done|omega|fail)|fail)only[wF,B6,Rx,Rt,Rv,uE,Nat.reduceAdd];done)|fail)only[go_sem,vq,B5,AP.f361,cm,mQ];rfl
   · rfl
theorem N6 (h:H) (k:Nat) (h1:3≤k) (h2:k≤258):aQ AP.A 355 [.int .i64 k] h=some (.bJ [.agg [.int .i64 (xf k:Nat),.int .i64 (ze k:Nat),.int .i64 (zZ k:Nat)],.int .i64 0],h):=by
 by_cases c:k=258
 · subst c
   have e1:xf 258=285:=by decide
   have e2:ze 258=0:=by decide
   have e3:zZ 258=0:=by decide
   rw[e1,e2,e3]
   refine tD (fn:=AP.f355) (h2:=(h.dG.alloc [.int .i64 0,.int .i64 0,.int .i64 0]).set h.next [.int .i64 285,.int .i64 0,.int .i64 0]) (e:=[(2,.aC h.next 0),(3,.int .i64 0)]) (vs:=[.agg [.int .i64 285,.int .i64 0,.int .i64 0],.int .i64 0]) rfl rfl rfl ?_ ?_ ?_
   · have a1:¬((258:Nat):Int)<3:=by omega
     have a2:¬(258:Int)<((258:Nat):Int):=by omega
     have a3:(((258:Nat):Int)==258)=true:=by decide
     generalize ((258:Nat):Int)=K at *
     simp (disch:=first|omega|(simp only[wF,Rt,Rv,uE,Nat.reduceAdd];first|done|omega|fail)|(simp (disch:=first|omega|(simp only[wF,Rt,Rv,uE,Nat.reduceAdd];first|done|omega|fail)|fail)only[wF,B6,Rx,Rt,Rv,uE,Nat.reduceAdd];done)|fail)only[go_sem,vq,B5,AP.f355,a1,a2,a3]
   · simp (disch:=first|omega|(simp only[wF,Rt,Rv,uE,Nat.reduceAdd];first|done|omega|fail)|(simp (disch:=first|omega|(simp only[wF,Rt,Rv,uE,Nat.reduceAdd];first|done|omega|fail)|fail)only[wF,B6,Rx,Rt,Rv,uE,Nat.reduceAdd];done)|fail)only[go_sem,vq,B5,AP.f355,cm,mQ];rfl
   · rfl
 · have e:yI lenOf k 285=yI lenOf k 284:=by
    rw[yI,if_neg]
    have:vh (lenOf (284+1))=258:=rfl
    omega
   have sp:=xP h1 h2
   have hz:yI lenOf k (257+27)=257→wk (lenOf 257)=0∧k=vh (lenOf 257):=fun q=>by
    have q':xf k=257:=e.trans q
    rw[q']at sp
    have b1:wk (lenOf 257)=0:=rfl
    have l1:vh (lenOf 257)=3:=rfl
    rw[l1,b1]at sp
    exact⟨rfl,by rw[l1];omega⟩
   have r:=JG (F:=lenOf) (fk:=74) (fun g s hs=>HK g s hs) k 257 27 (by omega) (by omega) (show vh (lenOf 257)≤k from h1) (by omega) (fun s q1 q2=>by
    obtain⟨a,b,hab⟩:=zY q1 (by omega)
    have:=CL hab
    exact⟨a,b,hab,by omega⟩) hz (h.dG.alloc [.int .i64 0,.int .i64 0,.int .i64 0])
   have el:yI lenOf k (257+27)=xf k:=e.symm
   rw[el]at r
   have r':aQ AP.A 361 [.int .i64 k,.int .i64 284,.int .i64 257,.fn 74 [] []] (h.dG.alloc [.int .i64 0,.int .i64 0,.int .i64 0])=some (.agg [.int .i64 (xf k:Nat),.int .i64 (ze k:Nat),.int .i64 (zZ k:Nat)],h.dG.alloc [.int .i64 0,.int .i64 0,.int .i64 0]):=r
   clear r
   generalize xf k=S at *
   generalize ze k=B at *
   generalize zZ k=V at *
   refine tD (fn:=AP.f355) (h2:=(h.dG.alloc [.int .i64 0,.int .i64 0,.int .i64 0]).set h.next [.int .i64 S,.int .i64 B,.int .i64 V]) (e:=[(2,.aC h.next 0),(3,.int .i64 0)]) (vs:=[.agg [.int .i64 S,.int .i64 B,.int .i64 V],.int .i64 0]) rfl rfl rfl ?_ ?_ ?_
   · have a1:¬(k:Int)<3:=by omega
     have a2:¬(258:Int)<(k:Int):=by omega
     have a3:((k:Int)==258)=false:=by simp;omega
     clear sp hz
     simp (disch:=first|omega|(simp only[wF,Rt,Rv,uE,Nat.reduceAdd];first|done|omega|fail)|(simp (disch:=first|omega|(simp only[wF,Rt,Rv,uE,Nat.reduceAdd];first|done|omega|fail)|fail)only[wF,B6,Rx,Rt,Rv,uE,Nat.reduceAdd];done)|fail)only[go_sem,vq,B5,AP.f355,a1,a2,a3,r']
   · simp (disch:=first|omega|(simp only[wF,Rt,Rv,uE,Nat.reduceAdd];first|done|omega|fail)|(simp (disch:=first|omega|(simp only[wF,Rt,Rv,uE,Nat.reduceAdd];first|done|omega|fail)|fail)only[wF,B6,Rx,Rt,Rv,uE,Nat.reduceAdd];done)|fail)only[go_sem,vq,B5,AP.f355,cm,mQ];rfl
   · rfl
theorem K5 (h:H) (k:Nat) (h1:1≤k) (h2:k≤32768):aQ AP.A 356 [.int .i64 k] h=some (.bJ [.agg [.int .i64 (xE k:Nat),.int .i64 (zL k:Nat),.int .i64 (AD k:Nat)],.int .i64 0],h):=by
 have sp:=xM h1 h2
 have hz:yI vu k (0+29)=0→wk (vu 0)=0∧k=vh (vu 0):=fun q=>by
  have q':xE k=0:=q
  rw[q']at sp
  have b1:wk (vu 0)=0:=rfl
  have l1:vh (vu 0)=1:=rfl
  rw[l1,b1]at sp
  exact⟨rfl,by rw[l1];omega⟩
 have r:=JG (F:=vu) (fk:=75) (fun g s hs=>Fv g s hs) k 0 29 (by omega) (by omega) (show vh (vu 0)≤k from h1) (by omega) (fun s q1 q2=>by
  obtain⟨a,b,hab⟩:=za (s:=s) (by omega)
  have:=Bc hab
  exact⟨a,b,hab,by omega⟩) hz (h.dG.alloc [.int .i64 0,.int .i64 0,.int .i64 0])
 have r':aQ AP.A 361 [.int .i64 k,.int .i64 29,.int .i64 0,.fn 75 [] []] (h.dG.alloc [.int .i64 0,.int .i64 0,.int .i64 0])=some (.agg [.int .i64 (xE k:Nat),.int .i64 (zL k:Nat),.int .i64 (AD k:Nat)],h.dG.alloc [.int .i64 0,.int .i64 0,.int .i64 0]):=r
 clear r
 generalize xE k=S at *
 generalize zL k=B at *
 generalize AD k=V at *
 refine tD (fn:=AP.f356) (h2:=(h.dG.alloc [.int .i64 0,.int .i64 0,.int .i64 0]).set h.next [.int .i64 S,.int .i64 B,.int .i64 V]) (e:=[(2,.aC h.next 0),(3,.int .i64 0)]) (vs:=[.agg [.int .i64 S,.int .i64 B,.int .i64 V],.int .i64 0]) rfl rfl rfl ?_ ?_ ?_
 · have a1:¬(k:Int)<1:=by omega
   have a2:¬(32768:Int)<(k:Int):=by omega
   clear sp hz
   simp (disch:=first|omega|(simp only[wF,Rt,Rv,uE,Nat.reduceAdd];first|done|omega|fail)|(simp (disch:=first|omega|(simp only[wF,Rt,Rv,uE,Nat.reduceAdd];first|done|omega|fail)|fail)only[wF,B6,Rx,Rt,Rv,uE,Nat.reduceAdd];done)|fail)only[go_sem,vq,B5,AP.f356,a1,a2,r']
 · simp (disch:=first|omega|(simp only[wF,Rt,Rv,uE,Nat.reduceAdd];first|done|omega|fail)|(simp (disch:=first|omega|(simp only[wF,Rt,Rv,uE,Nat.reduceAdd];first|done|omega|fail)|fail)only[wF,B6,Rx,Rt,Rv,uE,Nat.reduceAdd];done)|fail)only[go_sem,vq,B5,AP.f356,cm,mQ];rfl
 · rfl
theorem Gz (h:H) (x d:Int):aQ AP.A 349 [.agg [.int .i64 x,.int .i64 0,.int .i64 d]] h=some (.bJ [.agg [.int .i64 x,.int .i64 0,.int .i64 0],.agg [.int .i64 0,.int .i64 0,.int .i64 0],.bool false],h):=by
 refine tD (fn:=AP.f349) (h2:=(((((h.dG.alloc [.int .i64 x,.int .i64 0,.int .i64 d]).alloc [.int .i64 0,.int .i64 0,.int .i64 0]).alloc [.int .i64 0,.int .i64 0,.int .i64 0]).set (h.next+1) [.int .i64 x,.int .i64 0,.int .i64 0]).set (h.next+2) [.int .i64 0,.int .i64 0,.int .i64 0])) (e:=[(2,.aC (h.next+1) 0),(3,.aC (h.next+2) 0),(4,.bool false)]) (vs:=[.agg [.int .i64 x,.int .i64 0,.int .i64 0],.agg [.int .i64 0,.int .i64 0,.int .i64 0],.bool false]) rfl rfl rfl ?_ ?_ ?_
 · simp (disch:=first|omega|(simp only[wF,Rt,Rv,uE,Nat.reduceAdd];first|done|omega|fail)|(simp (disch:=first|omega|(simp only[wF,Rt,Rv,uE,Nat.reduceAdd];first|done|omega|fail)|fail)only[wF,B6,Rx,Rt,Rv,uE,Nat.reduceAdd];done)|fail)only[go_sem,vq,B5,AP.f349]
 · simp (disch:=first|omega|(simp only[wF,Rt,Rv,uE,Nat.reduceAdd];first|done|omega|fail)|(simp (disch:=first|omega|(simp only[wF,Rt,Rv,uE,Nat.reduceAdd];first|done|omega|fail)|fail)only[wF,B6,Rx,Rt,Rv,uE,Nat.reduceAdd];done)|fail)only[go_sem,vq,B5,AP.f349,cm,mQ];rfl
 · rfl
theorem Ee (h:H) (k d:Nat) (h1:3≤k) (h2:k≤258) (d1:1≤d) (d2:d≤32768):aQ AP.A 349 [.agg [.int .i64 0,.int .i64 k,.int .i64 d]] h=some (.bJ [.agg [.int .i64 (xf k:Nat),.int .i64 (ze k:Nat),.int .i64 (zZ k:Nat)],.agg [.int .i64 (xE d:Nat),.int .i64 (zL d:Nat),.int .i64 (AD d:Nat)],.bool true],h):=by
 have k1:=fun g=>N6 g k h1 h2
 have k2:=fun g=>K5 g d d1 d2
 have c0:((k:Int)==0)=false:=by simp;omega
 generalize xf k=S at *
 generalize ze k=B at *
 generalize zZ k=V at *
 generalize xE d=S' at *
 generalize zL d=B' at *
 generalize AD d=V' at *
 obtain⟨g,eg⟩:∃g,g=((((((((h.dG.alloc [.int .i64 0,.int .i64 k,.int .i64 d]).alloc [.int .i64 0,.int .i64 0,.int .i64 0]).alloc [.int .i64 0,.int .i64 0,.int .i64 0]).alloc [.int .i64 0,.int .i64 0,.int .i64 0]).set (h.next+3) [.int .i64 S,.int .i64 B,.int .i64 V]).alloc [.int .i64 0,.int .i64 0,.int .i64 0]).set (h.next+4) [.int .i64 S',.int .i64 B',.int .i64 V']).set (h.next+1) [.int .i64 S,.int .i64 B,.int .i64 V]).set (h.next+2) [.int .i64 S',.int .i64 B',.int .i64 V']:=⟨_,rfl⟩
 refine tD (fn:=AP.f349) (h2:=g) (e:=[(2,.aC (h.next+1) 0),(3,.aC (h.next+2) 0),(4,.bool true)]) (vs:=[.agg [.int .i64 S,.int .i64 B,.int .i64 V],.agg [.int .i64 S',.int .i64 B',.int .i64 V'],.bool true]) rfl rfl rfl ?_ ?_ ?_
 · rw[eg]
   simp (disch:=first|omega|(simp only[wF,Rt,Rv,uE,Nat.reduceAdd];first|done|omega|fail)|(simp (disch:=first|omega|(simp only[wF,Rt,Rv,uE,Nat.reduceAdd];first|done|omega|fail)|fail)only[wF,B6,Rx,Rt,Rv,uE,Nat.reduceAdd];done)|fail)only[go_sem,vq,B5,AP.f349,c0,k1,k2]
 · rw[eg]
   simp (disch:=first|omega|(simp only[wF,Rt,Rv,uE,Nat.reduceAdd];first|done|omega|fail)|(simp (disch:=first|omega|(simp only[wF,Rt,Rv,uE,Nat.reduceAdd];first|done|omega|fail)|fail)only[wF,B6,Rx,Rt,Rv,uE,Nat.reduceAdd];done)|fail)only[go_sem,vq,B5,AP.f349,cm,mQ];rfl
 · rfl
theorem Hg {h0 h:H} {w:Nat} {bs:List Nat} {ov lv:AV} {E:List (Int×Int)} (rl:yn 2 h0 lv E.length (E.flatMap wA)) (x:WX h0 h w bs ov) (s b v:Nat) (o:Aq E s) (hb:b≤16) (hv:v<2^b) (hl:bs.length+31≤65536):
 ∃h' ov',aQ AP.A 350 [.aC w 0,lv,.agg [.int .i64 s,.int .i64 b,.int .i64 v]] h=some (.bJ [],h')∧WX h0 h' w (bs++(u6 E s++vj v b)) ov'∧h.next≤h'.next∧(∀i,i<h.next→i≠w→ov.id?≠some i→h'.get i=h.get i)∧(∀j,ov'.id?=some j→ov.id?=some j∨h.next≤j):=by
 obtain⟨g,eg⟩:∃g,g=h.alloc [.int .i64 s,.int .i64 b,.int .i64 v]:=⟨_,rfl⟩
 have x1:WX h0 g w bs ov:=x.turn (by rw[eg];simp) (by rw[eg];simp) fun i hi=>by rw[eg,ve (by omega)]
 have gg:g.get h.next=some [.int .i64 s,.int .i64 b,.int .i64 v]:=by rw[eg,vi rfl]
 have hw:=h.lt _ _ x.wr.get
 have hon:ov.id?≠some h.next:=fun q=>by have:=(x.wr.own.lt q).2;omega
 obtain⟨le,l1,l2⟩:=rl.Ls
 obtain⟨n,c,q0,q1,q2,q3,q4⟩:=o.bits
 have e1:=l1 s ⟨by omega,by have:=o.lt;omega⟩
 have e2:=l2 g x1.ext _ _ q0
 obtain⟨h2,o2,k1,k2,k3⟩:=HR x1.wr c n q1 q2 q3 (by omega)
 have x2:=x1.step k2 k3
 have g2:h2.get h.next=some [.int .i64 s,.int .i64 b,.int .i64 v]:=(k3.vJ h.next (by rw[eg];simp) (by omega) hon).trans gg
 obtain⟨h3,o3,k4,k5,k6⟩:=xF x2.wr v b hb hv (by simp [vY];omega)
 have x3:=x2.step k5 k6
 refine⟨h3,o3,vN (fn:=AP.f350) (e:=[]) (vs:=[]) rfl rfl rfl ?_ rfl,by rw[q4,←RF];exact x3, ?_,fun i hi hiw hio=> ?_,fun j hj=> ?_⟩
 · clear rl l1 l2 x x1 x2 x3 k2 k3 k5 k6 q4
   simp (disch:=omega)only[go_sem,vq,AP.f350,←eg,gg,e1,e2,k1,g2,k4]
 · have a1:=k3.next
   have a2:=k6.next
   rw[eg]at a1;simp at a1;omega
 · have a1:=k3.next
   have e:g.get i=h.get i:=by rw[eg,ve (by omega)]
   have gn:g.next=h.next+1:=by rw[eg];simp
   rw[k6.vJ i (by omega) hiw (fun q=>by
    rcases k3.ids i q with z|z
    · exact hio z
    · omega),k3.vJ i (by omega) hiw hio,e]
 · have gn:g.next=h.next+1:=by rw[eg];simp
   rcases k6.ids j hj with z|z
   · rcases k3.ids j z with y|y
     · exact .inl y
     · exact .inr (by omega)
   · have:=k3.next;exact .inr (by omega)
theorem IU {v lv dv:AV} {ts:List Tok} {E D:List (Int×Int)} (hn:ts.length<1000000) (h0:H) (rd:yn 3 h0 v ts.length (vX ts)) (rl:yn 2 h0 lv E.length (E.flatMap wA)) (rx:yn 2 h0 dv D.length (D.flatMap wA)) (w i:Nat) (t:Tok) (ht:ts[i]?=some t) (o:GG E D t) (tk:xH t) (tl:t.len≠0→t.lit=0) (h:H) (bs:List Nat) (ov:AV) (x:WX h0 h w bs ov) (hb:bs.length+48≤65000):
 ∃h' ov',aK (aQ AP.A) bo AP.f339L0 (ax [(0,.aC w 0),(2,lv),(3,dv),(14,v),(15,.int .i64 ts.length),(16,.int .i64 i)] [0,2,3,14,15,16]) h=some (.normal,[(0,.aC w 0),(2,lv),(3,dv),(14,v),(15,.int .i64 ts.length),(16,.int .i64 (i+1:Nat))],h')∧WX h0 h' w (bs++vC E D t) ov':=by
 obtain⟨ad,a1,a2,a3⟩:=rd.Ok
 have hi:i<ts.length:=(uq.1 ht).1
 have hI:(0:Int)≤(i:Int)∧(i:Int)<ts.length:=⟨by omega,by omega⟩
 have b1:=a1 _ hI
 obtain⟨_,_,_,b2⟩:=a3 h x.ext _ _ ht
 have n1:((i+1:Nat):Int)=(i:Int)+1:=by omega
 have ci:(i:Int)<(ts.length:Int):=hI.2
 have step:∀(S B V S' B' V':Nat) (cp:Bool),(∀g:H,aQ AP.A 349 [.agg [.int .i64 t.lit,.int .i64 t.len,.int .i64 t.vH]] g=some (.bJ [.agg [.int .i64 S,.int .i64 B,.int .i64 V],.agg [.int .i64 S',.int .i64 B',.int .i64 V'],.bool cp],g))→Aq E S→B≤5→V<2^B→(cp=true→Aq D S'∧B'≤13∧V'<2^B')→
  ∃h' ov',aK (aQ AP.A) bo AP.f339L0 (ax [(0,.aC w 0),(2,lv),(3,dv),(14,v),(15,.int .i64 ts.length),(16,.int .i64 i)] [0,2,3,14,15,16]) h=some (.normal,[(0,.aC w 0),(2,lv),(3,dv),(14,v),(15,.int .i64 ts.length),(16,.int .i64 (i+1:Nat))],h')∧WX h0 h' w (bs++((u6 E S++vj V B)++if cp=true then u6 D S'++vj V' B' else [])) ov':=by
  intro S B V S' B' V' cp ks oS hB hV hcp
  obtain⟨g1,eg1⟩:∃g,g=(h.alloc [.int .i64 0,.int .i64 0,.int .i64 0]).set h.next [.int .i64 t.lit,.int .i64 t.len,.int .i64 t.vH]:=⟨_,rfl⟩
  obtain⟨g2,eg2⟩:∃g,g=(((g1.alloc [.int .i64 0,.int .i64 0,.int .i64 0]).alloc [.int .i64 0,.int .i64 0,.int .i64 0]).set g1.next [.int .i64 S,.int .i64 B,.int .i64 V]).set (g1.next+1) [.int .i64 S',.int .i64 B',.int .i64 V']:=⟨_,rfl⟩
  have n1':g1.next=h.next+1:=by rw[eg1];simp
  have n2':g2.next=h.next+3:=by rw[eg2];simp;omega
  have fl1:h.floor≤h.next:=x.wr.I4
  have flg:g1.floor≤g1.next:=by rw[n1',eg1];simp;omega
  have gt1:g1.get h.next=some [.int .i64 t.lit,.int .i64 t.len,.int .i64 t.vH]:=by rw[eg1,vp rfl,vi rfl];rfl
  have gk1:∀j,j<h.next→g1.get j=h.get j:=fun j hj=>by rw[eg1,uX (by omega),ve (by omega)]
  have gk2:∀j,j<h.next→g2.get j=h.get j:=fun j hj=>by rw[eg2,uX (by omega),uX (by omega),ve (by simp;omega),ve (by omega),gk1 j hj]
  have x2:WX h0 g2 w bs ov:=x.turn (by rw[eg2,eg1];simp) (by omega) gk2
  have ga:g2.get g1.next=some [.int .i64 S,.int .i64 B,.int .i64 V]:=by rw[eg2,uX (by omega),vp rfl,ve (by simp),vi rfl];rfl
  have gb:g2.get (g1.next+1)=some [.int .i64 S',.int .i64 B',.int .i64 V']:=by rw[eg2,vp rfl,uX (by omega),vi (by simp)];rfl
  have hA:((g1.alloc [.int .i64 0,.int .i64 0,.int .i64 0]).alloc [.int .i64 0,.int .i64 0,.int .i64 0]).get g1.next=some [.int .i64 0,.int .i64 0,.int .i64 0]:=by rw[ve (by simp),vi rfl]
  have hB:(((g1.alloc [.int .i64 0,.int .i64 0,.int .i64 0]).alloc [.int .i64 0,.int .i64 0,.int .i64 0]).set g1.next [.int .i64 S,.int .i64 B,.int .i64 V]).get (g1.next+1)=some [.int .i64 0,.int .i64 0,.int .i64 0]:=by rw[uX (by omega),vi (by simp)]
  have hw:=h.lt _ _ x.wr.get
  have hov:∀j,h.next≤j→ov.id?≠some j:=fun j hj q=>by have:=(x.wr.own.lt q).2;omega
  obtain⟨h3,o3,k3,x3,nx3,kp3,id3⟩:=Hg rl x2 S B V oS (by omega) hV (by omega)
  have gb3:h3.get (g1.next+1)=some [.int .i64 S',.int .i64 B',.int .i64 V']:=(kp3 _ (by omega) (by omega) (hov _ (by omega))).trans gb
  have cl:(u6 E S++vj V B).length≤20:=by
   obtain⟨n,c,q0,q1,q2,q3,q4⟩:=oS.bits
   rw[q4];simp [vY,vj,vt];omega
  cases cp with
  | false =>
    refine⟨h3,o3, ?_,by simpa using x3⟩
    rw[n1]
    clear rd rl rx a1 a2 a3 x x2 x3 kp3 id3 gk1 gk2 hov hcp
    simp (disch:=omega)only[go_sem,vq,AP.f339L0,ci,b1,b2,←eg1,gt1,ks,hA,hB,←eg2,ga,k3,Kw,uG,R8,RN]
  | true =>
    obtain⟨oS',hB',hV'⟩:=hcp rfl
    obtain⟨h4,o4,k4,x4,_,_,_⟩:=Hg rx x3 S' B' V' oS' (by omega) hV' (by rw[uT];omega)
    refine⟨h4,o4, ?_,by rw[if_pos rfl,←RF];exact x4⟩
    rw[n1]
    clear rd rl rx a1 a2 a3 x x2 x3 x4 kp3 id3 gk1 gk2 hov hcp
    simp (disch:=omega)only[go_sem,vq,AP.f339L0,ci,b1,b2,←eg1,gt1,ks,hA,hB,←eg2,ga,k3,gb3,k4,Kw,uG,R8,RN]
 rcases o with ⟨c0,h2,h3⟩|⟨h1,h2,h3,h4,h5,h6⟩
 · obtain⟨y,hy⟩:∃y:Nat,t.lit=y:=RA h2
   have yt:t.lit.toNat=y:=by omega
   rw[yt]at h3
   obtain⟨h',ov',k,xx⟩:=step y 0 0 0 0 0 false (fun g=>by
    rw[hy,c0];exact Gz g y t.vH) h3 (by omega) (by omega) (fun q=>by cases q)
   refine⟨h',ov',k, ?_⟩
   rw[vC,if_pos c0,yt]
   simpa [vj,Bs]using xx
 · obtain⟨L,hL⟩:∃y:Nat,t.len=y:=RA (by omega)
   obtain⟨K,hK⟩:∃y:Nat,t.vH=y:=RA (by omega)
   have Lt:t.len.toNat=L:=by omega
   have Kt:t.vH.toNat=K:=by omega
   rw[Lt]at h5
   rw[Kt]at h6
   have lb:=EB (k:=L) (by omega) (by omega)
   have db:=Et (k:=K) (by omega) (by omega)
   obtain⟨h',ov',k,xx⟩:=step (xf L) (ze L) (zZ L) (xE K) (zL K) (AD K) true (fun g=>by
    rw[tl (by omega),hL,hK];exact Ee g L K (by omega) (by omega) (by omega) (by omega)) h5 lb.1 lb.2 (fun _=>⟨h6,db.1,db.2⟩)
   refine⟨h',ov',k, ?_⟩
   rw[vC,if_neg (by omega),Lt,Kt]
   simpa [RF]using xx
theorem D7 {v lv dv:AV} {ts:List Tok} {E D:List (Int×Int)} (hn:ts.length<1000000) (h0:H) (rd:yn 3 h0 v ts.length (vX ts)) (rl:yn 2 h0 lv E.length (E.flatMap wA)) (rx:yn 2 h0 dv D.length (D.flatMap wA)) (ok:∀t∈ts,GG E D t∧xH t∧(t.len≠0→t.lit=0)) (w:Nat):∀(q p:List Tok) (bs:List Nat) (h:H) (ov:AV),ts=p++q→WX h0 h w bs ov→bs.length+48* q.length≤65000→
 ∃h' ov',Lp AP.A [0,2,3,14,15,16] AP.f339L0 [(0,.aC w 0),(2,lv),(3,dv),(14,v),(15,.int .i64 ts.length),(16,.int .i64 p.length)] h=some (.exit 0,[(0,.aC w 0),(2,lv),(3,dv),(14,v),(15,.int .i64 ts.length),(16,.int .i64 ts.length),(17,.bool false)],h')∧WX h0 h' w (bs++vS E D q) ov'
 | [], p, bs, h, ov, hp, x, hb => by
   rw[RL]at hp;subst hp
   refine⟨h,ov,sL ?_,by simpa [vS]using x⟩
   simp (disch:=omega)only[go_sem,vq,AP.f339L0]
 | t :: q, p, bs, h, ov, hp, x, hb => by
   have ht:ts[p.length]?=some t:=by rw[hp];simp
   obtain⟨o1,o2,o3⟩:=ok t (by rw[hp];simp)
   obtain⟨h1,ov1,k1,x1⟩:=IU hn h0 rd rl rx w p.length t ht o1 o2 o3 h bs ov x (by simp only[Rt]at hb;omega)
   have bl:=BX o1
   obtain⟨h',ov',L,x2⟩:=D7 hn h0 rd rl rx ok w q (p++[t]) _ h1 ov1 (by rw[hp];simp) x1 (by simp only[Rt,uT]at hb ⊢;omega)
   have e3:(p++[t]).length=p.length+1:=by simp
   rw[e3]at L
   refine⟨h',ov',sM k1 L, ?_⟩
   have:vS E D (t::q)=vC E D t++vS E D q:=by simp [vS]
   rw[this,←RF];exact x2
theorem HV {v lv dv:AV} {ts:List Tok} {E D:List (Int×Int)} (hn:ts.length<1000000) (h0:H) (rd:yn 3 h0 v ts.length (vX ts)) (rl:yn 2 h0 lv E.length (E.flatMap wA)) (rx:yn 2 h0 dv D.length (D.flatMap wA)) (ok:∀t∈ts,GG E D t∧xH t∧(t.len≠0→t.lit=0)) (o256:Aq E 256) (w:Nat) (bs:List Nat) (h:H) (ov:AV) (x:WX h0 h w bs ov) (hb:bs.length+48* ts.length≤65000):
 ∃h',aQ AP.A 339 [.aC w 0,v,lv,dv] h=some (.str (bytesOf (vz (bs++(vS E D ts++u6 E 256)))),h'):=by
 have ln:=rd.len
 obtain⟨h1,o1,L,x1⟩:=D7 hn h0 rd rl rx ok w ts [] bs h ov rfl x hb
 have L':Lp AP.A [0,2,3,14,15,16] AP.f339L0 [(0,.aC w 0),(2,lv),(3,dv),(14,v),(15,.int .i64 ts.length),(16,.int .i64 0)] h=_:=L
 have bl:=Ef (E:=E) (D:=D) (ts:=ts) fun t ht=>(ok t ht).1
 obtain⟨h2,o2,k2,x2,_⟩:=Hg rl x1 256 0 0 o256 (by omega) (by omega) (by rw[uT];omega)
 have k3:=HU x2.wr
 have e:bs++vS E D ts++(u6 E 256++vj 0 0)=bs++(vS E D ts++u6 E 256):=by simp [vj,Bs]
 rw[e]at k3
 have k2':aQ AP.A 350 [.aC w 0,lv,.agg [.int .i64 256,.int .i64 0,.int .i64 0]] h1=some (.bJ [],h2):=k2
 refine⟨h2,s6 (fn:=AP.f339) (e:=[(8,.str (bytesOf (vz (bs++(vS E D ts++u6 E 256)))))]) (vs:=[.str (bytesOf (vz (bs++(vS E D ts++u6 E 256))))]) rfl rfl rfl ?_ rfl⟩
 clear x1 x2 rd rl rx ok x
 generalize bytesOf (vz (bs++(vS E D ts++u6 E 256)))=TX at *
 simp (disch:=omega)only[go_sem,vq,AP.f339,ln,rJ,L',k2',k3]
theorem z7 (c:ae) (e:Env) (h:H) (x y:X):ah c e h (.mn [x,y])=cU h (lL (x.ev e) (y.ev e)):=by
 show(fQ lL (x.ev e) [y.ev e]).bind _=_
 simp only[fQ]
 cases lL (x.ev e) (y.ev e)<;>rfl
def ED (a b:Int):Int:=if b<a then b else a
theorem yK (k:IntKind) (a b:Int):lL (.int k a) (.int k b)=some (.int k (ED a b)):=rfl
structure Tx (hb h:H) (x:Nat) (ov:AV) (out:List Nat):Prop where
 ext:Ext hb h
 fl:h.floor=hb.next
 I3:h.floor≤h.next
 gx:h.get x=some [ov]
 lx:hb.next≤x
 own:vT 1 h ov out.length (yf out)
 nx:ov.id?≠some x
 Ht:Kq out
theorem Tx.push {hb h:H} {x:Nat} {ov:AV} {out:List Nat} (v:Tx hb h x ov out) (b:Nat) (hb8:b<256) (hl:out.length<100000):∃h1 v1,ke (h.alloc [.int .u8 b]) 1 1 ov (.aD h.next 0 1 1)=some (v1,h1)∧v1.sc=true∧v1.cells=[v1]∧h1.get x=some [ov]∧h1.floor≤x∧Tx hb (h1.set x [v1]) x v1 (out++[b])∧h.next≤(h1.set x [v1]).next∧∀i,i<h.next→i≠x→ov.id?≠some i→(h1.set x [v1]).get i=h.get i:=by
 obtain⟨v1,h1,p1,p2,p3,p4,p5,p6⟩:=v.own.push v.I3 (z:=1) (m:=1) (by omega) (by omega) [.int .u8 b] rfl rfl (zG (by omega))
 have lx:=h.lt _ _ v.gx
 have fl:=v.fl
 have vlx:=v.lx
 have g1:h1.get x=some [ov]:=by rw[p5 x v.nx lx,v.gx]
 refine⟨h1,v1,p1,p2.sc,p2.cells,g1,by omega,⟨fun i c hi=> ?_,by simp;omega,by simp;have:=v.I3;omega,by rw[vp rfl,g1];rfl,v.lx, ?_, ?_,fun y hy=> ?_⟩,by simp;omega,fun i h1' h2 h3=>by rw[uX h2,p5 i h3 h1']⟩
 · have l1:=hb.lt _ _ hi
   have e:=v.ext i c hi
   have l2:=h.lt _ _ e
   rw[uX (by omega),p5 i (fun q=>by have:=(v.own.lt q).1;omega) l2,e]
 · rw[Fi,uT]
   exact p2.mono (by simp) fun j hj=>by
    rw[p6]at hj
    have:=uf hj
    rw[uX (by omega)]
 · rw[p6];intro q;have:=uf q;omega
 · rcases RS.1 hy with q|q
   · exact v.Ht y q
   · simp at q;omega
theorem D0 {hb : H} {x c L D : Nat} {l0 : AV} (hL : L ≤ 258) (hD1 : 1 ≤ D) : ∀ (m j : Nat) (out : List Nat) (h : H) (ov : AV), j + m = L → D ≤ out.length → out.length + m ≤ 10000 → Tx hb h x ov out → h.get c = some [l0, .int .i64 L, .int .i64 D] → c ≠ x → ov.id? ≠ some c →
 ∃h' ov',Lp AP.A [0,3,82,83] AP.f353L0 [(0,.aC x 0),(3,.aC c 0),(82,.int .i64 L),(83,.int .i64 j)] h=some (.exit 0,[(0,.aC x 0),(3,.aC c 0),(82,.int .i64 L),(83,.int .i64 L),(84,.bool false)],h')∧Tx hb h' x ov' (Is D m out)∧h.next≤h'.next
 | 0, j, out, h, ov, hj, hDo, hs, v, gc, hcx, hoc => by
   obtain rfl:j=L:=by omega
   refine⟨h,ov,sL ?_,v,ux _⟩
   simp (disch:=omega)only[go_sem,vq,AP.f353L0]
 | m + 1, j, out, h, ov, hj, hDo, hs, v, gc, hcx, hoc => by
   have cj:(j:Int)<(L:Int):=by omega
   have gx:=v.gx
   have lc:=h.lt _ _ gc
   obtain⟨y,hy⟩:∃y,out[out.length-D]?=some y:=⟨_,Ru (by omega)⟩
   have gy:=Oy hy
   have gd:out.getD (out.length-D) 0=y:=by rw[Rr,hy];rfl
   have y8:=v.Ht y (uD hy)
   obtain⟨h1,v1,p1,p2,p3,p4,p5,t1,n1,k1⟩:=v.push y y8 (by omega)
   obtain ⟨h', ov', L', t2, n2⟩ := D0 hL hD1 m (j + 1) (out ++ [y]) (h1.set x [v1]) v1 (by omega) (by simp; omega) (by simp; omega) t1 (by rw [k1 c lc hcx hoc, gc]) hcx (fun q => by
    have:=t1.own.lt q
    have e:=t1.nx
    have:(h1.set x [v1]).get c=h.get c:=k1 c lc hcx hoc
    have q2:=t1.own.2
    rcases q2 with ⟨q3,_⟩|⟨i2,q3,q4,_⟩
    · rw[q3]at q;cases q
    · rw [q3] at q
      obtain rfl:=uf q
      rw[this,gc]at q4
      have:=RU List.length (uf q4)
      have q5:=uf q4
      cases hbo:yf (out++[y])with
      |nil=>rw[hbo]at q5;cases q5
      | cons a r =>
        cases hout:out with
        |nil=>rw[hout]at hDo;simp at hDo;omega
        | cons o r2 =>
          have hl:(yf (out++[y])).length=3:=by rw[←q5];rfl
          have e2:(yf (out++[y]))[1]?=some (.int .i64 L):=by rw[←q5];rfl
          have e3:∃z:Nat,(yf (out++[y]))[1]?=some (.int .u8 z):=by
           simp only[yf,uI]
           rw[LU]at hl
           rw[Ru (by omega)]
           exact⟨_,rfl⟩
          obtain⟨z,e3⟩:=e3
          rw[e2]at e3
          cases uf e3)
   have e1:((j+1:Nat):Int)=(j:Int)+1:=by omega
   have e2:(out.length:Int)-(D:Int)=((out.length-D:Nat):Int):=by omega
   have bl:=LU out
   rw[Is,gd]
   refine⟨h',ov',sM ?_ L',t2,by omega⟩
   rw[e1]
   rcases v.own.2 with ⟨_,q⟩|⟨id,q1,q2,q3,q4⟩
   · omega
   subst q1
   have ib:cG (.int .i64 ((out.length:Int)-(D:Int))) out.length=some (out.length-D):=by
    rw[e2]
    have:((out.length-D:Nat):Int)<out.length:=by omega
    simp [cG,nj,this]
   have dl:(D:Int)≤100000:=by omega
   clear v t1 t2 L' k1 hoc e2
   generalize yf out=BO at *
   simp (disch:=omega)only[go_sem,vq,AP.f353L0,cj,gx,gc,yZ,ib,q2,gy,bl,p1,p2,p3,p4,p5]
def Hl (out:List Nat) (t:Tok):Option (List Nat):=match vV out.length t with
 |none=>none
 |some s'=>if 8192<s' then none else some (vE out t)
theorem N7 {hb h : H} {x : Nat} {ov : AV} {out : List Nat} (v : Tx hb h x ov out) (t : Tok) (hl : out.length ≤ 8192) :
 ∃h' ov',aQ AP.A 353 [.aC x 0,.agg [.int .i64 t.lit,.int .i64 t.len,.int .i64 t.vH]] h=some (.bool (Hl out t).isSome,h')∧Tx hb h' x ov' ((Hl out t).getD out)∧h.next≤h'.next:=by
 obtain⟨g,eg⟩:∃g,g=h.alloc [.int .i64 t.lit,.int .i64 t.len,.int .i64 t.vH]:=⟨_,rfl⟩
 have lx:=h.lt _ _ v.gx
 have gn:g.next=h.next+1:=by rw[eg];simp
 have gk:∀i,i<h.next→g.get i=h.get i:=fun i hi=>by rw[eg,ve (by omega)]
 have gc:g.get h.next=some [.int .i64 t.lit,.int .i64 t.len,.int .i64 t.vH]:=by rw[eg,vi rfl]
 have v1:Tx hb g x ov out:=⟨fun i c hi=>by
  have e:=v.ext i c hi
  have:=h.lt _ _ e
  rw[gk i this,e],by rw[eg];simpa using v.fl,by rw[gn,eg];have:=v.I3;simp;omega,by rw[gk x lx,v.gx],v.lx,v.own.mono (by rw[eg];simp) fun i hi=>gk i (v.own.lt hi).2,v.nx,v.Ht⟩
 have gx:=v1.gx
 have hov:ov.id?≠some h.next:=fun q=>by have:=(v.own.lt q).2;omega
 have ln:iI false ov=some (.int .i64 out.length):=v.own.rd.len
 unfold Hl vV
 by_cases c0:t.len=0
 · rw [if_pos c0]
   rw[c0]at eg gc
   rw[c0]
   by_cases c1:t.lit<0∨255<t.lit∨t.vH≠0
   · rw [if_pos c1]
     refine⟨g,ov,s6 (fn:=AP.f353) (e:=[(4,.bool false)]) (vs:=[.bool false]) rfl rfl rfl ?_ rfl,v1,by omega⟩
     clear v v1
     by_cases d1:t.lit<0
     · simp (disch:=omega)only[go_sem,vq,AP.f353,←eg,gc,d1]
     · by_cases d2:255<t.lit
       · simp (disch:=omega)only[go_sem,vq,AP.f353,←eg,gc,d1,d2]
       · have d3:(t.vH !=0)=true:=by simp;omega
         simp (disch:=omega)only[go_sem,vq,AP.f353,←eg,gc,d1,d2,d3]
   · rw[if_neg c1]
     have d1:¬t.lit<0:=by omega
     have d2:¬255<t.lit:=by omega
     have d3:(t.vH !=0)=false:=by simp;omega
     by_cases c2:(8192:Int)<(out.length:Int)+1
     · simp only[if_pos c2]
       refine⟨g,ov,s6 (fn:=AP.f353) (e:=[(4,.bool false)]) (vs:=[.bool false]) rfl rfl rfl ?_ rfl,v1,by omega⟩
       have d4:(8192:Int)≤(out.length:Int):=by omega
       clear v v1
       simp (disch:=omega)only[go_sem,vq,AP.f353,←eg,gc,d1,d2,d3,gx,ln,d4]
     · simp only[if_neg c2]
       obtain⟨b,hb8⟩:∃b:Nat,t.lit=b:=RA (by omega)
       obtain⟨h1,w1,p1,p2,p3,p4,p5,t1,n1,k1⟩:=v1.push b (by omega) (by omega)
       have eo:vE out t=out++[b]:=by unfold vE;rw[if_pos c0,hb8];rfl
       refine⟨h1.set x [w1],w1,s6 (fn:=AP.f353) (e:=[(4,.bool true)]) (vs:=[.bool true]) rfl rfl rfl ?_ rfl,by simp only[Option.getD_some];rw[eo];exact t1,by omega⟩
       have d4:¬(8192:Int)≤(out.length:Int):=by omega
       rw[hb8]at gc d1 d2 eg ⊢
       have wb1:IntKind.wrap .u8 (b:Int)=b:=QJ (by omega)
       clear v v1 t1 k1
       simp (disch:=omega)only[go_sem,vq,AP.f353,←eg,gc,d1,d2,d3,gx,ln,d4,wb1,p1,p2,p3,p4,p5]
 · rw [if_neg c0]
   have cb:(t.len==0)=false:=by simp;omega
   by_cases c1:t.len<3∨258<t.len∨t.vH<1∨32768<t.vH∨(out.length:Int)<t.vH∨t.lit≠0
   · rw [if_pos c1]
     refine⟨g,ov,s6 (fn:=AP.f353) (e:=[(4,.bool false)]) (vs:=[.bool false]) rfl rfl rfl ?_ rfl,v1,by omega⟩
     clear v v1
     by_cases d1:t.lit=0
     · have d1':(t.lit !=0)=false:=by simp [d1]
       by_cases d2:t.len<3
       · simp (disch:=omega)only[go_sem,vq,AP.f353,←eg,gc,cb,d1',d2]
       · by_cases d3:258<t.len
         · simp (disch:=omega)only[go_sem,vq,AP.f353,←eg,gc,cb,d1',d2,d3]
         · by_cases d4:t.vH<1
           · simp (disch:=omega)only[go_sem,vq,AP.f353,←eg,gc,cb,d1',d2,d3,d4]
           · have d5:ED out.length 32768<t.vH:=by unfold ED;split<;>omega
             simp (disch:=omega)only[go_sem,vq,AP.f353,←eg,gc,cb,d1',d2,d3,d4,gx,ln,z7,yK,d5]
     · have d1':(t.lit !=0)=true:=by simp [d1]
       simp (disch:=omega)only[go_sem,vq,AP.f353,←eg,gc,cb,d1']
   · rw [if_neg c1]
     have d1:(t.lit !=0)=false:=by simp;omega
     have d2:¬t.len<3:=by omega
     have d3:¬258<t.len:=by omega
     have d4:¬t.vH<1:=by omega
     have d5:¬ED out.length 32768<t.vH:=by unfold ED;split<;>omega
     by_cases c2:(8192:Int)<(out.length:Int)+t.len
     · simp only[if_pos c2]
       refine⟨g,ov,s6 (fn:=AP.f353) (e:=[(4,.bool false)]) (vs:=[.bool false]) rfl rfl rfl ?_ rfl,v1,by omega⟩
       have sb:t.len≤258:=by omega
       have sb2:0≤t.len:=by omega
       clear v v1
       simp (disch:=omega)only[go_sem,vq,AP.f353,←eg,gc,cb,d1,d2,d3,d4,gx,ln,z7,yK,d5,c2]
     · simp only[if_neg c2]
       obtain⟨L,hL⟩:∃y:Nat,t.len=y:=RA (by omega)
       obtain⟨D,hD⟩:∃y:Nat,t.vH=y:=RA (by omega)
       rw[hL,hD]at gc eg
       obtain⟨h',ov',L1,t2,n2⟩:=D0 (hb:=hb) (c:=h.next) (l0:=.int .i64 t.lit) (L:=L) (D:=D) (by omega) (by omega) L 0 out g ov (by omega) (by omega) (by omega) v1 gc (by omega) hov
       have L1':Lp AP.A [0,3,82,83] AP.f353L0 [(0,.aC x 0),(3,.aC h.next 0),(82,.int .i64 L),(83,.int .i64 0)] g=_:=L1
       have eo:vE out t=Is D L out:=by
        unfold vE;rw[if_neg c0,hL,hD];rfl
       refine⟨h',ov',s6 (fn:=AP.f353) (e:=[(4,.bool true)]) (vs:=[.bool true]) rfl rfl rfl ?_ rfl,by simp only[Option.getD_some];rw[eo];exact t2,by omega⟩
       rw[hL]at cb d2 d3 c2 ⊢
       rw[hD]at d4 d5 ⊢
       have sb:L≤258:=by omega
       clear v v1 t2 L1
       simp (disch:=omega)only[go_sem,vq,AP.f353,←eg,gc,cb,d1,d2,d3,d4,gx,ln,z7,yK,d5,c2,rJ,L1']
end Ab
