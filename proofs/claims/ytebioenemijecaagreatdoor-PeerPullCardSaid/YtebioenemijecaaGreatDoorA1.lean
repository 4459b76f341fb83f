/- Part A1. -/
import GoSem.Dispatch
import Derived.Control
import Derived.Below
import Derived.Laws.IdiomCopy
import Derived.Laws.NewBlocks
import Derived.IntWalk
import Derived.Orders
import Derived.LoopN
namespace Ab
open Go
theorem wG:type_of% @Option.bind_eq_some_iff:= @Option.bind_eq_some_iff
theorem wH:type_of% @Option.some.inj:= @Option.some.inj
theorem wI:type_of% @Option.map_eq_some_iff:= @Option.map_eq_some_iff
theorem wJ:type_of% @Prod.mk.inj:= @Prod.mk.inj
theorem wK:type_of% @Option.some.injEq:= @Option.some.injEq
theorem wM:type_of% @Eq.trans:= @Eq.trans
theorem wN:type_of% @Prod.mk.injEq:= @Prod.mk.injEq
theorem wO:type_of% @List.getElem?_eq_some_iff:= @List.getElem?_eq_some_iff
theorem wP:type_of% @Option.bind_some:= @Option.bind_some
theorem wR:type_of% @Bool.false_eq_true:= @Bool.false_eq_true
theorem wS:type_of% @Nat.add_assoc:= @Nat.add_assoc
theorem wT:type_of% @Bool.and_eq_true:= @Bool.and_eq_true
theorem wU:type_of% @Nat.le_refl:= @Nat.le_refl
theorem wV:type_of% @Array.getD_eq_getD_getElem?:= @Array.getD_eq_getD_getElem?
theorem wW:type_of% @Nat.mul_le_mul_right:= @Nat.mul_le_mul_right
theorem wX:type_of% @List.mem_of_getElem?:= @List.mem_of_getElem?
theorem wY:type_of% @Nat.zero_add:= @Nat.zero_add
theorem wZ:type_of% @Classical.choose_spec:= @Classical.choose_spec
theorem w8:type_of% @List.take_succ_cons:= @List.take_succ_cons
theorem w9:type_of% @List.getElem?_cons_succ:= @List.getElem?_cons_succ
theorem xa:type_of% @List.getElem?_map:= @List.getElem?_map
theorem xb:type_of% @Array.getElem?_eq_some_iff:= @Array.getElem?_eq_some_iff
theorem xc:type_of% @List.getElem?_drop:= @List.getElem?_drop
theorem xg:type_of% @List.mem_iff_getElem?:= @List.mem_iff_getElem?
theorem xh:type_of% @Bool.or_eq_true:= @Bool.or_eq_true
theorem xi:type_of% @List.getElem?_set_self:= @List.getElem?_set_self
theorem xj:type_of% @List.take_of_length_le:= @List.take_of_length_le
theorem xk:type_of% @Nat.add_mul:= @Nat.add_mul
theorem xn:type_of% @List.mem_cons:= @List.mem_cons
theorem xp:type_of% @if_false:= @if_false
theorem xq:type_of% @Nat.le_trans:= @Nat.le_trans
theorem xr:type_of% @List.getElem?_take:= @List.getElem?_take
theorem xu:type_of% @List.length_append:= @List.length_append
inductive AV where
 |bot
 |bool (b:Bool)
 |int (k:IntKind) (n:Int)
 |str (s:ByteArray)
 |cT
 |aG (id off:Nat)
 |aN (cells:List AV) (off:Nat)
 |aS
 |aH (id off len sz:Nat)
 |aY (tight:Bool) (cells:List AV) (off len sz:Nat)
 |fn (f:Nat) (first captured:List AV)
 |fM
 |iface (t:Nat) (v:AV)
 |fN
 |agg (cs:List AV)
 |bW (vs:List AV)
 deriving Inhabited
def AV.cells:AV→List AV
 | .agg cs=>cs
 |v=>[v]
def AV.sc:AV→Bool
 | .bot| .agg _| .bW _=>false
 |_=>true
def AV.aE:List AV→Bool
 |[]=>true
 |v::r=>v.sc&&AV.aE r
mutual
def AV.beq:AV→AV→Bool
 | .bot,.bot=>true
 | .bool a,.bool b=>a==b
 | .int j a,.int k b=>(j==k)&&(a==b)
 | .str a,.str b=>a==b
 | .cT,.cT=>true
 | .aG i o,.aG j p=>(i==j)&&(o==p)
 | .aN c o,.aN d p=>AV.ib c d&&(o==p)
 | .aS,.aS=>true
 | .aH i o l s,.aH j p m t=>(i==j)&&((o==p)&&((l==m)&&(s==t)))
 | .aY x c o l s,.aY y d p m t=>(x==y)&&(AV.ib c d&&((o==p)&&((l==m)&&(s==t))))
 | .fn f a b,.fn g c d=>(f==g)&&(AV.ib a c&&AV.ib b d)
 | .fM,.fM=>true
 | .iface t v,.iface u x=>(t==u)&&AV.beq v x
 | .fN,.fN=>true
 | .agg a,.agg b=>AV.ib a b
 | .bW a,.bW b=>AV.ib a b
 |_,_=>false
def AV.ib:List AV→List AV→Bool
 |[],[]=>true
 |a::x,b::y=>AV.beq a b&&AV.ib x y
 |_,_=>false
end
structure H where
 next:Nat
 floor:Nat
 cP:List (Option (List AV))
 len:cP.length=next
def H.get (h:H) (i:Nat):Option (List AV):=if i<h.next then(h.cP[h.next-1-i]?).getD none else none
def iD {α:Type}:List AV→(List AV→α)→α
 |[],k=>k []
 |x::r,k=>iD r fun ys=>k (x::ys)
theorem fK {α:Type}:∀(l:List AV) (k:List AV→α),iD l k=k l
 |[],_=>rfl
 |x::r,k=>by rw[iD,fK r]
def H.nI (h:H) (cs:List AV):H where
 next:=h.next+1
 floor:=h.floor
 cP:=some cs::h.cP
 len:=congrArg (· +1) h.len
def H.iX (h:H) (id:Nat) (cs:List AV):H where
 next:=h.next
 floor:=h.floor
 cP:=if(h.get id).isSome=true then h.cP.set (h.next-1-id) (some cs)else h.cP
 len:=by split<;>simp [h.len]
def H.del (h:H) (id:Nat):H where
 next:=h.next
 floor:=h.floor
 cP:=if(h.get id).isSome=true then h.cP.set (h.next-1-id) none else h.cP
 len:=by split<;>simp [h.len]
def H.alloc (h:H) (cs:List AV):H:=iD cs h.nI
def H.set (h:H) (id:Nat) (cs:List AV):H:=iD cs (h.iX id)
theorem H.alloc_eq (h:H) (cs:List AV):h.alloc cs=h.nI cs:=fK cs _
theorem H.eI (h:H) (id:Nat) (cs:List AV):h.set id cs=h.iX id cs:=fK cs _
def H.eO (h:H):H:={h with floor:=h.next}
def H.empty:H:={next:=0,floor:=0,cP:=[],len:=rfl}
theorem H.lt (h:H) (id:Nat) (cs:List AV) (hg:h.get id=some cs):id<h.next:=by
 unfold H.get at hg
 split at hg
 · assumption
 · cases hg
@[simp] theorem H.lg (h : H) (cs : List AV) : (h.alloc cs).next = h.next + 1 := by rw [H.alloc_eq]; rfl
@[simp] theorem H.kg (h : H) (id : Nat) (cs : List AV) : (h.set id cs).next = h.next := by rw [H.eI]; rfl
@[simp] theorem H.kd (h : H) (id : Nat) : (h.del id).next = h.next := rfl
@[simp] theorem H.sZ (h : H) : h.eO.next = h.next := rfl
@[simp] theorem H.j4 (h : H) (cs : List AV) : (h.alloc cs).floor = h.floor := by rw [H.alloc_eq]; rfl
@[simp] theorem H.mJ (h : H) (id : Nat) (cs : List AV) : (h.set id cs).floor = h.floor := by rw [H.eI]; rfl
@[simp] theorem H.tS (h : H) (id : Nat) : (h.del id).floor = h.floor := rfl
@[simp] theorem H.ri (h : H) : h.eO.floor = h.next := rfl
@[simp] theorem H.tT (h : H) (i : Nat) : h.eO.get i = h.get i := rfl
theorem H.aZ (h:H) (cs:List AV) (i:Nat):(h.alloc cs).get i=if i=h.next then some cs else h.get i:=by
 rw[H.alloc_eq]
 show(if i<h.next+1 then((some cs::h.cP)[h.next+1-1-i]?).getD none else none)=if i=h.next then some cs else(if i<h.next then(h.cP[h.next-1-i]?).getD none else none)
 by_cases e:i=h.next
 · subst e
   rw[if_pos (Nat.lt_succ_self _),if_pos rfl,Nat.add_sub_cancel,Nat.sub_self];rfl
 · rw[if_neg e]
   by_cases hi:i<h.next
   · rw[if_pos (by omega),if_pos hi]
     have:h.next+1-1-i=(h.next-1-i)+1:=by omega
     rw[this];rfl
   · rw[if_neg (by omega),if_neg hi]
theorem H.lr {h:H} {id:Nat} (hi:id<h.next):h.next-1-id<h.cP.length:=by rw[h.len];omega
theorem H.jK {h:H} {id:Nat} (hs:(h.get id).isSome=true):id<h.next:=by
 obtain⟨cs,hc⟩:=Option.isSome_iff_exists.1 hs
 exact h.lt id cs hc
theorem H.dY (h:H) (id:Nat) (cs:List AV) (i:Nat):(h.set id cs).get i=if i=id then(h.get id).map (fun _=>cs)else h.get i:=by
 rw[H.eI]
 by_cases hs:(h.get id).isSome=true
 · have hid:=H.jK hs
   obtain⟨d,hd⟩:=Option.isSome_iff_exists.1 hs
   by_cases e:i=id
   · subst e
     rw[if_pos rfl,hd]
     unfold H.get H.iX
     simp only[if_pos hs,if_pos hid,xi (H.lr hid)]
     rfl
   · rw[if_neg e]
     unfold H.get H.iX
     simp only[if_pos hs]
     by_cases hi:i<h.next
     · rw[if_pos hi,if_pos hi,List.getElem?_set_ne (by omega)]
     · rw[if_neg hi,if_neg hi]
 · have hn:h.get id=none:=by cases hg:h.get id with|none=>rfl|some d=>rw[hg]at hs;exact absurd rfl hs
   have:(h.iX id cs).get i=h.get i:=by unfold H.get H.iX;simp only[if_neg hs]
   rw[this]
   by_cases e:i=id
   · subst e;rw[if_pos rfl,hn];rfl
   · rw[if_neg e]
theorem H.eS (h:H) (id:Nat) (i:Nat):(h.del id).get i=if i=id then none else h.get i:=by
 by_cases hs:(h.get id).isSome=true
 · have hid:=H.jK hs
   by_cases e:i=id
   · subst e
     rw[if_pos rfl]
     unfold H.get H.del
     simp only[if_pos hs,if_pos hid,xi (H.lr hid)]
     rfl
   · rw[if_neg e]
     unfold H.get H.del
     simp only[if_pos hs]
     by_cases hi:i<h.next
     · rw[if_pos hi,if_pos hi,List.getElem?_set_ne (by omega)]
     · rw[if_neg hi,if_neg hi]
 · have hn:h.get id=none:=by cases hg:h.get id with|none=>rfl|some d=>rw[hg]at hs;exact absurd rfl hs
   have:(h.del id).get i=h.get i:=by unfold H.get H.del;simp only[if_neg hs]
   rw[this]
   by_cases e:i=id
   · subst e;rw[if_pos rfl,hn]
   · rw[if_neg e]
theorem H.qZ {a b:H} (h1:a.next=b.next) (h2:a.floor=b.floor) (h3:a.cP=b.cP):a=b:=by
 cases a;cases b;simp_all
theorem H.set_set (h:H) (id:Nat) (a b:List AV):(h.set id a).set id b=h.set id b:=by
 have e:((h.set id a).get id).isSome=(h.get id).isSome:=by rw[H.dY,if_pos rfl];cases h.get id<;>rfl
 rw[H.eI h id a]at e ⊢
 rw[H.eI,H.eI]
 refine H.qZ rfl rfl ?_
 show(if((h.iX id a).get id).isSome=true then((h.iX id a).cP).set (h.next-1-id) (some b)else(h.iX id a).cP)=if(h.get id).isSome=true then h.cP.set (h.next-1-id) (some b)else h.cP
 rw[e]
 unfold H.iX
 by_cases hs:(h.get id).isSome=true
 · simp only[if_pos hs,List.set_set]
 · simp only[if_neg hs]
theorem H.ku {h:H} {id:Nat} {a:List AV} (hg:h.get id=some a):h.set id a=h:=by
 rw[H.eI]
 refine H.qZ rfl rfl ?_
 have hs:(h.get id).isSome=true:=by rw[hg];rfl
 have hid:=H.jK hs
 show(if(h.get id).isSome=true then h.cP.set (h.next-1-id) (some a)else h.cP)=h.cP
 rw[if_pos hs]
 unfold H.get at hg
 rw[if_pos hid]at hg
 have hp:=H.lr hid
 rw[List.getElem?_eq_getElem hp,Option.getD_some]at hg
 rw[←hg]
 exact List.set_getElem_self hp
inductive X where
 |t (n:Nat)
 |c (v:AV)
 deriving Inhabited
inductive Bo where
 |add|sub|mul|quo|rem|and|or|xor|andNot|shl|shr|eql|neq|lss|leq|gtr|geq
 deriving DecidableEq,Inhabited
inductive cq where
 |mv (x:X)
 |pick (c a b:X)
 |alloc (zero:List AV)
 |box (n:Nat) (x:X)
 |build (zero:List AV) (parts:List (Nat×Nat×X))
 |dj (sz len:Nat) (zero:List AV) (parts:List (Nat×X))
 |load (agg:Bool) (n:Nat) (p:X)
 |store (n:Nat) (p v:X)
 |pP (x:X)
 |bin (o:Bo) (x y:X)
 |mD (k:Nat) (neg:Bool) (x y:X)
 |uj (neg:Bool) (x y:X)
 |eqs (neg:Bool) (n:Nat) (x y:X)
 |not (x:X)
 |neg (x:X)
 |inv (x:X)
 |conv (k:IntKind) (x:X)
 |same (x:X)
 |mu (x:X)
 |qD (x:X)
 |pO (t:Nat) (x:X)
 |pN (f:Nat) (first captured:List X)
 |jI (sz bytes:Nat) (zero:List AV) (l c:X)
 |vA (x:X) (lo hi:Option X)
 |sl (sz:Nat) (x:X) (lo hi mx:Option X)
 |tW (n sz:Nat) (x:X) (lo hi:Option X)
 |pF (off:Nat) (x:X)
 |vm (agg:Bool) (off n:Nat) (x:X)
 |pG (sz:Nat) (x i:X)
 |lZ (n sz:Nat) (x i:X)
 |idxs (x i:X)
 |pK (agg:Bool) (n sz:Nat) (x i:X)
 |pD (x:X) (i:Nat)
 |qN (x:X) (t:Nat)
 |call (f:X) (args:List X)
 |inv2 (r:X) (t f:Nat) (d:Bool) (args:List X)
 |app (sz bytes:Nat) (a b:X)
 |kH (sz bytes:Nat) (zero:List AV) (a n:X)
 |vO
 |len (str:Bool) (x:X)
 |cap (x:X)
 |copy (sz:Nat) (a b:X)
 |clear (sz:Nat) (zero:List AV) (a:X)
 |mn (xs:List X)
 |mx (xs:List X)
 deriving Inhabited
structure aj where
 dst:Option Nat
 op:cq
 guard:Option (Nat×Bool)
 deriving Inhabited
inductive aI where
 |skip
 |qz (ops:List aj) (yR:List Nat)
 |jG (ord:List Nat) (ops:List aj) (fl:List (Nat×List Nat)) (yR:List Nat)
 |seq (a b:aI)
 |cond (x:X) (a b:aI) (yR:List Nat)
 |block (id:Nat) (c:aI) (yR:List Nat)
 |loop (yR:List Nat) (c:aI)
 |exit (id:Nat)
 |ret
 deriving Inhabited
inductive RV where
 |tmp (t:Nat)
 |cell (t:Nat) (agg:Bool) (n:Nat)
 deriving Inhabited
structure fY where
 np:Nat
 res:List RV
 pure:Bool
 body:aI
 deriving Inhabited
abbrev Env:=List (Nat×AV)
def look:Env→Nat→AV
 |[],_=>.bot
 |(s,v)::r,t=>if s=t then v else look r t
def X.ev (e:Env):X→AV
 | .t n=>look e n
 | .c v=>v
def ay (e:Env) (yR:List Nat):Env:=yR.map fun t=>(t,look e t)
def setFrom (cs:List AV) (off:Nat):List AV→List AV
 |[]=>cs
 |v::r=>setFrom (cs.set off v) (off+1) r
def iO (agg:Bool) (n:Nat) (cs:List AV) (off:Nat):Option AV:=
 if agg then(if off+n≤cs.length then some (.agg ((cs.drop off).take n))else none)else cs[off]?
def cf (agg:Bool) (n:Nat) (p:AV) (h:H):Option AV:=
 match p with
 | .aG id off=>(h.get id).bind fun cs=>iO agg n cs off
 | .aN cs off=>iO agg n cs off
 |_=>none
def dG (n : Nat) (p v : AV) (h : H) : Option H :=
 match p with
 | .aG id off => (h.get id).bind fun cs =>
   if h.floor≤id∧v.cells.length=n∧off+n≤cs.length∧AV.aE v.cells=true then some (h.set id (setFrom cs off v.cells))else none
 |_=>none
def eP:List AV→List (Nat×Nat×AV)→Option (List AV)
 |cs,[]=>some cs
 |cs,(off,size,v)::r=>if v.cells.length=size∧off+size≤cs.length∧AV.aE v.cells=true then eP (setFrom cs off v.cells) r else none
def bits (o:Bo) (k:IntKind) (x y:Int):Int:=
 let a:=BitVec.ofInt k.bits x
 let b:=BitVec.ofInt k.bits y
 match o with
 | .and=>k.wrap (a&&&b).toNat
 | .or=>k.wrap (a|||b).toNat
 | .xor=>k.wrap (a^^^b).toNat
 |_=>k.wrap (a&&& ~~~b).toNat
def bq (o:Bo) (k:IntKind) (x y:Int):Option AV:=
 match o with
 | .add=>some (.int k (k.wrap (x+y)))
 | .sub=>some (.int k (k.wrap (x-y)))
 | .mul=>some (.int k (k.wrap (x* y)))
 | .quo=>if y=0 then none else some (.int k (k.wrap (x.tdiv y)))
 | .rem=>if y=0 then none else some (.int k (x.tmod y))
 | .and| .or| .xor| .andNot=>some (.int k (bits o k x y))
 | .eql=>some (.bool (x==y))
 | .neq=>some (.bool (x !=y))
 | .lss=>some (.bool (x<y))
 | .leq=>some (.bool (x≤y))
 | .gtr=>some (.bool (x>y))
 | .geq=>some (.bool (x≥y))
 | .shl| .shr=>none
def kM (o:Bo) (x y:ByteArray):Option AV:=
 match o with
 | .add=>if x.size+y.size≤9223372036854775807 then some (.str (x++y))else none
 | .eql=>some (.bool (x.toList==y.toList))
 | .neq=>some (.bool (!(x.toList==y.toList)))
 | .lss=>some (.bool (Op.bytesLess x.toList y.toList))
 | .leq=>some (.bool (Op.bytesLess x.toList y.toList||x.toList==y.toList))
 | .gtr=>some (.bool (!(Op.bytesLess x.toList y.toList||x.toList==y.toList)))
 | .geq=>some (.bool (!(Op.bytesLess x.toList y.toList)))
 |_=>none
def qL (o:Bo) (k:IntKind) (x y:Int):Option AV:=
 if y<0 then none else
 match o with
 | .shl=>some (.int k (k.wrap (x* 2^(min y.toNat k.bits))))
 | .shr=>some (.int k (x.fdiv (2^(min y.toNat k.bits))))
 |_=>none
def bC (o:Bo) (x y:AV):Option AV:=
 match o,x,y with
 | .shl,.int k a,.int _ b=>qL .shl k a b
 | .shr,.int k a,.int _ b=>qL .shr k a b
 |o,.int k a,.int j b=>if k=j then bq o k a b else none
 |o,.str a,.str b=>kM o a b
 |_,_,_=>none
def gG (k:Nat) (x y:AV):Option Bool:=
 match k,x,y with
 |0,.cT,.cT=>some true
 |0,.cT,.aG _ _=>some false
 |0,.cT,.aN _ _=>some false
 |0,.aG _ _,.cT=>some false
 |0,.aN _ _,.cT=>some false
 |1,.aS,.aS=>some true
 |1,.aS,.aH .. =>some false
 |1,.aS,.aY .. =>some false
 |1,.aH ..,.aS=>some false
 |1,.aY ..,.aS=>some false
 |2,.fM,.fM=>some true
 |2,.fM,.fn .. =>some false
 |2,.fn ..,.fM=>some false
 |3,.fN,.fN=>some true
 |3,.fN,.iface .. =>some false
 |3,.iface ..,.fN=>some false
 |_,_,_=>none
def gK (x y:AV):Option Bool:=
 match x,y with
 | .int j a,.int k b=>if j=k then some (a==b)else none
 |_,_=>none
def dE:List AV→List AV→Option Bool
 |[],[]=>some true
 |a::x,b::y=>(gK a b).bind fun e=>if e then dE x y else some false
 |_,_=>none
def pc:AV→Option Int
 | .int _ n=>some n
 |_=>none
def lD (v:AV) (y:Nat):Option Nat:=(pc v).bind fun i=>if 0≤i∧i≤y then some i.toNat else none
def aD (v:Option AV) (dflt y:Nat):Option Nat:=match v with|none=>some dflt|some v=>lD v y
def ug (h : H) (sz : Nat) (x : AV) (lo hi mx : Option AV) : Option AV :=
 match mx with
 | none =>
   match x with
   | .aS=>(aD hi 0 0).bind fun hh=>(aD lo 0 hh).bind fun _=>some .aS
   | .aH id off len s => if s = sz ∧ 0 < sz then (h.get id).bind fun cs =>
      if off≤cs.length∧len≤(cs.length-off)/sz then(aD hi len ((cs.length-off)/sz)).bind fun hh=>(aD lo 0 hh).bind fun l=>some (.aH id (off+l* sz) (hh-l) sz)else none
     else none
   | .aY t cells off len s => if s = sz ∧ 0 < sz then
      if off≤cells.length∧len≤(cells.length-off)/sz then(aD hi len ((cells.length-off)/sz)).bind fun hh=>(aD lo 0 hh).bind fun l=>some (.aY t cells (off+l* sz) (hh-l) sz)else none
     else none
   |_=>none
 | some m =>
   match pc m,hi.bind pc,lo with
   | some 0, some 0, none =>
     match x with
     | .aS=>some .aS
     | .aH .. =>some (.aY true [] 0 0 sz)
     | .aY .. =>some (.aY true [] 0 0 sz)
     |_=>none
   |_,_,_=>none
def nN (h:H) (n sz:Nat) (x:AV) (lo hi:Option AV):Option AV:=
 match x with
 | .aG id off=>if 0<sz then(h.get id).bind fun cs=>if off+n* sz=cs.length then
  (aD hi n n).bind fun hh=>(aD lo 0 hh).bind fun l=>some (.aH id (off+l* sz) (hh-l) sz)else none else none
 |_=>none
def pd (x:AV) (lo hi:Option AV):Option AV:=
 match x with
 | .str s=>(aD hi s.size s.size).bind fun hh=>(aD lo 0 hh).bind fun l=>some (.str (s.extract l hh))
 |_=>none
def dC (i:AV) (n:Nat):Option Nat:=(pc i).bind fun i=>if 0≤i∧i<n then some i.toNat else none
def gZ (sz:Nat) (x i:AV):Option AV:=
 match x with
 | .aH id off len s=>if s=sz then(dC i len).bind fun j=>some (.aG id (off+j* sz))else none
 | .aY _ cells off len s=>if s=sz then(dC i len).bind fun j=>some (.aN cells (off+j* sz))else none
 |_=>none
def dF (n sz:Nat) (x i:AV):Option AV:=
 match x with
 | .aG id off=>(dC i n).bind fun j=>some (.aG id (off+j* sz))
 | .aN cells off=>(dC i n).bind fun j=>some (.aN cells (off+j* sz))
 |_=>none
def fZ (off:Nat) (x:AV):Option AV:=
 match x with
 | .aG id o=>some (.aG id (o+off))
 | .aN cells o=>some (.aN cells (o+off))
 |_=>none
def nH (x i:AV):Option AV:=
 match x with
 | .str s=>(dC i s.size).bind fun j=>(s[j]?).bind fun b=>some (.int .u8 b.toNat)
 |_=>none
def nG (agg:Bool) (n sz:Nat) (x i:AV):Option AV:=
 match x with
 | .agg cs=>(dC i n).bind fun j=>iO agg sz cs (j* sz)
 |_=>none
def aV (h:H) (sz:Nat) (x:AV):Option (Nat×List AV):=
 match x with
 | .aS=>some (0,[])
 | .str s=>if sz=1 then some (s.size,s.data.toList.map fun b=>.int .u8 b.toNat)else none
 | .aH id off len s=>if s=sz then(h.get id).bind fun cs=>if off+len* sz≤cs.length then some (len,(cs.drop off).take (len* sz))else none else none
 | .aY _ cells off len s=>if s=sz then(if off+len* sz≤cells.length then some (len,(cells.drop off).take (len* sz))else none)else none
 |_=>none
def eH:Nat→List AV→List AV
 |0,_=>[]
 |n+1,z=>z++eH n z
def roomy (bytes need:Nat):Bool:=decide (1≤bytes∧(need+need/4+512)* bytes≤281474976710656)
def eK (h : H) (sz bytes : Nat) (a : AV) (n : Nat) (bs : List AV) : Option (AV × H) :=
 if n=0 then(match a with| .aS| .aH .. | .aY .. =>some (a,h)|_=>none)
 else if AV.aE bs=false∨sz=0 then none
 else match a with
 | .aS=>if roomy bytes n then some (.aH h.next 0 n sz,h.alloc bs)else none
 | .aY true cells off len s=>if s=sz∧off+len* sz=cells.length∧AV.aE (cells.drop off)=true∧roomy bytes (len+n)=true then some (.aH h.next 0 (len+n) sz,h.alloc (cells.drop off++bs))else none
 | .aH id off len s => if s = sz ∧ h.floor ≤ id then (h.get id).bind fun cs =>
    if off+(len+n)* sz≤cs.length then some (.aH id off (len+n) sz,h.set id (setFrom cs (off+len* sz) bs))
    else if off+len* sz=cs.length∧roomy bytes (len+n)=true then some (.aH h.next 0 (len+n) sz,(h.del id).alloc (cs.drop off++bs))
    else none
   else none
 |_=>none
def mo (h:H) (sz bytes:Nat) (a b:AV):Option (AV×H):=(aV h sz b).bind fun r=>eK h sz bytes a r.1 r.2
def iY (h:H) (sz bytes:Nat) (zero:List AV) (a n:AV):Option (AV×H):=
 match a,n with
 | .aS,.int .i64 n=>if 0<n∧n≤281474976710656∧n* bytes≤281474976710656∧zero.length=sz∧0<sz∧AV.aE zero=true∧roomy bytes n.toNat=true then some (.aH h.next 0 n.toNat sz,h.alloc (eH n.toNat zero))else none
 |_,_=>none
def iZ (h:H) (sz:Nat) (a b:AV):Option (AV×H):=
 (aV h sz b).bind fun (n,bs)=>
 match a with
 | .aS=>some (.int .i64 0,h)
 | .aH id off len s=>if s=sz∧h.floor≤id∧AV.aE bs=true then(h.get id).bind fun cs=>
  if off+len* sz≤cs.length then some (.int .i64 (Nat.min n len),h.set id (setFrom cs off (bs.take (Nat.min n len* sz))))else none else none
 |_=>none
def fp (h:H) (sz:Nat) (zero:List AV) (a:AV):Option H:=
 match a with
 | .aS=>some h
 | .aH id off len s=>if len=0 then some h else if s=sz∧h.floor≤id∧zero.length=sz∧AV.aE zero=true then(h.get id).bind fun cs=>
  if off+len* sz≤cs.length then some (h.set id (setFrom cs off (eH len zero)))else none else none
 |_=>none
def jQ (str:Bool) (x:AV):Option AV:=
 match str,x with
 |true,.str s=>some (.int .i64 s.size)
 |false,.aS=>some (.int .i64 0)
 |false,.aH _ _ len _=>some (.int .i64 len)
 |false,.aY _ _ _ len _=>some (.int .i64 len)
 |_,_=>none
def rJ (x:AV):Option AV:=
 match x with
 | .aS=>some (.int .i64 0)
 |_=>none
def iC (f:AV→AV→Option AV):AV→List AV→Option AV
 |v,[]=>some v
 |v,x::r=>(f v x).bind fun w=>iC f w r
def nK (x y:AV):Option AV:=match x,y with| .int k a,.int _ b=>some (.int k (if b<a then b else a))|_,_=>none
def nJ (x y:AV):Option AV:=match x,y with| .int k a,.int _ b=>some (.int k (if b>a then b else a))|_,_=>none
def mu (cs:List AV):Option (List UInt8):=
 match cs with
 |[]=>some []
 | .int .u8 n::r=>(mu r).bind fun l=>some (UInt8.ofNat n.toNat::l)
 |_=>none
def qR (neg b:Bool):AV:=.bool (if neg then !b else b)
abbrev ae:=Nat→List AV→H→Option (AV×H)
def bc (e:Env) (xs:List X):List AV:=xs.map (X.ev e)
def bg (e : Env) : cq → Option (List AV × (Nat → AV))
 | .alloc zero=>if AV.aE zero=true then some (zero,fun i=>.aG i 0)else none
 | .box n x=>if(x.ev e).cells.length=n∧AV.aE (x.ev e).cells=true then some ((x.ev e).cells,fun i=>.aG i 0)else none
 | .dj sz len zero parts=>if zero.length=sz∧0<sz∧AV.aE zero=true then(eP (eH len zero) (parts.map fun p=>(p.1* sz,sz,p.2.ev e))).bind fun cs=>some (cs,fun i=>.aH i 0 len sz)else none
 | .jI sz bytes zero l c => match l.ev e, c.ev e with
   | .int .i64 l,.int .i64 c=>if 0≤l∧l≤c∧c≤9223372036854775807∧(bytes:Int)* c≤281474976710656∧zero.length=sz∧0<sz∧AV.aE zero=true then
    some (eH c.toNat zero,fun i=>.aH i 0 l.toNat sz)else none
   |_,_=>none
 | .qD x => match x.ev e with
   | .str s=>if roomy 1 s.size then some (s.data.toList.map fun b=>.int .u8 b.toNat,fun i=>.aH i 0 s.size 1)else none
   |_=>none
 |_=>none
def bE (e:Env) (h:H) (o:cq):Option (AV×H):=(bg e o).bind fun b=>some (b.2 h.next,h.alloc b.1)
def jb (d:Bool) (v:AV) (h:H):Option AV:=if d then cf false 1 v h else some v
def ah (call:ae) (e:Env) (h:H):cq→Option (AV×H)
 | .mv x=>some (x.ev e,h)
 | .pick c a b=>match c.ev e with| .bool t=>some (if t then a.ev e else b.ev e,h)|_=>none
 | .alloc zero=>bE e h (.alloc zero)
 | .box n x=>bE e h (.box n x)
 | .build zero parts=>(eP zero (parts.map fun p=>(p.1,p.2.1,p.2.2.ev e))).bind fun cs=>some (.agg cs,h)
 | .dj sz len zero parts=>bE e h (.dj sz len zero parts)
 | .load agg n p=>(cf agg n (p.ev e) h).bind fun v=>some (v,h)
 | .store n p v=>(dG n (p.ev e) (v.ev e) h).bind fun h'=>some (.bot,h')
 | .pP x=>match x.ev e with| .aG i o=>some (.aG i o,h)| .aN c o=>some (.aN c o,h)| .fn f a b=>some (.fn f a b,h)| .iface t v=>some (.iface t v,h)|_=>none
 | .bin o x y=>(bC o (x.ev e) (y.ev e)).bind fun v=>some (v,h)
 | .mD k neg x y=>(gG k (x.ev e) (y.ev e)).bind fun b=>some (qR neg b,h)
 | .uj neg x y=>match x.ev e,y.ev e with| .bool a,.bool b=>some (qR neg (a==b),h)|_,_=>none
 | .eqs neg n x y=>match x.ev e,y.ev e with| .agg a,.agg b=>if a.length=n∧b.length=n then(dE a b).bind fun t=>some (qR neg t,h)else none|_,_=>none
 | .not x=>match x.ev e with| .bool b=>some (.bool (!b),h)|_=>none
 | .neg x=>match x.ev e with| .int k n=>some (.int k (k.wrap (0-n)),h)|_=>none
 | .inv x=>match x.ev e with| .int k n=>some (.int k (bits .xor k (if k.signed then-1 else k.max) n),h)|_=>none
 | .conv k x=>match x.ev e with| .int _ n=>some (.int k (k.wrap n),h)|_=>none
 | .same x=>match x.ev e with| .str s=>some (.str s,h)|_=>none
 | .mu x=>(aV h 1 (x.ev e)).bind fun (_,cs)=>(mu cs).bind fun l=>match x.ev e with| .str _=>none|_=>some (.str ⟨l.toArray⟩,h)
 | .qD x=>bE e h (.qD x)
 | .pO t x=>if(x.ev e).sc then some (.iface t (x.ev e),h)else none
 | .pN f a b=>some (.fn f (bc e a) (bc e b),h)
 | .jI sz bytes zero l c=>bE e h (.jI sz bytes zero l c)
 | .vA x lo hi=>(pd (x.ev e) (lo.map (X.ev e)) (hi.map (X.ev e))).bind fun v=>some (v,h)
 | .sl sz x lo hi mx=>(ug h sz (x.ev e) (lo.map (X.ev e)) (hi.map (X.ev e)) (mx.map (X.ev e))).bind fun v=>some (v,h)
 | .tW n sz x lo hi=>(nN h n sz (x.ev e) (lo.map (X.ev e)) (hi.map (X.ev e))).bind fun v=>some (v,h)
 | .pF off x=>(fZ off (x.ev e)).bind fun v=>some (v,h)
 | .vm agg off n x=>match x.ev e with| .agg cs=>(iO agg n cs off).bind fun v=>some (v,h)|_=>none
 | .pG sz x i=>(gZ sz (x.ev e) (i.ev e)).bind fun v=>some (v,h)
 | .lZ n sz x i=>(dF n sz (x.ev e) (i.ev e)).bind fun v=>some (v,h)
 | .idxs x i=>(nH (x.ev e) (i.ev e)).bind fun v=>some (v,h)
 | .pK agg n sz x i=>(nG agg n sz (x.ev e) (i.ev e)).bind fun v=>some (v,h)
 | .pD x i=>match x.ev e with| .bW vs=>(vs[i]?).bind fun v=>some (v,h)|_=>none
 | .qN x t=>match x.ev e with| .iface u v=>if u=t then some (v,h)else none|_=>none
 | .call f args=>match f.ev e with| .fn k first captured=>call k (first++bc e args++captured) h|_=>none
 | .inv2 r t f d args=>match r.ev e with| .iface u v=>if u=t then(jb d v h).bind fun x=>call f (x::bc e args) h else none|_=>none
 | .app sz bytes a b=>mo h sz bytes (a.ev e) (b.ev e)
 | .kH sz bytes zero a n=>iY h sz bytes zero (a.ev e) (n.ev e)
 | .vO=>none
 | .len str x=>(jQ str (x.ev e)).bind fun v=>some (v,h)
 | .cap x=>(rJ (x.ev e)).bind fun v=>some (v,h)
 | .copy sz a b=>iZ h sz (a.ev e) (b.ev e)
 | .clear sz zero a=>(fp h sz zero (a.ev e)).bind fun h'=>some (.bot,h')
 | .mn xs=>match bc e xs with|[]=>none|v::r=>(iC nK v r).bind fun v=>some (v,h)
 | .mx xs=>match bc e xs with|[]=>none|v::r=>(iC nJ v r).bind fun v=>some (v,h)
def aP (d:Option Nat) (v:AV) (e:Env):Env:=match d with|some t=>(t,v)::e|none=>e
def ai (call : ae) (o : aj) (e : Env) (h : H) : Option (AV × H) :=
 match o.guard with
 |none=>ah call e h o.op
 | some (g, want) => match look e g with
   | .bool b=>if b=want then ah call e h o.op else some (.bW [],h)
   | .bW []=>some (.bW [],h)
   |_=>none
def au (call:ae):List aj→Env→H→Option (Env×H)
 |[],e,h=>some (e,h)
 |o::r,e,h=>(ai call o e h).bind fun (v,h')=>au call r (aP o.dst v e) h'
def cq.aR:cq→Bool
 | .store .. | .call .. | .inv2 .. | .app .. | .kH .. | .copy .. | .clear .. =>true
 |_=>false
def aQ (call:ae):List aj→Env→H→Option (Env×H×List H)
 |[],e,h=>some (e,h,[h])
 |o::r,e,h=>(ai call o e h).bind fun (v,h')=>(aQ call r (aP o.dst v e) h').bind fun (e',h'',gs)=>some (e',h'',if o.op.aR then h::gs else gs)
inductive Ex where
 |normal
 |exit (id:Nat)
 |ret
abbrev ej:=Option (Ex×Env×H)
def cq.reads:cq→Bool
 | .load .. | .mu .. | .sl .. | .tW .. =>true
 |_=>false
def cq.aK:cq→Bool
 | .alloc .. | .box .. | .dj .. | .jI .. | .qD .. =>true
 |_=>false
def AV.id?:AV→Option Nat
 | .aG id _=>some id
 | .aH id _ _ _=>some id
 |_=>none
def bO (call : ae) (ops : List aj) (e : Env) (gs : List H) (i k : Nat) : Bool :=
 match ops[i]?,gs[k]? with
 | some o, some g =>
   if o.op.aK then
    match o.dst.map (look e)with
    |some (.bW [])=>true
    | some v => (match v.id?, bg e o.op with
      |some id,some b=>(match g.get id with|some cs=>AV.ib cs b.1|none=>false)
      |_,_=>false)
    |none=>false
   else match o.dst.map (look e)with
    |some v=>(match ai call o e g with|some (u,_)=>AV.beq u v|none=>false)
    |none=>false
 |_,_=>false
def bh (call:ae) (ops:List aj) (e:Env) (gs:List H):List (Nat×List Nat)→Bool
 |[]=>true
 |(i,ks)::r=>ks.all (bO call ops e gs i)&&bh call ops e gs r
def aO (call : ae) (lp : (Env → H → ej) → Env → H → ej) : aI → Env → H → ej
 | .skip,e,h=>some (.normal,e,h)
 | .qz ops yR,e,h=>(au call ops e h).bind fun (e',h')=>some (.normal,ay e' yR,h')
 | .jG _ ops fl yR,e,h=>(aQ call ops e h).bind fun (e',h',gs)=>if bh call ops e' gs fl then some (.normal,ay e' yR,h')else none
 | .seq a b,e,h=>(aO call lp a e h).bind fun r=>match r with|(.normal,e',h')=>aO call lp b e' h'|r=>some r
 | .cond x a b yR, e, h => match x.ev e with
   | .bool t=>(if t then aO call lp a e h else aO call lp b e h).bind fun r=>match r with|(.normal,e',h')=>some (.normal,ay e' yR,h')|r=>some r
   |_=>none
 | .block id c yR, e, h => (aO call lp c e h).bind fun r => match r with
   |(.normal,e',h')=>some (.normal,ay e' yR,h')
   |(.exit j,e',h')=>if j=id then some (.normal,ay e' yR,h')else some (.exit j,e',h')
   |(.ret,e',h')=>some (.ret,e',h')
 | .loop yR c,e,h=>lp (fun e h=>aO call lp c (ay e yR) h) e h
 | .exit id,e,h=>some (.exit id,e,h)
 | .ret,e,h=>some (.ret,e,h)
def aM:Nat→(Env→H→ej)→Env→H→ej
 |0,_,_,_=>none
 |n+1,F,e,h=>(F e h).bind fun r=>match r with|(.normal,e',h')=>aM n F e' h'|r=>some r
def oL (e:Env) (h:H):RV→Option AV
 | .tmp t=>some (look e t)
 | .cell t agg n=>cf agg n (look e t) h
def c9 (e:Env) (h:H):List RV→Option (List AV)
 |[]=>some []
 |r::rs=>(oL e h r).bind fun v=>(c9 e h rs).bind fun vs=>some (v::vs)
def dS:List AV→AV
 |[v]=>v
 |vs=>.bW vs
def gH (f:AV→Option AV):List AV→Option (List AV)
 |[]=>some []
 |v::r=>(f v).bind fun v'=>(gH f r).bind fun r'=>some (v'::r')
def snap (g:Nat→Option (List AV)) (fl:Nat):Nat→Bool→AV→Option AV
 |0,_,_=>none
 |n+1,top,.aG id off=>if id<fl then(if top then some (.aG id off)else none)else(g id).bind fun cs=>(gH (snap g fl n false) cs).bind fun cs'=>some (.aN cs' off)
 |n+1,top,.aH id off len sz=>if id<fl then(if top then some (.aH id off len sz)else none)else(g id).bind fun cs=>if off+len* sz≤cs.length then(gH (snap g fl n false) ((cs.drop off).take (len* sz))).bind fun cs'=>some (.aY false cs' 0 len sz)else none
 |n+1,top,.agg cs=>(gH (snap g fl n top) cs).bind fun cs'=>some (.agg cs')
 |n+1,top,.bW cs=>(gH (snap g fl n top) cs).bind fun cs'=>some (.bW cs')
 |n+1,top,.fn f a b=>(gH (snap g fl n top) a).bind fun a'=>(gH (snap g fl n top) b).bind fun b'=>some (.fn f a' b')
 |n+1,top,.iface t v=>(snap g fl n top v).bind fun v'=>some (.iface t v')
 |_+1,_,v=>some v
def iQ:Nat:=16
def params:Nat→List AV→Env
 |_,[]=>[]
 |i,v::r=>(i,v)::params (i+1) r
def fin (f : fY) (h0 : H) (r : Ex × Env × H) : Option (AV × H) :=
 match r with
 |(.exit _,_,_)=>none
 | (_, e, h) => (c9 e h f.res).bind fun vs =>
   if f.pure then(snap h.get h0.next iQ true (dS vs)).bind fun v=>some (v,h0)else some (dS vs,h)
def fW (call : ae) (lp : (Env → H → ej) → Env → H → ej) (f : fY) (args : List AV) (h : H) : Option (AV × H) :=
 if args.length=f.np then
  (aO call lp f.body (params 0 args) (if f.pure then h.eO else h)).bind (fin f h)
 else none
abbrev bp:=Nat→Option fY
def aW (A:bp):Nat→ae
 |0,_,_,_=>none
 |d+1,f,args,h=>(A f).bind fun fn=>fW (aW A d) (aM d) fn args h
def oS (c d:ae):Prop:=∀f a h r,c f a h=some r→d f a h=some r
def tN (F G:Env→H→ej):Prop:=∀e h r,F e h=some r→G e h=some r
abbrev bQ:=(Env→H→ej)→Env→H→ej
def vE (l m:bQ):Prop:=∀F G,tN F G→∀e h r,l F e h=some r→m G e h=some r
theorem bind_mono {α β:Type} {x y:Option α} {f g:α→Option β} {r:β} (h1:∀a,x=some a→y=some a) (h2:∀a,f a=some r→g a=some r) (h:x.bind f=some r):y.bind g=some r:=by
 cases x with
 |none=>cases h
 |some a=>rw[h1 a rfl];exact h2 a h
theorem jf {c d:ae} (hc:oS c d) (e:Env) (h:H) (o:cq) (r) (hr:ah c e h o=some r):ah d e h o=some r:=by
 cases o with
 | call f args =>
   simp only[ah]at *
   split at hr
   · exact hc _ _ _ _ hr
   · cases hr
 | inv2 x t f b args =>
   simp only[ah]at *
   split at hr
   · split at hr
     · rename_i q;rw[if_pos q];exact bind_mono (fun _ h=>h) (fun _=>hc _ _ _ _) hr
     · cases hr
   · cases hr
 |_=>exact hr
theorem dJ {c d:ae} (hc:oS c d) (o:aj) (e:Env) (h:H) (r) (hr:ai c o e h=some r):ai d o e h=some r:=by
 unfold ai at *
 split at hr
 · exact jf hc _ _ _ _ hr
 · split at hr
   · split at hr
     · rename_i h1;rw[if_pos h1];exact jf hc _ _ _ _ hr
     · rename_i h1;rw[if_neg h1];exact hr
   · cases hr;rfl
   · cases hr
theorem iy {c d:ae} (hc:oS c d):∀(os:List aj) (e:Env) (h:H) (r),au c os e h=some r→au d os e h=some r
 |[],_,_,_,hr=>hr
 |_::os,_,_,_,hr=>bind_mono (dJ hc _ _ _) (fun _=>iy hc os _ _ _) hr
theorem gq {c d:ae} (hc:oS c d):∀(os:List aj) (e:Env) (h:H) (r),aQ c os e h=some r→aQ d os e h=some r
 |[],_,_,_,hr=>hr
 |_::os,_,_,_,hr=>bind_mono (dJ hc _ _ _) (fun _=>bind_mono (gq hc os _ _) (fun _ h=>h)) hr
theorem jL {c d : ae} (hc : oS c d) (ops : List aj) (e : Env) (gs : List H) (i k : Nat) (h : bO c ops e gs i k = true) : bO d ops e gs i k = true := by
 unfold bO at *
 split at h
 · split at h
   · rename_i hb;rw[if_pos hb];exact h
   · rename_i hb;rw[if_neg hb]
     split at h
     · split at h
       · rename_i v hv;rw[dJ hc _ _ _ _ hv];exact h
       · cases h
     · cases h
 · cases h
theorem fg {c d:ae} (hc:oS c d) (ops:List aj) (e:Env) (gs:List H):∀fl,bh c ops e gs fl=true→bh d ops e gs fl=true
 |[],h=>h
 | (i, ks) :: r, h => by
   simp only[bh,wT,List.all_eq_true]at *
   exact⟨fun k hk=>jL hc _ _ _ _ _ (h.1 k hk),fg hc ops e gs r h.2⟩
theorem cN {c d : ae} (hc : oS c d) {l m : bQ} (hl : vE l m) : ∀ (x : aI), tN (aO c l x) (aO d m x)
 | .skip=>fun _ _ _ h=>h
 | .qz _ _=>fun _ _ _ h=>bind_mono (iy hc _ _ _) (fun _ h=>h) h
 | .jG _ ops fl _=>fun _ _ _ h=>bind_mono (gq hc _ _ _) (fun a h=>by
  dsimp only at *
  split at h
  · rename_i h1;rw[if_pos (fg hc _ _ _ _ h1)];exact h
  · cases h) h
 | .seq a b=>fun _ _ _ h=>bind_mono (cN hc hl a _ _) (fun r h=>by
  split at h
  · exact cN hc hl b _ _ _ h
  · exact h) h
 | .cond x a b _=>fun e _ _ h=>by
  simp only[aO]at *
  split at h
  · rename_i t ht
    refine bind_mono (fun r hr=> ?_) (fun _ h=>h) h
    cases t with
    |true=>exact cN hc hl a _ _ _ hr
    |false=>exact cN hc hl b _ _ _ hr
  · cases h
 | .block _ x _=>fun _ _ _ h=>bind_mono (cN hc hl x _ _) (fun _ h=>h) h
 | .loop _ x=>fun _ _ _ h=>hl _ _ (fun _ _ _ h=>cN hc hl x _ _ _ h) _ _ _ h
 | .exit _=>fun _ _ _ h=>h
 | .ret=>fun _ _ _ h=>h
theorem mh {F G:Env→H→ej} (hF:tN F G):∀n,tN (aM n F) (aM n G)
 |0=>fun _ _ _ h=>h
 | n + 1 => fun _ _ _ h => bind_mono (hF _ _) (fun r h => by
     split at h
     · exact mh hF n _ _ _ h
     · exact h) h
theorem iH (F:Env→H→ej):∀n,tN (aM n F) (aM (n+1) F)
 |0=>fun _ _ _ h=>by cases h
 | n + 1 => fun _ _ _ h => bind_mono (fun _ h => h) (fun r h => by
     split at h
     · exact iH F n _ _ _ h
     · exact h) h
theorem eV (F:Env→H→ej) {n m:Nat} (h:n≤m):tN (aM n F) (aM m F):=by
 induction h with
 |refl=>exact fun _ _ _ h=>h
 |step _ ih=>exact fun e h r hr=>iH F _ _ _ _ (ih _ _ _ hr)
theorem mL {n m:Nat} (h:n≤m):vE (aM n) (aM m):=fun _ _ hF _ _ _ hr=>eV _ h _ _ _ (mh hF _ _ _ _ hr)
theorem mT {c d:ae} (hc:oS c d) {l m:bQ} (hl:vE l m) (fn:fY) (args:List AV) (h:H) (r) (hr:fW c l fn args h=some r):fW d m fn args h=some r:=by
 unfold fW at *
 split at hr
 · rename_i h1;rw[if_pos h1];exact bind_mono (cN hc hl _ _ _) (fun _ h=>h) hr
 · cases hr
theorem ie (A:bp):∀d,oS (aW A d) (aW A (d+1))
 |0=>fun _ _ _ _ h=>by cases h
 |d+1=>fun f args h r hr=>bind_mono (fun _ h=>h) (fun fn=>mT (ie A d) (mL (Nat.le_succ d)) fn args h r) hr
theorem eM (A:bp) {d d':Nat} (h:d≤d'):oS (aW A d) (aW A d'):=by
 induction h with
 |refl=>exact fun _ _ _ _ h=>h
 |step _ ih=>exact fun f a h r hr=>ie A _ _ _ _ _ (ih _ _ _ _ hr)
open Classical in
noncomputable def bH (F:Env→H→ej) (e:Env) (h:H):ej:=
 if hx:∃n r,aM n F e h=some r then some (choose (choose_spec hx))else none
theorem iI {F:Env→H→ej} {e:Env} {h:H} {n:Nat} {r} (hr:aM n F e h=some r):bH F e h=some r:=by
 unfold bH
 have hx:∃n r,aM n F e h=some r:=⟨n,r,hr⟩
 rw[dif_pos hx]
 have h2:=wZ (wZ hx)
 rcases Nat.le_total n (Classical.choose hx)with hl|hl
 · have:=eV F hl _ _ _ hr;exact h2.symm.trans this
 · have:=eV F hl _ _ _ h2;rw[hr]at this;exact this.symm
theorem jr {F:Env→H→ej} {e:Env} {h:H} {r} (hr:bH F e h=some r):∃n,aM n F e h=some r:=by
 unfold bH at hr
 split at hr
 · rename_i hx
   refine⟨Classical.choose hx, ?_⟩
   rw[←hr];exact wZ (wZ hx)
 · cases hr
theorem j9 {F:Env→H→ej} {e e':Env} {h h':H} {r} (h1:F e h=some (.normal,e',h')) (h2:bH F e' h'=some r):bH F e h=some r:=by
 obtain⟨n,hn⟩:=jr h2
 exact iI (n:=n+1) (by simp only[aM,h1,wP];exact hn)
theorem k9 {F:Env→H→ej} {e e':Env} {h h':H} {i:Nat} (h1:F e h=some (.exit i,e',h')):bH F e h=some (.exit i,e',h'):=
 iI (n:=1) (by simp only[aM,h1,wP])
theorem mN {F:Env→H→ej} {e e':Env} {h h':H} (h1:F e h=some (.ret,e',h')):bH F e h=some (.ret,e',h'):=
 iI (n:=1) (by simp only[aM,h1,wP])
open Classical in
noncomputable def aU (A:bp) (f:Nat) (args:List AV) (h:H):Option (AV×H):=
 if hx:∃n r,aW A n f args h=some r then some (choose (choose_spec hx))else none
theorem nX {A:bp} {f:Nat} {args:List AV} {h:H} {n:Nat} {r} (hr:aW A n f args h=some r):aU A f args h=some r:=by
 unfold aU
 have hx:∃n r,aW A n f args h=some r:=⟨n,r,hr⟩
 rw[dif_pos hx]
 have h2:=wZ (wZ hx)
 rcases Nat.le_total n (Classical.choose hx)with hl|hl
 · have:=eM A hl _ _ _ _ hr;exact h2.symm.trans this
 · have:=eM A hl _ _ _ _ h2;rw[hr]at this;exact this.symm
theorem fI {A:bp} {f:Nat} {args:List AV} {h:H} {r} (hr:aU A f args h=some r):∃n,aW A n f args h=some r:=by
 unfold aU at hr
 split at hr
 · rename_i hx
   refine⟨Classical.choose hx, ?_⟩
   rw[←hr];exact wZ (wZ hx)
 · cases hr
def bY (P:Nat→Prop):Prop:=∃d,∀d',d≤d'→P d'
theorem bY.and {P Q:Nat→Prop} (h:bY P) (k:bY Q):bY fun d=>P d∧Q d:=by
 obtain⟨a,ha⟩:=h;obtain⟨b,hb⟩:=k
 exact⟨max a b,fun d hd=>⟨ha d (by omega),hb d (by omega)⟩⟩
theorem bY.mono {P Q:Nat→Prop} (h:bY P) (k:∀d,P d→Q d):bY Q:=by obtain⟨a,ha⟩:=h;exact⟨a,fun d hd=>k d (ha d hd)⟩
theorem bY.const {p:Prop} (h:p):bY fun _=>p:=⟨0,fun _ _=>h⟩
theorem bY.bind {α β:Type} {x:Option α} {y:Nat→Option α} {f:α→Option β} {g:Nat→α→Option β} {r:β} (h:x.bind f=some r) (h1:∀a,x=some a→bY fun d=>y d=some a) (h2:∀a,f a=some r→bY fun d=>g d a=some r):bY fun d=>(y d).bind (g d)=some r:=by
 cases x with
 |none=>cases h
 |some a=>exact((h1 a rfl).and (h2 a h)).mono fun d ⟨p,q⟩=>by rw[p];exact q
section
variable {A:bp}
theorem j0 (e : Env) (h : H) (o : cq) (r) (hr : ah (aU A) e h o = some r) : bY fun d => ah (aW A d) e h o = some r := by
 cases o with
 | call f args =>
   simp only[ah]at *
   split at hr
   · rename_i hf
     obtain⟨n,hn⟩:=fI hr
     exact⟨n,fun d hd=>by simpa only[hf]using eM A hd _ _ _ _ hn⟩
   · cases hr
 | inv2 x t f b args =>
   simp only[ah]at *
   split at hr
   · rename_i hf
     split at hr
     · rename_i q
       simp only[if_pos q]
       exact bY.bind hr (fun _ h=>bY.const h) (fun _ h=>by obtain⟨n,hn⟩:=fI h;exact⟨n,fun d hd=>eM A hd _ _ _ _ hn⟩)
     · cases hr
   · cases hr
 |_=>exact bY.const hr
theorem eE (o:aj) (e:Env) (h:H) (r) (hr:ai (aU A) o e h=some r):bY fun d=>ai (aW A d) o e h=some r:=by
 unfold ai at *
 split at hr
 · exact j0 _ _ _ _ hr
 · split at hr
   · split at hr
     · rename_i h1;simp only[if_pos h1];exact j0 _ _ _ _ hr
     · rename_i h1;simp only[if_neg h1];exact bY.const hr
   · exact bY.const hr
   · cases hr
theorem jh:∀(os:List aj) (e:Env) (h:H) (r),au (aU A) os e h=some r→bY fun d=>au (aW A d) os e h=some r
 |[],_,_,_,hr=>bY.const hr
 |_::os,_,_,_,hr=>bY.bind hr (eE _ _ _) (fun _=>jh os _ _ _)
theorem ir:∀(os:List aj) (e:Env) (h:H) (r),aQ (aU A) os e h=some r→bY fun d=>aQ (aW A d) os e h=some r
 |[],_,_,_,hr=>bY.const hr
 |_::os,_,_,_,hr=>bY.bind hr (eE _ _ _) (fun _ h=>bY.bind h (ir os _ _) (fun _ h=>bY.const h))
theorem kv (ops : List aj) (e : Env) (gs : List H) (i k : Nat) (h : bO (aU A) ops e gs i k = true) : bY fun d => bO (aW A d) ops e gs i k = true := by
 unfold bO at *
 split at h
 · split at h
   · rename_i hb;simp only[if_pos hb];exact bY.const h
   · rename_i hb;simp only[if_neg hb]
     split at h
     · split at h
       · rename_i v hv;exact(eE _ _ _ _ hv).mono fun d hd=>by rw[hd];exact h
       · cases h
     · cases h
 · cases h
theorem lK {α:Type} (P:Nat→α→Bool) (Q:α→Bool) (hq:∀a,Q a=true→bY fun d=>P d a=true):∀l:List α,l.all Q=true→bY fun d=>l.all (P d)=true
 |[],_=>bY.const rfl
 | a :: l, h => by
   simp only[List.all_cons,wT]at *
   exact(hq a h.1).and (lK P Q hq l h.2)
theorem gD (ops:List aj) (e:Env) (gs:List H):∀fl,bh (aU A) ops e gs fl=true→bY fun d=>bh (aW A d) ops e gs fl=true
 |[],h=>bY.const h
 | (i, ks) :: r, h => by
   simp only[bh,wT]at *
   exact(lK _ _ (fun k=>kv ops e gs i k) ks h.1).and (gD ops e gs r h.2)
theorem dm : ∀ (x : aI) (e : Env) (h : H) (r), aO (aU A) bH x e h = some r → bY fun d => aO (aW A d) (aM d) x e h = some r
 | .skip,_,_,_,h=>bY.const h
 | .qz _ _,_,_,_,h=>bY.bind h (jh _ _ _) (fun _ h=>bY.const h)
 | .jG _ ops fl _,_,_,_,h=>bY.bind h (ir _ _ _) (fun a h=>by
  dsimp only at *
  split at h
  · rename_i h1;exact(gD _ _ _ _ h1).mono fun d hd=>by rw[if_pos hd];exact h
  · cases h)
 | .seq a b,_,_,_,h=>bY.bind h (dm a _ _) (fun r h=>by
  split at h
  · exact dm b _ _ _ h
  · exact bY.const h)
 | .cond x a b _,e,_,_,h=>by
  simp only[aO]at *
  split at h
  · rename_i t ht
    refine bY.bind h (fun r hr=> ?_) (fun _ h=>bY.const h)
    cases t with
    |true=>exact dm a _ _ _ hr
    |false=>exact dm b _ _ _ hr
  · cases h
 | .block _ x _,_,_,_,h=>bY.bind h (dm x _ _) (fun _ h=>bY.const h)
 | .loop yR x, e, h, r, hr => by
  obtain⟨n,hn⟩:=jr hr
  have key:∀n e h r,aM n (fun e h=>aO (aU A) bH x (ay e yR) h) e h=some r→bY fun d=>aM n (fun e h=>aO (aW A d) (aM d) x (ay e yR) h) e h=some r:=by
   intro n
   induction n with
   |zero=>intro e h r hr;cases hr
   | succ n ih =>
     intro e h r hr
     refine bY.bind hr (fun a ha=>dm x _ _ _ ha) (fun a ha=> ?_)
     split at ha
     · exact ih _ _ _ ha
     · exact bY.const ha
  obtain⟨d,hd⟩:=key n e h r hn
  exact⟨max d n,fun d' hd'=>eV _ (by omega) _ _ _ (hd d' (by omega))⟩
 | .exit _,_,_,_,h=>bY.const h
 | .ret,_,_,_,h=>bY.const h
theorem lS {f:Nat} {fn:fY} {args:List AV} {h:H} {r} (hf:A f=some fn) (hr:fW (aU A) bH fn args h=some r):aU A f args h=some r:=by
 have:bY fun d=>fW (aW A d) (aM d) fn args h=some r:=by
  unfold fW at *
  split at hr
  · rename_i h1;simp only[if_pos h1];exact bY.bind hr (dm _ _ _) (fun _ h=>bY.const h)
  · cases hr
 obtain⟨d,hd⟩:=this
 exact nX (n:=d+1) (by simp only[aW,hf,wP];exact hd d (wU d))
end
end Ab
namespace Ab
open Go RowKit
structure Loc where
 block:Nat
 base:Nat
 len:Nat
 ext:Nat
structure Lk where
 P:Program
 mf:FuncId→Option Nat
 mt:TypeId→Nat
 iv:String→Option (Nat×Nat×Bool)
 ta:TypeId→Option Nat
 sq:TypeId→Bool
abbrev Io:=Nat→Option Loc
abbrev Mm:=Nat→Nat→Option Value
def at' (b o:Nat):Addr:=⟨b,o,none⟩
inductive VI (L:Lk) (M:Mm):AV→Value→Prop where
 |bot (v:Value):VI L M .bot v
 |bool (b:Bool):VI L M (.bool b) (.bool b)
 |int (k:IntKind) (n:Int):VI L M (.int k n) (.int k n)
 |str (s:ByteArray):VI L M (.str s) (.string s)
 |cT:VI L M .cT (.pointer none)
 |aN {cells:List AV} {off b base:Nat} (vs:Nat→Value) (h1:∀(i:Nat) (c:AV),cells[i]?=some c→M b (base+i)=some (vs i)) (h2:∀(i:Nat) (c:AV),cells[i]?=some c→VI L M c (vs i)):
  VI L M (.aN cells off) (.pointer (some (at' b (base+off))))
 |aS:VI L M .aS (.slice none 0 0)
 |aY {t:Bool} {cells:List AV} {off len sz b base cap:Nat} {a:Addr} (vs:Nat→Value) (h1:∀(i:Nat) (c:AV),cells[i]?=some c→M b (base+i)=some (vs i)) (h2:∀(i:Nat) (c:AV),cells[i]?=some c→VI L M c (vs i))
  (hl:len≤cap) (ha:cap≠0→a=at' b (base+off)) (hc:cells.length≤off+cap* sz) (ht:t=true→off+cap* sz=cells.length):
  VI L M (.aY t cells off len sz) (.slice (some a) len cap)
 |fn {f:Nat} {fid:FuncId} {as cs:List AV} {va vc:List Value} (hf:L.mf fid=some f) (la:as.length=va.length) (lc:cs.length=vc.length)
  (ha:∀(i:Nat) (a:AV) (v:Value),as[i]?=some a→va[i]?=some v→VI L M a v) (hc:∀(i:Nat) (a:AV) (v:Value),cs[i]?=some a→vc[i]?=some v→VI L M a v):
  VI L M (.fn f as cs) (.func (.func fid) va.toArray vc.toArray)
 |fM:VI L M .fM .nilFunc
 |iface {t:Nat} {tid:TypeId} {a:AV} {v:Value} (ht:L.mt tid=t) (h:VI L M a v):VI L M (.iface t a) (.iface tid v)
 |fN:VI L M .fN .nilIface
 |agg {as:List AV} {vs:List Value} (l:as.length=vs.length) (h:∀(i:Nat) (a:AV) (v:Value),as[i]?=some a→vs[i]?=some v→VI L M a v):VI L M (.agg as) (.agg vs.toArray)
 |bW {as:List AV} {vs:List Value} (l:as.length=vs.length) (h:∀(i:Nat) (a:AV) (v:Value),as[i]?=some a→vs[i]?=some v→VI L M a v):VI L M (.bW as) (.tuple vs.toArray)
inductive V (L:Lk) (ι:Io) (M:Mm):AV→Value→Prop where
 |ar {a:AV} {v:Value} (h:VI L M a v):V L ι M a v
 |aG {id off:Nat} {l:Loc} (h:ι id=some l):V L ι M (.aG id off) (.pointer (some (at' l.block (l.base+off))))
 |aH {id off len sz cap:Nat} {l:Loc} {a:Addr} (h:ι id=some l) (hl:len≤cap) (ha:cap≠0→a=at' l.block (l.base+off)) (hlo:l.len≤off+cap* sz) (hhi:off+cap* sz≤l.ext):
  V L ι M (.aH id off len sz) (.slice (some a) len cap)
 |fn {f:Nat} {fid:FuncId} {as cs:List AV} {va vc:List Value} (hf:L.mf fid=some f) (la:as.length=va.length) (lc:cs.length=vc.length)
  (ha:∀(i:Nat) (a:AV) (v:Value),as[i]?=some a→va[i]?=some v→V L ι M a v) (hc:∀(i:Nat) (a:AV) (v:Value),cs[i]?=some a→vc[i]?=some v→V L ι M a v):
  V L ι M (.fn f as cs) (.func (.func fid) va.toArray vc.toArray)
 |iface {t:Nat} {tid:TypeId} {a:AV} {v:Value} (ht:L.mt tid=t) (h:V L ι M a v):V L ι M (.iface t a) (.iface tid v)
 |agg {as:List AV} {vs:List Value} (l:as.length=vs.length) (h:∀(i:Nat) (a:AV) (v:Value),as[i]?=some a→vs[i]?=some v→V L ι M a v):V L ι M (.agg as) (.agg vs.toArray)
 |bW {as:List AV} {vs:List Value} (l:as.length=vs.length) (h:∀(i:Nat) (a:AV) (v:Value),as[i]?=some a→vs[i]?=some v→V L ι M a v):V L ι M (.bW as) (.tuple vs.toArray)
def oT (ι ι':Io):Prop:=∀id l,ι id=some l→ι' id=some l
def oY (M M':Mm):Prop:=∀b o v,M b o=some v→M' b o=some v
theorem VI.mono {L:Lk} {M M':Mm} (hM:oY M M') {a:AV} {v:Value} (h:VI L M a v):VI L M' a v:=by
 induction h with
 |bot v=>exact .bot v
 |bool b=>exact .bool b
 |int k n=>exact .int k n
 |str s=>exact .str s
 |cT=>exact .cT
 |aN vs h1 _ ih=>exact .aN vs (fun i c hc=>hM _ _ _ (h1 i c hc)) ih
 |aS=>exact .aS
 |aY vs h1 _ hl ha hc ht ih=>exact .aY vs (fun i c hc=>hM _ _ _ (h1 i c hc)) ih hl ha hc ht
 |fn hf la lc _ _ ia ic=>exact .fn hf la lc ia ic
 |fM=>exact .fM
 |iface ht _ ih=>exact .iface ht ih
 |fN=>exact .fN
 |agg l _ ih=>exact .agg l ih
 |bW l _ ih=>exact .bW l ih
theorem V.mono {L:Lk} {ι ι':Io} {M M':Mm} (hι:oT ι ι') (hM:oY M M') {a:AV} {v:Value} (h:V L ι M a v):V L ι' M' a v:=by
 induction h with
 |ar h=>exact .ar (h.mono hM)
 |aG h=>exact .aG (hι _ _ h)
 |aH h hl ha hlo hhi=>exact .aH (hι _ _ h) hl ha hlo hhi
 |fn hf la lc _ _ ia ic=>exact .fn hf la lc ia ic
 |iface ht _ ih=>exact .iface ht ih
 |agg l _ ih=>exact .agg l ih
 |bW l _ ih=>exact .bW l ih
theorem V.shrink {L : Lk} {ι ι1 : Io} {M M1 : Mm} (hι : oT ι ι1) {a : AV} {v : Value} (h1 : V L ι1 M1 a v) : ∀ {v0 : Value}, V L ι M a v0 → V L ι M1 a v := by
 have im:∀{a:AV} {v v0:Value},VI L M1 a v→V L ι M a v0→V L ι M1 a v:=fun h _=>.ar h
 induction h1 with
 |ar h=>exact fun h0=>im h h0
 | @aG id off l h =>
   intro v0 h0
   cases h0 with
   |ar h=>cases h
   |aG h'=>rw[hι _ _ h']at h;obtain rfl:=wH h;exact .aG h'
 | @aH id off len sz cap l a h hl ha hlo hhi =>
   intro v0 h0
   cases h0 with
   |ar h=>cases h
   |aH h'=>rw[hι _ _ h']at h;obtain rfl:=wH h;exact .aH h' hl ha hlo hhi
 | @fn f fid as cs va vc hf la lc ha hc ia ic =>
   intro v0 h0
   have sub:∀{xs:List AV} {ys zs:List Value},xs.length=zs.length→(∀(i:Nat) (a:AV) (v:Value),xs[i]?=some a→ys[i]?=some v→∀{v0:Value},V L ι M a v0→V L ι M1 a v)→(∀(i:Nat) (a:AV) (v:Value),xs[i]?=some a→zs[i]?=some v→V L ι M a v)→∀(i:Nat) (a:AV) (v:Value),xs[i]?=some a→ys[i]?=some v→V L ι M1 a v:=by
    intro xs ys zs hl h1 h2 i a v hx hy
    obtain⟨hi,_⟩:=wO.1 hx
    exact h1 i a v hx hy (h2 i a (zs[i]'(hl ▸ hi)) hx (by simp))
   cases h0 with
   | ar h => cases h with
     |fn hf' la' lc' ha' hc'=>exact .fn hf la lc (sub la' ia fun i a v x y=>.ar (ha' i a v x y)) (sub lc' ic fun i a v x y=>.ar (hc' i a v x y))
   |fn hf' la' lc' ha' hc'=>exact .fn hf la lc (sub la' ia ha') (sub lc' ic hc')
 | iface ht h ih =>
   intro v0 h0
   cases h0 with
   | ar h => cases h with
     |iface _ h'=>exact .iface ht (ih (.ar h'))
   |iface _ h'=>exact .iface ht (ih h')
 | @agg as vs l h ih =>
   intro v0 h0
   cases h0 with
   | ar h => cases h with
     | @agg _ zs l' h' =>
       refine .agg l fun i a v hx hy=> ?_
       obtain⟨hi,_⟩:=wO.1 hx
       exact ih i a v hx hy (.ar (h' i a (zs[i]'(l' ▸ hi)) hx (by simp)))
   | @agg _ zs l' h' =>
     refine .agg l fun i a v hx hy=> ?_
     obtain⟨hi,_⟩:=wO.1 hx
     exact ih i a v hx hy (h' i a (zs[i]'(l' ▸ hi)) hx (by simp))
 | @bW as vs l h ih =>
   intro v0 h0
   cases h0 with
   | ar h => cases h with
     | @bW _ zs l' h' =>
       refine .bW l fun i a v hx hy=> ?_
       obtain⟨hi,_⟩:=wO.1 hx
       exact ih i a v hx hy (.ar (h' i a (zs[i]'(l' ▸ hi)) hx (by simp)))
   | @bW _ zs l' h' =>
     refine .bW l fun i a v hx hy=> ?_
     obtain⟨hi,_⟩:=wO.1 hx
     exact ih i a v hx hy (h' i a (zs[i]'(l' ▸ hi)) hx (by simp))
structure R (L:Lk) (w0:World) (ι:Io) (M:Mm) (h:H) (w:World):Prop where
 below:Below w0.heap.size w0 w
 kU:∀id l,ι id=some l→id<h.next
 iR:∀id cs l,h.get id=some cs→ι id=some l→w0.heap.size≤l.block∧l.block<w.heap.size∧cs.length=l.len∧l.len≤l.ext
 own:∀id cs l,h.get id=some cs→ι id=some l→∀o,o<l.ext→(w.cell? (at' l.block (l.base+o))).isSome=true∧w.frozen? (at' l.block (l.base+o))=false
 val:∀id cs l,h.get id=some cs→ι id=some l→∀i a,cs[i]?=some a→∃v,w.cell? (at' l.block (l.base+i))=some v∧V L ι M a v
 ig:∀id id' cs cs' l l',h.get id=some cs→h.get id'=some cs'→ι id=some l→ι id'=some l'→id≠id'→l.block=l'.block→l.base+l.ext≤l'.base∨l'.base+l'.ext≤l.base
 ar:∀b o v,M b o=some v→w.cell? (at' b o)=some v
 iS:∀b o v id cs l,M b o=some v→h.get id=some cs→ι id=some l→b=l.block→o<l.base∨l.base+l.ext≤o
theorem lU {w:World} {b o:Nat} {v:Value} (h:w.cell? (at' b o)=some v):b<w.heap.size:=by
 unfold World.cell? at' at h
 rcases Nat.lt_or_ge b w.heap.size with hl|hl
 · exact hl
 · simp [Array.getElem?_eq_none hl]at h
section
variable {L:Lk} {w0:World} {ι:Io} {M:Mm} {h:H} {w:World}
theorem R.drew (r:R L w0 ι M h w) (n:Nat):R L w0 ι M h {w with drawn:=n}:=
 ⟨⟨r.below.os,r.below.tape,r.below.output,r.below.size,r.below.block⟩,r.kU,r.iR,r.own,r.val,r.ig,r.ar,r.iS⟩
theorem R.del (r:R L w0 ι M h w) (id:Nat):R L w0 ι M (h.del id) w:=by
 have g:∀i cs,(h.del id).get i=some cs→h.get i=some cs:=fun i cs hc=>by
  simp only[H.eS]at hc;split at hc
  · cases hc
  · exact hc
 exact⟨r.below,r.kU,fun i cs l a b=>r.iR i cs l (g _ _ a) b,fun i cs l a b=>r.own i cs l (g _ _ a) b,fun i cs l a b=>r.val i cs l (g _ _ a) b,
  fun i j cs cs' l l' a b=>r.ig i j cs cs' l l' (g _ _ a) (g _ _ b),r.ar,fun b o v i cs l a c=>r.iS b o v i cs l a (g _ _ c)⟩
theorem R.setCell (r : R L w0 ι M h w) {id : Nat} {cs : List AV} {l : Loc} (hg : h.get id = some cs) (hi : ι id = some l) {o : Nat} (ho : o < l.ext) {a : AV} {v : Value} (hv : V L ι M a v) :
 R L w0 ι M (h.set id (cs.set o a)) (w.setCell (at' l.block (l.base+o)) v):=by
 have hcell:=(r.own id cs l hg hi o ho).1
 have b0:=(r.iR id cs l hg hi).1
 have gs:∀i c,(h.set id (cs.set o a)).get i=some c→(i=id∧c=cs.set o a)∨(i≠id∧h.get i=some c):=fun i c hc=>by
  simp only[H.dY]at hc;split at hc
  · rename_i e;rw[hg]at hc;exact .inl ⟨e,(wH hc).symm⟩
  · rename_i e;exact .inr ⟨e,hc⟩
 have hsome:∀i c,(h.set id (cs.set o a)).get i=some c→∃c0,h.get i=some c0∧c0.length=c.length:=fun i c hc=>by
  rcases gs i c hc with ⟨rfl,rfl⟩|⟨_,hc⟩
  · exact⟨cs,hg,by simp⟩
  · exact⟨c,hc,rfl⟩
 refine⟨r.below.setCell b0 _,(fun i l q=>by rw[H.kg];exact r.kU i l q), ?_, ?_, ?_, ?_, ?_, ?_⟩
 · intro i c l' hc hl'
   obtain⟨c0,hc0,hlen⟩:=hsome i c hc
   have:=r.iR i c0 l' hc0 hl'
   exact⟨this.1,by simpa [World.setCell]using this.2.1,by rw[←hlen];exact this.2.2.1,this.2.2.2⟩
 · intro i c l' hc hl' o' ho'
   obtain⟨c0,hc0,_⟩:=hsome i c hc
   have:=r.own i c0 l' hc0 hl' o' ho'
   refine⟨?_,by rw[World.frozen?_setCell];exact this.2⟩
   by_cases e:at' l.block (l.base+o)=at' l'.block (l'.base+o')
   · rw[←e,World.cell?_setCell_same' _ _ _ hcell];rfl
   · rw[World.cell?_setCell_other _ _ _ _ e];exact this.1
 · intro i c l' hc hl' j x hx
   rcases gs i c hc with ⟨rfl,rfl⟩|⟨hne,hc0⟩
   · rw[hi]at hl';obtain rfl:=wH hl'
     by_cases e:j=o
     · subst e
       rw[World.cell?_setCell_same' _ _ _ hcell]
       refine⟨v,rfl, ?_⟩
       by_cases hjl:j<cs.length
       · rw[xi hjl]at hx;obtain rfl:=wH hx;exact hv
       · rw[List.getElem?_eq_none (by simp;omega)]at hx;cases hx
     · rw[List.getElem?_set_ne (by omega)]at hx
       obtain⟨u,hu,hVu⟩:=r.val i cs l hg hi j x hx
       exact⟨u,by rw[World.cell?_setCell_other _ _ _ _ (by simp [at'];omega)];exact hu,hVu⟩
   · obtain⟨u,hu,hVu⟩:=r.val i c l' hc0 hl' j x hx
     have hjl:j<l'.ext:=by have:=r.iR i c l' hc0 hl';obtain⟨hj,_⟩:=wO.1 hx;omega
     refine⟨u, ?_,hVu⟩
     rw[World.cell?_setCell_other]
     · exact hu
     · intro e
       simp only[at',Addr.mk.injEq,and_true]at e
       rcases r.ig i id c cs l' l hc0 hg hl' hi hne e.1.symm with hd|hd<;>omega
 · intro i j c c' l1 l2 hc hc' h1 h2 hne
   obtain⟨d,hd,_⟩:=hsome i c hc
   obtain⟨d',hd',_⟩:=hsome j c' hc'
   exact r.ig i j d d' l1 l2 hd hd' h1 h2 hne
 · intro b o' u hu
   rw[World.cell?_setCell_other]
   · exact r.ar b o' u hu
   · intro e
     simp only[at',Addr.mk.injEq,and_true]at e
     rcases r.iS b o' u id cs l hu hg hi e.1.symm with hd|hd<;>omega
 · intro b o' u i c l' hu hc hl'
   obtain⟨d,hd,_⟩:=hsome i c hc
   exact r.iS b o' u i d l' hu hd hl'
theorem dY {h:H} {id:Nat} {c d:List AV} (hg:h.get id=some c):(h.set id d).get id=some d:=by simp [H.dY,hg]
theorem cK {id:Nat} {l:Loc} (hi:ι id=some l):∀(as:List AV) (vs:List Value) (o:Nat),as.length=vs.length→o+as.length≤l.ext→
 (∀(i:Nat) (a:AV) (v:Value),as[i]?=some a→vs[i]?=some v→V L ι M a v)→∀{cs:List AV} {h:H} {w:World},R L w0 ι M h w→h.get id=some cs→R L w0 ι M (h.set id (setFrom cs o as)) (w.setCells l.block (l.base+o) vs)
 | [], [], o, _, _, _, cs, h, w, r, hg => by
   simp only[setFrom,World.setCells];rw[H.ku hg];exact r
 | a :: as, v :: vs, o, hl, ho, hv, cs, h, w, r, hg => by
   have r1:=r.setCell hg hi (o:=o) (by simp at ho;omega) (hv 0 a v rfl rfl)
   have r2:=cK hi as vs (o+1) (by simpa using hl) (by simp at ho ⊢;omega) (fun i a v ha hv'=>hv (i+1) a v (by simpa using ha) (by simpa using hv')) r1 (dY hg)
   rw[H.set_set]at r2
   simp only[setFrom,World.setCells]
   exact r2
 |[],_::_,_,hl,_,_,_,_,_,_,_=>by cases hl
 |_::_,[],_,hl,_,_,_,_,_,_,_=>by cases hl
theorem lI {id:Nat} {cs:List AV} {l:Loc} (hg:h.get id=some cs) (hi:ι id=some l):∀(vs:List Value) (o:Nat),l.len≤o→o+vs.length≤l.ext→
 ∀{w:World},R L w0 ι M h w→R L w0 ι M h (w.setCells l.block (l.base+o) vs)
 |[],_,_,_,w,r=>r
 | v :: vs, o, h0, ho, w, r => by
   have r1:=r.setCell hg hi (o:=o) (by simp at ho;omega) (V.ar (VI.bot v))
   rw[List.set_eq_of_length_le (by have:=(r.iR id cs l hg hi).2.2.1;omega),H.ku hg]at r1
   simp only[World.setCells]
   have:=lI hg hi vs (o+1) (by omega) (by simp at ho ⊢;omega) r1
   exact this
def Io.put (ι:Io) (id:Nat) (l:Loc):Io:=fun i=>if i=id then some l else ι i
theorem Io.fL {ι:Io} {id:Nat} (l:Loc) (hd:ι id=none):oT ι (ι.put id l):=fun i l' h=>by
 unfold Io.put;split
 · rename_i e;subst e;rw[hd]at h;cases h
 · exact h
theorem R.put (r : R L w0 ι M h w) {id : Nat} (hd : ι id = none) (l : Loc) {cs : List AV} {h' : H} (hn : h.next ≤ h'.next) (hid : id < h'.next) (hget : ∀ i c, h'.get i = some c → (i = id ∧ c = cs) ∨ (i ≠ id ∧ h.get i = some c))
 (hb:w0.heap.size≤l.block∧l.block<w.heap.size∧cs.length=l.len∧l.len≤l.ext)
 (hown:∀o,o<l.ext→(w.cell? (at' l.block (l.base+o))).isSome=true∧w.frozen? (at' l.block (l.base+o))=false)
 (hval:∀i a,cs[i]?=some a→∃v,w.cell? (at' l.block (l.base+i))=some v∧V L ι M a v)
 (hdis:∀i c l',h'.get i=some c→i≠id→ι i=some l'→l'.block=l.block→l'.base+l'.ext≤l.base∨l.base+l.ext≤l'.base)
 (him:∀b o v,M b o=some v→b=l.block→o<l.base∨l.base+l.ext≤o):R L w0 (ι.put id l) M h' w:=by
 have hle:=Io.fL l hd
 have pe:(ι.put id l) id=some l:=by simp [Io.put]
 have pn:∀i l',i≠id→(ι.put id l) i=some l'→ι i=some l':=fun i l' hne hh=>by simpa [Io.put,hne]using hh
 refine⟨r.below, ?_, ?_, ?_, ?_, ?_,r.ar, ?_⟩
 · intro i l' hh
   by_cases e:i=id
   · exact e ▸ hid
   · exact Nat.lt_of_lt_of_le (r.kU i l' (pn i l' e hh)) hn
 · intro i c l' hc hh
   rcases hget i c hc with ⟨rfl,rfl⟩|⟨hne,hc'⟩
   · rw[pe]at hh;obtain rfl:=wH hh;exact hb
   · exact r.iR i c l' hc' (pn i l' hne hh)
 · intro i c l' hc hh
   rcases hget i c hc with ⟨rfl,rfl⟩|⟨hne,hc'⟩
   · rw[pe]at hh;obtain rfl:=wH hh;exact hown
   · exact r.own i c l' hc' (pn i l' hne hh)
 · intro i c l' hc hh j a ha
   rcases hget i c hc with ⟨rfl,rfl⟩|⟨hne,hc'⟩
   · rw[pe]at hh;obtain rfl:=wH hh
     obtain⟨v,h1,h2⟩:=hval j a ha
     exact⟨v,h1,h2.mono hle fun _ _ _ h=>h⟩
   · obtain⟨v,h1,h2⟩:=r.val i c l' hc' (pn i l' hne hh) j a ha
     exact⟨v,h1,h2.mono hle fun _ _ _ h=>h⟩
 · intro i j c c' l1 l2 hc hc' h1 h2 hne hbl
   rcases hget i c hc with ⟨e1,_⟩|⟨n1,g1⟩
   · subst e1
     rw[pe]at h1;obtain rfl:=wH h1
     exact(hdis j c' l2 hc' (fun e=>hne e.symm) (pn j l2 (fun e=>hne e.symm) h2) hbl.symm).symm
   · rcases hget j c' hc' with ⟨e2,_⟩|⟨n2,g2⟩
     · subst e2
       rw[pe]at h2;obtain rfl:=wH h2
       exact hdis i c l1 hc n1 (pn i l1 n1 h1) hbl
     · exact r.ig i j c c' l1 l2 g1 g2 (pn i l1 n1 h1) (pn j l2 n2 h2) hne hbl
 · intro b o v i c l' hm hc hh hbl
   rcases hget i c hc with ⟨rfl,rfl⟩|⟨hne,hc'⟩
   · rw[pe]at hh;obtain rfl:=wH hh;exact him b o v hm hbl
   · exact r.iS b o v i c l' hm hc' (pn i l' hne hh) hbl
theorem R.grow (r:R L w0 ι M h w) (o:Obj):R L w0 ι M h (w.alloc o):=by
 have hs:(w.alloc o).heap.size=w.heap.size+1:=Array.size_push _
 have cl:∀b i,b<w.heap.size→(w.alloc o).cell? (at' b i)=w.cell? (at' b i):=fun b i hb=>World.cell?_alloc_lt w o _ hb
 refine⟨r.below.alloc r.below.size o,r.kU, ?_, ?_, ?_,r.ig, ?_,r.iS⟩
 · intro i c l hc hl
   have:=r.iR i c l hc hl
   exact⟨this.1,by rw[hs];omega,this.2.2⟩
 · intro i c l hc hl o' ho
   have h1:=r.own i c l hc hl o' ho
   have h2:=(r.iR i c l hc hl).2.1
   rw[cl _ _ h2]
   refine⟨h1.1, ?_⟩
   rw[show at' l.block (l.base+o')=⟨l.block,l.base+o',none⟩from rfl,World.frozen?_alloc_past o _ _ h2];exact h1.2
 · intro i c l hc hl j a ha
   obtain⟨v,h1,h2⟩:=r.val i c l hc hl j a ha
   exact⟨v,by rw[cl _ _ (r.iR i c l hc hl).2.1];exact h1,h2⟩
 · intro b i v hm
   have:=r.ar b i v hm
   rw[cl _ _ (lU this)];exact this
theorem R.sY (r:R L w0 ι M h w) {id:Nat} (hd:ι id=none) {cs:List AV} {arr:Array Value} {t:TypeId} {fz:Nat×Nat} {h':H} (hfz:fz=(0,0)∨arr.size≤fz.1) (hn:h.next≤h'.next) (hid:id<h'.next) (hget:∀i c,h'.get i=some c→(i=id∧c=cs)∨(i≠id∧h.get i=some c))
 (hlen:cs.length≤arr.size) (hv:∀(i:Nat) (a:AV),cs[i]?=some a→∃v,arr[i]?=some v∧V L ι M a v):
 R L w0 (ι.put id ⟨w.heap.size,0,cs.length,arr.size⟩) M h' (w.alloc (.cells arr t fz)):=by
 have hg:(w.alloc (.cells arr t fz)).heap[w.heap.size]?=some (.cells arr t fz):=by
  show(w.heap.push _)[w.heap.size]?=_
  rw[Array.getElem?_push_size]
 have hc:∀o,(w.alloc (.cells arr t fz)).cell? (at' w.heap.size o)=arr[o]?:=fun o=>by
  unfold World.cell? at';simp only[hg];rfl
 have hf:∀o,o<arr.size→(w.alloc (.cells arr t fz)).frozen? (at' w.heap.size o)=false:=fun o ho=>by
  unfold World.frozen? at';simp only[hg]
  rcases hfz with rfl|hz
  · simp
  · obtain⟨lo,hi⟩:=fz;simp only at hz ⊢;simp;omega
 refine(r.grow (.cells arr t fz)).put hd _ hn hid hget ⟨r.below.size,by simp,rfl,hlen⟩ ?_ ?_ ?_ ?_
 · intro o ho
   simp only[wY]
   rw[hc,hf o ho]
   exact⟨by rw[Array.getElem?_eq_getElem ho];rfl,rfl⟩
 · intro i a ha
   simp only[wY]
   rw[hc];exact hv i a ha
 · intro i c l' hc hne hl' hb
   rcases hget i c hc with ⟨e,_⟩|⟨_,hc'⟩
   · exact absurd e hne
   · have:=(r.iR i c l' hc' hl').2.1;simp only at hb;omega
 · intro b o v hm hb
   have:=lU (r.ar b o v hm);simp only at hb;omega
end
end Ab
set_option linter.unusedSimpArgs false
set_option linter.unusedVariables false
namespace Ab
open Go RowKit
section
variable {L:Lk} {w0:World} {ι:Io} {M:Mm} {h:H} {w:World}
theorem V.cg {b:Bool} {v:Value} (h:V L ι M (.bool b) v):v=.bool b:=by cases h with|ar h=>cases h;rfl
theorem V.aF {k:IntKind} {n:Int} {v:Value} (h:V L ι M (.int k n) v):v=.int k n:=by cases h with|ar h=>cases h;rfl
theorem V.cJ {s:ByteArray} {v:Value} (h:V L ι M (.str s) v):v=.string s:=by cases h with|ar h=>cases h;rfl
theorem V.bN {v:Value} (h:V L ι M .cT v):v=.pointer none:=by cases h with|ar h=>cases h;rfl
theorem V.aC {v:Value} (h:V L ι M .aS v):v=.slice none 0 0:=by cases h with|ar h=>cases h;rfl
theorem V.dd {v:Value} (h:V L ι M .fM v):v=.nilFunc:=by cases h with|ar h=>cases h;rfl
theorem V.de {v:Value} (h:V L ι M .fN v):v=.nilIface:=by cases h with|ar h=>cases h;rfl
theorem V.aX {id off:Nat} {v:Value} (h:V L ι M (.aG id off) v):∃l,ι id=some l∧v=.pointer (some (at' l.block (l.base+off))):=by
 cases h with
 |ar h=>cases h
 |aG h=>exact⟨_,h,rfl⟩
theorem V.aJ {id off len sz:Nat} {v:Value} (h:V L ι M (.aH id off len sz) v):∃l cap a,ι id=some l∧v=.slice (some a) len cap∧len≤cap∧(cap≠0→a=at' l.block (l.base+off))∧l.len≤off+cap* sz∧off+cap* sz≤l.ext:=by
 cases h with
 |ar h=>cases h
 |aH h hl ha h1 h2=>exact⟨_,_,_,h,rfl,hl,ha,h1,h2⟩
theorem V.dV {as:List AV} {v:Value} (h:V L ι M (.agg as) v):∃vs:List Value,v=.agg vs.toArray∧as.length=vs.length∧∀(i:Nat) (a:AV) (x:Value),as[i]?=some a→vs[i]?=some x→V L ι M a x:=by
 cases h with
 | ar h => cases h with
   |agg l h=>exact⟨_,rfl,l,fun i a x y z=>.ar (h i a x y z)⟩
 |agg l h=>exact⟨_,rfl,l,h⟩
theorem V.mi {as:List AV} {v:Value} (h:V L ι M (.bW as) v):∃vs:List Value,v=.tuple vs.toArray∧as.length=vs.length∧∀(i:Nat) (a:AV) (x:Value),as[i]?=some a→vs[i]?=some x→V L ι M a x:=by
 cases h with
 | ar h => cases h with
   |bW l h=>exact⟨_,rfl,l,fun i a x y z=>.ar (h i a x y z)⟩
 |bW l h=>exact⟨_,rfl,l,h⟩
theorem V.fJ {f:Nat} {as cs:List AV} {v:Value} (h:V L ι M (.fn f as cs) v):∃(fid:FuncId) (va vc:List Value),v=.func (.func fid) va.toArray vc.toArray∧L.mf fid=some f∧as.length=va.length∧cs.length=vc.length∧
 (∀(i:Nat) (a:AV) (x:Value),as[i]?=some a→va[i]?=some x→V L ι M a x)∧(∀(i:Nat) (a:AV) (x:Value),cs[i]?=some a→vc[i]?=some x→V L ι M a x):=by
 cases h with
 | ar h => cases h with
   |fn hf la lc ha hc=>exact⟨_,_,_,rfl,hf,la,lc,fun i a x y z=>.ar (ha i a x y z),fun i a x y z=>.ar (hc i a x y z)⟩
 |fn hf la lc ha hc=>exact⟨_,_,_,rfl,hf,la,lc,ha,hc⟩
theorem V.bU {t:Nat} {a:AV} {v:Value} (h:V L ι M (.iface t a) v):∃tid x,v=.iface tid x∧L.mt tid=t∧V L ι M a x:=by
 cases h with
 | ar h => cases h with
   |iface ht h=>exact⟨_,_,rfl,ht,.ar h⟩
 |iface ht h=>exact⟨_,_,rfl,ht,h⟩
def Row (L:Lk) (ι:Io) (M:Mm) (w:World) (b base:Nat) (cs:List AV):Prop:=∀(i:Nat) (c:AV),cs[i]?=some c→∃v,w.cell? (at' b (base+i))=some v∧V L ι M c v
theorem R.row (r:R L w0 ι M h w) {id:Nat} {cs:List AV} {l:Loc} (hg:h.get id=some cs) (hi:ι id=some l):Row L ι M w l.block l.base cs:=fun i c hc=>r.val id cs l hg hi i c hc
theorem V.cQ (r:R L w0 ι M h w) {cells:List AV} {off:Nat} {v:Value} (hv:V L ι M (.aN cells off) v):∃b base,v=.pointer (some (at' b (base+off)))∧Row L ι M w b base cells:=by
 cases hv with
 | ar hv => cases hv with
   | @aN _ _ b base vs h1 h2=>exact⟨b,base,rfl,fun i c hc=>⟨vs i,r.ar _ _ _ (h1 i c hc),.ar (h2 i c hc)⟩⟩
theorem V.bD (r:R L w0 ι M h w) {t:Bool} {cells:List AV} {off len sz:Nat} {v:Value} (hv:V L ι M (.aY t cells off len sz) v):∃b base cap a,v=.slice (some a) len cap∧len≤cap∧(cap≠0→a=at' b (base+off))∧cells.length≤off+cap* sz∧(t=true→off+cap* sz=cells.length)∧Row L ι M w b base cells:=by
 cases hv with
 | ar hv => cases hv with
   |aY vs h1 h2 hl ha hc ht=>exact⟨_,_,_,_,rfl,hl,ha,hc,ht,fun i c hc=>⟨vs i,r.ar _ _ _ (h1 i c hc),.ar (h2 i c hc)⟩⟩
theorem Row.part {b base:Nat} {cs:List AV} (hr:Row L ι M w b base cs) (off n:Nat):Row L ι M w b (base+off) ((cs.drop off).take n):=by
 intro i c hc
 have:cs[off+i]?=some c:=by
  rw[xr]at hc
  split at hc
  · rwa [xc]at hc
  · cases hc
 have:=hr (off+i) c this
 rwa [←wS]at this
theorem Row.read {b base:Nat} {cs:List AV} (hr:Row L ι M w b base cs):∃vs:List Value,vs.length=cs.length∧(∀(i:Nat) (v:Value),vs[i]?=some v→w.cell? (at' b (base+i))=some v)∧∀(i:Nat) (c:AV) (v:Value),cs[i]?=some c→vs[i]?=some v→V L ι M c v:=by
 induction cs generalizing base with
 |nil=>exact⟨[],rfl,fun i v h=>by simp at h,fun i c v h=>by simp at h⟩
 | cons c cs ih =>
   obtain⟨v,h1,h2⟩:=hr 0 c rfl
   obtain⟨vs,g1,g2,g3⟩:=ih (base:=base+1) (fun i c' hc=>by
    have:=hr (i+1) c' (by simpa using hc)
    rwa [show base+(i+1)=base+1+i by omega]at this)
   refine⟨v::vs,by simp [g1], ?_, ?_⟩
   · intro i u hu
     cases i with
     |zero=>simp at hu;subst hu;exact h1
     |succ i=>have:=g2 i u (by simpa using hu);rwa [show base+(i+1)=base+1+i by omega]
   · intro i a u ha hu
     cases i with
     |zero=>simp at ha hu;subst ha;subst hu;exact h2
     |succ i=>exact g3 i a u (by simpa using ha) (by simpa using hu)
theorem cL (b o n:Nat):(at' b o).add n=at' b (o+n):=by
 unfold Addr.add at';split
 · rename_i e;subst e;rfl
 · rfl
theorem Row.rl {P:Program} {b base:Nat} {cs:List AV} (hr:Row L ι M w b base cs):∃vs:List Value,vs.length=cs.length∧(loadCells (at' b base) cs.length).run P w=.ok vs.toArray w∧∀(i:Nat) (c:AV) (v:Value),cs[i]?=some c→vs[i]?=some v→V L ι M c v:=by
 obtain⟨vs,h1,h2,h3⟩:=hr.read
 refine⟨vs,h1, ?_,h3⟩
 rw[←h1]
 exact run_loadCells_list w _ vs fun j v hv=>by rw[cL];exact h2 j v hv
def cu (P:Program) (t:TypeId):Option Nat:=(P.info? t).map (·.size)
def qQ (P:Program) (t:TypeId):Option Nat:=(P.info? t).map (·.bytes)
def vI:TypeDesc→Bool
 | .struct _| .array _ _=>true
 |_=>false
def gJ (P:Program) (t:TypeId):Option Bool:=(P.underlying t).map vI
theorem ak {P:Program} {t:TypeId} {n:Nat} (h:cu P t=some n):(Go.sizeOf t).run P w=.ok n w:=by
 unfold cu at h
 cases hi:P.info? t with
 |none=>rw[hi]at h;cases h
 |some i=>rw[hi]at h;obtain rfl:=wH h;simp [Go.sizeOf,typeInfo,hi]
theorem dz {P:Program} {t:Nat} {b:Bool} (h:gJ P t=some b):(isAgg t).run P w=.ok b w:=by
 unfold gJ at h
 cases hi:P.underlying t with
 |none=>rw[hi]at h;cases h
 | some d =>
   rw[hi]at h;obtain rfl:=wH h
   simp only[isAgg,Sem.run_bind,run_underlying hi,Result.andThen_ok]
   cases d<;>rfl
theorem ed {P:Program} {t:TypeId} {agg:Bool} {n:Nat} (ha:gJ P t=some agg) (hn:cu P t=some n) {b base off:Nat} {cs:List AV} (hr:Row L ι M w b base cs) {x:AV} (hx:iO agg n cs off=some x):
 ∃v,(loadVar t (at' b (base+off))).run P w=.ok v w∧V L ι M x v:=by
 unfold iO at hx
 unfold loadVar
 cases agg with
 | true =>
   simp only[if_true]at hx
   split at hx
   · rename_i hle
     obtain rfl:=wH hx
     have hl:((cs.drop off).take n).length=n:=by simp;omega
     obtain⟨vs,h1,h2,h3⟩:=Row.rl (P:=P) (hr.part off n)
     rw[hl]at h1 h2
     refine⟨.agg vs.toArray, ?_,.agg (by rw[hl,h1]) h3⟩
     simp [dz ha,ak hn,h2]
   · cases hx
 | false =>
   simp only[wR,xp]at hx
   obtain⟨v,h1,h2⟩:=hr off x hx
   exact⟨v,by simp [dz ha,h1],h2⟩
theorem gh (r:R L w0 ι M h w) {P:Program} {t:TypeId} {agg:Bool} {n:Nat} (ha:gJ P t=some agg) (hn:cu P t=some n) {p x:AV} {pv:Value} (hp:V L ι M p pv) (hx:cf agg n p h=some x):
 ∃v,(Instr.loadAt t pv).run P w=.ok v w∧V L ι M x v:=by
 unfold cf at hx
 split at hx
 · rename_i id off
   obtain⟨l,h1,rfl⟩:=hp.aX
   cases hg:h.get id with
   |none=>rw[hg]at hx;cases hx
   | some cs =>
     rw[hg]at hx
     obtain⟨v,h2,h3⟩:=ed ha hn (r.row hg h1) hx
     exact⟨v,by simpa [Instr.loadAt,Instr.sureAddr]using h2,h3⟩
 · rename_i cs off
   obtain⟨b,base,rfl,hr⟩:=V.cQ r hp
   obtain⟨v,h2,h3⟩:=ed ha hn hr hx
   exact⟨v,by simpa [Instr.loadAt,Instr.sureAddr]using h2,h3⟩
 · cases hx
theorem V.sc {a:AV} {v:Value} (hv:V L ι M a v) (hs:a.sc=true):v.oneCell'=true∧v.cells= #[v]:=by
 cases hv with
 |ar h=>cases h<;>first|exact⟨rfl,rfl⟩|cases hs
 |aG _=>exact⟨rfl,rfl⟩
 |aH _ _ _ _ _=>exact⟨rfl,rfl⟩
 |fn _ _ _ _ _=>exact⟨rfl,rfl⟩
 |iface _ _=>exact⟨rfl,rfl⟩
 |agg _ _=>cases hs
 |bW _ _=>cases hs
theorem fq:∀{cs:List AV},AV.aE cs=true→∀{i:Nat} {a:AV},cs[i]?=some a→a.sc=true
 |[],_,i,a,h=>by simp at h
 | c :: cs, h, i, a, ha => by
   simp only[AV.aE,wT]at h
   cases i with
   |zero=>simp at ha;subst ha;exact h.1
   |succ i=>exact fq h.2 (by simpa using ha)
theorem V.cells {a:AV} {v:Value} (hv:V L ι M a v) (hs:AV.aE a.cells=true):a.cells.length=v.cells.toList.length∧(∀(i:Nat) (x:AV) (y:Value),a.cells[i]?=some x→v.cells.toList[i]?=some y→V L ι M x y)∧∀y∈v.cells.toList,y.oneCell'=true:=by
 by_cases hagg:∃cs,a=.agg cs
 · obtain⟨cs,rfl⟩:=hagg
   obtain⟨vs,rfl,hl,hv'⟩:=hv.dV
   refine⟨by simpa [AV.cells,Value.cells]using hl,by simpa [AV.cells,Value.cells]using hv', ?_⟩
   intro y hy
   simp only[Value.cells]at hy
   obtain⟨i,hi,rfl⟩:=List.getElem_of_mem hy
   have hi':i<cs.length:=by simpa [hl]using hi
   have:=hv' i cs[i] vs[i] (by simp [hi']) (by simp)
   exact(this.sc (fq hs (i:=i) (by simp [AV.cells,hi']))).1
 · have hc:a.cells=[a]:=by cases a<;>first|rfl|exact absurd ⟨_,rfl⟩ hagg
   rw[hc]at hs ⊢
   simp only[AV.aE,Bool.and_true]at hs
   obtain⟨h1,h2⟩:=hv.sc hs
   rw[h2]
   refine⟨rfl,fun i x y hx hy=> ?_,fun y hy=>by simp at hy;subst hy;exact h1⟩
   cases i with
   |zero=>simp at hx hy;subst hx;subst hy;exact hv
   |succ i=>simp at hx
theorem jz (r : R L w0 ι M h w) {P : Program} {t : TypeId} {n : Nat} (hn : cu P t = some n) {p x : AV} {pv xv : Value} (hp : V L ι M p pv) (hx : V L ι M x xv) {h' : H} (hs : dG n p x h = some h') :
 ∃w',(Instr.storeAt t pv xv).run P w=.ok () w'∧R L w0 ι M h' w':=by
 unfold dG at hs
 split at hs
 · rename_i id off
   obtain⟨l,h1,rfl⟩:=hp.aX
   cases hg:h.get id with
   |none=>rw[hg]at hs;cases hs
   | some cs =>
     rw[hg]at hs
     simp only[wP]at hs
     split at hs
     · rename_i hc
       obtain⟨_,hlen,hoff,hsc⟩:=hc
       obtain rfl:=wH hs
       obtain⟨g1,g2,g3⟩:=hx.cells hsc
       have hb:=r.iR id cs l hg h1
       have hrun:=run_storeCells_cells (P:=P) l.block (l.base+off) xv.cells.toList 0 w
        (fun j hj=>(r.own id cs l hg h1 (off+j) (by omega)).1|>fun q=>by simpa [at',wS]using q)
        (fun j hj=>(r.own id cs l hg h1 (off+j) (by omega)).2|>fun q=>by simpa [at',wS]using q) g3
       refine⟨w.setCells l.block (l.base+off) xv.cells.toList, ?_,cK h1 x.cells xv.cells.toList off g1 (by omega) g2 r hg⟩
       have hsz:xv.cells.size=n:=by simpa [hlen]using g1.symm
       simp only[Instr.storeAt,Instr.sureAddr,Sem.run_bind,Sem.run_pure,Result.andThen_ok,storeVar,ak hn,hsz,ne_eq,not_true_eq_false,xp]
       simpa [at']using hrun
     · cases hs
 · cases hs
def cS:Value→Option AV
 | .bool b=>some (.bool b)
 | .int k n=>some (.int k n)
 | .string s=>some (.str s)
 | .pointer none=>some .cT
 | .slice none 0 0=>some .aS
 | .nilFunc=>some .fM
 | .nilIface=>some .fN
 |_=>none
def ph:List Value→Option (List AV)
 |[]=>some []
 |v::r=>(cS v).bind fun a=>(ph r).bind fun as=>some (a::as)
def cV:Value→Option AV
 | .agg cs=>(ph cs.toList).map .agg
 |v=>cS v
def cX (L:Lk):Operand→Option X
 | .tmp t=>some (.t t)
 | .const v=>(cV v).map .c
 | .func f=>(L.mf f).map fun k=>.c (.fn k [] [])
 | .global _=>none
theorem jU {v:Value} {a:AV} (h:cS v=some a):VI L M a v∧a.sc=true:=by
 unfold cS at h
 split at h<;>first|(obtain rfl:=wH h;exact⟨by constructor,rfl⟩)|cases h
theorem fH : ∀ {vs : List Value} {as : List AV}, ph vs = some as → as.length = vs.length ∧ (∀ (i : Nat) (a : AV) (v : Value), as[i]? = some a → vs[i]? = some v → VI L M a v) ∧ AV.aE as = true
 |[],as,h=>by obtain rfl:=wH h;exact⟨rfl,fun i a v h=>by simp at h,rfl⟩
 | v :: vs, as, h => by
   simp only[ph]at h
   cases ha:cS v with
   |none=>rw[ha]at h;cases h
   | some a =>
     cases hr:ph vs with
     |none=>rw[ha,hr]at h;cases h
     | some as' =>
       rw[ha,hr]at h
       obtain rfl:=wH h
       obtain⟨h1,h2,h3⟩:=fH hr
       obtain⟨k1,k2⟩:=jU (L:=L) (M:=M) ha
       refine⟨by simp [h1],fun i x y hx hy=> ?_,by simp [AV.aE,k2,h3]⟩
       cases i with
       |zero=>simp at hx hy;subst hx;subst hy;exact k1
       |succ i=>exact h2 i x y (by simpa using hx) (by simpa using hy)
theorem nV {v:Value} {a:AV} (h:cV v=some a):VI L M a v:=by
 unfold cV at h
 split at h
 · rename_i cs
   cases hc:ph cs.toList with
   |none=>rw[hc]at h;cases h
   | some as =>
     rw[hc]at h;obtain rfl:=wH h
     obtain⟨h1,h2,_⟩:=fH (L:=L) (M:=M) hc
     have:=VI.agg (L:=L) (M:=M) h1 h2
     simpa using this
 · exact(jU h).1
def bm (L:Lk) (ι:Io) (M:Mm) (e:Env) (tmps:Array Value):Prop:=∀t,V L ι M (look e t) (tmps.getD t undef)
theorem bm.mono {ι':Io} {M':Mm} (hι:oT ι ι') (hM:oY M M') {e:Env} {tmps:Array Value} (he:bm L ι M e tmps):bm L ι' M' e tmps:=fun t=>(he t).mono hι hM
theorem aq {e:Env} {a:Act} (he:bm L ι M e a.tmps) {o:Operand} {x:X} (hx:cX L o=some x):V L ι M (x.ev e) (a.eval o):=by
 cases o with
 |tmp t=>obtain rfl:=wH hx;exact he t
 | const v =>
   simp only[cX]at hx
   cases hc:cV v with
   |none=>rw[hc]at hx;cases hx
   |some c=>rw[hc]at hx;obtain rfl:=wH hx;exact .ar (nV hc)
 | func f =>
   simp only[cX]at hx
   cases hc:L.mf f with
   |none=>rw[hc]at hx;cases hx
   | some k =>
     rw[hc]at hx;obtain rfl:=wH hx
     exact .ar (VI.fn (as:=[]) (cs:=[]) (va:=[]) (vc:=[]) hc rfl rfl (fun i a v h=>by simp at h) (fun i a v h=>by simp at h))
 |global _=>cases hx
theorem iG (e:Env):∀(yR:List Nat) (t:Nat),look (ay e yR) t=look e t∨look (ay e yR) t=.bot
 |[],_=>.inr rfl
 | k :: ks, t => by
   simp only[ay,List.map_cons,look]
   split
   · rename_i h;subst h;exact .inl rfl
   · exact iG e ks t
theorem bm.ay {e:Env} {tmps:Array Value} (he:bm L ι M e tmps) (yR:List Nat):bm L ι M (ay e yR) tmps:=fun t=>by
 rcases iG e yR t with h|h
 · rw[h];exact he t
 · rw[h];exact .ar (.bot _)
end
end Ab
namespace Ab
open Go RowKit
def dh (P:Program) (t:TypeId):Option (List AV):=((P.info? t).bind (·.zero)).bind fun v=>ph v.cells.toList
def sg (L:Lk):List Operand→Option (List X)
 |[]=>some []
 |o::r=>(cX L o).bind fun x=>(sg L r).bind fun xs=>some (x::xs)
def sf (L:Lk):Option Operand→Option (Option X)
 |none=>some none
 |some o=>(cX L o).map some
def tQ (L:Lk):List (Nat×Operand)→Option (List (Nat×X))
 |[]=>some []
 |(i,o)::r=>(cX L o).bind fun x=>(tQ L r).bind fun xs=>some ((i,x)::xs)
def uh (L:Lk) (fs:Array Field):List (Nat×Operand)→Option (List (Nat×Nat×X))
 |[]=>some []
 |(i,o)::r=>(fs[i]?).bind fun f=>(cu L.P f.type).bind fun n=>(cX L o).bind fun x=>(uh L fs r).bind fun xs=>some ((f.offset,n,x)::xs)
def lP:BinOp→Bo
 | .add=>.add| .sub=>.sub| .mul=>.mul| .quo=>.quo| .rem=>.rem| .and=>.and| .or=>.or| .xor=>.xor| .andNot=>.andNot| .shl=>.shl| .shr=>.shr
 | .eql=>.eql| .neq=>.neq| .lss=>.lss| .leq=>.leq| .gtr=>.gtr| .geq=>.geq
def isConst:Operand→Bool
 | .const _=>true
 |_=>false
def md (P:Program) (t:TypeId):Bool:=match P.underlying t with|some (.int _)=>true|_=>false
def gu (P:Program):Nat→List Field→Bool
 |_,[]=>true
 | i, f :: r => (f.name != "_" && (f.offset == i && (decide (cu P f.type = some 1) && md P f.type))) && gu P (i + 1) r
def rW (L:Lk) (b:BinOp) (t:TypeId) (x y:Operand):Option cq:=
 (cX L x).bind fun x'=>(cX L y).bind fun y'=>
 match L.P.underlying t with
 |some (.int _)|some .string=>some (.bin (lP b) x' y')
 |some .bool=>(match b with| .eql=>some (.uj false x' y')| .neq=>some (.uj true x' y')|_=>none)
 |some (.pointer _)=>(match b with| .eql=>some (.mD 0 false x' y')| .neq=>some (.mD 0 true x' y')|_=>none)
 |some (.slice _)=>(match b with| .eql=>some (.mD 1 false x' y')| .neq=>some (.mD 1 true x' y')|_=>none)
 |some (.func _ _ _)=>(match b with| .eql=>some (.mD 2 false x' y')| .neq=>some (.mD 2 true x' y')|_=>none)
 |some (.interface _)=>if isConst x||isConst y then(match b with| .eql=>some (.mD 3 false x' y')| .neq=>some (.mD 3 true x' y')|_=>none)else none
 |some (.struct fs)=>if L.sq t&&gu L.P 0 fs.toList then(match b with| .eql=>some (.eqs false fs.size x' y')| .neq=>some (.eqs true fs.size x' y')|_=>none)else none
 |_=>none
def nU (L:Lk) (s d:TypeId) (x:X):Option cq:=
 match L.P.underlying s,L.P.underlying d with
 |some (.int _),some (.int k)=>some (.conv k x)
 |some .string,some .string=>some (.same x)
 |some (.slice e),some .string=>(match L.P.underlying e with|some (.int .u8)=>some (.mu x)|_=>none)
 |some .string,some (.slice e)=>(match L.P.underlying e with|some (.int .u8)=>if cu L.P e=some 1 then some (.qD x)else none|_=>none)
 |_,_=>none
def kN (L:Lk) (t:TypeId) (x:X) (lo hi mx:Option X):Option cq:=
 match L.P.underlying t with
 |some .string=>(match mx with|none=>some (.vA x lo hi)|some _=>none)
 |some (.slice e)=>(cu L.P e).bind fun n=>some (.sl n x lo hi mx)
 |some (.array k e)=>(match mx with|none=>(cu L.P e).bind fun n=>some (.tW k n x lo hi)|some _=>none)
 |_=>none
def rZ (L:Lk) (t:TypeId) (x:X):Option cq:=
 match L.P.underlying t with
 |some .string=>some (.len true x)
 |some (.slice _)=>some (.len false x)
 |some (.array n _)=>some (.mv (.c (.int .i64 n)))
 |some (.pointer a)=>(match L.P.underlying a with|some (.array n _)=>some (.mv (.c (.int .i64 n)))|_=>none)
 |_=>none
def nS (L : Lk) (c : Call) : Option cq :=
 (sg L c.args.toList).bind fun xs=>
 match c.callee with
 | .value f=>(cX L f).bind fun f'=>some (.call f' xs)
 | .invoke x n=>(cX L x).bind fun x=>(L.iv n).map fun p=>.inv2 x p.1 p.2.1 p.2.2 xs
 | .builtin b =>
   match b,xs,c.argTypes.toList with
   | .len,[x],[t]=>rZ L t x
   | .cap,[x],[t]=>(match L.P.underlying t with|some (.slice _)=>some (.cap x)|_=>none)
   | .append, [a, b], [s, t] => (match L.P.underlying s, L.P.underlying t with
     |some (.slice e),some (.int _)=>(cu L.P e).bind fun n=>(qQ L.P e).bind fun m=>(dh L.P e).bind fun z=>some (.kH n m z a b)
     |some (.slice e),some .string=>(cu L.P e).bind fun n=>(qQ L.P e).bind fun m=>(dh L.P e).bind fun z=>if z.length=n then some (.app n m a b)else none
     |some (.slice e),some (.slice _)=>(cu L.P e).bind fun n=>(qQ L.P e).bind fun m=>(dh L.P e).bind fun z=>if z.length=n then some (.app n m a b)else none
     |_,_=>none)
   | .copy,[a,b],[s,_]=>(match L.P.underlying s with|some (.slice e)=>(cu L.P e).bind fun n=>some (.copy n a b)|_=>none)
   | .clear,[a],[s]=>(match L.P.underlying s with|some (.slice e)=>(cu L.P e).bind fun n=>(dh L.P e).bind fun z=>some (.clear n z a)|_=>none)
   | .min,xs,_=>some (.mn xs)
   | .max,xs,_=>some (.mx xs)
   |_,_,_=>none
def ch (L : Lk) : Op → Option cq
 | .move x| .assign x=>(cX L x).map .mv
 | .pick c a b=>(cX L c).bind fun c=>(cX L a).bind fun a=>(cX L b).bind fun b=>some (.pick c a b)
 | .alloc t=>(dh L.P t).map .alloc
 | .box t x=>(cX L x).bind fun x=>(cu L.P t).bind fun n=>some (.box n x)
 | .build t ps => (dh L.P t).bind fun z => match L.P.underlying t with
   |some (.struct fs)=>if fs.toList.all (fun f=>(cu L.P f.type).isSome)=true then(uh L fs ps.toList).map (.build z)else none
   |some (.array _ e)=>(cu L.P e).bind fun n=>(tQ L ps.toList).map fun xs=>.build z (xs.map fun p=>(p.1* n,n,p.2))
   |_=>none
 | .buildSlice t len ps => match L.P.underlying t with
   |some (.slice e)=>(cu L.P e).bind fun n=>(dh L.P e).bind fun z=>(tQ L ps.toList).bind fun xs=>if len* n≤16777216 then some (.dj n len z xs)else none
   |_=>none
 | .load t p=>(gJ L.P t).bind fun a=>(cu L.P t).bind fun n=>(cX L p).map (.load a n)
 | .store t p v=>(cu L.P t).bind fun n=>(cX L p).bind fun p=>(cX L v).map (.store n p)
 | .nilCheck x=>(cX L x).map .pP
 | .binOp b t x y _=>rW L b t x y
 | .unOp u _ x=>(cX L x).bind fun x=>match u with| .not=>some (.not x)| .neg=>some (.neg x)| .xor=>some (.inv x)|_=>none
 | .convert s d x=>(cX L x).bind (nU L s d)
 | .makeInterface t x => match L.P.underlying t with
   |some (.interface _)|none=>none
   |_=>(cX L x).map (.pO (L.mt t))
 | .typeAssert x _ t false=>(L.ta t).bind fun k=>(cX L x).map fun x=>.qN x k
 | .makeFunc (.func f) a b=>(L.mf f).bind fun k=>(sg L a.toList).bind fun a=>(sg L b.toList).map (.pN k a)
 | .makeSlice t l c => match L.P.underlying t with
   |some (.slice e)=>(cu L.P e).bind fun n=>(qQ L.P e).bind fun m=>(dh L.P e).bind fun z=>(cX L l).bind fun l=>(cX L c).map (.jI n m z l)
   |_=>none
 | .slice t x lo hi mx=>(cX L x).bind fun x=>(sf L lo).bind fun lo=>(sf L hi).bind fun hi=>(sf L mx).bind fun mx=>kN L t x lo hi mx
 | .fieldAddr s x f => match L.P.underlying s with
   |some (.struct fs)=>(fs[f]?).bind fun fd=>(cu L.P fd.type).bind fun n=>if n=0 then none else(cX L x).map (.pF fd.offset)
   |_=>none
 | .field s x f => match L.P.underlying s with
   |some (.struct fs)=>(fs[f]?).bind fun fd=>(gJ L.P fd.type).bind fun a=>(cu L.P fd.type).bind fun n=>(cX L x).map (.vm a fd.offset n)
   |_=>none
 | .indexAddr t x i => (cX L x).bind fun x => (cX L i).bind fun i => match L.P.underlying t with
   |some (.slice e)=>(cu L.P e).map fun n=>.pG n x i
   |some (.array k e)=>(cu L.P e).map fun n=>.lZ k n x i
   |_=>none
 | .index t x i => (cX L x).bind fun x => (cX L i).bind fun i => match L.P.underlying t with
   |some .string=>some (.idxs x i)
   |some (.array k e)=>(gJ L.P e).bind fun a=>(cu L.P e).map fun n=>.pK a k n x i
   |_=>none
 | .extract x i=>(cX L x).map fun x=>.pD x i
 | .call c=>nS L c
 | .panic _=>some .vO
 |_=>none
section
variable {L:Lk} {w0:World} {ι:Io} {M:Mm} {h:H} {w:World}
theorem jA {b:BinOp} {k:IntKind} {x y:Int} {t:TypeId} {v:AV} (hv:bq (lP b) k x y=some v):∃v',(binOp b t (.int k x) (.int k y)).run L.P w=.ok v' w∧V L ι M v v':=by
 cases b<;>simp only[lP,bq]at hv
 case shl=>cases hv
 case shr=>cases hv
 case quo=>
  split at hv
  · cases hv
  · rename_i hy;obtain rfl:=wH hv
    exact⟨_,by simp [binOp,Op.intDiv,hy],.ar (.int _ _)⟩
 case rem=>
  split at hv
  · cases hv
  · rename_i hy;obtain rfl:=wH hv
    exact⟨_,by simp [binOp,Op.intDiv,hy],.ar (.int _ _)⟩
 all_goals obtain rfl:=wH hv
 case add=>exact⟨_,by rw[binOp_add];rfl,.ar (.int _ _)⟩
 case sub=>exact⟨_,by rw[binOp_sub];rfl,.ar (.int _ _)⟩
 case mul=>exact⟨_,by rw[binOp_mul];rfl,.ar (.int _ _)⟩
 case and=>exact⟨_,by rw[binOp_and];rfl,.ar (.int _ _)⟩
 case or=>exact⟨_,by rw[binOp_or];rfl,.ar (.int _ _)⟩
 case xor=>exact⟨_,by rw[binOp_xor];rfl,.ar (.int _ _)⟩
 case andNot=>exact⟨_,by rw[binOp_andNot];rfl,.ar (.int _ _)⟩
 case eql=>exact⟨_,by rw[binOp_eql];rfl,.ar (.bool _)⟩
 case neq=>exact⟨_,by rw[binOp_neq];rfl,.ar (.bool _)⟩
 case lss=>exact⟨_,by rw[binOp_lss];rfl,.ar (.bool _)⟩
 case leq=>exact⟨_,by rw[binOp_leq];rfl,.ar (.bool _)⟩
 case gtr=>exact⟨_,by rw[binOp_gtr];rfl,.ar (.bool _)⟩
 case geq=>exact⟨_,by rw[binOp_geq];rfl,.ar (.bool _)⟩
theorem jF {b:BinOp} {x y:ByteArray} {t:TypeId} {v:AV} (hv:kM (lP b) x y=some v):∃v',(binOp b t (.string x) (.string y)).run L.P w=.ok v' w∧V L ι M v v':=by
 cases b<;>simp only[lP,kM]at hv
 case add=>
  split at hv
  · rename_i hle;obtain rfl:=wH hv
    refine⟨.string (x++y), ?_,.ar (.str _)⟩
    have:¬((x.size+y.size:Nat):Int)>IntKind.i64.max:=by simp only[IntKind.max_i64];omega
    simp only[binOp,Op.stringOp,this,xp];rfl
  · cases hv
 all_goals first
  |(obtain rfl:=wH hv;exact⟨_,by simp only[binOp,Op.stringOp];rfl,.ar (.bool _)⟩)
  |exact absurd hv nofun
theorem iP {b:BinOp} {k j:IntKind} {x y:Int} {t:TypeId} {v:AV} (hb:b=.shl∨b=.shr) (hv:qL (lP b) k x y=some v):∃v',(binOp b t (.int k x) (.int j y)).run L.P w=.ok v' w∧V L ι M v v':=by
 unfold qL at hv
 split at hv
 · cases hv
 · rename_i hy
   rcases hb with rfl|rfl<;>simp only[lP]at hv<;>obtain rfl:=wH hv<;>exact⟨_,by simp [binOp,Op.shift,hy],.ar (.int _ _)⟩
theorem kD {b:BinOp} {x y:AV} {xv yv:Value} {t:TypeId} {v:AV} (hx:V L ι M x xv) (hy:V L ι M y yv) (hv:bC (lP b) x y=some v):∃v',(binOp b t xv yv).run L.P w=.ok v' w∧V L ι M v v':=by
 unfold bC at hv
 split at hv
 · rename_i hb;rw[hx.aF,hy.aF];cases b<;>simp only[lP]at hb<;>first|exact iP (.inl rfl) hv|exact absurd hb nofun
 · rename_i hb;rw[hx.aF,hy.aF];cases b<;>simp only[lP]at hb<;>first|exact iP (.inr rfl) hv|exact absurd hb nofun
 · rename_i o k a j c h1 h2
   rw[hx.aF,hy.aF]
   split at hv
   · rename_i e;subst e;exact jA hv
   · cases hv
 · rw[hx.cJ,hy.cJ];exact jF hv
 · cases hv
theorem ij {b:BinOp} {t:TypeId} {x y:Operand} {xv yv:Value} (h1:xv≠.nilIface∨yv≠.nilIface∨isConst x=true∨isConst y=true) (h2:∀c,xv≠.agg c):eqGuard b t x y xv yv=pure ():=by
 cases xv with
 |agg c=>exact absurd rfl (h2 c)
 | nilIface =>
   cases yv with
   | nilIface =>
     rcases h1 with h1|h1|h1|h1
     · exact absurd rfl h1
     · exact absurd rfl h1
     · cases x<;>first|(cases b<;>rfl)|(simp [isConst]at h1)
     · cases y<;>first|(cases b<;>cases x<;>rfl)|(simp [isConst]at h1)
   |_=>cases b<;>rfl
 |_=>cases b<;>rfl
theorem kC {o:Bo} {x y:AV} {xv yv:Value} {v:AV} (hx:V L ι M x xv) (hy:V L ι M y yv) (hv:bC o x y=some v):xv≠.nilIface∧∀c,xv≠.agg c:=by
 unfold bC at hv
 split at hv
 · rw[hx.aF];exact⟨nofun,nofun⟩
 · rw[hx.aF];exact⟨nofun,nofun⟩
 · rw[hx.aF];exact⟨nofun,nofun⟩
 · rw[hx.cJ];exact⟨nofun,nofun⟩
 · cases hv
theorem eX:∃d,Op.maxDepth=d+1:=⟨9999,rfl⟩
def vZ:Nat→TypeDesc→Prop
 |0,.pointer _=>True
 |1,.slice _=>True
 |2,.func _ _ _=>True
 |3,.interface _=>True
 |_,_=>False
theorem kE {k:Nat} {t:TypeId} {d:TypeDesc} (ht:L.P.underlying t=some d) (hd:vZ k d) {x y:AV} {xv yv:Value} (r:R L w0 ι M h w) (hx:V L ι M x xv) (hy:V L ι M y yv) {e:Bool} (he:gG k x y=some e):
 (Op.equal t xv yv).run L.P w=.ok e w:=by
 obtain⟨n,hn⟩:=eX
 unfold Op.equal
 rw[hn]
 unfold gG at he
 split at he
 case h_17=>cases he
 all_goals (obtain rfl:=wH he;cases d<;>first|exact hd.elim|skip)
 case h_1=>rw[hx.bN,hy.bN];simp [Op.equalIn,run_underlying ht]
 case h_2=>obtain⟨l,_,rfl⟩:=hy.aX;rw[hx.bN];simp [Op.equalIn,run_underlying ht]
 case h_3=>obtain⟨b,o,rfl,_⟩:=V.cQ r hy;rw[hx.bN];simp [Op.equalIn,run_underlying ht]
 case h_4=>obtain⟨l,_,rfl⟩:=hx.aX;rw[hy.bN];simp [Op.equalIn,run_underlying ht]
 case h_5=>obtain⟨b,o,rfl,_⟩:=V.cQ r hx;rw[hy.bN];simp [Op.equalIn,run_underlying ht]
 case h_6=>rw[hx.aC,hy.aC];simp [Op.equalIn,run_underlying ht]
 case h_7=>obtain⟨l,c,a,_,rfl,_⟩:=hy.aJ;rw[hx.aC];simp [Op.equalIn,run_underlying ht]
 case h_8=>obtain⟨b,o,c,a,rfl,_⟩:=V.bD r hy;rw[hx.aC];simp [Op.equalIn,run_underlying ht]
 case h_9=>obtain⟨l,c,a,_,rfl,_⟩:=hx.aJ;rw[hy.aC];simp [Op.equalIn,run_underlying ht]
 case h_10=>obtain⟨b,o,c,a,rfl,_⟩:=V.bD r hx;rw[hy.aC];simp [Op.equalIn,run_underlying ht]
 case h_11=>rw[hx.dd,hy.dd];simp [Op.equalIn,run_underlying ht]
 case h_12=>obtain⟨f,a,c,rfl,_⟩:=hy.fJ;rw[hx.dd];simp [Op.equalIn,run_underlying ht]
 case h_13=>obtain⟨f,a,c,rfl,_⟩:=hx.fJ;rw[hy.dd];simp [Op.equalIn,run_underlying ht]
 case h_14=>rw[hx.de,hy.de];simp [Op.equalIn,run_underlying ht]
 case h_15=>obtain⟨f,a,rfl,_⟩:=hy.bU;rw[hx.de];simp [Op.equalIn,run_underlying ht]
 case h_16=>obtain⟨f,a,rfl,_⟩:=hx.bU;rw[hy.de];simp [Op.equalIn,run_underlying ht]
end
end Ab
namespace Ab
open Go RowKit
section
variable {L:Lk} {w0:World} {ι:Io} {M:Mm} {h:H} {w:World}
theorem gQ {a:AV} {v:Value} (hv:V L ι M a v) {i:Int} (h:pc a=some i):∃k,a=.int k i∧v=.int k i:=by
 unfold pc at h
 split at h
 · obtain rfl:=wH h;exact⟨_,rfl,hv.aF⟩
 · cases h
theorem fe {a:AV} {v:Value} (hv:V L ι M a v) {y y' n:Nat} (h:lD a y=some n) (hy:y≤y') (c:BoundsCode):(Instr.sliceBound v y' c).run L.P w=.ok n w∧n≤y:=by
 unfold lD at h
 cases hi:pc a with
 |none=>rw[hi]at h;cases h
 | some i =>
   rw[hi]at h
   simp only[wP]at h
   split at h
   · rename_i hb
     obtain rfl:=wH h
     obtain⟨k,rfl,rfl⟩:=gQ hv hi
     have:0≤i∧i≤(y':Int):=⟨hb.1,by omega⟩
     exact⟨by simp [Instr.sliceBound,asIntOf,this],by omega⟩
   · cases h
def OV (L:Lk) (ι:Io) (M:Mm):Option AV→Option Value→Prop
 |none,none=>True
 |some a,some v=>V L ι M a v
 |_,_=>False
theorem bJ {lo hi:Option AV} {lv hv:Option Value} (hl:OV L ι M lo lv) (hh:OV L ι M hi hv) {b:Bool} {len cap y hh' l':Nat} (hle:len≤y) (hy:y≤cap) (h1:aD hi len y=some hh') (h2:aD lo 0 hh'=some l'):
 (Instr.sliceBounds b len cap lv hv none).run L.P w=.ok (l',hh',cap) w∧l'≤hh'∧hh'≤y:=by
 have a1:(match hv with
  |some v=>Instr.sliceBound v cap (if b then .sliceAcap else .sliceAlen)
  |none=>pure len:Sem Nat).run L.P w=.ok hh' w∧hh'≤y:=by
  cases hi with
  | none =>
    cases hv with
    |none=>simp only[aD]at h1;obtain rfl:=wH h1;exact⟨rfl,hle⟩
    |some _=>exact hh.elim
  | some a =>
    cases hv with
    |none=>exact hh.elim
    |some v=>exact fe hh h1 hy _
 have a2:(match lv with
  |some v=>Instr.sliceBound v hh' .sliceB
  |none=>pure 0:Sem Nat).run L.P w=.ok l' w∧l'≤hh':=by
  cases lo with
  | none =>
    cases lv with
    |none=>simp only[aD]at h2;obtain rfl:=wH h2;exact⟨rfl,Nat.zero_le _⟩
    |some _=>exact hl.elim
  | some a =>
    cases lv with
    |none=>exact hl.elim
    |some v=>exact fe hl h2 (wU _) _
 refine⟨?_,a2.2,a1.2⟩
 have a1':=a1.1
 have a2':=a2.1
 unfold Instr.sliceBounds
 cases hv<;>cases lv<;>simp_all
theorem kK {x : AV} {xv : Value} {lo hi : Option AV} {lv hv : Option Value} {t : TypeId} (ht : L.P.underlying t = some .string) (hx : V L ι M x xv) (hl : OV L ι M lo lv) (hh : OV L ι M hi hv) {v : AV} (he : pd x lo hi = some v) :
 ∃v',(Instr.sliceAt t xv lv hv none).run L.P w=.ok v' w∧V L ι M v v':=by
 unfold pd at he
 split at he
 · rename_i s
   rw[hx.cJ]
   cases h1:aD hi s.size s.size with
   |none=>rw[h1]at he;cases he
   | some hh' =>
     rw[h1]at he;simp only[wP]at he
     cases h2:aD lo 0 hh' with
     |none=>rw[h2]at he;cases he
     | some l' =>
       rw[h2]at he;obtain rfl:=wH he
       have:=(bJ (w:=w) hl hh (b:=false) (wU _) (wU _) h1 h2).1
       exact⟨_,by simp [Instr.sliceAt,Instr.slice,run_underlying ht,this],.ar (.str _)⟩
 · cases he
theorem ob {a b c:Nat} (hb:0<b) (h:a≤c* b):a/b≤c:=by
 have:=Nat.div_le_div_right (c:=b) h
 rwa [Nat.mul_div_cancel _ hb]at this
theorem mr (r : R L w0 ι M h w) {sz : Nat} {x : AV} {xv : Value} {lo hi mx : Option AV} {lv hv mv : Option Value} {t e : TypeId} (ht : L.P.underlying t = some (.slice e)) (hs : cu L.P e = some sz) (hx : V L ι M x xv) (hl : OV L ι M lo lv) (hh : OV L ι M hi hv) (hm : OV L ι M mx mv) {v : AV} (he : ug h sz x lo hi mx = some v) :
 ∃v',(Instr.sliceAt t xv lv hv mv).run L.P w=.ok v' w∧V L ι M v v':=by
 unfold ug at he
 cases mx with
 | none =>
   cases mv with
   |some _=>exact hm.elim
   |none=>
   simp only at he
   split at he
   · rw [hx.aC]
     cases h1:aD hi 0 0 with
     |none=>rw[h1]at he;cases he
     | some hh' =>
       rw[h1]at he;simp only[wP]at he
       cases h2:aD lo 0 hh' with
       |none=>rw[h2]at he;cases he
       | some l' =>
         rw[h2]at he;obtain rfl:=wH he
         obtain⟨b1,b2,b3⟩:=bJ (w:=w) hl hh (b:=true) (wU _) (wU _) h1 h2
         obtain rfl:hh'=0:=by omega
         obtain rfl:l'=0:=by omega
         exact⟨.slice none 0 0,by simp [Instr.sliceAt,Instr.slice,run_underlying ht,b1,ak hs],.ar .aS⟩
   · rename_i id off len s
     split at he
     · rename_i hc;obtain⟨rfl,hpos⟩:=hc
       cases hg:h.get id with
       |none=>rw[hg]at he;cases he
       | some cs =>
         rw[hg]at he;simp only[wP]at he
         split at he
         · rename_i hc
           cases h1:aD hi len ((cs.length-off)/s)with
           |none=>rw[h1]at he;cases he
           | some hh' =>
             rw[h1]at he;simp only[wP]at he
             cases h2:aD lo 0 hh' with
             |none=>rw[h2]at he;cases he
             | some l' =>
               rw[h2]at he;obtain rfl:=wH he
               obtain⟨l,cap,a,hi',rfl,hlc,ha,hlo,hhi⟩:=hx.aJ
               have hb:=r.iR id cs l hg hi'
               have hcap:(cs.length-off)/s≤cap:=ob hpos (by omega)
               obtain⟨b1,b2,b3⟩:=bJ (w:=w) hl hh (b:=true) hc.2 hcap h1 h2
               have hmul:l'* s+(cap-l')* s=cap* s:=by rw[←xk];congr 1;omega
               refine⟨.slice (if cap=l' then some a else some (a.add (l'* s))) (hh'-l') (cap-l'),by simp [Instr.sliceAt,Instr.slice,run_underlying ht,b1,ak hs], ?_⟩
               by_cases hcl:cap=l'
               · rw[if_pos hcl]
                 exact .aH hi' (by omega) (fun hne=>absurd (by omega) hne) (by omega) (by omega)
               · rw[if_neg hcl]
                 exact .aH hi' (by omega) (fun _=>by rw[ha (by omega),cL,wS]) (by omega) (by omega)
         · cases he
     · cases he
   · rename_i t' cells off len s
     split at he
     · rename_i hc;obtain⟨rfl,hpos⟩:=hc
       split at he
       · rename_i hc
         cases h1:aD hi len ((cells.length-off)/s)with
         |none=>rw[h1]at he;cases he
         | some hh' =>
           rw[h1]at he;simp only[wP]at he
           cases h2:aD lo 0 hh' with
           |none=>rw[h2]at he;cases he
           | some l' =>
             rw[h2]at he;obtain rfl:=wH he
             cases hx with
             | ar hx => cases hx with
               | @aY _ _ _ _ _ b base cap a vs g1 g2 hlc ha hce htt=>
               have hcap:(cells.length-off)/s≤cap:=ob hpos (by omega)
               obtain⟨b1,b2,b3⟩:=bJ (w:=w) hl hh (b:=true) hc.2 hcap h1 h2
               have hmul:l'* s+(cap-l')* s=cap* s:=by rw[←xk];congr 1;omega
               refine⟨.slice (if cap=l' then some a else some (a.add (l'* s))) (hh'-l') (cap-l'),by simp [Instr.sliceAt,Instr.slice,run_underlying ht,b1,ak hs], ?_⟩
               by_cases hcl:cap=l'
               · rw[if_pos hcl]
                 exact .ar (.aY vs g1 g2 (by omega) (fun hne=>absurd (by omega) hne) (by omega) (fun q=>by have:=htt q;omega))
               · rw[if_neg hcl]
                 exact .ar (.aY vs g1 g2 (by omega) (fun _=>by rw[ha (by omega),cL,wS]) (by omega) (fun q=>by have:=htt q;omega))
       · cases he
     · cases he
   · cases he
 | some m =>
   cases mv with
   |none=>exact hm.elim
   |some mv=>
   simp only at he
   split at he
   · rename_i h1 h2
     cases lv with
     |some _=>exact hl.elim
     |none=>
     cases hi with
     |none=>cases h2
     |some hi=>
     cases hv with
     |none=>exact hh.elim
     |some hv=>
     obtain⟨k1,rfl,rfl⟩:=gQ (show V L ι M m mv from hm) h1
     obtain⟨k2,rfl,rfl⟩:=gQ (show V L ι M hi hv from hh) h2
     split at he
     · obtain rfl:=wH he
       rw[hx.aC]
       exact⟨.slice none 0 0,by simp [Instr.sliceAt,Instr.slice,Instr.sliceBounds,Instr.sliceBound,asIntOf,run_underlying ht,ak hs],.ar .aS⟩
     · obtain rfl:=wH he
       obtain⟨l,cap,a,hi',rfl,hlc,ha,hlo,hhi⟩:=hx.aJ
       exact⟨.slice (some a) 0 0,by simp [Instr.sliceAt,Instr.slice,Instr.sliceBounds,Instr.sliceBound,asIntOf,run_underlying ht,ak hs],
        .ar (.aY (b:=0) (base:=0) (fun _=>undef) (fun i c hc=>by simp at hc) (fun i c hc=>by simp at hc) (wU _) (fun hne=>absurd rfl hne) (by simp) (fun _=>by simp))⟩
     · obtain rfl:=wH he
       obtain⟨b,base,cap,a,rfl,hlc,ha,hce,htt,hrow⟩:=V.bD r hx
       exact⟨.slice (some a) 0 0,by simp [Instr.sliceAt,Instr.slice,Instr.sliceBounds,Instr.sliceBound,asIntOf,run_underlying ht,ak hs],
        .ar (.aY (b:=0) (base:=0) (fun _=>undef) (fun i c hc=>by simp at hc) (fun i c hc=>by simp at hc) (wU _) (fun hne=>absurd rfl hne) (by simp) (fun _=>by simp))⟩
     · cases he
   · cases he
theorem kJ (r : R L w0 ι M h w) {n sz : Nat} {x : AV} {xv : Value} {lo hi : Option AV} {lv hv : Option Value} {t e : TypeId} (ht : L.P.underlying t = some (.array n e)) (hs : cu L.P e = some sz) (hx : V L ι M x xv) (hl : OV L ι M lo lv) (hh : OV L ι M hi hv) {v : AV} (he : nN h n sz x lo hi = some v) :
 ∃v',(Instr.sliceAt t xv lv hv none).run L.P w=.ok v' w∧V L ι M v v':=by
 unfold nN at he
 split at he
 · rename_i id off
   split at he
   · rename_i hpos
     cases hg:h.get id with
     |none=>rw[hg]at he;cases he
     | some cs =>
       rw[hg]at he;simp only[wP]at he
       split at he
       · rename_i hc
         cases h1:aD hi n n with
         |none=>rw[h1]at he;cases he
         | some hh' =>
           rw[h1]at he;simp only[wP]at he
           cases h2:aD lo 0 hh' with
           |none=>rw[h2]at he;cases he
           | some l' =>
             rw[h2]at he;obtain rfl:=wH he
             obtain⟨l,hi',rfl⟩:=hx.aX
             have hb:=r.iR id cs l hg hi'
             obtain⟨b1,b2,b3⟩:=bJ (w:=w) hl hh (b:=false) (wU _) (wU _) h1 h2
             have hmul:l'* sz+(n-l')* sz=n* sz:=by rw[←xk];congr 1;omega
             refine⟨.slice (some (if n=l' then at' l.block (l.base+off)else(at' l.block (l.base+off)).add (l'* sz))) (hh'-l') (n-l'),by simp [Instr.sliceAt,Instr.sureAddr,run_underlying ht,b1,ak hs], ?_⟩
             by_cases hcl:n=l'
             · rw[if_pos hcl]
               exact .aH hi' (by omega) (fun hne=>absurd (by omega) hne) (by omega) (by omega)
             · rw[if_neg hcl]
               exact .aH hi' (by omega) (fun _=>by rw[cL,wS]) (by omega) (by omega)
       · cases he
   · cases he
 · cases he
theorem dc {i:AV} {iv:Value} (hi:V L ι M i iv) {n j:Nat} (h:dC i n=some j):∃k z,iv=.int k z∧0≤z∧z<(n:Int)∧z.toNat=j∧j<n:=by
 unfold dC at h
 cases hz:pc i with
 |none=>rw[hz]at h;cases h
 | some z =>
   rw[hz]at h;simp only[wP]at h
   split at h
   · rename_i hb
     obtain rfl:=wH h
     obtain⟨k,_,rfl⟩:=gQ hi hz
     exact⟨k,z,rfl,hb.1,hb.2,rfl,by omega⟩
   · cases h
theorem jP (r : R L w0 ι M h w) {sz : Nat} {x i : AV} {xv iv : Value} {t e : TypeId} (ht : L.P.underlying t = some (.slice e)) (hs : cu L.P e = some sz) (hx : V L ι M x xv) (hi : V L ι M i iv) {v : AV} (he : gZ sz x i = some v) :
 ∃v',(Instr.indexAt t xv iv).run L.P w=.ok v' w∧V L ι M v v':=by
 unfold gZ at he
 split at he
 · rename_i id off len s
   split at he
   · rename_i e;subst e
     cases hj:dC i len with
     |none=>rw[hj]at he;cases he
     | some j =>
       rw[hj]at he;obtain rfl:=wH he
       obtain⟨k,z,rfl,z0,z1,rfl,hjl⟩:=dc hi hj
       obtain⟨l,cap,a,hi',rfl,hlc,ha,hlo,hhi⟩:=hx.aJ
       obtain rfl:=ha (by omega)
       exact⟨.pointer (some (at' l.block (l.base+(off+z.toNat* s)))),by simp [Instr.indexAt,asIntOf,run_underlying ht,ak hs,z0,z1,cL,wS],.aG hi'⟩
   · cases he
 · rename_i t' cells off len s
   split at he
   · rename_i e;subst e
     cases hj:dC i len with
     |none=>rw[hj]at he;cases he
     | some j =>
       rw[hj]at he;obtain rfl:=wH he
       obtain⟨k,z,rfl,z0,z1,rfl,hjl⟩:=dc hi hj
       cases hx with
       | ar hx => cases hx with
         | @aY _ _ _ _ _ b base cap a vs g1 g2 hlc ha hce htt=>
         obtain rfl:=ha (by omega)
         exact⟨.pointer (some (at' b (base+(off+z.toNat* s)))),by simp [Instr.indexAt,asIntOf,run_underlying ht,ak hs,z0,z1,cL,wS],.ar (.aN vs g1 g2)⟩
   · cases he
 · cases he
theorem jw {n sz : Nat} {x i : AV} {xv iv : Value} {t e : TypeId} (ht : L.P.underlying t = some (.array n e)) (hs : cu L.P e = some sz) (hx : V L ι M x xv) (hi : V L ι M i iv) {v : AV} (he : dF n sz x i = some v) :
 ∃v',(Instr.indexAt t xv iv).run L.P w=.ok v' w∧V L ι M v v':=by
 unfold dF at he
 split at he
 · rename_i id off
   cases hj:dC i n with
   |none=>rw[hj]at he;cases he
   | some j =>
     rw[hj]at he;obtain rfl:=wH he
     obtain⟨k,z,rfl,z0,z1,rfl,hjl⟩:=dc hi hj
     obtain⟨l,hi',rfl⟩:=hx.aX
     exact⟨.pointer (some (at' l.block (l.base+(off+z.toNat* sz)))),by simp [Instr.indexAt,Instr.sureAddr,asIntOf,run_underlying ht,ak hs,z0,z1,cL,wS],.aG hi'⟩
 · rename_i cells off
   cases hj:dC i n with
   |none=>rw[hj]at he;cases he
   | some j =>
     rw[hj]at he;obtain rfl:=wH he
     obtain⟨k,z,rfl,z0,z1,rfl,hjl⟩:=dc hi hj
     cases hx with
     | ar hx => cases hx with
       | @aN _ _ b base vs g1 g2=>
       exact⟨.pointer (some (at' b (base+(off+z.toNat* sz)))),by simp [Instr.indexAt,Instr.sureAddr,asIntOf,run_underlying ht,ak hs,z0,z1,cL,wS],.ar (.aN vs g1 g2)⟩
 · cases he
theorem jO {n f:Nat} {x:AV} {xv:Value} {s:TypeId} {fs:Array Field} {fd:Field} (ht:L.P.underlying s=some (.struct fs)) (hf:fs[f]?=some fd) (hn:cu L.P fd.type=some n) (hn0:n≠0) (hx:V L ι M x xv) {v:AV} (he:fZ fd.offset x=some v):
 ∃v',(Instr.fieldAt s xv f).run L.P w=.ok v' w∧V L ι M v v':=by
 unfold fZ at he
 split at he
 · obtain rfl:=wH he
   obtain⟨l,hi',rfl⟩:=hx.aX
   exact⟨_,by simp [Instr.fieldAt,Instr.sureAddr,run_underlying ht,hf,fieldPlace,ak hn,hn0,cL,wS],.aG hi'⟩
 · obtain rfl:=wH he
   cases hx with
   | ar hx => cases hx with
     | @aN _ _ b base vs g1 g2=>
     exact⟨_,by simp [Instr.fieldAt,Instr.sureAddr,run_underlying ht,hf,fieldPlace,ak hn,hn0,cL,wS],.ar (.aN vs g1 g2)⟩
 · cases he
theorem dy {agg : Bool} {off n : Nat} {t : TypeId} (ha : gJ L.P t = some agg) (hn : cu L.P t = some n) {cs : List AV} {vs : List Value} (hl : cs.length = vs.length) (hv : ∀ (i : Nat) (a : AV) (x : Value), cs[i]? = some a → vs[i]? = some x → V L ι M a x) {v : AV} (he : iO agg n cs off = some v) :
 ∃v',(part t vs.toArray off).run L.P w=.ok v' w∧V L ι M v v':=by
 unfold iO at he
 cases agg with
 | true =>
   simp only[if_true]at he
   split at he
   · obtain rfl:=wH he
     refine⟨.agg ((vs.drop off).take n).toArray, ?_,.agg (by simp [hl]) fun i a x h1 h2=> ?_⟩
     · simp only[part,Sem.run_bind,dz ha,Result.andThen_ok,if_true,ak hn,Sem.run_pure]
       congr 2
       apply Array.ext'
       simp [Array.toList_extract,List.extract_eq_take_drop]
     · rw[xr]at h1 h2
       split at h1
       · rename_i hlt
         rw[if_pos hlt]at h2
         rw[xc]at h1 h2
         exact hv _ _ _ h1 h2
       · cases h1
   · cases he
 | false =>
   simp only[wR,xp]at he
   obtain⟨hlt,_⟩:=wO.1 he
   refine⟨vs[off]'(hl ▸ hlt), ?_,hv off v _ he (by simp)⟩
   have:vs.toArray[off]?=some (vs[off]'(hl ▸ hlt)):=by simp [hl ▸ hlt]
   simp [part,dz ha,this]
theorem jN {x y:AV} {q:Bool} (h:gK x y=some q):∃k a b,x=.int k a∧y=.int k b∧q=(a==b):=by
 unfold gK at h
 split at h
 · split at h
   · rename_i e;subst e;exact⟨_,_,_,rfl,rfl,(wH h).symm⟩
   · cases h
 · cases h
def ui (d : Nat) (xs ys : Array Value) (f : Field) (_ : Option Bool × Unit) : Sem (ForInStep (Option Bool × Unit)) :=
 if f.name ≠ "_" then do
  let a←part f.type xs f.offset
  let b←part f.type ys f.offset
  let c←Op.equalIn d f.type a b
  if(!c)=true then pure (ForInStep.done (some false,()))
   else pure (ForInStep.yield (none,()))
 else pure (ForInStep.yield (none,()))
theorem pz {d i : Nat} {f : Field} (hn : (f.name != "_") = true) (ho : f.offset = i) (hs : cu L.P f.type = some 1) (ht : md L.P f.type = true) {as bs : List AV} {xs ys : List Value} (la : as.length = xs.length) (lb : bs.length = ys.length)
 (ha:∀(i:Nat) (a:AV) (x:Value),as[i]?=some a→xs[i]?=some x→V L ι M a x) (hb:∀(i:Nat) (a:AV) (x:Value),bs[i]?=some a→ys[i]?=some x→V L ι M a x) {a b:AV} (ea:as[i]?=some a) (eb:bs[i]?=some b) {q:Bool} (hq:gK a b=some q) (s:Option Bool×Unit):
 (ui (d+1) xs.toArray ys.toArray f s).run L.P w=.ok (if q then .yield (none,())else .done (some false,())) w:=by
 obtain⟨k,m,n,rfl,rfl,rfl⟩:=jN hq
 obtain⟨kk,hd⟩:∃kk,L.P.underlying f.type=some (.int kk):=by
  unfold md at ht
  split at ht
  · rename_i kk h;exact⟨kk,h⟩
  · cases ht
 have hg:gJ L.P f.type=some false:=by unfold gJ;rw[hd];rfl
 obtain⟨x,p1,v1⟩:=dy (w:=w) (off:=i) hg hs la ha (v:=.int k m) (by unfold iO;simpa using ea)
 obtain⟨y,p2,v2⟩:=dy (w:=w) (off:=i) hg hs lb hb (v:=.int k n) (by unfold iO;simpa using eb)
 rw[v1.aF]at p1
 rw[v2.aF]at p2
 have hn' : f.name ≠ "_" := by simpa using hn
 unfold ui
 rw[if_pos hn',ho]
 simp only[Sem.run_bind,p1,p2,Result.andThen_ok,Op.equalIn,run_underlying hd,if_true,Sem.run_pure]
 cases (m==n)<;>rfl
theorem oe {d:Nat} {as bs:List AV} {xs ys:List Value} (la:as.length=xs.length) (lb:bs.length=ys.length)
 (ha:∀(i:Nat) (a:AV) (x:Value),as[i]?=some a→xs[i]?=some x→V L ι M a x) (hb:∀(i:Nat) (a:AV) (x:Value),bs[i]?=some a→ys[i]?=some x→V L ι M a x):∀(fs:List Field) (i:Nat),gu L.P i fs=true→as.length=i+fs.length→bs.length=i+fs.length→∀{q:Bool},dE (as.drop i) (bs.drop i)=some q→
 (forIn fs ((none,()):Option Bool×Unit) (ui (d+1) xs.toArray ys.toArray)).run L.P w=.ok (if q then(none,())else(some false,())) w
 | [], i, _, l1, l2, q, hq => by
   rw[List.drop_of_length_le (by simp at l1;omega),List.drop_of_length_le (by simp at l2;omega)]at hq
   obtain rfl:=wH hq
   simp [forIn,Sem.run_pure]
 | f :: fs, i, hf, l1, l2, q, hq => by
   rw[List.length_cons]at l1 l2
   unfold gu at hf
   simp only[wT,decide_eq_true_eq,beq_iff_eq]at hf
   obtain⟨⟨h1,h2,h3,h4⟩,h5⟩:=hf
   obtain⟨a,ea⟩:∃a,as[i]?=some a:=⟨as[i]'(by omega),by simp⟩
   obtain⟨b,eb⟩:∃b,bs[i]?=some b:=⟨bs[i]'(by omega),by simp⟩
   have da:as.drop i=a::as.drop (i+1):=by
    obtain⟨hi,rfl⟩:=wO.1 ea
    exact List.drop_eq_getElem_cons hi
   have db:bs.drop i=b::bs.drop (i+1):=by
    obtain⟨hi,rfl⟩:=wO.1 eb
    exact List.drop_eq_getElem_cons hi
   rw[da,db,dE,wG]at hq
   obtain⟨c,hc,hq⟩:=hq
   have st:=pz (d:=d) (w:=w) h1 h2 h3 h4 la lb ha hb ea eb hc (none,())
   simp only[List.forIn_cons,Sem.run_bind,st,Result.andThen_ok]
   cases c with
   | true =>
     have ih:=oe (d:=d) la lb ha hb fs (i+1) h5 (by omega) (by omega) (q:=q) (by simpa using hq)
     simp only[if_true]
     exact ih
   | false =>
     have:q=false:=by simpa using hq.symm
     subst this
     simp [Sem.run_pure]
theorem kY {fs:Array Field} {t:TypeId} (ht:L.P.underlying t=some (.struct fs)) (hs:L.P.stoodInHeld t=false) (hf:gu L.P 0 fs.toList=true) {as bs:List AV} {xs ys:List Value} (la:as.length=xs.length) (lb:bs.length=ys.length)
 (ha:∀(i:Nat) (a:AV) (x:Value),as[i]?=some a→xs[i]?=some x→V L ι M a x) (hb:∀(i:Nat) (a:AV) (x:Value),bs[i]?=some a→ys[i]?=some x→V L ι M a x) (l1:as.length=fs.size) (l2:bs.length=fs.size) {q:Bool} (hq:dE as bs=some q):
 (Op.equal t (.agg xs.toArray) (.agg ys.toArray)).run L.P w=.ok q w:=by
 obtain⟨d,hd⟩:∃d,Op.maxDepth=d+1+1:=⟨9998,rfl⟩
 have r:=oe (w:=w) (d:=d) la lb ha hb fs.toList 0 hf (by simpa using l1) (by simpa using l2) (q:=q) (by simpa using hq)
 unfold Op.equal
 rw[hd]
 rw[Op.equalIn]
 simp only[Sem.run_bind,run_underlying ht,Result.andThen_ok,run_program,hs,wR,xp]
 have e:(forIn fs ((none,()):Option Bool×Unit) (ui (d+1) xs.toArray ys.toArray)).run L.P w=.ok (if q then(none,())else(some false,())) w:=by
  rw[←Array.forIn_toList];exact r
 have e':=e
 unfold ui at e'
 rw[e']
 cases q<;>simp [Sem.run_pure]
theorem jj : ∀ (fs : List Field) (i d : Nat), gu L.P i fs = true → (fs.any fun f => f.name != "_" && L.P.eqGuardType (d + 1) f.type) = false
 |[],_,_,_=>rfl
 | f :: fs, i, d, hf => by
   unfold gu at hf
   simp only[wT]at hf
   have ih:=jj fs (i+1) d hf.2
   have h4:=hf.1.2.2.2
   have:L.P.eqGuardType (d+1) f.type=false:=by
    unfold md at h4
    unfold Program.eqGuardType
    split at h4
    · rename_i k h;rw[h]
    · cases h4
   rw[List.any_cons,ih,this];simp
theorem kZ {fs:Array Field} {t:TypeId} (ht:L.P.underlying t=some (.struct fs)) (hf:gu L.P 0 fs.toList=true) (b:BinOp) (x y:Operand) (xs ys:Array Value):
 (eqGuard b t x y (.agg xs) (.agg ys)).run L.P w=.ok () w:=by
 have g:L.P.eqGuardType L.P.depth t=false:=by
  show L.P.eqGuardType ((2* (L.P.types.size+Made.depth))+1+1) t=false
  unfold Program.eqGuardType
  rw[ht]
  simp only[]
  rw[←Array.any_toList]
  exact jj fs.toList 0 _ hf
 unfold eqGuard
 cases b<;>simp only[Sem.run_pure,Sem.run_bind,run_program,Result.andThen_ok,g,Bool.not_false,Bool.not_true,if_true,wR,xp]
end
end Ab
namespace Ab
open Go RowKit
section
variable {L:Lk} {w0:World} {ι:Io} {M:Mm} {h:H} {w:World}
def aw (L:Lk) (ι:Io) (M:Mm) (cs:List AV) (arr:List Value):Prop:=cs.length=arr.length∧∀(i:Nat) (a:AV) (v:Value),cs[i]?=some a→arr[i]?=some v→V L ι M a v
theorem aw.nil:aw L ι M [] []:=⟨rfl,fun i a v h=>by simp at h⟩
theorem aw.cons {a:AV} {v:Value} {cs:List AV} {vs:List Value} (hv:V L ι M a v) (hr:aw L ι M cs vs):aw L ι M (a::cs) (v::vs):=by
 refine⟨by simp [hr.1],fun i x y h1 h2=> ?_⟩
 cases i with
 |zero=>simp at h1 h2;subst h1;subst h2;exact hv
 |succ i=>exact hr.2 i x y (by simpa using h1) (by simpa using h2)
theorem aw.append {as bs:List AV} {us vs:List Value} (h1:aw L ι M as us) (h2:aw L ι M bs vs):aw L ι M (as++bs) (us++vs):=by
 refine⟨by simp [h1.1,h2.1],fun i a v ha hv=> ?_⟩
 rw[List.getElem?_append]at ha hv
 rw[←h1.1]at hv
 split at ha
 · rename_i hlt;rw[if_pos hlt]at hv;exact h1.2 i a v ha hv
 · rename_i hlt;rw[if_neg hlt]at hv;exact h2.2 _ a v ha hv
theorem aw.get {cs:List AV} {vs:List Value} (hr:aw L ι M cs vs) {i:Nat} {a:AV} (h:cs[i]?=some a):∃v,vs[i]?=some v∧V L ι M a v:=by
 obtain⟨hi,_⟩:=wO.1 h
 have:vs[i]?=some (vs[i]'(hr.1 ▸ hi)):=by simp [hr.1 ▸ hi]
 exact⟨_,this,hr.2 i a _ h this⟩
theorem aw.set {cs:List AV} {vs:List Value} (hr:aw L ι M cs vs) (i:Nat) {a:AV} {v:Value} (hv:V L ι M a v):aw L ι M (cs.set i a) (vs.set i v):=by
 refine⟨by simp [hr.1],fun j x y h1 h2=> ?_⟩
 by_cases e:j=i
 · subst e
   have hj:j<cs.length:=by obtain⟨hj,_⟩:=wO.1 h1;simpa using hj
   rw[xi hj]at h1
   rw[xi (hr.1 ▸ hj)]at h2
   obtain rfl:=wH h1;obtain rfl:=wH h2;exact hv
 · rw[List.getElem?_set_ne (fun q=>e q.symm)]at h1 h2;exact hr.2 j x y h1 h2
theorem aw.mono {ι':Io} {M':Mm} (hι:oT ι ι') (hM:oY M M') {cs:List AV} {vs:List Value} (hr:aw L ι M cs vs):aw L ι' M' cs vs:=⟨hr.1,fun i a v x y=>(hr.2 i a v x y).mono hι hM⟩
theorem dR:∀(vs cs:List AV) (o:Nat),(setFrom cs o vs).length=cs.length
 |[],_,_=>rfl
 |v::vs,cs,o=>by simp [setFrom,dR vs]
theorem jk:∀(vs:List Value) (arr:List Value) (off k:Nat),((vs.zipIdx k).foldl (fun (cs:Array Value) x=>cs.setIfInBounds (off+x.2) x.1) arr.toArray).toList=(vs.zipIdx k).foldl (fun (cs:List Value) x=>cs.set (off+x.2) x.1) arr
 |[],_,_,_=>rfl
 | v :: vs, arr, off, k => by
   simp only[List.zipIdx_cons,List.foldl_cons]
   have:(arr.toArray.setIfInBounds (off+k) v)=(arr.set (off+k) v).toArray:=by simp
   rw[this,jk vs]
theorem aw.setFrom:∀(as:List AV) (vs:List Value) (cs:List AV) (arr:List Value) (off k:Nat),aw L ι M as vs→aw L ι M cs arr→aw L ι M (setFrom cs (off+k) as) ((vs.zipIdx k).foldl (fun (cs:List Value) x=>cs.set (off+x.2) x.1) arr)
 |[],[],cs,arr,off,k,_,hr=>hr
 | a :: as, v :: vs, cs, arr, off, k, hv, hr => by
   simp only[Ab.setFrom,List.zipIdx_cons,List.foldl_cons]
   have:=aw.setFrom as vs _ _ off (k+1) ⟨by simpa using hv.1,fun i x y h1 h2=>hv.2 (i+1) x y (by simpa using h1) (by simpa using h2)⟩ (hr.set (off+k) (hv.2 0 a v rfl rfl))
   exact this
 |[],_::_,_,_,_,_,hv,_=>by cases hv.1
 |_::_,[],_,_,_,_,hv,_=>by cases hv.1
theorem eG (place : Nat → Option (Nat × Nat)) : ∀ (ps : List (Nat × Nat × AV)) (qs : List (Nat × Value)), ps.length = qs.length → (∀ (i : Nat) (p : Nat × Nat × AV) (q : Nat × Value), ps[i]? = some p → qs[i]? = some q → place q.1 = some (p.1, p.2.1) ∧ V L ι M p.2.2 q.2) →
 ∀{cs r:List AV} {arr:Array Value},aw L ι M cs arr.toList→eP cs ps=some r→∃arr',Instr.fill place arr qs=some arr'∧aw L ι M r arr'.toList
 |[],[],_,_,cs,r,arr,hr,hf=>by obtain rfl:=wH hf;exact⟨arr,rfl,hr⟩
 | (off, size, a) :: ps, (i, v) :: qs, hl, hp, cs, r, arr, hr, hf => by
   simp only[eP]at hf
   split at hf
   · rename_i hc
     obtain⟨h1,h2,h3⟩:=hc
     obtain⟨hpl,hv⟩:=hp 0 _ _ rfl rfl
     simp only at hpl hv
     obtain⟨g1,g2,_⟩:=hv.cells h3
     have hr':aw L ι M (Ab.setFrom cs off a.cells) (v.cells.zipIdx.foldl (fun (cs:Array Value) x=>cs.setIfInBounds (off+x.2) x.1) arr).toList:=by
      rw[←Array.foldl_toList,Array.toList_zipIdx,show arr=arr.toList.toArray by simp,jk]
      exact aw.setFrom a.cells v.cells.toList cs arr.toList off 0 ⟨g1,g2⟩ hr
     obtain⟨arr',k1,k2⟩:=eG place ps qs (by simpa using hl) (fun j p q hp' hq'=>hp (j+1) p q (by simpa using hp') (by simpa using hq')) hr' hf
     refine⟨arr', ?_,k2⟩
     have e1:v.cells.size=size:=by simpa [h1]using g1.symm
     have e2:arr.size=cs.length:=by simpa using hr.1.symm
     simp only[Instr.fill,hpl]
     rw[if_neg (by simp only[xh,bne_iff_ne,ne_eq,decide_eq_true_eq];omega)]
     exact k1
   · cases hf
 |[],_::_,hl,_,_,_,_,_,_=>by cases hl
 |_::_,[],hl,_,_,_,_,_,_=>by cases hl
theorem bX {P:Program} {t:TypeId} {z:List AV} (h:dh P t=some z):∃i zv,P.info? t=some i∧i.zero=some zv∧ph zv.cells.toList=some z:=by
 unfold dh at h
 cases hi:P.info? t with
 |none=>rw[hi]at h;cases h
 | some i =>
   cases hz:i.zero with
   |none=>rw[hi]at h;simp [hz]at h
   |some zv=>rw[hi]at h;simp [hz]at h;exact⟨i,zv,rfl,hz,h⟩
theorem cj {P:Program} {t:TypeId} {i:TypeInfo} {zv:Value} (hi:P.info? t=some i) (hz:i.zero=some zv):(zeroValue t).run P w=.ok zv w:=by simp [zeroValue,typeInfo,hi,hz]
theorem bP {zv:Value} {z:List AV} (h:ph zv.cells.toList=some z):aw L ι M z zv.cells.toList:=by
 obtain⟨h1,h2,_⟩:=fH (L:=L) (M:=M) h
 exact⟨h1,fun i a v x y=>.ar (h2 i a v x y)⟩
theorem dZ {z : List AV} {zv : Array Value} (hr : aw L ι M z zv.toList) : ∀ (n : Nat), aw L ι M (eH n z) ((Array.range (n * zv.size)).map (fun i => zv[i % zv.size]!)).toList := by
 intro n
 have hl:z.length=zv.size:=by simpa using hr.1
 have len:∀n,(eH n z).length=n* z.length:=fun n=>by
  induction n with
  |zero=>simp [eH]
  |succ n ih=>simp [eH,ih,xk,Nat.add_comm]
 have idx:∀n i,i<n* z.length→(eH n z)[i]?=z[i%z.length]?:=fun n=>by
  induction n with
  |zero=>intro i hi;simp at hi
  | succ n ih =>
    intro i hi
    simp only[eH]
    rw[List.getElem?_append]
    split
    · rename_i hlt;rw[Nat.mod_eq_of_lt hlt]
    · rename_i hlt
      rw[ih _ (by rw[xk]at hi;omega)]
      rw[←Nat.mod_eq_sub_mod (by omega)]
 refine⟨by simp [len,hl],fun i a v h1 h2=> ?_⟩
 have hi:i<n* z.length:=by
  obtain⟨hi,_⟩:=wO.1 h1;rwa [len]at hi
 rw[idx n i hi]at h1
 have hpos:0<z.length:=by
  rcases Nat.eq_zero_or_pos z.length with e|e
  · rw[e]at hi;simp at hi
  · exact e
 have hm:i%zv.size<zv.size:=Nat.mod_lt _ (hl ▸ hpos)
 have:v=zv[i%zv.size]!:=by
  simp only[Array.toList_map,Array.toList_range,xa,wI]at h2
  obtain⟨j,hj,rfl⟩:=h2
  rw[List.getElem?_range (by rw[←hl];exact hi)]at hj
  obtain rfl:=wH hj;rfl
 rw[hl]at h1
 refine hr.2 _ a v h1 ?_
 rw[this,getElem!_pos zv _ hm];simp [hm]
theorem bZ {z:List AV} {zv:Array Value} (hr:aw L ι M z zv.toList) (n:Nat):aw L ι M (eH n z) (Builtin.zeroCells zv n).toList:=dZ hr n
structure Made (L:Lk) (ι:Io) (M:Mm) (w:World) (cs:List AV) (mk:Nat→AV) (v':Value) (w':World):Prop where
 ex:∃(dr:Nat) (arr:Array Value) (t:TypeId) (fz:Nat×Nat),w'=({w with drawn:=dr}:World).alloc (.cells arr t fz)∧(fz=(0,0)∨arr.size≤fz.1)∧cs.length≤arr.size∧
  (∀(i:Nat) (a:AV),cs[i]?=some a→∃v,arr[i]?=some v∧V L ι M a v)∧∀(ι':Io) (id:Nat),ι' id=some ⟨w.heap.size,0,cs.length,arr.size⟩→V L ι' M (mk id) v'
theorem dW {e : Env} {a : Act} (he : bm L ι M e a.tmps) : ∀ {os : List Operand} {xs : List X}, sg L os = some xs → aw L ι M (bc e xs) (os.map a.eval)
 |[],xs,h=>by obtain rfl:=wH h;exact aw.nil
 | o :: os, xs, h => by
   simp only[sg]at h
   cases h1:cX L o with
   |none=>rw[h1]at h;cases h
   | some x =>
     cases h2:sg L os with
     |none=>rw[h1,h2]at h;cases h
     | some ys =>
       rw[h1,h2]at h;obtain rfl:=wH h
       exact aw.cons (aq he h1) (dW he h2)
theorem fD {e : Env} {a : Act} (he : bm L ι M e a.tmps) : ∀ {os : List (Nat × Operand)} {xs : List (Nat × X)}, tQ L os = some xs → xs.length = os.length ∧ ∀ (i : Nat) (p : Nat × X) (q : Nat × Operand), xs[i]? = some p → os[i]? = some q → p.1 = q.1 ∧ V L ι M (p.2.ev e) (a.eval q.2)
 |[],xs,h=>by obtain rfl:=wH h;exact⟨rfl,fun i p q h=>by simp at h⟩
 | (k, o) :: os, xs, h => by
   simp only[tQ]at h
   cases h1:cX L o with
   |none=>rw[h1]at h;cases h
   | some x =>
     cases h2:tQ L os with
     |none=>rw[h1,h2]at h;cases h
     | some ys =>
       rw[h1,h2]at h;obtain rfl:=wH h
       obtain⟨g1,g2⟩:=fD he h2
       refine⟨by simp [g1],fun i p q hp hq=> ?_⟩
       cases i with
       |zero=>simp at hp hq;subst hp;subst hq;exact⟨rfl,aq he h1⟩
       |succ i=>exact g2 i p q (by simpa using hp) (by simpa using hq)
theorem jc {e : Env} {a : Act} (he : bm L ι M e a.tmps) {fs : Array Field} : ∀ {os : List (Nat × Operand)} {xs : List (Nat × Nat × X)}, uh L fs os = some xs → xs.length = os.length ∧ ∀ (i : Nat) (p : Nat × Nat × X) (q : Nat × Operand), xs[i]? = some p → os[i]? = some q →
 (∃f,fs[q.1]?=some f∧p.1=f.offset∧cu L.P f.type=some p.2.1)∧V L ι M (p.2.2.ev e) (a.eval q.2)
 |[],xs,h=>by obtain rfl:=wH h;exact⟨rfl,fun i p q h=>by simp at h⟩
 | (k, o) :: os, xs, h => by
   simp only[uh]at h
   cases h0:fs[k]? with
   |none=>rw[h0]at h;cases h
   | some f =>
     cases hn:cu L.P f.type with
     |none=>rw[h0]at h;simp [hn]at h
     | some n =>
       cases h1:cX L o with
       |none=>rw[h0]at h;simp [hn,h1]at h
       | some x =>
         cases h2:uh L fs os with
         |none=>rw[h0]at h;simp [hn,h1,h2]at h
         | some ys =>
           rw[h0]at h;simp [hn,h1,h2]at h;subst h
           obtain⟨g1,g2⟩:=jc he h2
           refine⟨by simp [g1],fun i p q hp hq=> ?_⟩
           cases i with
           |zero=>simp at hp hq;subst hp;subst hq;exact⟨⟨f,h0,rfl,hn⟩,aq he h1⟩
           |succ i=>exact g2 i p q (by simpa using hp) (by simpa using hq)
end
end Ab
namespace Ab
open Go RowKit
section
variable {L:Lk} {w0:World} {ι:Io} {M:Mm} {h:H} {w:World}
theorem aw.at {cs:List AV} {arr:Array Value} (hr:aw L ι M cs arr.toList):cs.length≤arr.size∧∀(i:Nat) (a:AV),cs[i]?=some a→∃v,arr[i]?=some v∧V L ι M a v:=
 ⟨by have:=hr.1;simp at this;omega,fun i a ha=>by obtain⟨v,h1,h2⟩:=hr.get ha;exact⟨v,by simpa using h1,h2⟩⟩
theorem eW {cs:List AV} {arr:Array Value} (hr:aw L ι M cs arr.toList) (t:TypeId) {mk:Nat→AV} {v':Value} (hv:∀(ι':Io) (id:Nat),ι' id=some ⟨w.heap.size,0,cs.length,arr.size⟩→V L ι' M (mk id) v'):
 Made L ι M w cs mk v' (w.alloc (.cells arr t)):=
 ⟨w.drawn,arr,t,(0,0),rfl,.inl rfl,hr.at.1,hr.at.2,hv⟩
theorem V.nY {a:AV} {v:Value} (hv:V L ι M a v) (hs:AV.aE a.cells=true):aw L ι M a.cells v.cells.toList:=⟨(hv.cells hs).1,(hv.cells hs).2.1⟩
theorem eD (P:Program) (need ju:Nat) (e:TypeId):∃n,need≤n∧(choose (.appendCap need ju e)).run P w=.ok n {w with drawn:=w.drawn+1}:=by
 refine⟨_, ?_,by rw[run_choose];rfl⟩
 simp only[Question.cut]
 exact Nat.le_add_right _ _
theorem fi {P:Program} (e:TypeId) (s:ByteArray):∃(n:Nat) (arr:Array Value),s.size≤n∧arr=(s.data.map fun b=>Value.int .u8 b.toNat)++Array.replicate (n-s.size) (.int .u8 0)∧arr.size=n∧
 (Conv.stringToBytes e s).run P w=.ok (.slice (some ⟨w.heap.size,0,none⟩) s.size n) (({w with drawn:=w.drawn+1}:World).alloc (.cells arr e (n,n+1))):=by
 obtain⟨n,hn,hc⟩:=eD (w:=w) P s.size 0 e
 generalize ha:(s.data.map fun b=>Value.int .u8 b.toNat)++Array.replicate (n-s.size) (.int .u8 0)=arr
 have hsz:arr.size=n:=by
  rw[←ha,Array.size_append,Array.size_map,Array.size_replicate]
  have:s.data.size=s.size:=rfl
  omega
 refine⟨n,arr,hn,ha.symm,hsz, ?_⟩
 generalize hw:({w with drawn:=w.drawn+1}:World)=w1 at hc ⊢
 have hws:w1.heap.size=w.heap.size:=by rw[←hw]
 have hheap:(w1.alloc (.cells arr e)).heap[w1.heap.size]?=some (.cells arr e (0,0)):=by
  show(w1.heap.push _)[w1.heap.size]?=_
  rw[Array.getElem?_push_size]
 have hshape:(w1.alloc (.cells arr e)).shape? w1.heap.size=some (e,n):=by
  simp only[World.shape?,hheap,hsz]
 have hfr:(w1.alloc (.cells arr e)).freeze {block:=w1.heap.size,off:=n} 1=w1.alloc (.cells arr e (n,n+1)):=by
  simp only[World.freeze]
  rw[if_neg (by decide)]
  unfold World.alloc
  congr 1
  apply Array.ext_getElem?
  intro k
  simp only[Array.getElem?_modify,Array.getElem?_push]
  by_cases hk:k=w1.heap.size
  · subst hk;simp
  · have:¬w1.heap.size=k:=fun q=>hk q.symm
    simp [hk,this]
 unfold Conv.stringToBytes
 simp only[Sem.run_bind,hc,Result.andThen_ok,ha,newRow,run_newObj,Sem.run_pure,markStringish,run_shape,World.alloc_eq,hshape,run_freeze,hfr,hws]
 rw[←hws,hshape]
 simp only[run_freeze,hfr,Result.andThen_ok,Sem.run_pure]
theorem gk {e : Env} {a : Act} (he : bm L ι M e a.tmps) {o : Oper} {x : cq} (hc : ch L o.op = some x) {cs : List AV} {mk : Nat → AV} (hb : bg e x = some (cs, mk)) :
 ∃v' w',(execOp a.eval o).run L.P w=.ok (.value v') w'∧Made L ι M w cs mk v' w':=by
 obtain⟨dst,op,ty,pos,after,guard⟩:=o
 dsimp only at hc
 cases op with
 | alloc t =>
   simp only[ch,wI]at hc
   obtain⟨z,hz,rfl⟩:=hc
   simp only[bg]at hb
   split at hb
   · obtain⟨i,zv,hi,hzv,hcs⟩:=bX hz
     obtain⟨rfl,rfl⟩:=wJ (wH hb)
     have hrow:=bP (L:=L) (ι:=ι) (M:=M) hcs
     refine⟨.pointer (some ⟨w.heap.size,0,none⟩),w.alloc (.cells zv.cells t),by simp [execOp,Instr.alloc,cj hi hzv,newVar,newRow],eW hrow t fun ι' id hid=>V.aG (l:=⟨w.heap.size,0,z.length,zv.cells.size⟩) hid⟩
   · cases hb
 | box t y =>
   simp only[ch,wG]at hc
   obtain⟨x',hx,n,hn,hc⟩:=hc
   obtain rfl:=wH hc
   simp only[bg]at hb
   split at hb
   · rename_i hcd
     obtain⟨rfl,rfl⟩:=wJ (wH hb)
     have hv:=aq he hx
     refine⟨.pointer (some ⟨w.heap.size,0,none⟩),w.alloc (.cells (a.eval y).cells t),by simp [execOp,Instr.box,newVar,newRow],eW (hv.nY hcd.2) t fun ι' id hid=>V.aG (l:=⟨w.heap.size,0,_,_⟩) hid⟩
   · cases hb
 | buildSlice t len ps =>
   simp only[ch]at hc
   split at hc
   · rename_i el ht
     simp only[wG]at hc
     obtain⟨n,hn,z,hz,xs,hxs,hc⟩:=hc
     split at hc
     · rename_i hle
       obtain rfl:=wH hc
       simp only[bg]at hb
       split at hb
       · rename_i hcd
         obtain⟨hzl,hpos,hsc⟩:=hcd
         simp only[wG]at hb
         obtain⟨r,hf,hb⟩:=hb
         obtain⟨rfl,rfl⟩:=wJ (wH hb)
         obtain⟨i,zv,hi,hzv,hcs⟩:=bX hz
         have hrow:=bP (L:=L) (ι:=ι) (M:=M) hcs
         have hsz:zv.cells.size=n:=by have:=hrow.1;simp at this;omega
         obtain⟨g1,g2⟩:=fD he hxs
         obtain⟨arr,k1,k2⟩:=eG (L:=L) (ι:=ι) (M:=M) (fun i=>some (i* n,n)) (xs.map fun p=>(p.1* n,n,p.2.ev e)) (ps.toList.map fun q=>(q.1,a.eval q.2)) (by simp [g1])
          (fun j p q hp hq=>by
            simp only[xa,wI]at hp hq
            obtain⟨p',hp',rfl⟩:=hp
            obtain⟨q',hq',rfl⟩:=hq
            obtain⟨e1,e2⟩:=g2 j p' q' hp' hq'
            exact⟨by simp only[e1],e2⟩) (dZ hrow len) hf
         have harr:(Array.range (len* n)).map (fun i=>(if len* n=0 then #[]else zv.cells)[i%(if len* n=0 then(#[]:Array Value)else zv.cells).size]!)=(Array.range (len* zv.cells.size)).map (fun i=>zv.cells[i%zv.cells.size]!):=by
          rw[hsz]
          by_cases h0:len* n=0
          · simp [h0]
          · simp only[if_neg h0,hsz]
         refine⟨.slice (some ⟨w.heap.size,0,none⟩) len len,w.alloc (.cells arr el), ?_,eW k2 el fun ι' id hid=> ?_⟩
         · simp only[execOp,Instr.buildSlice,Sem.run_bind,run_underlying ht,Result.andThen_ok,ak hn]
           rw[if_neg (by omega)]
           have k1':Instr.fill (fun i=>some (i* n,n)) ((Array.range (len* zv.cells.size)).map (fun i=>zv.cells[i%zv.cells.size]!)) (Array.map (fun q=>(q.1,a.eval q.2)) ps).toList=some arr:=by
            rw[Array.toList_map];exact k1
           by_cases h0:len* n=0
           · simp only[if_pos h0]at harr
             rw[if_pos h0]
             simp only[Sem.run_bind,Sem.run_pure,Result.andThen_ok,harr,k1']
             simp [newRow]
           · simp only[if_neg h0]at harr
             rw[if_neg h0]
             simp only[Sem.run_bind,Sem.run_pure,Result.andThen_ok,cj hi hzv,harr,k1']
             simp [newRow]
         · have hra:=k2.1
           have hrl:r.length=len* n:=by
            have:∀(ps:List (Nat×Nat×AV)) (cs r:List AV),eP cs ps=some r→r.length=cs.length:=by
             intro ps
             induction ps with
             |nil=>intro cs r hr;obtain rfl:=wH hr;rfl
             | cons p ps ih =>
               intro cs r hr
               obtain⟨o,s,v⟩:=p
               simp only[eP]at hr
               split at hr
               · rw[ih _ _ hr,dR]
               · cases hr
            rw[this _ _ _ hf,(dZ hrow len).1];simp [hsz]
           exact V.aH hid (wU _) (fun _=>rfl) (by simp [hrl]) (by simp only[wY];simp at hra;omega)
       · cases hb
     · cases hc
   · cases hc
 | makeSlice t l c =>
   simp only[ch]at hc
   split at hc
   · rename_i el ht
     simp only[wG,wI]at hc
     obtain⟨n,hn,m,hm,z,hz,l',hl,c',hc',rfl⟩:=hc
     simp only[bg]at hb
     split at hb
     · rename_i li ci hli hci
       split at hb
       · rename_i hcd
         obtain⟨c1,c2,c3,c4,c5,c6,c7⟩:=hcd
         obtain⟨rfl,rfl⟩:=wJ (wH hb)
         obtain⟨i,zv,hi,hzv,hcs⟩:=bX hz
         have hrow:=bP (L:=L) (ι:=ι) (M:=M) hcs
         have hsz:zv.cells.size=n:=by have:=hrow.1;simp at this;omega
         have hlv:=aq he hl;rw[hli]at hlv
         have hcv:=aq he hc';rw[hci]at hcv
         have hwl:IntKind.i64.wrap li=li:=IntWalk.i64_in _ (by omega)
         have hwc:IntKind.i64.wrap ci=ci:=IntWalk.i64_in _ (by omega)
         have hby:i.bytes=m:=by unfold qQ at hm;rw[hi]at hm;exact wH hm
         have hsi:i.size=n:=by unfold cu at hn;rw[hi]at hn;exact wH hn
         have hrow':=dZ hrow ci.toNat
         have harr:(Array.range (ci.toNat* n)).map (fun i=>(if ci.toNat* n=0 then #[]else zv.cells)[i%(if ci.toNat* n=0 then(#[]:Array Value)else zv.cells).size]!)=(Array.range (ci.toNat* zv.cells.size)).map (fun i=>zv.cells[i%zv.cells.size]!):=by
          rw[hsz]
          by_cases h0:ci.toNat* n=0
          · simp [h0]
          · simp only[if_neg h0,hsz]
         refine⟨.slice (some ⟨w.heap.size,0,none⟩) li.toNat ci.toNat,w.alloc (.cells ((Array.range (ci.toNat* zv.cells.size)).map (fun i=>zv.cells[i%zv.cells.size]!)) el), ?_,eW hrow' el fun ι' id hid=> ?_⟩
         · have hlv':=hlv.aF;have hcv':=hcv.aF
           simp only[execOp,Instr.makeSlice,Sem.run_bind,run_underlying ht,Result.andThen_ok,hlv',hcv',asInt,asIntOf,Sem.run_pure,typeInfo,run_program,hi,hwl,hwc,hby]
           rw[if_neg (by simp only[xh,decide_eq_true_eq];omega)]
           simp only[Sem.run_bind,run_askRoom,Result.andThen_ok,ak hn,Sem.run_pure]
           by_cases h0:ci.toNat* n=0
           · simp only[if_pos h0]at harr
             rw[if_pos h0]
             simp only[Sem.run_bind,Sem.run_pure,Result.andThen_ok,harr]
             simp [newRow]
           · simp only[if_neg h0]at harr
             rw[if_neg h0]
             simp only[Sem.run_bind,Sem.run_pure,Result.andThen_ok,cj hi hzv,harr]
             simp [newRow]
         · have hrl:=hrow'.1
           have hlen:(eH ci.toNat z).length=ci.toNat* n:=by rw[hrl];simp [hsz]
           exact V.aH hid (by omega) (fun _=>rfl) (by simp [hlen]) (by simp [hsz])
       · cases hb
     · cases hb
   · cases hc
 | convert s d y =>
   simp only[ch,wG]at hc
   obtain⟨x',hx,hc⟩:=hc
   unfold nU at hc
   split at hc
   · obtain rfl:=wH hc;cases hb
   · obtain rfl:=wH hc;cases hb
   · split at hc
     · obtain rfl:=wH hc;cases hb
     · cases hc
   · rename_i e h1 h2
     split at hc
     · rename_i h3
       split at hc
       · rename_i hn
         obtain rfl:=wH hc
         simp only[bg]at hb
         split at hb
         · rename_i st hst
           split at hb
           · rename_i hro
             obtain⟨rfl,rfl⟩:=wJ (wH hb)
             have hv:=aq he hx;rw[hst]at hv
             have hv':=hv.cJ
             obtain⟨n,arr,hnge,harr,hsz,hrun⟩:=fi (P:=L.P) (w:=w) e st
             have hdl:st.data.toList.length=st.size:=by rw[Array.length_toList];rfl
             refine⟨.slice (some ⟨w.heap.size,0,none⟩) st.size n,({w with drawn:=w.drawn+1}:World).alloc (.cells arr e (n,n+1)), ?_,⟨w.drawn+1,arr,e,(n,n+1),rfl,.inr (by rw[hsz];exact wU _),by rw[List.length_map,hdl,hsz];exact hnge, ?_, ?_⟩⟩
             · simp only[execOp,convert,Sem.run_bind,run_underlying h1,run_underlying h2,Result.andThen_ok,hv',run_underlying h3,hrun,Sem.run_pure]
             · intro i x hx'
               simp only[xa,wI]at hx'
               obtain⟨b,hb',rfl⟩:=hx'
               refine⟨.int .u8 b.toNat, ?_,.ar (.int _ _)⟩
               obtain⟨hi,_⟩:=wO.1 hb'
               rw[harr]
               rw[Array.getElem?_append_left (by simpa using hi)]
               simp only[Array.getElem?_map,wI]
               exact⟨b,by simpa using hb',rfl⟩
             · intro ι' id hid
               exact V.aH hid hnge (fun _=>rfl) (by simp only[List.length_map,hdl];omega) (by simp only[hsz];omega)
           · cases hb
         · cases hb
       · cases hc
     · cases hc
   · cases hc
 |move y=>simp only[ch,wI]at hc;obtain⟨_,_,rfl⟩:=hc;cases hb
 |assign y=>simp only[ch,wI]at hc;obtain⟨_,_,rfl⟩:=hc;cases hb
 |pick y z u=>simp only[ch,wG]at hc;obtain⟨_,_,_,_,_,_,hc⟩:=hc;obtain rfl:=wH hc;cases hb
 | build t ps =>
   simp only[ch,wG]at hc
   obtain⟨z,_,hc⟩:=hc
   split at hc
   · split at hc
     · simp only[wI]at hc;obtain⟨_,_,rfl⟩:=hc;cases hb
     · cases hc
   · simp only[wG,wI]at hc;obtain⟨_,_,_,_,rfl⟩:=hc;cases hb
   · cases hc
 |load t p=>simp only[ch,wG,wI]at hc;obtain⟨_,_,_,_,_,_,rfl⟩:=hc;cases hb
 |store t p v=>simp only[ch,wG,wI]at hc;obtain⟨_,_,_,_,_,_,rfl⟩:=hc;cases hb
 |nilCheck y=>simp only[ch,wI]at hc;obtain⟨_,_,rfl⟩:=hc;cases hb
 | binOp b t y z u =>
   simp only[ch,rW,wG]at hc
   obtain⟨_,_,_,_,hc⟩:=hc
   repeat' split at hc
   all_goals first|(obtain rfl:=wH hc;cases hb)|cases hc
 | unOp u t y =>
   simp only[ch,wG]at hc
   obtain⟨_,_,hc⟩:=hc
   split at hc<;>first|(obtain rfl:=wH hc;cases hb)|cases hc
 | makeInterface t y =>
   simp only[ch]at hc
   split at hc
   · cases hc
   · cases hc
   · simp only[wI]at hc;obtain⟨_,_,rfl⟩:=hc;cases hb
 | typeAssert y xt t ok =>
   cases ok with
   |false=>simp only[ch,wG,wI]at hc;obtain⟨_,_,_,_,rfl⟩:=hc;cases hb
   |true=>cases hc
 | makeFunc f y z =>
   cases f with
   |func f=>simp only[ch,wG,wI]at hc;obtain⟨_,_,_,_,_,_,rfl⟩:=hc;cases hb
   |_=>cases hc
 | slice t y lo hi mx =>
   simp only[ch,kN,wG]at hc
   obtain⟨_,_,_,_,_,_,_,_,hc⟩:=hc
   repeat' split at hc
   all_goals first
    |(obtain rfl:=wH hc;cases hb)
    |(simp only[wG]at hc;obtain⟨_,_,hc⟩:=hc;obtain rfl:=wH hc;cases hb)
    |cases hc
 | fieldAddr s y f =>
   simp only[ch]at hc
   split at hc
   · simp only[wG]at hc
     obtain⟨_,_,_,_,hc⟩:=hc
     split at hc
     · cases hc
     · simp only[wI]at hc;obtain⟨_,_,rfl⟩:=hc;cases hb
   · cases hc
 | field s y f =>
   simp only[ch]at hc
   split at hc
   · simp only[wG,wI]at hc
     obtain⟨_,_,_,_,_,_,_,_,rfl⟩:=hc;cases hb
   · cases hc
 | indexAddr t y i =>
   simp only[ch,wG]at hc
   obtain⟨_,_,_,_,hc⟩:=hc
   split at hc
   · simp only[wI]at hc;obtain⟨_,_,rfl⟩:=hc;cases hb
   · simp only[wI]at hc;obtain⟨_,_,rfl⟩:=hc;cases hb
   · cases hc
 | index t y i =>
   simp only[ch,wG]at hc
   obtain⟨_,_,_,_,hc⟩:=hc
   split at hc
   · obtain rfl:=wH hc;cases hb
   · simp only[wG,wI]at hc;obtain⟨_,_,_,_,rfl⟩:=hc;cases hb
   · cases hc
 |extract y i=>simp only[ch,wI]at hc;obtain⟨_,_,rfl⟩:=hc;cases hb
 | call c =>
   simp only[ch,nS,wG]at hc
   obtain⟨xs,_,hc⟩:=hc
   split at hc
   · simp only[wG]at hc;obtain⟨_,_,hc⟩:=hc;obtain rfl:=wH hc;cases hb
   · simp only[wG,wI]at hc;obtain⟨_,_,_,_,rfl⟩:=hc;cases hb
   · unfold rZ at hc
     repeat' split at hc
     all_goals first
      |(obtain rfl:=wH hc;cases hb)
      |(simp only[wG]at hc;obtain⟨_,_,_,_,_,_,hc⟩:=hc;split at hc<;>first|(obtain rfl:=wH hc;cases hb)|cases hc)
      |(simp only[wG]at hc;obtain⟨_,_,_,_,_,_,hc⟩:=hc;obtain rfl:=wH hc;cases hb)
      |(simp only[wG]at hc;obtain⟨_,_,_,_,hc⟩:=hc;obtain rfl:=wH hc;cases hb)
      |(simp only[wG]at hc;obtain⟨_,_,hc⟩:=hc;obtain rfl:=wH hc;cases hb)
      |cases hc
 |panic y=>obtain rfl:=wH hc;cases hb
 |_=>cases hc
end
end Ab
namespace Ab
open Go RowKit
section
variable {L:Lk} {w0:World} {ι:Io} {M:Mm} {h:H} {w:World}
theorem Row.qC {P:Program} {b base:Nat} {cs:List AV} (hr:Row L ι M w b base cs) (n:Nat) (hn:cs.length=n) {a:Addr} (ha:n≠0→a=at' b base):∃vs:List Value,(loadCells a n).run P w=.ok vs.toArray w∧aw L ι M cs vs:=by
 by_cases h0:n=0
 · subst h0
   obtain rfl:=List.eq_nil_of_length_eq_zero hn
   exact⟨[],rfl,aw.nil⟩
 · obtain rfl:=ha h0
   obtain⟨vs,h1,h2,h3⟩:=hr.rl (P:=P)
   rw[hn]at h2
   exact⟨vs,h2,h1.symm,h3⟩
theorem my (s:ByteArray) (n:Nat):aw L ι M ((s.data.toList.map fun b=>AV.int .u8 b.toNat).take n) ((s.extract 0 n).data.map fun b=>Value.int .u8 b.toNat).toList:=by
 have hd:(s.extract 0 n).data.toList=s.data.toList.take n:=by
  rw[ByteArray.data_extract,Array.toList_extract];simp [List.extract_eq_take_drop]
 rw[Array.toList_map,hd,←List.map_take]
 refine⟨by simp,fun i a v h1 h2=> ?_⟩
 simp only[xa,wI]at h1 h2
 obtain⟨x,hx,rfl⟩:=h1
 obtain⟨y,hy,rfl⟩:=h2
 rw[hx]at hy;obtain rfl:=wH hy
 exact .ar (.int _ _)
theorem eh (r : R L w0 ι M h w) {sz : Nat} {x : AV} {xv : Value} (hx : V L ι M x xv) {n : Nat} {bs : List AV} (hs : aV h sz x = some (n, bs)) :
 (Builtin.lenOf xv).run L.P w=.ok n w∧bs.length=n* sz∧∀m,m≤n→∃vs:List Value,(Builtin.firstCells sz m xv).run L.P w=.ok vs.toArray w∧aw L ι M (bs.take (m* sz)) vs:=by
 unfold aV at hs
 split at hs
 · obtain⟨rfl,rfl⟩:=wJ (wH hs)
   rw[hx.aC]
   exact⟨rfl,by simp,fun m hm=>⟨[],by simp [Builtin.firstCells],by simpa using aw.nil⟩⟩
 · rename_i s
   split at hs
   · rename_i h1;subst h1
     obtain⟨rfl,rfl⟩:=wJ (wH hs)
     rw[hx.cJ]
     refine⟨rfl,by rw[List.length_map,Array.length_toList,Nat.mul_one];rfl,fun m hm=>⟨((s.extract 0 m).data.map fun b=>Value.int .u8 b.toNat).toList, ?_,by rw[Nat.mul_one];exact my s m⟩⟩
     simp only[Builtin.firstCells,Array.toArray_toList];rfl
   · cases hs
 · rename_i id off len s
   split at hs
   · rename_i h1;subst h1
     cases hg:h.get id with
     |none=>rw[hg]at hs;cases hs
     | some cs =>
       rw[hg]at hs;simp only[wP]at hs
       split at hs
       · rename_i hle
         obtain⟨rfl,rfl⟩:=wJ (wH hs)
         obtain⟨l,cap,a,hi,rfl,hlc,ha,_,_⟩:=hx.aJ
         refine⟨rfl,by simp;omega,fun m hm=> ?_⟩
         have hmm:m* s≤len* s:=wW s hm
         obtain⟨vs,h1,h2⟩:=Row.qC (P:=L.P) ((r.row hg hi).part off (m* s)) (m* s) (by simp;omega) (a:=a) (fun h0=>ha (by
          intro hc;subst hc
          have:m=0:=by omega
          subst this;simp at h0))
         refine⟨vs,h1, ?_⟩
         rwa [List.take_take,Nat.min_eq_left hmm]
       · cases hs
   · cases hs
 · rename_i t cells off len s
   split at hs
   · rename_i h1;subst h1
     split at hs
     · rename_i hle
       obtain⟨rfl,rfl⟩:=wJ (wH hs)
       obtain⟨b,base,cap,a,rfl,hlc,ha,_,_,hrow⟩:=V.bD r hx
       refine⟨rfl,by simp;omega,fun m hm=> ?_⟩
       have hmm:m* s≤len* s:=wW s hm
       obtain⟨vs,h1,h2⟩:=Row.qC (P:=L.P) (hrow.part off (m* s)) (m* s) (by simp;omega) (a:=a) (fun h0=>ha (by
        intro hc;subst hc
        have:m=0:=by omega
        subst this;simp at h0))
       refine⟨vs,h1, ?_⟩
       rwa [List.take_take,Nat.min_eq_left hmm]
     · cases hs
   · cases hs
 · cases hs
theorem jo (n:Nat):∀(k c:Nat),c<n→Builtin.growBy n k c≤n+n/4+512
 |0,c,h=>by simp only[Builtin.growBy];omega
 | k + 1, c, h => by
   simp only[Builtin.growBy]
   rw[if_neg (by omega)]
   by_cases h1:c+(c+768)/4<n
   · exact jo n k _ h1
   · cases k with
     |zero=>simp only[Builtin.growBy];omega
     |succ k=>simp only[Builtin.growBy];rw[if_pos (by omega)];omega
theorem iK {n c:Nat} (h:c<n):Builtin.nextslicecap n c≤n+n/4+512:=by
 unfold Builtin.nextslicecap
 split
 · omega
 · split
   · omega
   · exact jo n 4 c h
theorem ft {cs:List AV} {vs:List Value} (hr:aw L ι M cs vs) (hs:AV.aE cs=true):∀v∈vs,v.oneCell'=true:=by
 intro v hv
 obtain⟨i,hi,rfl⟩:=List.getElem_of_mem hv
 have hi':i<cs.length:=by rw[hr.1];exact hi
 exact((hr.2 i cs[i] vs[i] (by simp [hi']) (by simp)).sc (fq hs (i:=i) (by simp [hi']))).1
def bR (L:Lk) (w0:World) (ι:Io) (M:Mm) (h h':H) (v:AV) (v':Value) (w':World):Prop:=
 ∃ι',oT ι ι'∧(∀id l,id<h.next→ι' id=some l→ι id=some l)∧R L w0 ι' M h' w'∧V L ι' M v v'
theorem bR.same {v:AV} {v':Value} {h':H} {w':World} (r:R L w0 ι M h' w') (hv:V L ι M v v'):bR L w0 ι M h h' v v' w':=⟨ι,fun _ _ q=>q,fun _ _ _ q=>q,r,hv⟩
theorem R.mO (r:R L w0 ι M h w):ι h.next=none:=by
 cases hn:ι h.next with
 |none=>rfl
 |some l=>exact absurd (r.kU _ _ hn) (Nat.lt_irrefl _)
theorem R.gU (r:R L w0 ι M h w) (w1:World) (hw1:∃n,w1={w with drawn:=n}) {hd:H} (hhd:hd=h∨∃id,hd=h.del id) {cs:List AV} {arr:Array Value} (t:TypeId) (hr:cs.length≤arr.size∧∀(i:Nat) (a:AV),cs[i]?=some a→∃v,arr[i]?=some v∧V L ι M a v) {n sz cap:Nat} (hn:n≤cap) (hc:cs.length≤cap* sz) (he:cap* sz≤arr.size):
 bR L w0 ι M h (hd.alloc cs) (.aH h.next 0 n sz) (.slice (some ⟨w.heap.size,0,none⟩) n cap) (w1.alloc (.cells arr t)):=by
 obtain⟨dn,rfl⟩:=hw1
 have rd:=r.drew dn
 have hnx:hd.next=h.next:=by rcases hhd with rfl|⟨id,rfl⟩<;>rfl
 have hgd:∀i c,hd.get i=some c→h.get i=some c:=by
  rcases hhd with rfl|⟨id,rfl⟩
  · exact fun i c q=>q
  · intro i c q;simp only[H.eS]at q;split at q
    · cases q
    · exact q
 have rn:=rd.sY (id:=h.next) r.mO (cs:=cs) (arr:=arr) (t:=t) (fz:=(0,0)) (h':=hd.alloc cs) (.inl rfl) (by simp [hnx]) (by simp [hnx])
  (fun i c q=>by
    simp only[H.aZ,hnx]at q
    split at q
    · rename_i e;exact .inl ⟨e,(wH q).symm⟩
    · rename_i e;exact .inr ⟨e,hgd i c q⟩) hr.1 hr.2
 refine⟨_,Io.fL _ r.mO,fun id l hid q=> ?_,rn,V.aH (l:=⟨w.heap.size,0,cs.length,arr.size⟩) (by simp [Io.put]) hn (fun _=>rfl) (by simpa using hc) (by simpa using he)⟩
 simp only[Io.put]at q
 split at q
 · rename_i e;omega
 · exact q
theorem R.tB (r:R L w0 ι M h w) {id:Nat} {cs:List AV} {l:Loc} (hg:h.get id=some cs) (hi:ι id=some l) {off:Nat} (ho:off≤l.len) {as:List AV} (hlen:as.length≤l.ext-off)
 (hv:∀(i:Nat) (a:AV),as[i]?=some a→∃v,w.cell? (at' l.block (l.base+off+i))=some v∧V L ι M a v):
 R L w0 (ι.put h.next ⟨l.block,l.base+off,as.length,l.ext-off⟩) M ((h.del id).alloc as) w:=by
 have hb:=r.iR id cs l hg hi
 have hg':∀i c,((h.del id).alloc as).get i=some c→(i=h.next∧c=as)∨(i≠h.next∧i≠id∧h.get i=some c):=fun i c q=>by
  rw[H.aZ,H.eS,H.kd]at q
  by_cases e:i=h.next
  · rw[if_pos e]at q;exact .inl ⟨e,(wH q).symm⟩
  · rw[if_neg e]at q
    by_cases e2:i=id
    · rw[if_pos e2]at q;cases q
    · rw[if_neg e2]at q;exact .inr ⟨e,e2,q⟩
 refine r.put r.mO _ (by simp) (by simp) (cs:=as) (fun i c q=> ?_) ⟨hb.1,hb.2.1,rfl,hlen⟩ ?_ hv ?_ ?_
 · rcases hg' i c q with h1|⟨h1,_,h3⟩
   · exact .inl h1
   · exact .inr ⟨h1,h3⟩
 · intro o hlo
   simp only at hlo
   have:=r.own id cs l hg hi (off+o) (by omega)
   simpa [wS]using this
 · intro i c l' q hne hl' hbl
   rcases hg' i c q with h1|⟨_,h2,h3⟩
   · exact absurd h1.1 hne
   · simp only at hbl ⊢
     rcases r.ig i id c cs l' l h3 hg hl' hi h2 hbl with hd|hd<;>omega
 · intro b o v hm hbl
   simp only at hbl ⊢
   rcases r.iS b o v id cs l hm hg hi hbl with hd|hd<;>omega
theorem gN {P:Program} {sT xT ty e:TypeId} {i:TypeInfo} {x:Value} {a:Addr} {sLen sCap n:Nat} {vs:List Value} (hs:P.underlying sT=some (.slice e)) (hx:P.underlying xT=some .string∨∃e',P.underlying xT=some (.slice e'))
 (hi:P.info? e=some i) (hl:(Builtin.lenOf x).run P w=.ok n w) (hf:(Builtin.firstCells i.size n x).run P w=.ok vs.toArray w) (hfit:sLen+n≤sCap) {b o:Nat} (ha:vs≠[]→a=at' b o)
 (hc:∀j,j<vs.length→(w.cell? (at' b (o+sLen* i.size+j))).isSome=true) (hfz:∀j,j<vs.length→w.frozen? (at' b (o+sLen* i.size+j))=false) (h1:∀v∈vs,v.oneCell'=true):
 (Builtin.append_ #[sT,xT] ty #[.slice (some a) sLen sCap,x]).run P w=.ok (.slice (some a) (sLen+n) sCap) (w.setCells b (o+sLen* i.size) vs):=by
 have hst:(storeCells (a.add (sLen* i.size)) vs).run P w=.ok () (w.setCells b (o+sLen* i.size) vs):=by
  cases vs with
  |nil=>rfl
  | cons v vs =>
    obtain rfl:=ha (by simp)
    rw[cL]
    have:=run_storeCells_cells (P:=P) b (o+sLen* i.size) (v::vs) 0 w (by simpa [at']using hc) (by simpa [at']using hfz) h1
    simpa [at']using this
 have hsz:(Go.sizeOf e).run P w=.ok i.size w:=by simp [Go.sizeOf,typeInfo,hi]
 rcases hx with hx|⟨e',hx⟩
 all_goals simp [Builtin.append_,run_underlying hs,run_underlying hx,hsz,hl,hfit,hf,hst]
set_option maxHeartbeats 1000000 in
theorem g9 {P:Program} {sT xT ty e:TypeId} {i:TypeInfo} {zv x:Value} {base:Option Addr} {sLen sCap n:Nat} {ju vs:List Value} (hs:P.underlying sT=some (.slice e)) (hx:P.underlying xT=some .string∨∃e',P.underlying xT=some (.slice e'))
 (hi:P.info? e=some i) (hz:i.zero=some zv) (hl:(Builtin.lenOf x).run P w=.ok n w) (hfit:¬sLen+n≤sCap) (hb:1≤i.bytes) (hro:(sLen+n+(sLen+n)/4+512)* i.bytes≤281474976710656)
 (ho':(Builtin.firstCells i.size sLen (.slice base sLen sCap)).run P {w with drawn:=w.drawn+1}=.ok ju.toArray {w with drawn:=w.drawn+1})
 (hf':(Builtin.firstCells i.size n x).run P {w with drawn:=w.drawn+1}=.ok vs.toArray {w with drawn:=w.drawn+1}):
 ∃ cap, sLen + n ≤ cap ∧ (Builtin.append_ #[sT, xT] ty #[.slice base sLen sCap, x]).run P w = .ok (.slice (some ⟨w.heap.size, 0, none⟩) (sLen + n) cap)
   (({w with drawn:=w.drawn+1}:World).alloc (.cells (ju.toArray++vs.toArray++Builtin.zeroCells zv.cells (cap-(sLen+n))) e)):=by
 obtain⟨cap,hcap,hch⟩:=eD (w:=w) P (sLen+n) sCap e
 refine⟨cap,hcap, ?_⟩
 have hsz:(Go.sizeOf e).run P w=.ok i.size w:=by simp [Go.sizeOf,typeInfo,hi]
 have hti:(typeInfo e).run P w=.ok i w:=by simp [typeInfo,hi]
 have h1:Builtin.nextslicecap (sLen+n) sCap* i.bytes≤281474976710656:=xq (wW _ (iK (by omega))) hro
 have h2:¬Builtin.nextslicecap (sLen+n) sCap* i.bytes>2^48:=Nat.not_lt.2 (xq h1 (by decide))
 have h3:i.bytes≠0:=by omega
 have hz':(zeroValue e).run P {w with drawn:=w.drawn+1}=.ok zv {w with drawn:=w.drawn+1}:=cj hi hz
 have hti':(typeInfo e).run P {w with drawn:=w.drawn+1}=.ok i {w with drawn:=w.drawn+1}:=by simp [typeInfo,hi]
 generalize hw1:({w with drawn:=w.drawn+1}:World)=w1 at hch ho' hf' hz' hti' ⊢
 have hws:w1.heap.size=w.heap.size:=by rw[←hw1]
 rcases hx with hx|⟨e',hx⟩
 all_goals
  simp only[Builtin.append_,List.getElem?_toArray,List.getElem?_cons_zero,w9,Sem.run_bind,run_underlying hs,run_underlying hx,Result.andThen_ok,hsz,Sem.run_pure,wR,xp,hl,hfit,hti,h3,or_self,and_false,h2,hch,run_askRoom,ho',hf',hz',hti',newRow,run_newObj,World.alloc_eq,hws,Bool.not_false,if_true]
end
end Ab
namespace Ab
open Go RowKit
section
variable {L:Lk} {w0:World} {ι:Io} {M:Mm} {h:H} {w:World}
theorem ee {b n:Nat} (h:roomy b n=true):1≤b∧(n+n/4+512)* b≤281474976710656:=by simpa [roomy]using h
theorem aw.drop {cs:List AV} {vs:List Value} (hr:aw L ι M cs vs) (n:Nat):aw L ι M (cs.drop n) (vs.drop n):=
 ⟨by simp [hr.1],fun i a v h1 h2=>by rw[xc]at h1 h2;exact hr.2 _ a v h1 h2⟩
theorem ja (r : R L w0 ι M h w) {sT xT ty e : TypeId} (hs : L.P.underlying sT = some (.slice e)) (hx : L.P.underlying xT = some .string ∨ ∃ e', L.P.underlying xT = some (.slice e')) {sz bytes : Nat} {z : List AV} (hn : cu L.P e = some sz) (hb : qQ L.P e = some bytes) (hz : dh L.P e = some z) (hzl : z.length = sz)
 {a b:AV} {av bv:Value} (ha:V L ι M a av) (hbv:V L ι M b bv) {v:AV} {h':H} (he:mo h sz bytes a b=some (v,h')):
 ∃v' w',(Builtin.append_ #[sT,xT] ty #[av,bv]).run L.P w=.ok v' w'∧bR L w0 ι M h h' v v' w':=by
 obtain⟨i,zv,hi,hzv,hcs⟩:=bX hz
 have hsi:i.size=sz:=by unfold cu at hn;rw[hi]at hn;exact wH hn
 have hbi:i.bytes=bytes:=by unfold qQ at hb;rw[hi]at hb;exact wH hb
 subst hsi;subst hbi
 unfold mo at he
 simp only[wG]at he
 obtain⟨⟨n,bs⟩,hsrc,he⟩:=he
 obtain⟨hlen,hbl,hfc⟩:=eh r hbv hsrc
 obtain⟨vs,hfirst,hrow⟩:=hfc n (wU _)
 rw[xj (by omega)]at hrow
 have hone:=fun hsc=>ft hrow hsc
 let w1:World:={w with drawn:=w.drawn+1}
 have r1:R L w0 ι M h w1:=r.drew _
 obtain⟨vs1,hfirst1,hrow1⟩:=(eh r1 hbv hsrc).2.2 n (wU _)
 rw[xj (by omega)]at hrow1
 have hzr:=fun k=>bZ (L:=L) (ι:=ι) (M:=M) (bP hcs) k
 have hrest:∀k,(Builtin.zeroCells zv.cells k).size=k* i.size:=fun k=>by
  have:=(bP (L:=L) (ι:=ι) (M:=M) hcs).1
  simp at this
  simp [Builtin.zeroCells,←this,hzl]
 have hnew:∀(as:List AV) (us:List Value) (k:Nat),aw L ι M as us→(as++bs).length≤(us.toArray++vs1.toArray++Builtin.zeroCells zv.cells k).size∧∀(j:Nat) (x:AV),(as++bs)[j]?=some x→∃v,(us.toArray++vs1.toArray++Builtin.zeroCells zv.cells k)[j]?=some v∧V L ι M x v:=fun as us k hu=>by
  have hq:=hu.append hrow1
  refine⟨by simp only[Array.size_append,List.size_toArray,xu,hu.1,hrow1.1];omega,fun j x hj=> ?_⟩
  obtain⟨v,h1,h2⟩:=hq.get hj
  refine⟨v, ?_,h2⟩
  obtain⟨hjl,_⟩:=wO.1 h1
  rw[Array.getElem?_append_left (by simpa using hjl)]
  simpa using h1
 unfold eK at he
 simp only at he
 split at he
 · rename_i h0
   subst h0
   have hvs:vs=[]:=List.eq_nil_of_length_eq_zero (by rw[←hrow.1];omega)
   subst hvs
   split at he
   · obtain⟨rfl,rfl⟩:=wJ (wH he)
     rw[ha.aC]
     refine⟨.slice none 0 0,w, ?_,bR.same r (.ar .aS)⟩
     have hsz:(Go.sizeOf e).run L.P w=.ok i.size w:=by simp [Go.sizeOf,typeInfo,hi]
     rcases hx with hx|⟨e',hx⟩
     all_goals simp [Builtin.append_,run_underlying hs,run_underlying hx,hsz,hlen,hfirst]
   · obtain⟨rfl,rfl⟩:=wJ (wH he)
     obtain⟨l,cap,a',hil,rfl,hlc,_⟩:=ha.aJ
     exact⟨_,_,gN (ty:=ty) hs hx hi hlen hfirst (by omega) (b:=0) (o:=0) (fun q=>absurd rfl q) (fun j q=>by simp at q) (fun j q=>by simp at q) (fun v q=>by simp at q),bR.same r ha⟩
   · obtain⟨rfl,rfl⟩:=wJ (wH he)
     obtain⟨b',base,cap,a',rfl,hlc,_⟩:=V.bD r ha
     exact⟨_,_,gN (ty:=ty) hs hx hi hlen hfirst (by omega) (b:=0) (o:=0) (fun q=>absurd rfl q) (fun j q=>by simp at q) (fun j q=>by simp at q) (fun v q=>by simp at q),bR.same r ha⟩
   · cases he
 · rename_i h0
   split at he
   · cases he
   · rename_i hsc
     simp only[not_or,Bool.not_eq_false]at hsc
     obtain⟨hsc,hsz0⟩:=hsc
     have hpos:0<i.size:=Nat.pos_of_ne_zero hsz0
     split at he
     · split at he
       · rename_i hro
         obtain⟨rfl,rfl⟩:=wJ (wH he)
         obtain⟨hb1,hb2⟩:=ee hro
         rw[ha.aC]
         obtain⟨cap,hcap,hrun⟩:=g9 (ty:=ty) (base:=none) (sLen:=0) (sCap:=0) (ju:=[]) hs hx hi hzv hlen (by omega) hb1 (by simpa using hb2) (by simp [Builtin.firstCells]) hfirst1
         refine⟨_,_,hrun, ?_⟩
         rw[wY]at hcap ⊢
         refine r.gU w1 ⟨_,rfl⟩ (.inl rfl) e ?_ (n:=n) (sz:=i.size) (cap:=cap) hcap (by rw[hbl];exact wW _ hcap) (by
          have:=hrest (cap-n);simp only[Array.size_append,List.size_toArray,List.length_nil,this,←hrow1.1,hbl];rw[wY,←xk];exact Nat.le_of_eq (by congr 1;omega))
         exact hnew [] [] _ aw.nil
       · cases he
     · rename_i cells off len s
       split at he
       · rename_i hcd
         obtain⟨rfl,hend,hsc2,hro⟩:=hcd
         obtain⟨rfl,rfl⟩:=wJ (wH he)
         obtain⟨hb1,hb2⟩:=ee hro
         obtain⟨b',base,cap0,a',rfl,hlc,haa,hce,htt,hr0⟩:=V.bD r ha
         have hcl:cap0=len:=by
          have:=htt rfl
          have:cap0* i.size=len* i.size:=by omega
          exact Nat.eq_of_mul_eq_mul_right hpos this
         subst hcl
         obtain⟨b1,base1,cap1,a1,hq,hlc1,haa1,hce1,htt1,hr1⟩:=V.bD r1 ha
         injection hq with hq1 hq2 hq3;obtain rfl:=wH hq1;subst hq3
         have hd0:(cells.drop off).length=cap0* i.size:=by simp;omega
         obtain⟨ju,ho1,ho2⟩:=Row.qC (P:=L.P) (hr1.part off (cap0* i.size)) (cap0* i.size) (by simp;omega) (a:=a') (fun q=>haa1 (fun c0=>q (by rw[c0];simp)))
         rw[xj (by omega)]at ho2
         obtain⟨cap,hcap,hrun⟩:=g9 (ty:=ty) (base:=some a') (sLen:=cap0) (sCap:=cap0) (ju:=ju) hs hx hi hzv hlen (by omega) hb1 hb2 (show(loadCells a' _).run L.P w1=_ from ho1) hfirst1
         refine⟨_,_,hrun, ?_⟩
         have hol:ju.length=cap0* i.size:=by rw[←ho2.1,hd0]
         refine r.gU w1 ⟨_,rfl⟩ (.inl rfl) e ?_ hcap (by rw[xu,hbl,hd0,←xk];exact wW _ hcap) (by
          have:=hrest (cap-(cap0+n));simp only[Array.size_append,List.size_toArray,this,←hrow1.1,hbl,hol];rw[←xk,←xk];exact Nat.le_of_eq (by congr 1;omega))
         exact hnew _ _ _ ho2
       · cases he
     · rename_i id off len s
       split at he
       · rename_i hcd
         obtain⟨rfl,hfl⟩:=hcd
         cases hg:h.get id with
         |none=>rw[hg]at he;cases he
         | some cs =>
           rw[hg]at he;simp only[wP]at he
           obtain⟨l,cap0,a',hil,rfl,hlc,haa,hlo,hhi⟩:=ha.aJ
           have hb0:=r.iR id cs l hg hil
           have hmul:(len+n)* i.size=len* i.size+n* i.size:=xk _ _ _
           have hvl:vs.length=n* i.size:=by rw[←hrow.1,hbl]
           split at he
           · rename_i hin
             obtain⟨rfl,rfl⟩:=wJ (wH he)
             have hcap:len+n≤cap0:=Nat.le_of_mul_le_mul_right (by omega:(len+n)* i.size≤cap0* i.size) hpos
             have hrun:=gN (ty:=ty) hs hx hi hlen hfirst hcap (b:=l.block) (o:=l.base+off) (fun _=>haa (by omega))
              (fun j hj=>by have:=(r.own id cs l hg hil (off+len* i.size+j) (by omega)).1;simpa [wS]using this)
              (fun j hj=>by have:=(r.own id cs l hg hil (off+len* i.size+j) (by omega)).2;simpa [wS]using this) (hone hsc)
             refine⟨_,_,hrun, ?_⟩
             have r2:=cK hil bs vs (off+len* i.size) hrow.1 (by omega) hrow.2 r hg
             rw[←wS]at r2
             exact bR.same r2 (V.aH hil (by omega) haa hlo hhi)
           · split at he
             · rename_i hnin htip
               obtain⟨htip,hro⟩:=htip
               obtain⟨rfl,rfl⟩:=wJ (wH he)
               obtain⟨hb1,hb2⟩:=ee hro
               have hd0:(cs.drop off).length=len* i.size:=by simp;omega
               by_cases hfit:len+n≤cap0
               · have hext:(len+n)* i.size≤cap0* i.size:=wW _ hfit
                 have hrun:=gN (ty:=ty) hs hx hi hlen hfirst hfit (b:=l.block) (o:=l.base+off) (fun _=>haa (by omega))
                  (fun j hj=>by have:=(r.own id cs l hg hil (off+len* i.size+j) (by omega)).1;simpa [wS]using this)
                  (fun j hj=>by have:=(r.own id cs l hg hil (off+len* i.size+j) (by omega)).2;simpa [wS]using this) (hone hsc)
                 refine⟨_,_,hrun, ?_⟩
                 have r2:=lI hg hil vs (off+len* i.size) (by omega) (by omega) r
                 rw[←wS]at r2
                 have r3:=r2.tB hg hil (off:=off) (by omega) (as:=cs.drop off++bs) (by rw[xu,hd0,hbl];omega) (fun j x hj=>by
                  rw[List.getElem?_append]at hj
                  split at hj
                  · rename_i hlt
                    rw[xc]at hj
                    obtain⟨u,hu,hVu⟩:=r.val id cs l hg hil (off+j) x hj
                    refine⟨u, ?_,hVu⟩
                    rw[World.cell?_setCells_out _ _ _ _ _ (fun _ _=>.inl (by simp only[at'];omega))]
                    rw[wS];exact hu
                  · rename_i hlt
                    obtain⟨u,hu,hVu⟩:=hrow.get hj
                    obtain⟨hjl,hju⟩:=wO.1 hu
                    refine⟨u, ?_,hVu⟩
                    have hin:=World.cell?_setCells_in l.block vs (l.base+off+len* i.size) w (fun j' hj'=>by have:=(r.own id cs l hg hil (off+len* i.size+j') (by omega)).1;simpa [at',wS]using this) (j-(cs.drop off).length) hjl
                    rw[hju]at hin
                    rw[show l.base+off+j=l.base+off+len* i.size+(j-(cs.drop off).length)by omega]
                    exact hin)
                 refine⟨_,Io.fL _ r.mO,fun id' l' hid q=> ?_,r3,V.aH (l:=⟨l.block,l.base+off,(cs.drop off++bs).length,l.ext-off⟩) (by simp [Io.put]) hfit (fun q=>by simpa using haa q) (by show(cs.drop off++bs).length≤0+cap0* i.size;rw[xu,hd0,hbl];omega) (by show 0+cap0* i.size≤l.ext-off;omega)⟩
                 simp only[Io.put]at q
                 split at q
                 · rename_i e';omega
                 · exact q
               · obtain⟨l1,cap1,a1,hil1,hq,hlc1,haa1,_,_⟩:=ha.aJ
                 injection hq with hq1 hq2 hq3;obtain rfl:=wH hq1;subst hq3
                 rw[hil]at hil1;obtain rfl:=wH hil1
                 obtain⟨ju,ho1,ho2⟩:=Row.qC (P:=L.P) ((r1.row hg hil).part off (len* i.size)) (len* i.size) (by simp;omega) (a:=a') (fun q=>haa (fun c0=>q (by
                  have:len=0:=by omega
                  rw[this];simp)))
                 rw[xj (by omega)]at ho2
                 obtain⟨cap,hcap,hrun⟩:=g9 (ty:=ty) (base:=some a') (sLen:=len) (sCap:=cap0) (ju:=ju) hs hx hi hzv hlen hfit hb1 hb2 (show(loadCells a' _).run L.P w1=_ from ho1) hfirst1
                 refine⟨_,_,hrun, ?_⟩
                 have hol:ju.length=len* i.size:=by rw[←ho2.1,hd0]
                 refine r.gU w1 ⟨_,rfl⟩ (.inr ⟨id,rfl⟩) e ?_ hcap (by rw[xu,hbl,hd0,←xk];exact wW _ hcap) (by
                  have:=hrest (cap-(len+n));simp only[Array.size_append,List.size_toArray,this,←hrow1.1,hbl,hol];rw[←xk,←xk];exact Nat.le_of_eq (by congr 1;omega))
                 exact hnew _ _ _ ho2
             · cases he
       · cases he
     · cases he
end
end Ab
namespace Ab
open Go RowKit
section
variable {L:Lk} {w0:World} {ι:Io} {M:Mm} {h:H} {w:World}
set_option maxHeartbeats 1000000 in
theorem kI (r : R L w0 ι M h w) {sT xT ty e : TypeId} {k : IntKind} (hs : L.P.underlying sT = some (.slice e)) (hx : L.P.underlying xT = some (.int k)) {sz bytes : Nat} {z : List AV} (hn : cu L.P e = some sz) (hb : qQ L.P e = some bytes) (hz : dh L.P e = some z)
 {a b:AV} {av bv:Value} (ha:V L ι M a av) (hbv:V L ι M b bv) {v:AV} {h':H} (he:iY h sz bytes z a b=some (v,h')):
 ∃v' w',(Builtin.append_ #[sT,xT] ty #[av,bv]).run L.P w=.ok v' w'∧bR L w0 ι M h h' v v' w':=by
 obtain⟨i,zv,hi,hzv,hcs⟩:=bX hz
 have hsi:i.size=sz:=by unfold cu at hn;rw[hi]at hn;exact wH hn
 have hbi:i.bytes=bytes:=by unfold qQ at hb;rw[hi]at hb;exact wH hb
 subst hsi;subst hbi
 unfold iY at he
 split at he
 · rename_i n
   split at he
   · rename_i hc
     obtain⟨h0,hle,hnb,hzl,hpos,hsc,hro⟩:=hc
     obtain⟨rfl,rfl⟩:=wJ (wH he)
     obtain⟨hb1,hb2⟩:=ee hro
     rw[ha.aC,hbv.aF]
     have hwl:IntKind.i64.wrap n=n:=IntWalk.i64_in _ (by omega)
     have hrow:=bP (L:=L) (ι:=ι) (M:=M) hcs
     have hzs:zv.cells.size=i.size:=by have:=hrow.1;simp at this;omega
     obtain⟨cap,hcap,hch⟩:=eD (w:=w) L.P (0+n.toNat) 0 e
     have hsz:(Go.sizeOf e).run L.P w=.ok i.size w:=by simp [Go.sizeOf,typeInfo,hi]
     have hti:(typeInfo e).run L.P w=.ok i w:=by simp [typeInfo,hi]
     have h1:Builtin.nextslicecap (0+n.toNat) 0* i.bytes≤281474976710656:=xq (wW _ (iK (by omega))) (by simpa using hb2)
     have h2:¬Builtin.nextslicecap (0+n.toNat) 0* i.bytes>2^48:=Nat.not_lt.2 (xq h1 (by decide))
     have h3:i.bytes≠0:=by omega
     have h4:¬(((0+n.toNat:Nat):Int)>IntKind.i64.max):=by simp only[IntKind.max_i64];omega
     have h5:¬n<0:=by omega
     have h6 : ¬ n * (i.bytes : Int) > 2 ^ 48 := by have : (2:Int)^48 = 281474976710656 := by decide
                                                    omega
     have h7:¬0+n.toNat≤0:=by omega
     have h8:¬n.toNat* i.size=0:=by
      have:0<n.toNat* i.size:=Nat.mul_pos (by omega) hpos
      omega
     have hz':(zeroValue e).run L.P {w with drawn:=w.drawn+1}=.ok zv {w with drawn:=w.drawn+1}:=cj hi hzv
     have hti':(typeInfo e).run L.P {w with drawn:=w.drawn+1}=.ok i {w with drawn:=w.drawn+1}:=by simp [typeInfo,hi]
     have hrun:(Builtin.append_ #[sT,xT] ty #[.slice none 0 0,.int .i64 n]).run L.P w=.ok (.slice (some ⟨w.heap.size,0,none⟩) (0+n.toNat) cap)
      (({w with drawn:=w.drawn+1}:World).alloc (.cells (#[]++Builtin.zeroCells zv.cells n.toNat++Builtin.zeroCells zv.cells (cap-(0+n.toNat))) e)):=by
      generalize hw1:({w with drawn:=w.drawn+1}:World)=w1 at hch hz' hti' ⊢
      have hws:w1.heap.size=w.heap.size:=by rw[←hw1]
      simp only[Builtin.append_,List.getElem?_toArray,List.getElem?_cons_zero,w9,Sem.run_bind,run_underlying hs,run_underlying hx,Result.andThen_ok,hsz,Sem.run_pure,if_true,asInt,asIntOf,hwl,h5,xp,hti,h6,h7,h4,false_and,h2,hch,run_askRoom,Builtin.firstCells,h8,hz',hti',newRow,run_newObj,World.alloc_eq,hws,Bool.not_true,wR]
     refine⟨_,_,hrun, ?_⟩
     rw[wY]at hcap ⊢
     have hz1:=bZ (L:=L) (ι:=ι) (M:=M) hrow n.toNat
     have hz2:=bZ (L:=L) (ι:=ι) (M:=M) hrow (cap-n.toNat)
     have hl1:(Builtin.zeroCells zv.cells n.toNat).size=n.toNat* i.size:=by simp [Builtin.zeroCells,hzs]
     have hl2:(Builtin.zeroCells zv.cells (cap-n.toNat)).size=(cap-n.toNat)* i.size:=by simp [Builtin.zeroCells,hzs]
     have hl3:(eH n.toNat z).length=n.toNat* i.size:=by rw[hz1.1];simpa using hl1
     refine r.gU _ ⟨_,rfl⟩ (.inl rfl) e ⟨by simp only[Array.size_append,hl1,hl3];omega,fun j x hj=> ?_⟩ (n:=n.toNat) (sz:=i.size) (cap:=cap) hcap (by rw[hl3];exact wW _ hcap) (by
      simp only[Array.size_append,hl1,hl2,List.size_toArray,List.length_nil,wY,←xk];exact Nat.le_of_eq (by congr 1;omega))
     obtain⟨u,hu,hVu⟩:=hz1.get hj
     refine⟨u, ?_,hVu⟩
     obtain⟨hjl,_⟩:=wO.1 hu
     rw[Array.getElem?_append_left (by simpa using hjl)]
     simpa using hu
   · cases he
 · cases he
theorem kT (r : R L w0 ι M h w) {dT sT ty e : TypeId} (hs : L.P.underlying dT = some (.slice e)) {sz : Nat} (hn : cu L.P e = some sz)
 {a b:AV} {av bv:Value} (ha:V L ι M a av) (hbv:V L ι M b bv) {v:AV} {h':H} (he:iZ h sz a b=some (v,h')):
 ∃v' w',(Builtin.copy_ #[dT,sT] ty #[av,bv]).run L.P w=.ok v' w'∧bR L w0 ι M h h' v v' w':=by
 unfold iZ at he
 simp only[wG]at he
 obtain⟨⟨n,bs⟩,hsrc,he⟩:=he
 obtain⟨hlen,hbl,hfc⟩:=eh r hbv hsrc
 have hsz:=ak (w:=w) hn
 simp only at he
 split at he
 · obtain⟨rfl,rfl⟩:=wJ (wH he)
   rw[ha.aC]
   obtain⟨vs,hf,_⟩:=hfc 0 (Nat.zero_le _)
   refine⟨.int .i64 0,w, ?_,bR.same r (.ar (.int _ _))⟩
   have:Nat.min n 0=0:=Nat.min_zero _
   simp [Builtin.copy_,run_underlying hs,hlen,hsz,this,hf,goInt]
 · rename_i id off len s
   split at he
   · rename_i hc
     obtain⟨rfl,hfl,hsc⟩:=hc
     cases hg:h.get id with
     |none=>rw[hg]at he;cases he
     | some cs =>
       rw[hg]at he;simp only[wP]at he
       split at he
       · rename_i hle
         obtain⟨rfl,rfl⟩:=wJ (wH he)
         obtain⟨l,cap,a',hil,rfl,hlc,haa,hlo,hhi⟩:=ha.aJ
         have hb0:=r.iR id cs l hg hil
         have hmn:Nat.min n len≤n:=Nat.min_le_left _ _
         have hml:Nat.min n len≤len:=Nat.min_le_right _ _
         obtain⟨vs,hf,hrow⟩:=hfc (Nat.min n len) hmn
         have hmm:Nat.min n len* s≤n* s:=wW _ hmn
         have hml':Nat.min n len* s≤len* s:=wW _ hml
         have hvl:vs.length=Nat.min n len* s:=by rw[←hrow.1];simp;omega
         have hst : (storeCells a' vs).run L.P w = .ok () (w.setCells l.block (l.base + off) vs) := by
          cases vs with
          |nil=>rfl
          | cons v vs =>
            obtain rfl:=haa (by
             intro c0
             have:len=0:=by omega
             rw[this]at hvl
             simp at hvl)
            have := run_storeCells_cells (P := L.P) l.block (l.base + off) (v :: vs) 0 w
             (fun j hj=>by have:=(r.own id cs l hg hil (off+j) (by omega)).1;simpa [at',wS]using this)
             (fun j hj=>by have:=(r.own id cs l hg hil (off+j) (by omega)).2;simpa [at',wS]using this)
             (ft hrow (by
               have:∀(bs:List AV) (k:Nat),AV.aE bs=true→AV.aE (bs.take k)=true:=by
                intro bs
                induction bs with
                |nil=>intro k h;simp [AV.aE]
                | cons b bs ih =>
                  intro k h
                  simp only[AV.aE,wT]at h
                  cases k with
                  |zero=>rfl
                  |succ k=>simp only[w8,AV.aE,wT];exact⟨h.1,ih k h.2⟩
               exact this _ _ hsc))
            simpa [at']using this
         refine⟨.int .i64 (Nat.min n len),_, ?_,bR.same (cK hil _ vs off hrow.1 (by rw[hrow.1,hvl];omega) hrow.2 r hg) (.ar (.int _ _))⟩
         simp [Builtin.copy_,run_underlying hs,hlen,hsz,hf,goInt,hst]
       · cases he
   · cases he
 · cases he
theorem jy {a b:List AV} (ha:AV.aE a=true) (hb:AV.aE b=true):AV.aE (a++b)=true:=by
 induction a with
 |nil=>exact hb
 |cons x a ih=>simp only[AV.aE,List.cons_append,wT]at *;exact⟨ha.1,ih ha.2⟩
theorem g7 {z:List AV} (hz:AV.aE z=true):∀n,AV.aE (eH n z)=true
 |0=>rfl
 |n+1=>jy hz (g7 hz n)
theorem jW (r : R L w0 ι M h w) {dT ty e : TypeId} (hs : L.P.underlying dT = some (.slice e)) {sz : Nat} (hn : cu L.P e = some sz) {z : List AV} (hz : dh L.P e = some z)
 {a:AV} {av:Value} (ha:V L ι M a av) {h':H} (he:fp h sz z a=some h'):
 ∃w',(Builtin.clear_ #[dT] ty #[av]).run L.P w=.ok (.tuple #[]) w'∧R L w0 ι M h' w':=by
 obtain⟨i,zv,hi,hzv,hcs⟩:=bX hz
 unfold fp at he
 split at he
 · obtain rfl:=wH he
   rw[ha.aC]
   exact⟨w,by simp [Builtin.clear_,run_underlying hs],r⟩
 · rename_i id off len s
   split at he
   · rename_i h0;subst h0
     obtain rfl:=wH he
     obtain⟨l,cap,a',hil,rfl,_⟩:=ha.aJ
     exact⟨w,by simp [Builtin.clear_,run_underlying hs],r⟩
   · rename_i h0
     split at he
     · rename_i hc
       obtain⟨rfl,hfl,hzl,hsc⟩:=hc
       cases hg:h.get id with
       |none=>rw[hg]at he;cases he
       | some cs =>
         rw[hg]at he;simp only[wP]at he
         split at he
         · rename_i hle
           obtain rfl:=wH he
           obtain⟨l,cap,a',hil,rfl,hlc,haa,hlo,hhi⟩:=ha.aJ
           obtain rfl:=haa (by omega)
           have hb0:=r.iR id cs l hg hil
           have hrow:=bZ (L:=L) (ι:=ι) (M:=M) (bP hcs) len
           have hzs:zv.cells.size=z.length:=by have:=(bP (L:=L) (ι:=ι) (M:=M) hcs).1;simp at this;omega
           have hvl:(Builtin.zeroCells zv.cells len).toList.length=len* s:=by simp [Builtin.zeroCells,hzs,hzl]
           have hst:=run_storeCells_cells (P:=L.P) l.block (l.base+off) (Builtin.zeroCells zv.cells len).toList 0 w
            (fun j hj=>by have:=(r.own id cs l hg hil (off+j) (by omega)).1;simpa [at',wS]using this)
            (fun j hj=>by have:=(r.own id cs l hg hil (off+j) (by omega)).2;simpa [at',wS]using this)
            (ft hrow (g7 hsc len))
           refine⟨_, ?_,cK hil _ _ off hrow.1 (by rw[hrow.1,hvl];omega) hrow.2 r hg⟩
           have hst':(storeCells (at' l.block (l.base+off)) (Builtin.zeroCells zv.cells len).toList).run L.P w=.ok () (w.setCells l.block (l.base+off) (Builtin.zeroCells zv.cells len).toList):=by simpa [at']using hst
           have hm:∀n,n=len→(Builtin.clear_ #[dT] ty #[.slice (some (at' l.block (l.base+off))) n cap]).run L.P w=.ok (.tuple #[]) (w.setCells l.block (l.base+off) (Builtin.zeroCells zv.cells len).toList):=by
            intro n hn'
            cases n with
            |zero=>omega
            |succ n=>simp [Builtin.clear_,run_underlying hs,cj hi hzv,hn',hst']
           exact hm len rfl
         · cases he
     · cases he
 · cases he
end
end Ab
namespace Ab
open Go RowKit
section
variable {L:Lk} {w0:World} {ι:Io} {M:Mm} {h:H} {w:World}
def Out (L:Lk) (w0:World) (ι:Io) (M:Mm) (h h':H) (v:AV) (v':Value) (w':World):Prop:=
 ∃ι' M',oT ι ι'∧oY M M'∧(∀id l,id<h.next→ι' id=some l→ι id=some l)∧R L w0 ι' M' h' w'∧V L ι' M' v v'
theorem Out.of {h':H} {v:AV} {v':Value} {w':World} (hc:bR L w0 ι M h h' v v' w'):Out L w0 ι M h h' v v' w':=by
 obtain⟨ι',a,b,c,d⟩:=hc
 exact⟨ι',M,a,fun _ _ _ q=>q,b,c,d⟩
theorem Out.same {h':H} {v:AV} {v':Value} {w':World} (r:R L w0 ι M h' w') (hv:V L ι M v v'):Out L w0 ι M h h' v v' w':=.of (.same r hv)
def Callee (L:Lk) (w0:World) (call:ae):Prop:=∀(f:Nat) (fid:FuncId) (args:List AV) (vals:List Value) (ι:Io) (M:Mm) (h h':H) (w:World) (v:AV),L.mf fid=some f→call f args h=some (v,h')→R L w0 ι M h w→aw L ι M args vals→
 Calls L.P fid vals.toArray w fun e w'=>∃v',e=.returned v'∧Out L w0 ι M h h' v v' w'
def mZ (P:Program) (T:TypeId) (name:String) (fid:FuncId) (d:Bool):Prop:=
 ∃i m el,P.info? T=some i∧i.methods.find? (·.name==name)=some m∧m.path= #[]∧m.func=some (fid, !d)∧P.underlying T=some (.pointer el)∧(d=true→gJ P el=some false∧cu P el=some 1)
def tY (P:Program) (t:TypeId):Prop:=∃d,P.underlying t=some d∧∀m,d≠.interface m
def dD (L : Lk) : Prop := (∀ fid f, L.mf fid = some f → ∃ fn c, L.P.funcs[fid]? = some fn ∧ fn.body = some c ∧ (fn.name == "runtime.NumGoroutine") = false) ∧
 (∀name t f d,L.iv name=some (t,f,d)→∀T,L.mt T=t→∃fid,L.mf fid=some f∧mZ L.P T name fid d)∧
 (∀t k,L.ta t=some k→tY L.P t∧∀T,L.mt T=k→T=t)∧∀t,L.sq t=true→L.P.stoodInHeld t=false
theorem ky {P : Program} {t : TypeId} {a : Addr} {m : String} : (Builtin.ssaWrapNilChk_ #[t] t #[.pointer (some a), strVal "", strVal m]).run P w = .ok (.pointer (some a)) w := rfl
theorem iT {P:Program} {w:World} {T:TypeId} {pv xv:Value} {name:String} {args:Array Value} {n:Nat} {fid:FuncId} {fn:Func} {cd:Code} (hn:P.types.size+Made.depth=n+1) (m1:(method (n+1) T pv name).run P w=.ok (fid,xv) w)
 (hfn : P.funcs[fid]? = some fn) (hname : (fn.name == "runtime.NumGoroutine") = false) (hbody : fn.body = some cd) : (invoke (.fn (.method name) #[]) (#[.iface T pv] ++ args)).run P w = .ok (.enter fid (xv :: args.toList).toArray) w := by
 have ea: #[Value.iface T pv]++args=(Value.iface T pv::args.toList).toArray:=by
  apply Array.ext'
  simp
 have e1:(Value.iface T pv::args.toList).toArray.extract 1 (Value.iface T pv::args.toList).toArray.size=args:=by
  apply Array.ext'
  simp
  exact xj (by simp)
 have ex: #[xv]++args=(xv::args.toList).toArray:=by
  apply Array.ext'
  simp
 rw[ea]
 show(callMethod (.iface T pv) name ((Value.iface T pv::args.toList).toArray.extract 1 (Value.iface T pv::args.toList).toArray.size)).run P w=_
 rw[e1]
 simp only[callMethod,Sem.run_bind,run_program,Result.andThen_ok,hn,m1,callFunc,hfn,hname,wR,xp,hbody,Option.isNone_some,Sem.run_pure,ex]
theorem jS (r:R L w0 ι M h w) {T:TypeId} {name:String} {fid:FuncId} {d:Bool} (hi:mZ L.P T name fid d) {n:Nat} {p x:AV} {pv:Value} (hp:V L ι M p pv) (hx:jb d p h=some x):
 ∃v,(method (n+1) T pv name).run L.P w=.ok (fid,v) w∧V L ι M x v:=by
 obtain⟨i,m,el,h1,h2,h3,h4,h5,h6⟩:=hi
 have ti:(typeInfo T).run L.P w=.ok i w:=by simp [typeInfo,h1]
 unfold jb at hx
 cases d with
 | false =>
   obtain rfl:=wH hx
   refine⟨pv, ?_,hp⟩
   simp [method,ti,h2,h3,h4,follow,receiverAt,run_underlying h5,Place.get]
 | true =>
   rw[if_pos rfl]at hx
   obtain⟨ha,hn⟩:=h6 rfl
   obtain⟨v,k1,k2⟩:=gh r (P:=L.P) ha hn hp hx
   obtain⟨a,rfl⟩:∃a,pv=.pointer (some a):=by
    unfold cf at hx
    split at hx
    · obtain⟨l,_,rfl⟩:=hp.aX;exact⟨_,rfl⟩
    · obtain⟨b,o,rfl,_⟩:=V.cQ r hp;exact⟨_,rfl⟩
    · cases hx
   refine⟨v, ?_,k2⟩
   have k3:(loadVar el a).run L.P w=.ok v w:=by simpa [Instr.loadAt,Instr.sureAddr]using k1
   simp [method,ti,h2,h3,h4,follow,receiverAt,run_underlying h5,Place.get,ky,asAddr,k3]
theorem Made.out (r:R L w0 ι M h w) {cs:List AV} {mk:Nat→AV} {v':Value} {w':World} (hm:Made L ι M w cs mk v' w'):Out L w0 ι M h (h.alloc cs) (mk h.next) v' w':=by
 obtain⟨dr,arr,t,fz,rfl,hfz,hlen,hval,hv⟩:=hm.ex
 have rn:=(r.drew dr).sY (id:=h.next) r.mO (cs:=cs) (arr:=arr) (t:=t) (fz:=fz) (h':=h.alloc cs) hfz (by simp) (by simp)
  (fun i c q=>by
    simp only[H.aZ]at q
    split at q
    · rename_i e;exact .inl ⟨e,(wH q).symm⟩
    · rename_i e;exact .inr ⟨e,q⟩) hlen hval
 refine⟨_,M,Io.fL _ r.mO,fun _ _ _ q=>q,fun id l hid q=> ?_,rn,hv _ _ (by simp [Io.put])⟩
 simp only[Io.put]at q
 split at q
 · omega
 · exact q
theorem aa {o:Oper} {a:Act} {next:Act→World→Prop} {Q:Exit→Act→World→Prop} {v':Value} {w':World} (hr:(execOp a.eval o).run L.P w=.ok (.value v') w') (hn:next (a.put o.dst v') w'):o.wp L.P a w next Q:=by
 unfold Oper.wp;rw[hr];exact hn
theorem mQ {o:Oper} {a:Act} {next:Act→World→Prop} {Q:Exit→Act→World→Prop} {w':World} (hr:(execOp a.eval o).run L.P w=.ok .skip w') (hn:next (a.put o.dst undef) w'):o.wp L.P a w next Q:=by
 unfold Oper.wp;rw[hr];exact hn
theorem fC {e:Env} {a:Act} (he:bm L ι M e a.tmps) {o:Option Operand} {x:Option X} (h:sf L o=some x):OV L ι M (x.map (X.ev e)) (o.map a.eval):=by
 cases o with
 |none=>obtain rfl:=wH h;trivial
 | some o =>
   simp only[sf,wI]at h
   obtain⟨y,hy,rfl⟩:=h
   exact aq he hy
theorem vh {b:BinOp}:(lP b=.eql↔b=.eql)∧(lP b=.neq↔b=.neq):=by cases b<;>simp [lP]
theorem mw : ∀ {cs : List AV} {vs : List Value} {l : List UInt8}, aw L ι M cs vs → mu cs = some l → ∀ (s : ByteArray), (do
 let mut s:=s
 for c in vs.toArray do
  let .int .u8 n := c | stuck "bytesToString: byte expected"
  s:=s.push (UInt8.ofNat n.toNat)
 pure (.string s):Sem Value).run L.P w=.ok (.string ⟨s.data++l.toArray⟩) w:=by
 intro cs
 induction cs with
 | nil =>
   intro vs l hr hl s
   obtain rfl:=wH hl
   have:vs=[]:=List.eq_nil_of_length_eq_zero hr.1.symm
   subst this
   simp
 | cons c cs ih =>
   intro vs l hr hl s
   cases vs with
   |nil=>have:=hr.1;cases this
   | cons v vs =>
     have hv:=hr.2 0 c v rfl rfl
     have hr':aw L ι M cs vs:=⟨by simpa using hr.1,fun i a x h1 h2=>hr.2 (i+1) a x (by simpa using h1) (by simpa using h2)⟩
     unfold mu at hl
     split at hl
     · rename_i q;cases q
     · rename_i n rest q
       injection q with q1 q2;subst q1;subst q2
       simp only[wG]at hl
       obtain⟨l',hl',hl⟩:=hl
       obtain rfl:=wH hl
       rw[hv.aF]
       have:=ih hr' hl' (s.push (UInt8.ofNat n.toNat))
       simp only[List.forIn_toArray,List.forIn_cons,Sem.run_bind,Sem.run_pure,Result.andThen_ok]at this ⊢
       rw[this]
       congr 2
       simp [ByteArray.push]
     · cases hl
def fQ:Value→Bool
 | .pointer _| .slice _ _ _| .func _ _ _| .nilFunc| .iface _ _| .nilIface=>true
 |_=>false
theorem jD {t:TypeId} {x y:Value} (hx:fQ x=true):binOp .eql t x y=(do pure (.bool (←Op.equal t x y))):=by
 cases x<;>first|(simp [fQ]at hx;done)|(cases y<;>rfl)
theorem jE {t:TypeId} {x y:Value} (hx:fQ x=true):binOp .neq t x y=(do pure (.bool (!(←Op.equal t x y)))):=by
 cases x<;>first|(simp [fQ]at hx;done)|(cases y<;>rfl)
theorem jB {t:TypeId} {xs ys:Array Value}:binOp .eql t (.agg xs) (.agg ys)=(do pure (.bool (←Op.equal t (.agg xs) (.agg ys)))):=rfl
theorem jC {t:TypeId} {xs ys:Array Value}:binOp .neq t (.agg xs) (.agg ys)=(do pure (.bool (!(←Op.equal t (.agg xs) (.agg ys))))):=rfl
theorem lh {x:Value} (hx:fQ x=true):∀c,x≠.agg c:=by intro c e;subst e;cases hx
theorem pb (r:R L w0 ι M h w) {k:Nat} {x y:AV} {xv:Value} {q:Bool} (hx:V L ι M x xv) (hq:gG k x y=some q):fQ xv=true∧(k≠3→xv≠.nilIface):=by
 unfold gG at hq
 split at hq
 case h_1=>rw[hx.bN];exact⟨rfl,fun _=>nofun⟩
 case h_2=>rw[hx.bN];exact⟨rfl,fun _=>nofun⟩
 case h_3=>rw[hx.bN];exact⟨rfl,fun _=>nofun⟩
 case h_4=>obtain⟨l,_,rfl⟩:=hx.aX;exact⟨rfl,fun _=>nofun⟩
 case h_5=>obtain⟨b,o,rfl,_⟩:=V.cQ r hx;exact⟨rfl,fun _=>nofun⟩
 case h_6=>rw[hx.aC];exact⟨rfl,fun _=>nofun⟩
 case h_7=>rw[hx.aC];exact⟨rfl,fun _=>nofun⟩
 case h_8=>rw[hx.aC];exact⟨rfl,fun _=>nofun⟩
 case h_9=>obtain⟨l,c,a,_,rfl,_⟩:=hx.aJ;exact⟨rfl,fun _=>nofun⟩
 case h_10=>obtain⟨b,o,c,a,rfl,_⟩:=V.bD r hx;exact⟨rfl,fun _=>nofun⟩
 case h_11=>rw[hx.dd];exact⟨rfl,fun _=>nofun⟩
 case h_12=>rw[hx.dd];exact⟨rfl,fun _=>nofun⟩
 case h_13=>obtain⟨f,a,c,rfl,_⟩:=hx.fJ;exact⟨rfl,fun _=>nofun⟩
 case h_14=>rw[hx.de];exact⟨rfl,fun q=>absurd rfl q⟩
 case h_15=>rw[hx.de];exact⟨rfl,fun q=>absurd rfl q⟩
 case h_16=>obtain⟨f,a,rfl,_⟩:=hx.bU;exact⟨rfl,fun q=>absurd rfl q⟩
 case h_17=>cases hq
theorem dQ {P:Program}:∀(fs:List Field),fs.all (fun f=>(cu P f.type).isSome)=true→((fs.mapM fun f=>do pure (f.offset,←Go.sizeOf f.type):Sem (List (Nat×Nat))).run P w)=.ok (fs.map fun f=>(f.offset,(cu P f.type).getD 0)) w
 |[],_=>rfl
 | f :: fs, hall => by
   simp only[List.all_cons,wT]at hall
   obtain⟨n,hn⟩:=Option.isSome_iff_exists.1 hall.1
   simp only[List.mapM_cons,Sem.run_bind,ak hn,Result.andThen_ok,Sem.run_pure,dQ fs hall.2,List.map_cons,hn,Option.getD_some]
theorem run_places {P:Program} {fs:Array Field} (hall:fs.toList.all (fun f=>(cu P f.type).isSome)=true):((fs.mapM fun f=>do pure (f.offset,←Go.sizeOf f.type):Sem (Array (Nat×Nat))).run P w)=.ok (fs.map fun f=>(f.offset,(cu P f.type).getD 0)) w:=by
 rw[Array.mapM_eq_mapM_toList]
 simp only[Sem.run_map,dQ _ hall,Result.andThen_ok]
 congr 1
 apply Array.ext'
 simp
theorem gl {t:TypeId} {i:TypeInfo} {zv:Value} {z cs:List AV} (hi:L.P.info? t=some i) (hzv:i.zero=some zv) (hrow:aw L ι M z zv.cells.toList) {place:Nat→Option (Nat×Nat)} {ps:List (Nat×Nat×AV)} {qs:Array (Nat×Value)} (hl:ps.length=qs.toList.length)
 (hp:∀(i:Nat) (p:Nat×Nat×AV) (q:Nat×Value),ps[i]?=some p→qs.toList[i]?=some q→place q.1=some (p.1,p.2.1)∧V L ι M p.2.2 q.2) (hf:eP z ps=some cs):
 ∃arr,Instr.fill place zv.cells qs.toList=some arr∧V L ι M (.agg cs) (.agg arr):=by
 obtain⟨arr,h1,h2⟩:=eG place ps qs.toList hl hp hrow hf
 refine⟨arr,h1, ?_⟩
 have:=V.agg (L:=L) (ι:=ι) (M:=M) h2.1 h2.2
 simpa using this
theorem j6:∀{xs:List AV} {vs:List Value} {x v:AV} {y:Value},aw L ι M xs vs→V L ι M x y→iC nK x xs=some v→∃v',(vs.foldlM Builtin.min2 y).run L.P w=.ok v' w∧V L ι M v v'
 |[],[],x,v,y,_,hx,hv=>by obtain rfl:=wH hv;exact⟨y,rfl,hx⟩
 | b :: xs, u :: vs, x, v, y, hr, hx, hv => by
   simp only[iC,wG]at hv
   obtain⟨m,hm,hv⟩:=hv
   have hr':aw L ι M xs vs:=⟨by simpa using hr.1,fun i a x h1 h2=>hr.2 (i+1) a x (by simpa using h1) (by simpa using h2)⟩
   have hb:=hr.2 0 b u rfl rfl
   unfold nK at hm
   split at hm
   · rename_i k p j q
     obtain rfl:=wH hm
     rw[hx.aF,hb.aF]
     obtain⟨v',h1,h2⟩:=j6 hr' (V.ar (VI.int k (if q<p then q else p))) hv
     exact⟨v',by simpa [List.foldlM_cons,Builtin.min2]using h1,h2⟩
   · cases hm
 |[],_::_,_,_,_,hr,_,_=>by cases hr.1
 |_::_,[],_,_,_,hr,_,_=>by cases hr.1
theorem j5:∀{xs:List AV} {vs:List Value} {x v:AV} {y:Value},aw L ι M xs vs→V L ι M x y→iC nJ x xs=some v→∃v',(vs.foldlM Builtin.max2 y).run L.P w=.ok v' w∧V L ι M v v'
 |[],[],x,v,y,_,hx,hv=>by obtain rfl:=wH hv;exact⟨y,rfl,hx⟩
 | b :: xs, u :: vs, x, v, y, hr, hx, hv => by
   simp only[iC,wG]at hv
   obtain⟨m,hm,hv⟩:=hv
   have hr':aw L ι M xs vs:=⟨by simpa using hr.1,fun i a x h1 h2=>hr.2 (i+1) a x (by simpa using h1) (by simpa using h2)⟩
   have hb:=hr.2 0 b u rfl rfl
   unfold nJ at hm
   split at hm
   · rename_i k p j q
     obtain rfl:=wH hm
     rw[hx.aF,hb.aF]
     obtain⟨v',h1,h2⟩:=j5 hr' (V.ar (VI.int k (if q>p then q else p))) hv
     exact⟨v',by simpa [List.foldlM_cons,Builtin.max2]using h1,h2⟩
   · cases hm
 |[],_::_,_,_,_,hr,_,_=>by cases hr.1
 |_::_,[],_,_,_,hr,_,_=>by cases hr.1
theorem bz {b:Builtin} {args:Array Operand} {ats:Array TypeId} {dst:Option Tmp} {ty:TypeId} {pos:String} {after:Array Edge} {guard:Option (Nat×Bool)} (ρ:Operand→Value):
 execOp ρ ⟨dst,.call ⟨.builtin b,args,ats⟩,ty,pos,after,guard⟩=builtin b ats ty (args.map fun| .const _=>true|_=>false) (args.map ρ):=rfl
theorem nP (r:R L w0 ι M h w) {x:AV} {xv:Value} (hx:V L ι M x xv) {n:Nat} {cs:List AV} (hsrc:aV h 1 x=some (n,cs)) {l:List UInt8} (hl:mu cs=some l) (hns:∀s,x≠.str s):
 (Conv.bytesToString xv).run L.P w=.ok (.string ⟨l.toArray⟩) w∧∃b m c,xv=.slice b m c:=by
 obtain⟨hlen,hbl,hfc⟩:=eh r hx hsrc
 obtain⟨vs,hf,hrow⟩:=hfc n (wU _)
 rw[xj (by omega)]at hrow
 have hb:=mw (w:=w) hrow hl .empty
 have e0:(ByteArray.empty.data++l.toArray)=l.toArray:=by show(#[]:Array UInt8)++l.toArray=l.toArray;simp
 rw[e0]at hb
 have key:∀(b:Addr) (m c:Nat),xv=.slice (some b) m c→(Conv.bytesToString xv).run L.P w=.ok (.string ⟨l.toArray⟩) w:=by
  intro b m c hxv
  rw[hxv]at hlen hf ⊢
  have hm:m=n:=by simp [Builtin.lenOf]at hlen;exact hlen
  subst hm
  simp only[Builtin.firstCells,Nat.mul_one]at hf
  simp only[Conv.bytesToString,Sem.run_bind,hf,Result.andThen_ok]at hb ⊢
  exact hb
 unfold aV at hsrc
 split at hsrc
 · obtain⟨rfl,rfl⟩:=wJ (wH hsrc)
   obtain rfl:=wH hl
   rw[hx.aC]
   exact⟨rfl,_,_,_,rfl⟩
 · exact absurd rfl (hns _)
 · obtain⟨_,cap,a,_,hxv,_⟩:=hx.aJ;exact⟨key _ _ _ hxv,_,_,_,hxv⟩
 · obtain⟨_,_,cap,a,hxv,_⟩:=V.bD r hx;exact⟨key _ _ _ hxv,_,_,_,hxv⟩
 · cases hsrc
theorem nL {args:Array Operand} {f:Operand→Value} {e:Env} {y:X} (h:(bc e [y]).length=(args.toList.map f).length):∃o,args= #[o]:=by
 obtain⟨l⟩:=args
 match l,h with
 |[o],_=>exact⟨o,rfl⟩
theorem qV {args:Array Operand} {f:Operand→Value} {e:Env} {y z:X} (h:(bc e [y,z]).length=(args.toList.map f).length):∃o1 o2,args= #[o1,o2]:=by
 obtain⟨l⟩:=args
 match l,h with
 |[o1,o2],_=>exact⟨o1,o2,rfl⟩
theorem kF (r:R L w0 ι M h w) {t ty:TypeId} {str:Bool} (ht:(str=true∧L.P.underlying t=some .string)∨(str=false∧∃el,L.P.underlying t=some (.slice el))) {x:AV} {xv:Value} (hx:V L ι M x xv) {v:AV} (hv:jQ str x=some v):
 ∃v',(Builtin.len_ #[t] ty #[xv]).run L.P w=.ok v' w∧V L ι M v v':=by
 unfold jQ at hv
 split at hv
 · obtain rfl:=wH hv
   rcases ht with ⟨_,ht⟩|⟨q,_⟩
   · rw[hx.cJ];refine⟨.int .i64 _, ?_,.ar (.int _ _)⟩;simp [Builtin.len_,run_underlying ht,goInt];try rfl
   · cases q
 all_goals first|cases hv;done|skip
 all_goals
  obtain rfl:=wH hv
  rcases ht with ⟨q,_⟩|⟨_,el,ht⟩
  · cases q
 · rw[hx.aC];refine⟨.int .i64 _, ?_,.ar (.int _ _)⟩;simp [Builtin.len_,run_underlying ht,goInt];try rfl
 · obtain⟨_,cap,a,_,rfl,_⟩:=hx.aJ;refine⟨.int .i64 _, ?_,.ar (.int _ _)⟩;simp [Builtin.len_,run_underlying ht,goInt];try rfl
 · obtain⟨_,_,cap,a,rfl,_⟩:=V.bD r hx;refine⟨.int .i64 _, ?_,.ar (.int _ _)⟩;simp [Builtin.len_,run_underlying ht,goInt];try rfl
set_option maxHeartbeats 2000000 in
theorem ru {call : ae} (hcal : Callee L w0 call) (hbod : dD L) {o : Oper} {x : cq} (hc : ch L o.op = some x) {e : Env} {a : Act} (he : bm L ι M e a.tmps) (r : R L w0 ι M h w) {v : AV} {h' : H} (hev : ah call e h x = some (v, h'))
 {next:Act→World→Prop} {Q:Exit→Act→World→Prop} (K:∀v' w',Out L w0 ι M h h' v v' w'→next (a.put o.dst v') w'):o.wp L.P a w next Q:=by
 have hb:∀b,bg e x=some b→ah call e h x=bE e h x→o.wp L.P a w next Q:=by
  intro b hb heq
  rw[heq,bE,hb]at hev
  simp only[wP,wK,wN]at hev
  obtain⟨rfl,rfl⟩:=hev
  obtain⟨v',w',h1,h2⟩:=gk he hc (cs:=b.1) (mk:=b.2) hb
  exact aa h1 (K _ _ (h2.out r))
 have hbn:ah call e h x=bE e h x→∃b,bg e x=some b:=by
  intro heq
  rw[heq,bE]at hev
  simp only[wG]at hev
  obtain⟨b,hb,_⟩:=hev
  exact⟨b,hb⟩
 obtain⟨dst,op,ty,pos,after,guard⟩:=o
 dsimp only at hc
 cases op with
 | move y =>
   simp only[ch,wI]at hc
   obtain⟨x,hx,rfl⟩:=hc
   simp only[ah,wK,wN]at hev;obtain⟨rfl,rfl⟩:=hev
   exact aa (v':=a.eval y) (w':=w) (by simp [execOp]) (K _ _ (.same r (aq he hx)))
 | assign y =>
   simp only[ch,wI]at hc
   obtain⟨x,hx,rfl⟩:=hc
   simp only[ah,wK,wN]at hev;obtain⟨rfl,rfl⟩:=hev
   exact aa (v':=a.eval y) (w':=w) (by simp [execOp]) (K _ _ (.same r (aq he hx)))
 | pick c y z =>
   simp only[ch,wG]at hc
   obtain⟨c',hc',y',hy,z',hz,hc⟩:=hc
   obtain rfl:=wH hc
   simp only[ah]at hev
   split at hev
   · rename_i t ht
     simp only[wK,wN]at hev;obtain⟨rfl,rfl⟩:=hev
     have h1:=aq he hc';rw[ht]at h1
     have h1':=h1.cg
     cases t with
     |true=>exact aa (v':=a.eval y) (w':=w) (by simp [execOp,h1',asBool]) (K _ _ (.same r (aq he hy)))
     |false=>exact aa (v':=a.eval z) (w':=w) (by simp [execOp,h1',asBool]) (K _ _ (.same r (aq he hz)))
   · cases hev
 | alloc t =>
   have hc0:=hc
   simp only[ch,wI]at hc0
   obtain⟨z,_,rfl⟩:=hc0
   obtain⟨b,hb'⟩:=hbn rfl;exact hb b hb' rfl
 | box t y =>
   have hc0:=hc
   simp only[ch,wG]at hc0
   obtain⟨_,_,_,_,hc0⟩:=hc0
   obtain rfl:=wH hc0
   obtain⟨b,hb'⟩:=hbn rfl;exact hb b hb' rfl
 | build t ps =>
   simp only[ch,wG]at hc
   obtain⟨z,hz,hc⟩:=hc
   obtain⟨i,zv,hi,hzv,hcs⟩:=bX hz
   have hrow:=bP (L:=L) (ι:=ι) (M:=M) hcs
   split at hc
   · rename_i fs ht
     split at hc
     case isFalse=>cases hc
     rename_i hall
     simp only[wI]at hc
     obtain⟨xs,hxs,rfl⟩:=hc
     simp only[ah,wG]at hev
     obtain⟨cs,hf,hev⟩:=hev
     simp only[wK,wN]at hev;obtain⟨rfl,rfl⟩:=hev
     obtain⟨g1,g2⟩:=jc he hxs
     obtain⟨arr,k1,k2⟩:=gl hi hzv hrow (place:=fun i=>(fs.map fun f=>(f.offset,(cu L.P f.type).getD 0))[i]?) (ps:=xs.map fun p=>(p.1,p.2.1,p.2.2.ev e)) (qs:=ps.map fun q=>(q.1,a.eval q.2)) (by simp [g1])
      (fun j p q hp hq=>by
        rw[Array.toList_map]at hq
        simp only[xa,wI]at hp hq
        obtain⟨p',hp',rfl⟩:=hp
        obtain⟨q',hq',rfl⟩:=hq
        obtain⟨⟨f,e1,e2,e3⟩,e4⟩:=g2 j p' q' hp' hq'
        refine⟨?_,e4⟩
        simp only[Array.getElem?_map,e1,Option.map_some,e2,e3,Option.getD_some]) hf
     exact aa (v':=.agg arr) (w':=w) (by
      simp only[execOp,Instr.build,Sem.run_bind,cj hi hzv,Result.andThen_ok,run_underlying ht,run_places hall,k1,Sem.run_pure]) (K _ _ (.same r k2))
   · rename_i el ht
     simp only[wG,wI]at hc
     obtain⟨n,hn,xs,hxs,rfl⟩:=hc
     simp only[ah,wG]at hev
     obtain⟨cs,hf,hev⟩:=hev
     simp only[wK,wN]at hev;obtain⟨rfl,rfl⟩:=hev
     obtain⟨g1,g2⟩:=fD he hxs
     rw[List.map_map]at hf
     obtain⟨arr,k1,k2⟩:=gl hi hzv hrow (place:=fun i=>some (i* n,n)) (qs:=ps.map fun q=>(q.1,a.eval q.2)) (by simp [g1])
      (fun j p q hp hq=>by
        rw[Array.toList_map]at hq
        simp only[xa,wI]at hp hq
        obtain⟨p',hp',rfl⟩:=hp
        obtain⟨q',hq',rfl⟩:=hq
        obtain⟨e1,e4⟩:=g2 j p' q' hp' hq'
        exact⟨by simp only[Function.comp_apply,e1],e4⟩) hf
     exact aa (v':=.agg arr) (w':=w) (by
      simp only[execOp,Instr.build,Sem.run_bind,cj hi hzv,Result.andThen_ok,run_underlying ht,ak hn,k1,Sem.run_pure]) (K _ _ (.same r k2))
   · cases hc
 | buildSlice t len ps =>
   have hc0:=hc
   simp only[ch]at hc0
   split at hc0
   · simp only[wG]at hc0
     obtain⟨_,_,_,_,_,_,hc0⟩:=hc0
     split at hc0
     · obtain rfl:=wH hc0
       obtain⟨b,hb'⟩:=hbn rfl;exact hb b hb' rfl
     · cases hc0
   · cases hc0
 | load t p =>
   simp only[ch,wG,wI]at hc
   obtain⟨ag,hag,n,hn,p',hp,rfl⟩:=hc
   simp only[ah,wG]at hev
   obtain⟨y,hy,hev⟩:=hev
   simp only[wK,wN]at hev;obtain⟨rfl,rfl⟩:=hev
   obtain⟨v',h1,h2⟩:=gh r hag hn (aq he hp) hy
   exact aa (v':=v') (w':=w) (by simp [execOp,h1]) (K _ _ (.same r h2))
 | store t p z =>
   simp only[ch,wG,wI]at hc
   obtain⟨n,hn,p',hp,z',hz,rfl⟩:=hc
   simp only[ah,wG]at hev
   obtain⟨y,hy,hev⟩:=hev
   simp only[wK,wN]at hev;obtain⟨rfl,rfl⟩:=hev
   obtain⟨w',h1,h2⟩:=jz r hn (aq he hp) (aq he hz) hy
   exact mQ (w':=w') (by simp [execOp,h1]) (K _ _ (.same h2 (.ar (.bot _))))
 | nilCheck y =>
   simp only[ch,wI]at hc
   obtain⟨x,hx,rfl⟩:=hc
   have hv:=aq he hx
   simp only[ah]at hev
   split at hev
   · rename_i q;rw[q]at hv
     simp only[wK,wN]at hev;obtain⟨rfl,rfl⟩:=hev
     obtain⟨l,h1,h2⟩:=hv.aX
     exact aa (v':=a.eval y) (w':=w) (by simp [execOp,h2]) (K _ _ (.same r hv))
   · rename_i q;rw[q]at hv
     simp only[wK,wN]at hev;obtain⟨rfl,rfl⟩:=hev
     obtain⟨b,o,h2,_⟩:=V.cQ r hv
     exact aa (v':=a.eval y) (w':=w) (by simp [execOp,h2]) (K _ _ (.same r hv))
   · rename_i q;rw[q]at hv
     simp only[wK,wN]at hev;obtain⟨rfl,rfl⟩:=hev
     obtain⟨f,va,vc,h2,_⟩:=hv.fJ
     exact aa (v':=a.eval y) (w':=w) (by simp [execOp,h2]) (K _ _ (.same r hv))
   · rename_i q;rw[q]at hv
     simp only[wK,wN]at hev;obtain⟨rfl,rfl⟩:=hev
     obtain⟨t,z,h2,_⟩:=hv.bU
     exact aa (v':=a.eval y) (w':=w) (by simp [execOp,h2]) (K _ _ (.same r hv))
   · cases hev
 | binOp b t y z u =>
   simp only[ch,rW,wG]at hc
   obtain⟨y',hy,z',hz,hc⟩:=hc
   have hyv:=aq he hy
   have hzv:=aq he hz
   have hbin:∀{x:cq},x=.bin (lP b) y' z'→ah call e h x=some (v,h')→(⟨dst,.binOp b t y z u,ty,pos,after,guard⟩:Oper).wp L.P a w next Q:=by
    intro x hx hev
    subst hx
    simp only[ah,wG]at hev
    obtain⟨q,hq,hev⟩:=hev
    simp only[wK,wN]at hev;obtain⟨rfl,rfl⟩:=hev
    obtain⟨v',h1,h2⟩:=kD (w:=w) (t:=t) hyv hzv hq
    obtain⟨n1,n2⟩:=kC hyv hzv hq
    exact aa (v':=v') (w':=w) (by simp [execOp,ij (.inl n1) n2,h1]) (K _ _ (.same r h2))
   have heq:∀(k:Nat) (d:TypeDesc),L.P.underlying t=some d→vZ k d→(k=3→isConst y=true∨isConst z=true)→(b=.eql∧x=.mD k false y' z'∨b=.neq∧x=.mD k true y' z')→(⟨dst,.binOp b t y z u,ty,pos,after,guard⟩:Oper).wp L.P a w next Q:=by
    intro k d hd hk hcon hor
    rcases hor with ⟨rfl,rfl⟩|⟨rfl,rfl⟩
    all_goals
     simp only[ah,wG]at hev
     obtain⟨q,hq,hev⟩:=hev
     simp only[wK,wN]at hev;obtain⟨rfl,rfl⟩:=hev
     obtain⟨n1,n2⟩:=pb r hyv hq
     have hg:=fun b=>ij (b:=b) (t:=t) (x:=y) (y:=z) (xv:=a.eval y) (yv:=a.eval z) (by
      by_cases h3:k=3
      · exact .inr (.inr (hcon h3))
      · exact .inl (n2 h3)) (lh n1)
     have he':=kE hd hk r hyv hzv hq
    · exact aa (v':=.bool q) (w':=w) (by simp [execOp,hg,jD n1,he']) (K _ _ (.same r (.ar (.bool _))))
    · exact aa (v':=.bool !q) (w':=w) (by simp [execOp,hg,jE n1,he']) (K _ _ (.same r (.ar (.bool _))))
   split at hc
   · obtain rfl:=wH hc;exact hbin rfl hev
   · obtain rfl:=wH hc;exact hbin rfl hev
   · rename_i hd
     split at hc
     all_goals first|cases hc;done|skip
     all_goals
      obtain rfl:=wH hc
      simp only[ah]at hev
      split at hev
      · rename_i p q hp hq
        simp only[wK,wN]at hev;obtain⟨rfl,rfl⟩:=hev
        rw[hp]at hyv;rw[hq]at hzv
        have e1:=hyv.cg;have e2:=hzv.cg
        obtain⟨n,hn⟩:=eX
        have hbb:binOp .eql t (.bool p) (.bool q)=(do pure (.bool (←Op.equal t (.bool p) (.bool q)))):=rfl
        have hbn:binOp .neq t (.bool p) (.bool q)=(do pure (.bool (!(←Op.equal t (.bool p) (.bool q))))):=rfl
        exact aa (v':=_) (w':=w) (by simp [execOp,e1,e2,hbb,hbn,Op.equal,hn,Op.equalIn,run_underlying hd];rfl) (K _ _ (.same r (.ar (.bool _))))
      · cases hev
   · rename_i hd
     refine heq 0 _ hd trivial (fun q=>by omega) ?_
     split at hc<;>first|(obtain rfl:=wH hc;first|exact .inl ⟨rfl,rfl⟩|exact .inr ⟨rfl,rfl⟩)|cases hc
   · rename_i hd
     refine heq 1 _ hd trivial (fun q=>by omega) ?_
     split at hc<;>first|(obtain rfl:=wH hc;first|exact .inl ⟨rfl,rfl⟩|exact .inr ⟨rfl,rfl⟩)|cases hc
   · rename_i hd
     refine heq 2 _ hd trivial (fun q=>by omega) ?_
     split at hc<;>first|(obtain rfl:=wH hc;first|exact .inl ⟨rfl,rfl⟩|exact .inr ⟨rfl,rfl⟩)|cases hc
   · rename_i hd
     split at hc
     · rename_i hcon
       refine heq 3 _ hd trivial (fun _=>by simpa using hcon) ?_
       split at hc<;>first|(obtain rfl:=wH hc;first|exact .inl ⟨rfl,rfl⟩|exact .inr ⟨rfl,rfl⟩)|cases hc
     · cases hc
   · rename_i fs hd
     split at hc
     · rename_i hcon
       rw[wT]at hcon
       obtain⟨hq1,hq2⟩:=hcon
       have hst:=hbod.2.2.2 t hq1
       have key:∀ng,x=.eqs ng fs.size y' z'→(b=.eql∧ng=false∨b=.neq∧ng=true)→(⟨dst,.binOp b t y z u,ty,pos,after,guard⟩:Oper).wp L.P a w next Q:=by
        intro ng hx hbo
        subst hx
        simp only[ah]at hev
        split at hev
        · rename_i as bs ea eb
          split at hev
          · rename_i hl
            rw[wG]at hev
            obtain⟨q,hq,hev⟩:=hev
            simp only[wK,wN]at hev;obtain⟨rfl,rfl⟩:=hev
            rw[ea]at hyv;rw[eb]at hzv
            obtain⟨xs,ex,lx,vx⟩:=hyv.dV
            obtain⟨ys,ey,ly,vy⟩:=hzv.dV
            have hg:=kZ (w:=w) hd hq2 b y z xs.toArray ys.toArray
            have he':=kY (w:=w) hd hst hq2 lx ly vx vy hl.1 hl.2 hq
            rcases hbo with ⟨rfl,rfl⟩|⟨rfl,rfl⟩
            · exact aa (v':=.bool q) (w':=w) (by simp [execOp,ex,ey,hg,jB,he']) (K _ _ (.same r (.ar (.bool _))))
            · exact aa (v':=.bool !q) (w':=w) (by simp [execOp,ex,ey,hg,jC,he']) (K _ _ (.same r (.ar (.bool _))))
          · cases hev
        · cases hev
       split at hc
       · exact key _ (wH hc).symm (.inl ⟨rfl,rfl⟩)
       · exact key _ (wH hc).symm (.inr ⟨rfl,rfl⟩)
       · cases hc
     · cases hc
   · cases hc
 | unOp u t y =>
   simp only[ch,wG]at hc
   obtain⟨y',hy,hc⟩:=hc
   have hyv:=aq he hy
   split at hc
   · obtain rfl:=wH hc
     simp only[ah]at hev
     split at hev
     · rename_i p hp
       simp only[wK,wN]at hev;obtain⟨rfl,rfl⟩:=hev
       rw[hp]at hyv
       exact aa (v':=.bool !p) (w':=w) (by simp [execOp,hyv.cg,Op.unary]) (K _ _ (.same r (.ar (.bool _))))
     · cases hev
   · obtain rfl:=wH hc
     simp only[ah]at hev
     split at hev
     · rename_i k p hp
       simp only[wK,wN]at hev;obtain⟨rfl,rfl⟩:=hev
       rw[hp]at hyv
       exact aa (v':=.int k (k.wrap (0-p))) (w':=w) (by simp [execOp,hyv.aF,Op.unary,Op.intArith]) (K _ _ (.same r (.ar (.int _ _))))
     · cases hev
   · obtain rfl:=wH hc
     simp only[ah]at hev
     split at hev
     · rename_i k p hp
       simp only[wK,wN]at hev;obtain⟨rfl,rfl⟩:=hev
       rw[hp]at hyv
       exact aa (v':=.int k (bits .xor k (if k.signed then-1 else k.max) p)) (w':=w) (by simp only[execOp,hyv.aF,Op.unary];rfl) (K _ _ (.same r (.ar (.int _ _))))
     · cases hev
   · cases hc
 | convert s d y =>
   have hc0:=hc
   simp only[ch,wG]at hc
   obtain⟨y',hy,hc⟩:=hc
   have hyv:=aq he hy
   unfold nU at hc
   split at hc
   · rename_i k1 k2 h1 h2
     obtain rfl:=wH hc
     simp only[ah]at hev
     split at hev
     · rename_i k p hp
       simp only[wK,wN]at hev;obtain⟨rfl,rfl⟩:=hev
       rw[hp]at hyv
       exact aa (v':=.int k2 (k2.wrap p)) (w':=w) (by simp [execOp,hyv.aF,convert,run_underlying h1,run_underlying h2,Conv.intToInt]) (K _ _ (.same r (.ar (.int _ _))))
     · cases hev
   · rename_i h1 h2
     obtain rfl:=wH hc
     simp only[ah]at hev
     split at hev
     · rename_i p hp
       simp only[wK,wN]at hev;obtain⟨rfl,rfl⟩:=hev
       rw[hp]at hyv
       exact aa (v':=.string p) (w':=w) (by simp [execOp,hyv.cJ,convert,run_underlying h1,run_underlying h2]) (K _ _ (.same r (.ar (.str _))))
     · cases hev
   · rename_i el h1 h2
     split at hc
     · rename_i h3
       obtain rfl:=wH hc
       simp only[ah,wG]at hev
       obtain⟨⟨n,cs⟩,hsrc,l,hl,hev⟩:=hev
       have hnostr:∀s,y'.ev e≠.str s:=by
        intro s hs;rw[hs]at hev;cases hev
       have hev':some (AV.str ⟨l.toArray⟩,h)=some (v,h'):=by
        revert hev
        split
        · intro q;cases q
        · intro q;exact q
       simp only[wK,wN]at hev';obtain⟨rfl,rfl⟩:=hev'
       obtain⟨hconv,b,m,c,hyb⟩:=nP r hyv hsrc hl hnostr
       refine aa (v':=.string ⟨l.toArray⟩) (w':=w) ?_ (K _ _ (.same r (.ar (.str _))))
       rw[hyb]at hconv
       simp only[execOp,Sem.run_bind,hyb,convert,run_underlying h1,run_underlying h2,run_underlying h3,hconv,Result.andThen_ok,Sem.run_pure]
     · cases hc
   · rename_i el h1 h2
     split at hc
     · rename_i h3
       split at hc
       · obtain rfl:=wH hc
         obtain⟨b,hb'⟩:=hbn rfl;exact hb b hb' rfl
       · cases hc
     · cases hc
   · cases hc
 | makeInterface t y =>
   simp only[ch]at hc
   split at hc
   · cases hc
   · cases hc
   · rename_i hni1 hni2
     simp only[wI]at hc
     obtain⟨y',hy,rfl⟩:=hc
     simp only[ah]at hev
     split at hev
     · simp only[wK,wN]at hev;obtain⟨rfl,rfl⟩:=hev
       have hyv:=aq he hy
       obtain⟨d,hd⟩:∃d,L.P.underlying t=some d:=by
        cases hq:L.P.underlying t with
        |none=>exact absurd hq hni2
        |some d=>exact⟨d,rfl⟩
       refine aa (v':=.iface t (a.eval y)) (w':=w) ?_ (K _ _ (.same r (.iface rfl hyv)))
       cases d<;>first|exact absurd hd (hni1 _)|simp [execOp,Instr.makeInterface,run_underlying hd]
     · cases hev
 | typeAssert y xt t ok =>
   cases ok with
   |true=>cases hc
   | false =>
     simp only[ch,wG,wI]at hc
     obtain⟨k,hk,y',hy,rfl⟩:=hc
     obtain⟨⟨d,hd,hni⟩,huniq⟩:=hbod.2.2.1 t k hk
     have hyv:=aq he hy
     simp only[ah]at hev
     split at hev
     · rename_i u z hz
       split at hev
       · rename_i hu
         subst hu
         simp only[wK,wN]at hev;obtain⟨rfl,rfl⟩:=hev
         rw[hz]at hyv
         obtain⟨T,pv,e,hT,hpv⟩:=hyv.bU
         obtain rfl:=huniq T hT
         refine aa (v':=pv) (w':=w) ?_ (K _ _ (.same r hpv))
         cases d<;>first|exact absurd rfl (hni _)|simp [execOp,Instr.typeAssert,run_underlying hd,e]
       · cases hev
     · cases hev
 | makeFunc f y z =>
   cases f with
   | func f =>
     simp only[ch,wG,wI]at hc
     obtain⟨k,hk,y',hy,z',hz,rfl⟩:=hc
     simp only[ah,wK,wN]at hev;obtain⟨rfl,rfl⟩:=hev
     have r1:=dW he hy
     have r2:=dW he hz
     refine aa (v':=.func (.func f) (y.map a.eval) (z.map a.eval)) (w':=w) (by simp [execOp,Instr.makeFunc]) (K _ _ (.same r ?_))
     have:=V.fn (L:=L) (ι:=ι) (M:=M) hk r1.1 r2.1 r1.2 r2.2
     have e1:∀q:Array Operand,(List.map a.eval q.toList).toArray=q.map a.eval:=fun q=>by apply Array.ext';simp
     rwa [e1,e1]at this
   |_=>cases hc
 | makeSlice t l c =>
   have hc0:=hc
   simp only[ch]at hc0
   split at hc0
   · simp only[wG,wI]at hc0
     obtain⟨_,_,_,_,_,_,_,_,_,_,rfl⟩:=hc0
     obtain⟨b,hb'⟩:=hbn rfl;exact hb b hb' rfl
   · cases hc0
 | slice t y lo hi mx =>
   simp only[ch,kN,wG]at hc
   obtain⟨y',hy,lo',hlo,hi',hhi,mx',hmx,hc⟩:=hc
   have hyv:=aq he hy
   have hl:=fC he hlo
   have hh:=fC he hhi
   have hm:=fC he hmx
   split at hc
   · rename_i ht
     split at hc
     · obtain rfl:=wH hc
       simp only[ah,wG]at hev
       obtain⟨q,hq,hev⟩:=hev
       simp only[wK,wN]at hev;obtain⟨rfl,rfl⟩:=hev
       obtain⟨v',h1,h2⟩:=kK (w:=w) ht hyv hl hh hq
       have hmn:mx=none:=by
        cases mx with
        |none=>rfl
        |some m=>simp only[sf,wI]at hmx;obtain⟨_,_,hmx⟩:=hmx;cases hmx
       subst hmn
       exact aa (v':=v') (w':=w) (by simp [execOp,h1]) (K _ _ (.same r h2))
     · cases hc
   · rename_i el ht
     simp only[wG]at hc
     obtain⟨n,hn,hc⟩:=hc
     obtain rfl:=wH hc
     simp only[ah,wG]at hev
     obtain⟨q,hq,hev⟩:=hev
     simp only[wK,wN]at hev;obtain⟨rfl,rfl⟩:=hev
     obtain⟨v',h1,h2⟩:=mr r ht hn hyv hl hh hm hq
     exact aa (v':=v') (w':=w) (by simp [execOp,h1]) (K _ _ (.same r h2))
   · rename_i k el ht
     split at hc
     · simp only[wG]at hc
       obtain⟨n,hn,hc⟩:=hc
       obtain rfl:=wH hc
       simp only[ah,wG]at hev
       obtain⟨q,hq,hev⟩:=hev
       simp only[wK,wN]at hev;obtain⟨rfl,rfl⟩:=hev
       obtain⟨v',h1,h2⟩:=kJ r ht hn hyv hl hh hq
       have hmn:mx=none:=by
        cases mx with
        |none=>rfl
        |some m=>simp only[sf,wI]at hmx;obtain⟨_,_,hmx⟩:=hmx;cases hmx
       subst hmn
       exact aa (v':=v') (w':=w) (by simp [execOp,h1]) (K _ _ (.same r h2))
     · cases hc
   · cases hc
 | fieldAddr s y f =>
   simp only[ch]at hc
   split at hc
   · rename_i fs ht
     simp only[wG]at hc
     obtain⟨fd,hf,n,hn,hc⟩:=hc
     split at hc
     · cases hc
     · rename_i hn0
       simp only[wI]at hc
       obtain⟨y',hy,rfl⟩:=hc
       simp only[ah,wG]at hev
       obtain⟨q,hq,hev⟩:=hev
       simp only[wK,wN]at hev;obtain⟨rfl,rfl⟩:=hev
       obtain⟨v',h1,h2⟩:=jO (w:=w) ht hf hn hn0 (aq he hy) hq
       exact aa (v':=v') (w':=w) (by simp [execOp,h1]) (K _ _ (.same r h2))
   · cases hc
 | field s y f =>
   simp only[ch]at hc
   split at hc
   · rename_i fs ht
     simp only[wG,wI]at hc
     obtain⟨fd,hf,ag,hag,n,hn,y',hy,rfl⟩:=hc
     simp only[ah]at hev
     split at hev
     · rename_i cs hcs
       simp only[wG]at hev
       obtain⟨q,hq,hev⟩:=hev
       simp only[wK,wN]at hev;obtain⟨rfl,rfl⟩:=hev
       have hyv:=aq he hy;rw[hcs]at hyv
       obtain⟨vs,hvs,hl,hv⟩:=hyv.dV
       obtain⟨v',h1,h2⟩:=dy (w:=w) hag hn hl hv hq
       exact aa (v':=v') (w':=w) (by simp [execOp,Instr.field,run_underlying ht,hf,hvs,asAgg,h1]) (K _ _ (.same r h2))
     · cases hev
   · cases hc
 | indexAddr t y z =>
   simp only[ch,wG]at hc
   obtain⟨y',hy,z',hz,hc⟩:=hc
   split at hc
   · rename_i el ht
     simp only[wI]at hc
     obtain⟨n,hn,rfl⟩:=hc
     simp only[ah,wG]at hev
     obtain⟨q,hq,hev⟩:=hev
     simp only[wK,wN]at hev;obtain⟨rfl,rfl⟩:=hev
     obtain⟨v',h1,h2⟩:=jP r ht hn (aq he hy) (aq he hz) hq
     exact aa (v':=v') (w':=w) (by simp [execOp,h1]) (K _ _ (.same r h2))
   · rename_i k el ht
     simp only[wI]at hc
     obtain⟨n,hn,rfl⟩:=hc
     simp only[ah,wG]at hev
     obtain⟨q,hq,hev⟩:=hev
     simp only[wK,wN]at hev;obtain⟨rfl,rfl⟩:=hev
     obtain⟨v',h1,h2⟩:=jw (w:=w) ht hn (aq he hy) (aq he hz) hq
     exact aa (v':=v') (w':=w) (by simp [execOp,h1]) (K _ _ (.same r h2))
   · cases hc
 | index t y z =>
   simp only[ch,wG]at hc
   obtain⟨y',hy,z',hz,hc⟩:=hc
   have hyv:=aq he hy
   have hzv:=aq he hz
   split at hc
   · rename_i ht
     obtain rfl:=wH hc
     simp only[ah,wG]at hev
     obtain⟨q,hq,hev⟩:=hev
     simp only[wK,wN]at hev;obtain⟨rfl,rfl⟩:=hev
     unfold nH at hq
     split at hq
     · rename_i st hst
       simp only[wG]at hq
       obtain⟨j,hj,b,hb1,hq⟩:=hq
       obtain rfl:=wH hq
       rw[hst]at hyv
       obtain⟨k,zi,hzi,z0,z1,rfl,hjl⟩:=dc hzv hj
       exact aa (v':=.int .u8 b.toNat) (w':=w) (by simp [execOp,Instr.index,hzi,asIntOf,run_underlying ht,hyv.cJ,z0,hb1]) (K _ _ (.same r (.ar (.int _ _))))
     · cases hq
   · rename_i k el ht
     simp only[wG,wI]at hc
     obtain⟨ag,hag,n,hn,rfl⟩:=hc
     simp only[ah,wG]at hev
     obtain⟨q,hq,hev⟩:=hev
     simp only[wK,wN]at hev;obtain⟨rfl,rfl⟩:=hev
     unfold nG at hq
     split at hq
     · rename_i cs hcs
       simp only[wG]at hq
       obtain⟨j,hj,hq⟩:=hq
       rw[hcs]at hyv
       obtain⟨vs,hvs,hl,hv⟩:=hyv.dV
       obtain⟨k',zi,hzi,z0,z1,rfl,hjl⟩:=dc hzv hj
       obtain⟨v',h1,h2⟩:=dy (w:=w) hag hn hl hv hq
       exact aa (v':=v') (w':=w) (by simp [execOp,Instr.index,hzi,asIntOf,run_underlying ht,hvs,z0,z1,ak hn,h1]) (K _ _ (.same r h2))
     · cases hq
   · cases hc
 | extract y i =>
   simp only[ch,wI]at hc
   obtain⟨y',hy,rfl⟩:=hc
   have hyv:=aq he hy
   simp only[ah]at hev
   split at hev
   · rename_i vs hvs
     simp only[wG]at hev
     obtain⟨q,hq,hev⟩:=hev
     simp only[wK,wN]at hev;obtain⟨rfl,rfl⟩:=hev
     rw[hvs]at hyv
     obtain⟨us,hus,hl,hv⟩:=hyv.mi
     obtain⟨hi,_⟩:=wO.1 hq
     have hu:us[i]?=some (us[i]'(hl ▸ hi)):=by simp [hl ▸ hi]
     exact aa (v':=us[i]'(hl ▸ hi)) (w':=w) (by simp [execOp,Instr.extract,hus,hu]) (K _ _ (.same r (hv i _ _ hq hu)))
   · cases hev
 | call c =>
   obtain⟨callee,args,ats⟩:=c
   simp only[ch,nS,wG]at hc
   obtain⟨xs,hxs,hc⟩:=hc
   have hrow:=dW he hxs
   split at hc
   · rename_i f
     simp only[wG]at hc
     obtain⟨f',hf,hc⟩:=hc
     obtain rfl:=wH hc
     simp only[ah]at hev
     split at hev
     · rename_i k first captured hk
       have hfv:=aq he hf;rw[hk]at hfv
       obtain⟨fid,va,vc,hfe,hmf,la,lc,hva,hvc⟩:=hfv.fJ
       obtain⟨fn,cd,hfn,hbody,hname⟩:=hbod.1 fid k hmf
       have hcall:=hcal k fid _ (va++args.toList.map a.eval++vc) ι M h h' w v hmf hev r (aw.append (aw.append (show aw L ι M first va from ⟨la,hva⟩) hrow) (show aw L ι M captured vc from ⟨lc,hvc⟩))
       have hexec:(execOp a.eval ⟨dst,.call ⟨.value f,args,ats⟩,ty,pos,after,guard⟩).run L.P w=.ok (.enter fid (va++args.toList.map a.eval++vc).toArray) w:=by
        simp only[execOp,resolve,Sem.run_bind,hfe,Deferred.ofValue,Sem.run_pure,Result.andThen_ok,invoke,callFunc,run_program,hfn,hname,wR,xp,hbody,Option.isNone_some]
        congr 2
        apply Array.ext'
        simp
       unfold Oper.wp
       rw[hexec]
       exact hcall.mono fun e w' hq=>by
        obtain⟨v',rfl,ho⟩:=hq
        exact K _ _ ho
     · cases hev
   · rename_i rc name
     simp only[wG,wI]at hc
     obtain⟨rc',hf,⟨t,k,d⟩,hiv,rfl⟩:=hc
     simp only[ah]at hev
     split at hev
     · rename_i u rv hk
       split at hev
       · rename_i hut
         subst hut
         simp only[wG]at hev
         obtain⟨x,hx,hev⟩:=hev
         have hfv:=aq he hf;rw[hk]at hfv
         obtain⟨T,pv,hfe,hT,hpv⟩:=hfv.bU
         obtain⟨fid,hmf,hio⟩:=hbod.2.1 name _ k d hiv T hT
         obtain⟨fn,cd,hfn,hbody,hname⟩:=hbod.1 fid k hmf
         have hd0:0<Made.depth:=by decide
         obtain⟨n,hn⟩:∃n,L.P.types.size+Made.depth=n+1:=⟨L.P.types.size+Made.depth-1,by omega⟩
         obtain⟨xv,m1,m2⟩:=jS r hio (n:=n) hpv hx
         have hcall:=hcal k fid _ (xv::args.toList.map a.eval) ι M h h' w v hmf hev r (aw.append (show aw L ι M [x] [xv]from ⟨rfl,fun i a b q1 q2=>by
          match i with
          |0=>obtain rfl:=wH q1;obtain rfl:=wH q2;exact m2
          |j+1=>cases q1⟩) hrow)
         have hexec:(execOp a.eval ⟨dst,.call ⟨.invoke rc name,args,ats⟩,ty,pos,after,guard⟩).run L.P w=.ok (.enter fid (xv::args.toList.map a.eval).toArray) w:=by
          have:=iT (args:=args.map a.eval) hn m1 hfn hname hbody
          simp only[execOp,resolve,Sem.run_bind,Sem.run_pure,Result.andThen_ok]
          rw[hfe,this]
          simp
         unfold Oper.wp
         rw[hexec]
         exact hcall.mono fun e w' hq=>by
          obtain⟨v',rfl,ho⟩:=hq
          exact K _ _ ho
       · cases hev
     · cases hev
   · rename_i b
     have hlen:=hrow.1
     split at hc
     · rename_i y t hats
       unfold rZ at hc
       obtain⟨o,rfl⟩:=nL hlen
       have hat:ats= #[t]:=by obtain⟨l⟩:=ats;simp at hats;rw[hats]
       subst hat
       have hyv:=hrow.2 0 (y.ev e) (a.eval o) rfl rfl
       have hrunlen:∀{v':Value},(Builtin.len_ #[t] ty #[a.eval o]).run L.P w=.ok v' w→(execOp a.eval ⟨dst,.call ⟨.builtin .len, #[o], #[t]⟩,ty,pos,after,guard⟩).run L.P w=.ok (.value v') w:=by
        intro v' hq
        rw[bz]
        simp [builtin,hq]
       have hlenb:∀{str:Bool},ah call e h (.len str y)=some (v,h')→((str=true∧L.P.underlying t=some .string)∨(str=false∧∃el,L.P.underlying t=some (.slice el)))→(⟨dst,.call ⟨.builtin .len, #[o], #[t]⟩,ty,pos,after,guard⟩:Oper).wp L.P a w next Q:=by
        intro str hev ht
        simp only[ah,wG]at hev
        obtain⟨q,hq,hev⟩:=hev
        simp only[wK,wN]at hev;obtain⟨rfl,rfl⟩:=hev
        obtain⟨m,hm1,hm2⟩:=kF (w:=w) (ty:=ty) r ht hyv hq
        exact aa (v':=m) (w':=w) (hrunlen hm1) (K _ _ (.same r hm2))
       split at hc
       · rename_i ht
         obtain rfl:=wH hc
         exact hlenb hev (.inl ⟨rfl,ht⟩)
       · rename_i el ht
         obtain rfl:=wH hc
         exact hlenb hev (.inr ⟨rfl,el,ht⟩)
       · rename_i n el ht
         obtain rfl:=wH hc
         simp only[ah,X.ev,wK,wN]at hev;obtain⟨rfl,rfl⟩:=hev
         exact aa (v':=.int .i64 n) (w':=w) (hrunlen (by simp [Builtin.len_,run_underlying ht,goInt])) (K _ _ (.same r (.ar (.int _ _))))
       · rename_i el ht
         split at hc
         · rename_i n el' ht'
           obtain rfl:=wH hc
           simp only[ah,X.ev,wK,wN]at hev;obtain⟨rfl,rfl⟩:=hev
           exact aa (v':=.int .i64 n) (w':=w) (hrunlen (by simp [Builtin.len_,run_underlying ht,run_underlying ht',goInt])) (K _ _ (.same r (.ar (.int _ _))))
         · cases hc
       · cases hc
     · rename_i y t hats
       obtain⟨o,rfl⟩:=nL hlen
       have hat:ats= #[t]:=by obtain⟨l⟩:=ats;simp at hats;rw[hats]
       subst hat
       have hyv:=hrow.2 0 (y.ev e) (a.eval o) rfl rfl
       split at hc
       · rename_i el ht
         obtain rfl:=wH hc
         simp only[ah,wG]at hev
         obtain⟨q,hq,hev⟩:=hev
         simp only[wK,wN]at hev;obtain⟨rfl,rfl⟩:=hev
         unfold rJ at hq
         split at hq
         · rename_i hy
           obtain rfl:=wH hq
           rw[hy]at hyv
           exact aa (v':=.int .i64 0) (w':=w) (by rw[bz];simp [builtin,Builtin.cap_,run_underlying ht,hyv.aC,goInt]) (K _ _ (.same r (.ar (.int _ _))))
         · cases hq
       · cases hc
     · rename_i y z sT xT hats
       obtain⟨o1,o2,rfl⟩:=qV hlen
       have hat:ats= #[sT,xT]:=by obtain⟨l⟩:=ats;simp at hats;rw[hats]
       subst hat
       have hyv:=hrow.2 0 (y.ev e) (a.eval o1) rfl rfl
       have hzv:=hrow.2 1 (z.ev e) (a.eval o2) rfl rfl
       have happ:∀{v':Value} {w':World},(Builtin.append_ #[sT,xT] ty #[a.eval o1,a.eval o2]).run L.P w=.ok v' w'→(execOp a.eval ⟨dst,.call ⟨.builtin .append, #[o1,o2], #[sT,xT]⟩,ty,pos,after,guard⟩).run L.P w=.ok (.value v') w':=by
        intro v' w' hq
        rw[bz]
        simp [builtin,hq]
       split at hc
       · rename_i el k ht hx
         simp only[wG]at hc
         obtain⟨n,hn,m,hm,zz,hzz,hc⟩:=hc
         obtain rfl:=wH hc
         simp only[ah]at hev
         obtain⟨v',w',h1,h2⟩:=kI (ty:=ty) r ht hx hn hm hzz hyv hzv hev
         exact aa (happ h1) (K _ _ (.of h2))
       · rename_i el ht hx
         simp only[wG]at hc
         obtain⟨n,hn,m,hm,zz,hzz,hc⟩:=hc
         split at hc
         · rename_i hzl
           obtain rfl:=wH hc
           simp only[ah]at hev
           obtain⟨v',w',h1,h2⟩:=ja (ty:=ty) r ht (.inl hx) hn hm hzz hzl hyv hzv hev
           exact aa (happ h1) (K _ _ (.of h2))
         · cases hc
       · rename_i el el' ht hx
         simp only[wG]at hc
         obtain⟨n,hn,m,hm,zz,hzz,hc⟩:=hc
         split at hc
         · rename_i hzl
           obtain rfl:=wH hc
           simp only[ah]at hev
           obtain⟨v',w',h1,h2⟩:=ja (ty:=ty) r ht (.inr ⟨_,hx⟩) hn hm hzz hzl hyv hzv hev
           exact aa (happ h1) (K _ _ (.of h2))
         · cases hc
       · cases hc
     · rename_i y z sT xT hats
       obtain⟨o1,o2,rfl⟩:=qV hlen
       have hat:ats= #[sT,xT]:=by obtain⟨l⟩:=ats;simp at hats;rw[hats]
       subst hat
       have hyv:=hrow.2 0 (y.ev e) (a.eval o1) rfl rfl
       have hzv:=hrow.2 1 (z.ev e) (a.eval o2) rfl rfl
       split at hc
       · rename_i el ht
         simp only[wG]at hc
         obtain⟨n,hn,hc⟩:=hc
         obtain rfl:=wH hc
         simp only[ah]at hev
         obtain⟨v',w',h1,h2⟩:=kT (sT:=xT) (ty:=ty) r ht hn hyv hzv hev
         exact aa (v':=v') (w':=w') (by rw[bz];simp [builtin,h1]) (K _ _ (.of h2))
       · cases hc
     · rename_i y sT hats
       obtain⟨o,rfl⟩:=nL hlen
       have hat:ats= #[sT]:=by obtain⟨l⟩:=ats;simp at hats;rw[hats]
       subst hat
       have hyv:=hrow.2 0 (y.ev e) (a.eval o) rfl rfl
       split at hc
       · rename_i el ht
         simp only[wG]at hc
         obtain⟨n,hn,zz,hzz,hc⟩:=hc
         obtain rfl:=wH hc
         simp only[ah,wG]at hev
         obtain⟨q,hq,hev⟩:=hev
         simp only[wK,wN]at hev;obtain⟨rfl,rfl⟩:=hev
         obtain⟨w',h1,h2⟩:=jW (ty:=ty) r ht hn hzz hyv hq
         exact aa (v':=.tuple #[]) (w':=w') (by rw[bz];simp [builtin,h1]) (K _ _ (.same h2 (.ar (.bot _))))
       · cases hc
     · obtain rfl:=wH hc
       simp only[ah]at hev
       split at hev
       · cases hev
       · rename_i x0 rest hxs'
         simp only[wG]at hev
         obtain⟨q,hq,hev⟩:=hev
         simp only[wK,wN]at hev;obtain⟨rfl,rfl⟩:=hev
         rw[hxs']at hrow
         obtain⟨o,os,hos⟩:∃o os,args.toList=o::os:=by
          cases hargs:args.toList with
          |nil=>rw[hargs]at hrow;have:=hrow.1;simp at this
          |cons o os=>exact⟨o,os,rfl⟩
         rw[hos]at hrow
         obtain⟨v',h1,h2⟩:=j6 (w:=w) (xs:=rest) (vs:=os.map a.eval) ⟨by simpa using hrow.1,fun i a x p q=>hrow.2 (i+1) a x (by simpa using p) (by simpa using q)⟩ (hrow.2 0 x0 (a.eval o) rfl rfl) hq
         exact aa (v':=v') (w':=w) (by rw[bz];simp [builtin,Builtin.min_,hos,h1]) (K _ _ (.same r h2))
     · obtain rfl:=wH hc
       simp only[ah]at hev
       split at hev
       · cases hev
       · rename_i x0 rest hxs'
         simp only[wG]at hev
         obtain⟨q,hq,hev⟩:=hev
         simp only[wK,wN]at hev;obtain⟨rfl,rfl⟩:=hev
         rw[hxs']at hrow
         obtain⟨o,os,hos⟩:∃o os,args.toList=o::os:=by
          cases hargs:args.toList with
          |nil=>rw[hargs]at hrow;have:=hrow.1;simp at this
          |cons o os=>exact⟨o,os,rfl⟩
         rw[hos]at hrow
         obtain⟨v',h1,h2⟩:=j5 (w:=w) (xs:=rest) (vs:=os.map a.eval) ⟨by simpa using hrow.1,fun i a x p q=>hrow.2 (i+1) a x (by simpa using p) (by simpa using q)⟩ (hrow.2 0 x0 (a.eval o) rfl rfl) hq
         exact aa (v':=v') (w':=w) (by rw[bz];simp [builtin,Builtin.max_,hos,h1]) (K _ _ (.same r h2))
     · cases hc
 |panic y=>obtain rfl:=wH hc;cases hev
 |_=>cases hc
end
end Ab
namespace Ab
open Go RowKit
def aT (call:ae):Prop:=∀f a h v h',call f a h=some (v,h')→h.next≤h'.next
theorem bS {call:ae} {e:Env} {h h':H} {o:cq} {v:AV} (hl:o.aR=false) (hb:o.aK=false) (hev:ah call e h o=some (v,h')):h'=h:=by
 cases o<;>simp only[cq.aR,cq.aK,Bool.true_eq_false,reduceCtorEq]at hl hb<;>simp only[ah,wG]at hev
 all_goals first
  |(obtain⟨_,_,hev⟩:=hev;exact(wJ (wH hev)).2.symm)
  |exact(wJ (wH hev)).2.symm
  |skip
 all_goals repeat' split at hev
 all_goals first
  |(cases hev;done)
  |exact(wJ (wH hev)).2.symm
  |skip
 all_goals try simp only[wG]at hev
 all_goals obtain⟨q1,q2,hev⟩:=hev
 all_goals first
  |exact(wJ (wH hev)).2.symm
  |skip
 all_goals obtain⟨q3,q4,hev⟩:=hev
 all_goals repeat' split at hev
 all_goals first
  |(cases hev;done)
  |exact(wJ (wH hev)).2.symm
theorem jZ {call:ae} {e:Env} {h:H} {o:cq} (hb:o.aK=true):ah call e h o=bE e h o:=by
 cases o<;>first|(simp [cq.aK]at hb;done)|rfl
theorem dp {call:ae} {e:Env} {h h':H} {o:cq} {v:AV} (hb:o.aK=true) (hev:ah call e h o=some (v,h')):∃b,bg e o=some b∧v=b.2 h.next∧h'=h.alloc b.1:=by
 rw[jZ hb,bE]at hev
 simp only[wG,wK,wN]at hev
 obtain⟨b,h1,h2,h3⟩:=hev
 exact⟨b,h1,h2.symm,h3.symm⟩
theorem nR {e:Env} {o:cq} {b} (h:bg e o=some b) (i:Nat):(b.2 i).id?=some i:=by
 cases o<;>simp only[bg]at h<;>repeat' split at h
 all_goals first
  |(cases h;done)
  |(obtain rfl:=wH h;rfl)
  |(simp only[wG]at h;obtain⟨_,_,h⟩:=h;obtain rfl:=wH h;rfl)
theorem oN (h:H) (id:Nat) (cs:List AV):(h.set id cs).next=h.next:=H.kg h id cs
theorem bG (h:H) (cs:List AV):(h.alloc cs).next=h.next+1:=H.lg h cs
theorem nZ (h:H) (id:Nat):(h.del id).next=h.next:=rfl
theorem kz {h h':H} {sz by_:Nat} {a:AV} {n:Nat} {bs:List AV} {v:AV} (hh:eK h sz by_ a n bs=some (v,h')):h.next≤h'.next:=by
 unfold eK at hh
 repeat' split at hh
 all_goals first
  |(cases hh;done)
  |(obtain⟨_,rfl⟩:=wJ (wH hh);simp only[bG];omega)
  |(obtain⟨_,rfl⟩:=wJ (wH hh);exact wU _)
  |skip
 simp only[wG]at hh
 obtain⟨cs,_,hh⟩:=hh
 repeat' split at hh
 all_goals first
  |(cases hh;done)
  |(obtain⟨_,rfl⟩:=wJ (wH hh);simp only[bG,oN,nZ];omega)
  |(obtain⟨_,rfl⟩:=wJ (wH hh);exact wU _)
theorem mG {call : ae} (hn : aT call) {e : Env} {h h' : H} {o : cq} {v : AV} (hev : ah call e h o = some (v, h')) : h.next ≤ h'.next := by
 by_cases hb:o.aK=true
 · obtain⟨b,_,_,rfl⟩:=dp hb hev
   simp only[bG];omega
 by_cases hl:o.aR=true
 · cases o <;> simp only [cq.aR, wR] at hl <;> simp only [ah] at hev
   case store n p x=>
    simp only[wG,wK,wN]at hev
    obtain⟨h1,hs,_,rfl⟩:=hev
    unfold dG at hs
    split at hs
    · simp only[wG]at hs
      obtain⟨cs,_,hs⟩:=hs
      split at hs
      · obtain rfl:=wH hs;first|exact wU _|simp
      · cases hs
    · cases hs
   case call f args=>
    split at hev
    · exact hn _ _ _ _ _ hev
    · cases hev
   case inv2=>
    split at hev
    · split at hev
      · simp only[wG]at hev
        obtain⟨_,_,hev⟩:=hev
        exact hn _ _ _ _ _ hev
      · cases hev
    · cases hev
   case app=>
    unfold mo at hev
    simp only[wG]at hev
    obtain⟨r,_,hev⟩:=hev
    exact kz hev
   case kH=>
    unfold iY at hev
    repeat' split at hev
    all_goals first
     |(cases hev;done)
     |(obtain⟨_,rfl⟩:=wJ (wH hev);simp only[bG];omega)
   case copy=>
    unfold iZ at hev
    simp only[wG]at hev
    obtain⟨r,_,hev⟩:=hev
    split at hev
    · obtain⟨_,rfl⟩:=wJ (wH hev);first|exact wU _|simp
    · split at hev
      · simp only[wG]at hev
        obtain⟨r,_,hev⟩:=hev
        split at hev
        · obtain⟨_,rfl⟩:=wJ (wH hev);first|exact wU _|simp
        · cases hev
      · cases hev
    · cases hev
   case clear=>
    simp only[wG,wK,wN]at hev
    obtain⟨h1,hev,_,rfl⟩:=hev
    unfold fp at hev
    repeat' split at hev
    all_goals first
     |(cases hev;done)
     |(obtain rfl:=wH hev;first|exact wU _|simp)
     |skip
    simp only[wG]at hev
    obtain⟨r,_,hev⟩:=hev
    split at hev
    · obtain rfl:=wH hev;first|exact wU _|simp
    · cases hev
 · rw[bS (by simpa using hl) (by simpa using hb) hev];first|exact wU _|simp
theorem cW {call:ae} (hn:aT call) {e:Env} {h h':H} {o:aj} {v:AV} (hev:ai call o e h=some (v,h')):h.next≤h'.next:=by
 unfold ai at hev
 repeat' split at hev
 all_goals first
  |exact mG hn hev
  |(obtain⟨_,rfl⟩:=wJ (wH hev);exact wU _)
  |(cases hev;done)
theorem dw {call:ae} (hn:aT call):∀{os:List aj} {e e':Env} {h h':H},au call os e h=some (e',h')→h.next≤h'.next
 |[],_,_,_,_,hev=>by obtain⟨_,rfl⟩:=wJ (wH hev);exact wU _
 | o :: os, _, _, _, _, hev => by
   simp only[au,wG]at hev
   obtain⟨r,h1,h2⟩:=hev
   exact xq (cW hn h1) (dw hn h2)
theorem cO {call:ae}:∀{os:List aj} {e e':Env} {h h':H} {gs},aQ call os e h=some (e',h',gs)→au call os e h=some (e',h')
 |[],_,_,_,_,_,hev=>by obtain⟨rfl,h2⟩:=wJ (wH hev);obtain⟨rfl,_⟩:=wJ h2;rfl
 | o :: os, _, _, _, _, _, hev => by
   simp only[aQ,au,wG]at hev ⊢
   obtain⟨r,h1,r2,h2,h3⟩:=hev
   obtain⟨rfl,h4⟩:=wJ (wH h3);obtain⟨rfl,_⟩:=wJ h4
   exact⟨r,h1,cO (h2)⟩
def lH (F:Env→H→ej):Prop:=∀e h x e' h',F e h=some (x,e',h')→h.next≤h'.next
def na (lp:bQ):Prop:=∀F,lH F→lH (lp F)
theorem cZ:∀n,na (aM n)
 |0,_,_,_,_,_,_,_,h=>by cases h
 | n + 1, F, hF, e, h, x, e', h', hev => by
   simp only[aM,wG]at hev
   obtain⟨⟨y,e1,h1⟩,ha,hb⟩:=hev
   have:=hF _ _ _ _ _ ha
   split at hb
   · rename_i q
     obtain⟨rfl,q2⟩:=wJ q;obtain⟨rfl,rfl⟩:=wJ q2
     exact xq this (cZ n F hF _ _ _ _ _ hb)
   · obtain⟨rfl,q2⟩:=wJ (wH hb);obtain⟨rfl,rfl⟩:=wJ q2
     exact this
theorem bL {call : ae} (hn : aT call) {lp : bQ} (hl : na lp) : ∀ (x : aI), lH (aO call lp x)
 | .skip,_,_,_,_,_,hev=>by cases hev;exact wU _
 | .exit _,_,_,_,_,_,hev=>by cases hev;exact wU _
 | .ret,_,_,_,_,_,hev=>by cases hev;exact wU _
 | .qz ops yR, _, _, _, _, _, hev => by
   simp only[aO,wG]at hev
   obtain⟨r,h1,h2⟩:=hev
   cases h2;exact dw hn h1
 | .jG ord ops fl yR, _, _, _, _, _, hev => by
   simp only[aO,wG]at hev
   obtain⟨r,h1,h2⟩:=hev
   split at h2
   · cases h2;exact dw hn (cO h1)
   · cases h2
 | .seq a b, _, _, _, _, _, hev => by
   simp only[aO,wG]at hev
   obtain⟨⟨y,e1,h1⟩,ha,hb⟩:=hev
   have:=bL hn hl a _ _ _ _ _ ha
   split at hb
   · rename_i q
     cases q
     exact xq this (bL hn hl b _ _ _ _ _ hb)
   · cases hb;exact this
 | .cond x a b yR, _, h0, _, _, _, hev => by
   simp only[aO]at hev
   split at hev
   · simp only[wG]at hev
     obtain⟨⟨y,e1,h1⟩,ha,hb⟩:=hev
     have:h0.next≤h1.next:=by
      split at ha
      · exact bL hn hl a _ _ _ _ _ ha
      · exact bL hn hl b _ _ _ _ _ ha
     split at hb
     · rename_i q;cases q;cases hb;exact this
     · cases hb;exact this
   · cases hev
 | .block id c yR, _, _, _, _, _, hev => by
   simp only[aO,wG]at hev
   obtain⟨⟨y,e1,h1⟩,ha,hb⟩:=hev
   have:=bL hn hl c _ _ _ _ _ ha
   split at hb
   · rename_i q;cases q;cases hb;exact this
   · rename_i q;cases q
     split at hb<;>(cases hb;exact this)
   · rename_i q;cases q;cases hb;exact this
 | .loop yR c,_,_,_,_,_,hev=>hl _ (fun _ _ _ _ _ h=>bL hn hl c _ _ _ _ _ h) _ _ _ _ _ hev
theorem mU {call : ae} (hn : aT call) {lp : bQ} (hl : na lp) {fn : fY} {args : List AV} {h h' : H} {v : AV} (hev : fW call lp fn args h = some (v, h')) : h.next ≤ h'.next := by
 unfold fW at hev
 split at hev
 · simp only[wG]at hev
   obtain⟨⟨y,e1,h1⟩,ha,hb⟩:=hev
   have:=bL hn hl _ _ _ _ _ _ ha
   unfold fin at hb
   split at hb
   · cases hb
   · rename_i q;cases q
     simp only[wG]at hb
     obtain⟨vs,_,hb⟩:=hb
     split at hb
     · simp only[wG]at hb
       obtain⟨_,_,hb⟩:=hb
       cases hb;exact wU _
     · rename_i hp;cases hb;rw[if_neg hp]at this;exact this
 · cases hev
theorem dx (A:bp):∀d,aT (aW A d)
 |0,_,_,_,_,_,h=>by cases h
 | d + 1, f, args, h, v, h', hev => by
   simp only[aW,wG]at hev
   obtain⟨fn,_,hr⟩:=hev
   exact mU (dx A d) (cZ d) hr
def X.tm:X→List Nat
 | .t n=>[n]
 | .c _=>[]
def kq:Option X→List Nat
 |none=>[]
 |some x=>x.tm
def mY (l:List X):List Nat:=l.flatMap X.tm
def cq.tm:cq→List Nat
 | .mv x| .box _ x| .pP x| .not x| .neg x| .inv x| .conv _ x| .same x| .mu x| .qD x| .pO _ x| .pF _ x| .vm _ _ _ x| .pD x _| .qN x _| .len _ x| .cap x| .clear _ _ x=>x.tm
 | .pick a b c=>a.tm++(b.tm++c.tm)
 | .alloc _| .vO=>[]
 | .build _ ps=>ps.flatMap fun p=>p.2.2.tm
 | .dj _ _ _ ps=>ps.flatMap fun p=>p.2.tm
 | .load _ _ p=>p.tm
 | .store _ p v=>p.tm++v.tm
 | .bin _ x y| .mD _ _ x y| .uj _ x y| .eqs _ _ x y| .pG _ x y| .lZ _ _ x y| .idxs x y| .pK _ _ _ x y| .app _ _ x y| .kH _ _ _ x y| .copy _ x y| .jI _ _ _ x y=>x.tm++y.tm
 | .pN _ a b=>mY a++mY b
 | .vA x a b=>x.tm++(kq a++kq b)
 | .sl _ x a b c=>x.tm++(kq a++(kq b++kq c))
 | .tW _ _ x a b=>x.tm++(kq a++kq b)
 | .call f xs=>f.tm++mY xs
 | .inv2 r _ _ _ xs=>r.tm++mY xs
 | .mn xs| .mx xs=>mY xs
def aj.tm (o:aj):List Nat:=(match o.guard with|none=>[]|some g=>[g.1])++o.op.tm
section
variable {e e':Env}
def cU (e e':Env) (l:List Nat):Prop:=∀t∈l,look e t=look e' t
theorem cU.left {a b:List Nat} (h:cU e e' (a++b)):cU e e' a:=fun t q=>h t (List.mem_append_left _ q)
theorem cU.right {a b:List Nat} (h:cU e e' (a++b)):cU e e' b:=fun t q=>h t (List.mem_append_right _ q)
theorem X.az {x:X} (h:cU e e' x.tm):x.ev e=x.ev e':=by
 cases x with
 |t n=>exact h n (by simp [X.tm])
 |c v=>rfl
theorem dO {x:Option X} (h:cU e e' (kq x)):x.map (X.ev e)=x.map (X.ev e'):=by
 cases x with
 |none=>rfl
 |some x=>simp only[Option.map_some,X.az (x:=x) h]
theorem di {l:List X} (h:cU e e' (mY l)):bc e l=bc e' l:=
 List.map_congr_left fun x hx=>X.az fun t ht=>h t (List.mem_flatMap.2 ⟨x,hx,ht⟩)
theorem dH {o:cq} (h:cU e e' o.tm):bg e o=bg e' o:=by
 cases o<;>simp only[bg]
 case box n x=>rw[X.az (x:=x) h]
 case dj sz len z ps=>
  have:(ps.map fun p=>(p.1* sz,sz,p.2.ev e))=ps.map fun p=>(p.1* sz,sz,p.2.ev e'):=List.map_congr_left fun p hp=>by rw[X.az (x:=p.2) fun t ht=>h t (List.mem_flatMap.2 ⟨p,hp,ht⟩)]
  rw[this]
 case jI sz b z x y=>rw[X.az (x:=x) h.left,X.az (x:=y) h.right]
 case qD x=>rw[X.az (x:=x) h]
theorem ik {call:ae} {g:H} {o:cq} (h:cU e e' o.tm):ah call e g o=ah call e' g o:=by
 cases o<;>simp only[ah,bE,dH h]
 case build z ps=>
  have:(ps.map fun p=>(p.1,p.2.1,p.2.2.ev e))=ps.map fun p=>(p.1,p.2.1,p.2.2.ev e'):=List.map_congr_left fun p hp=>by rw[X.az (x:=p.2.2) fun t ht=>h t (List.mem_flatMap.2 ⟨p,hp,ht⟩)]
  rw[this]
 all_goals first
  |(rename_i x;rw[X.az (x:=x) h];done)
  |(rename_i x _;rw[X.az (x:=x) h];done)
  |(rename_i x y;rw[X.az (x:=x) h.left,X.az (x:=y) h.right];done)
  |(rename_i x y z;rw[X.az (x:=x) h.left,X.az (x:=y) h.right.left,X.az (x:=z) h.right.right];done)
  |(rename_i x y;rw[di (l:=x) h.left,di (l:=y) h.right];done)
  |(rename_i x a b;rw[X.az (x:=x) h.left,dO (x:=a) h.right.left,dO (x:=b) h.right.right];done)
  |(rename_i x a b c;rw[X.az (x:=x) h.left,dO (x:=a) h.right.left,dO (x:=b) h.right.right.left,dO (x:=c) h.right.right.right];done)
  |(rename_i x y;rw[X.az (x:=x) h.left,di (l:=y) h.right];done)
  |(rename_i x _ y;rw[X.az (x:=x) h.left,di (l:=y) h.right];done)
  |(rename_i x _ _ _ y;rw[X.az (x:=x) h.left,di (l:=y) h.right];done)
  |(rename_i x;rw[di (l:=x) h];done)
theorem dq {call:ae} {g:H} {o:aj} (h:cU e e' o.tm):ai call o e g=ai call o e' g:=by
 unfold aj.tm at h
 unfold ai
 cases hg:o.guard with
 |none=>exact ik (by simpa [hg]using h)
 | some gw =>
   obtain⟨t,want⟩:=gw
   rw[hg]at h
   simp only
   rw[h t (by simp),ik h.right]
end
def qY (nt:Nat):Option Nat→Bool
 |none=>true
 |some d=>decide (d<nt)
def bK (L:Lk) (nt:Nat) (ops:Array Oper) (o:Oper):Option aj:=
 (ch L o.op).bind fun x=>
 (match o.guard with|none=>some none|some (j,w)=>((ops[j]?).bind (·.dst)).map fun t=>some (t,w)).bind fun g=>
 if qY nt o.dst=true then some ⟨o.dst,x,g⟩else none
def dX (L:Lk) (nt:Nat) (ops:Array Oper):List Oper→Option (List aj)
 |[]=>some []
 |o::r=>(bK L nt ops o).bind fun a=>(dX L nt ops r).bind fun as=>some (a::as)
end Ab
namespace Ab
open Go RowKit
structure Gr (h:H) (ι:Io) (M:Mm) (h':H) (ι':Io) (M':Mm):Prop where
 nx:h.next≤h'.next
 io:oT ι ι'
 mm:oY M M'
 ju:∀id l,id<h.next→ι' id=some l→ι id=some l
theorem Gr.refl (h:H) (ι:Io) (M:Mm):Gr h ι M h ι M:=⟨wU _,fun _ _ q=>q,fun _ _ _ q=>q,fun _ _ _ q=>q⟩
theorem Gr.trans {h1 h2 h3:H} {ι1 ι2 ι3:Io} {M1 M2 M3:Mm} (a:Gr h1 ι1 M1 h2 ι2 M2) (b:Gr h2 ι2 M2 h3 ι3 M3):Gr h1 ι1 M1 h3 ι3 M3:=
 ⟨xq a.nx b.nx,fun _ _ q=>b.io _ _ (a.io _ _ q),fun _ _ _ q=>b.mm _ _ _ (a.mm _ _ _ q),fun id l q1 q2=>a.ju id l q1 (b.ju id l (Nat.lt_of_lt_of_le q1 a.nx) q2)⟩
section
variable {L:Lk} {w0:World} {ι:Io} {M:Mm} {h:H} {w:World}
theorem jm {tmps:Array Value} {t:Nat} {b:Bool} (h:tmps.getD t undef=.bool b):tmps[t]?=some (.bool b):=by
 rw[wV]at h
 cases hg:tmps[t]? with
 |none=>rw[hg]at h;simp [undef]at h
 |some v=>rw[hg]at h;simpa using h
theorem V.skip:V L ι M (.bW []) undef:=.bW (as:=[]) (vs:=[]) rfl (fun i a v h=>by simp at h)
theorem V.oQ {v:Value} (h:V L ι M (.bW []) v):v=undef:=by
 cases h with
 | ar h =>
   cases h with
   |bW l _=>rename_i vs;rw[List.length_eq_zero_iff.1 l.symm];rfl
 |bW l _=>rename_i vs;rw[List.length_eq_zero_iff.1 l.symm];rfl
theorem ep {ops:Array Oper} {tmps:Array Value} {j t:Nat} (ht:(ops[j]?).bind (·.dst)=some t) (h:V L ι M (.bW []) (tmps.getD t undef)):yielded ops tmps j=none:=by
 have h:=h.oQ
 unfold yielded
 rw[ht]
 simp only[wP]
 rw[wV]at h
 cases hg:tmps[t]? with
 |none=>rfl
 |some v=>rw[hg]at h;simp only[Option.getD_some]at h;rw[h];rfl
theorem bm.put {e:Env} {a:Act} (he:bm L ι M e a.tmps) {d:Option Nat} {v:AV} {v':Value} (hv:V L ι M v v') (hd:∀t,d=some t→t<a.tmps.size):bm L ι M (aP d v e) (a.put d v').tmps:=by
 cases d with
 |none=>exact he
 | some d =>
   intro t
   simp only[aP,look,Act.put]
   by_cases hdt:d=t
   · subst hdt
     rw[if_pos rfl,wV,Array.getElem?_setIfInBounds_self_of_lt (hd d rfl)]
     exact hv
   · rw[if_neg hdt,wV,Array.getElem?_setIfInBounds_ne hdt,←wV]
     exact he t
theorem iN (a:Act) (d:Option Nat) (v:Value):(a.put d v).tmps.size=a.tmps.size:=by
 cases d<;>simp [Act.put]
theorem put_defers (a:Act) (d:Option Nat) (v:Value):(a.put d v).defers=a.defers:=by
 cases d<;>simp [Act.put]
theorem cD {nt : Nat} {ops : Array Oper} {o : Oper} {x : aj} (hc : bK L nt ops o = some x) :
 ch L o.op=some x.op∧x.dst=o.dst∧(∀t,o.dst=some t→t<nt)∧((o.guard=none∧x.guard=none)∨∃j want t,o.guard=some (j,want)∧(ops[j]?).bind (·.dst)=some t∧x.guard=some (t,want)):=by
 unfold bK at hc
 simp only[wG]at hc
 obtain⟨y,h1,g,h2,h3⟩:=hc
 by_cases hd:qY nt o.dst=true
 · rw [if_pos hd] at h3
   obtain rfl:=wH h3
   refine⟨h1,rfl,fun t ht=> ?_, ?_⟩
   · rw[ht]at hd;exact of_decide_eq_true hd
   · split at h2
     · rename_i hg;obtain rfl:=wH h2;exact .inl ⟨hg,rfl⟩
     · rename_i j want hg
       simp only[wI]at h2
       obtain⟨t,ht,rfl⟩:=h2
       exact .inr ⟨j,want,t,hg,ht,rfl⟩
 · rw[if_neg hd]at h3;cases h3
theorem fS {call : ae} (hcal : Callee L w0 call) (hbod : dD L) {nt : Nat} {ops : Array Oper} {i : Nat} {o : Oper} {x : aj} (hi : ops[i]? = some o) (hc : bK L nt ops o = some x)
 {e:Env} {a:Act} (he:bm L ι M e a.tmps) (r:R L w0 ι M h w) {v:AV} {h':H} (hev:ai call x e h=some (v,h')) {K:Act→World→Prop} {Q:Exit→Act→World→Prop}
 (hK:∀v' w',Out L w0 ι M h h' v v' w'→K (a.put o.dst v') w'):wpOp L.P ops Q i K a w:=by
 obtain⟨hop,hdst,_,hg⟩:=cD hc
 unfold wpOp
 simp only[hi]
 unfold ai at hev
 rcases hg with ⟨hg1,hg2⟩|⟨j,want,t,hg1,ht,hg2⟩
 · rw[hg2]at hev
   have:Region.wanted o (yielded ops a.tmps)=true:=by simp [Region.wanted,hg1]
   rw[if_pos this]
   exact .inl (ru hcal hbod hop he r hev hK)
 · rw [hg2] at hev
   simp only at hev
   split at hev
   · rename_i b hb
     have h1:=he t
     rw[hb]at h1
     have h2:=jm h1.cg
     have hy:yielded ops a.tmps j=some b:=by simp [yielded,ht,h2]
     split at hev
     · rename_i hbw
       have:Region.wanted o (yielded ops a.tmps)=true:=by simp [Region.wanted,hg1,hy,hbw]
       rw[if_pos this]
       exact .inl (ru hcal hbod hop he r hev hK)
     · rename_i hbw
       have:¬Region.wanted o (yielded ops a.tmps)=true:=by simp [Region.wanted,hg1,hy,hbw]
       rw[if_neg this]
       obtain⟨rfl,rfl⟩:=wJ (wH hev)
       exact hK _ _ (.same r V.skip)
   · rename_i hb
     have h1:=he t
     rw[hb]at h1
     have:¬Region.wanted o (yielded ops a.tmps)=true:=by simp [Region.wanted,hg1,ep ht h1]
     rw[if_neg this]
     obtain⟨rfl,rfl⟩:=wJ (wH hev)
     exact hK _ _ (.same r V.skip)
   · cases hev
theorem jX {nt:Nat} {ops:Array Oper}:∀{l:List Oper} {os:List aj},dX L nt ops l=some os→l.length=os.length∧∀(i:Nat) (o:Oper),l[i]?=some o→∃x,os[i]?=some x∧bK L nt ops o=some x
 |[],_,h=>by obtain rfl:=wH h;exact⟨rfl,fun i o q=>by simp at q⟩
 | o :: l, _, h => by
   simp only[dX,wG]at h
   obtain⟨x,h1,xs,h2,h3⟩:=h
   obtain rfl:=wH h3
   obtain⟨g1,g2⟩:=jX h2
   refine⟨by simp [g1],fun i p q=> ?_⟩
   cases i with
   |zero=>simp at q;subst q;exact⟨x,rfl,h1⟩
   |succ i=>simpa using g2 i p (by simpa using q)
theorem oF {call:ae} (hcal:Callee L w0 call) (hbod:dD L) (hn:aT call) {nt:Nat} {ops:Array Oper} {Q:Exit→Act→World→Prop} {e1:Env} {h1:H}:∀(l:List Oper) (k:Nat) {os:List aj} {e:Env} {a:Act} {ι:Io} {M:Mm} {h:H} {w:World},
 (∀j,l[j]?=ops[k+j]?)→dX L nt ops l=some os→bm L ι M e a.tmps→nt≤a.tmps.size→R L w0 ι M h w→au call os e h=some (e1,h1)→
 (∀ι' M' a' w',Gr h ι M h1 ι' M'→R L w0 ι' M' h1 w'→bm L ι' M' e1 a'.tmps→a'.tmps.size=a.tmps.size→a'.defers=a.defers→Q .normal a' w')→
 wpOps L.P ops Q ((List.range' k l.length)) a w
 | [], k, os, e, a, ι, M, h, w, hl, hc, he, hnt, r, hev, hQ => by
   obtain rfl:=wH hc
   obtain⟨rfl,rfl⟩:=wJ (wH hev)
   exact hQ _ _ _ _ (.refl _ _ _) r he rfl rfl
 | o :: l, k, os, e, a, ι, M, h, w, hl, hc, he, hnt, r, hev, hQ => by
   have h0:ops[k]?=some o:=by simpa using (hl 0).symm
   simp only[dX,wG]at hc
   obtain⟨x,hc1,xs,hc2,hc3⟩:=hc
   obtain rfl:=wH hc3
   simp only[au,wG]at hev
   obtain⟨⟨v,h2⟩,hv,hev⟩:=hev
   rw[List.length_cons,List.range'_succ,wpOps_cons]
   obtain⟨_,hdst,hlt,_⟩:=cD hc1
   refine fS hcal hbod h0 hc1 he r hv fun v' w' hout=> ?_
   obtain⟨ι',M',a1,a2,a3,r',hv'⟩:=hout
   refine oF hcal hbod hn l (k+1) (fun j=>by have:=hl (j+1);simpa [wS,Nat.add_comm 1 j]using this) hc2 (a:=a.put o.dst v') (ι:=ι') (M:=M') (e:=aP x.dst v e)
    (by rw[hdst];exact(he.mono a1 a2).put hv' fun t ht=>Nat.lt_of_lt_of_le (hlt t ht) hnt) (by rw[iN];exact hnt) r' hev ?_
   intro ι2 M2 a' w2 g2 r2 he2 hs2 hd2
   exact hQ _ _ _ _ ((Gr.mk (cW hn hv) a1 a2 a3).trans g2) r2 he2 (by rw[hs2,iN]) (by rw[hd2,put_defers])
end
end Ab
