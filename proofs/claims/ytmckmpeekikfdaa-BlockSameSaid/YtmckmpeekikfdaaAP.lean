/- Part AP. -/
import Derived.Test.YtmckmpeekikfdaaA2
import Derived.Test.YtmckmpeekikfdaaProg
import Derived.KernelRfl
namespace Ab.Ln
open Go Go.Proofs Ab
def Al:List (Nat×Nat)→Nat→Option Nat
 |[],_=>none
 |(i,f)::r,k=>if i=k then some f else Al r k
def PC:List (Nat×Nat):=[(6,319),(9,324),(10,325),(11,326),(12,327),(13,9),(14,7),(15,328),(20,332),(21,333),(22,334),(23,335),(24,336),(25,337),(26,338),(27,42),(28,43),(29,339),(30,340),(31,341),(32,342),(33,14),(34,15),(35,16),(36,17),(37,343),(38,344),(39,345),(40,346),(41,347),(42,348),(43,62),(44,63),(45,349),(46,350),(47,351),(48,79),(49,352),(50,38),(51,39),(52,40),(53,41),(54,44),(55,45),(56,353),(57,354),(58,81),(59,76),(60,77),(61,78),(62,355),(63,356),(64,357),(65,83),(66,358),(67,118),(68,189),(69,359),(70,360),(71,58),(72,59),(73,60),(74,61),(75,64),(76,65),(77,66),(78,82),(79,361),(80,74),(81,75),(82,84),(83,362),(84,363),(85,364),(86,365),(87,72),(88,73),(89,80),(90,366),(91,367),(110,368),(111,369),(112,370),(113,371)]
def O5:List (Nat×Nat):=[(9,0),(132,2),(136,1)]
def mf (k:Nat):Option Nat:=Al PC k
def mt (k:Nat):Nat:=(Al O5 k).getD (k+100000)
def Ps : List (String × Nat × Bool) := [("Len", 363, true), ("Less", 368, true), ("Swap", 369, true), ("Push", 371, false), ("Pop", 370, false)]
def iv (s:String):Option (Nat×Nat×Bool):=(Ps.find? fun p=>p.1==s).map fun p=>(1,p.2)
def Px:List (Nat×Nat):=[(132,2)]
def ta (t:Nat):Option Nat:=Al Px t
noncomputable def L:Lk:=⟨Try.prog,mf,mt,iv,ta⟩
end Ab.Ln
namespace Ab.AP
open Go Go.Proofs Ab
set_option maxRecDepth 100000
set_option maxHeartbeats 4000000
/-- The tables, asked for single types alone. -/
@[cbv_opaque] noncomputable def T0 : Tables := Try.prog.toTables
noncomputable def P0:Program:=⟨T0, #[]⟩
noncomputable def L0:Lk:=⟨P0,Ln.mf,Ln.mt,Ln.iv,Ln.ta⟩
@[cbv_eval] theorem QC : T0.info? 3 = some Try.t3 := Try.type3
@[cbv_eval] theorem QD : T0.info? 5 = some Try.t5 := Try.type5
@[cbv_eval] theorem QE : T0.info? 9 = some Try.t9 := Try.type9
@[cbv_eval] theorem P9 : T0.info? 22 = some Try.t22 := Try.type22
@[cbv_eval] theorem Qa : T0.info? 24 = some Try.t24 := Try.type24
@[cbv_eval] theorem Qb : T0.info? 32 = some Try.t32 := Try.type32
@[cbv_eval] theorem Qc : T0.info? 33 = some Try.t33 := Try.type33
@[cbv_eval] theorem Qd : T0.info? 34 = some Try.t34 := Try.type34
@[cbv_eval] theorem Qe : T0.info? 36 = some Try.t36 := Try.type36
@[cbv_eval] theorem Qf : T0.info? 43 = some Try.t43 := Try.type43
@[cbv_eval] theorem Qg : T0.info? 47 = some Try.t47 := Try.type47
@[cbv_eval] theorem Qh : T0.info? 52 = some Try.t52 := Try.type52
@[cbv_eval] theorem Qi : T0.info? 61 = some Try.t61 := Try.type61
@[cbv_eval] theorem Qj : T0.info? 62 = some Try.t62 := Try.type62
@[cbv_eval] theorem Qk : T0.info? 64 = some Try.t64 := Try.type64
@[cbv_eval] theorem Ql : T0.info? 65 = some Try.t65 := Try.type65
@[cbv_eval] theorem Qm : T0.info? 67 = some Try.t67 := Try.type67
@[cbv_eval] theorem Qn : T0.info? 68 = some Try.t68 := Try.type68
@[cbv_eval] theorem Qo : T0.info? 72 = some Try.t72 := Try.type72
@[cbv_eval] theorem Qp : T0.info? 73 = some Try.t73 := Try.type73
@[cbv_eval] theorem Qq : T0.info? 76 = some Try.t76 := Try.type76
@[cbv_eval] theorem Qr : T0.info? 79 = some Try.t79 := Try.type79
@[cbv_eval] theorem Qs : T0.info? 80 = some Try.t80 := Try.type80
@[cbv_eval] theorem Qt : T0.info? 81 = some Try.t81 := Try.type81
@[cbv_eval] theorem Qu : T0.info? 82 = some Try.t82 := Try.type82
@[cbv_eval] theorem Qv : T0.info? 83 = some Try.t83 := Try.type83
@[cbv_eval] theorem Qw : T0.info? 84 = some Try.t84 := Try.type84
@[cbv_eval] theorem Qx : T0.info? 88 = some Try.t88 := Try.type88
@[cbv_eval] theorem Qy : T0.info? 89 = some Try.t89 := Try.type89
@[cbv_eval] theorem Qz : T0.info? 96 = some Try.t96 := Try.type96
@[cbv_eval] theorem QA : T0.info? 97 = some Try.t97 := Try.type97
@[cbv_eval] theorem PI : T0.info? 102 = some Try.t102 := Try.type102
@[cbv_eval] theorem PJ : T0.info? 106 = some Try.t106 := Try.type106
@[cbv_eval] theorem PK : T0.info? 107 = some Try.t107 := Try.type107
@[cbv_eval] theorem PL : T0.info? 110 = some Try.t110 := Try.type110
@[cbv_eval] theorem PM : T0.info? 115 = some Try.t115 := Try.type115
@[cbv_eval] theorem PN : T0.info? 128 = some Try.t128 := Try.type128
@[cbv_eval] theorem PO : T0.info? 130 = some Try.t130 := Try.type130
@[cbv_eval] theorem PQ : T0.info? 131 = some Try.t131 := Try.type131
@[cbv_eval] theorem PR : T0.info? 132 = some Try.t132 := Try.type132
@[cbv_eval] theorem PS : T0.info? 133 = some Try.t133 := Try.type133
@[cbv_eval] theorem PT : T0.info? 134 = some Try.t134 := Try.type134
@[cbv_eval] theorem PU : T0.info? 136 = some Try.t136 := Try.type136
@[cbv_eval] theorem PV : T0.info? 143 = some Try.t143 := Try.type143
/-- The bodies of the loops, inner ones first. -/
def Ng:Code→List Code
 | .seq a b=>Ng a++Ng b
 | .cond _ a b=>Ng a++Ng b
 | .block _ c=>Ng c
 | .loop c=>Ng c++[c]
 |_=>[]
/-- The operations of a code, where what is kept is told; loops stand as they are told. -/
def gt (L:Lk) (nt:Nat):Code→aF→Option aF
 | .skip,.skip=>some .skip
 | .region _ ops false,.oA _ vE=>(dc L nt ops ops.toList).bind fun os=>some (.oA os vE)
 | .region _ ops true,.ir ord _ fl vE=>(j3 L nt ops ord fl).bind fun os=>some (.ir ord os fl vE)
 | .seq a b,.seq x y=>(gt L nt a x).bind fun x'=>(gt L nt b y).bind fun y'=>some (.seq x' y')
 | .cond c a b,.cond _ x y vE=>(cX L c).bind fun c'=>(gt L nt a x).bind fun x'=>(gt L nt b y).bind fun y'=>some (.cond c' x' y' vE)
 | .block id c,.block _ x vE=>(gt L nt c x).bind fun x'=>some (.block id x' vE)
 | .loop _,.loop vE x=>some (.loop vE x)
 | .exit id,.exit _=>some (.exit id)
 | .ret,.ret=>some .ret
 |_,_=>none
noncomputable def gL (fn:Func) (i:Nat) (x:aF):Option aF:=fn.body.bind fun c=>((Ng c)[i]?).bind fun d=>gt L0 fn.ntmps d x
noncomputable def gF (fn:Func) (x:aF):Option (aF×List RV):=fn.body.bind fun c=>(gt L0 fn.ntmps c x).bind fun y=>(cx L0 fn.results.toList).bind fun r=>some (y,r)
def bt:Nat→Nat→Nat→List Nat
 |0,_,_=>[]
 |n+1,i,m=>if m=0 then []else if m%2=1 then i::bt n (i+1) (m/2)else bt n (i+1) (m/2)
def b (m:Nat):List Nat:=bt 400 0 m
def d (m t:Nat):List Nat:=bt 400 0 m++[t]
def od (a n:Nat):List Nat:=a::(List.range n).filter fun x=> !(x==a)
def s (k:List Nat) (r:aF):aF:=.seq (.oA [] k) r
def r (k:List Nat):aF:=.oA [] k
def c (x y:aF) (k:List Nat):aF:=.cond (.t 0) x y k
@[cbv_opaque] def f7L0 : aF := by
  refine(fun (_:gL Try.f14 0 ((.seq (s [7,28] (c .skip (.exit 0) [7])) (.block 1 (r [7,8]) [7,8])))=some ?x)=> ?x) ?_;rotate_left;conv=>lhs;cbv
def f7:eO:=by
 refine(fun (_:gF Try.f14 ((s [0,1] (.seq (s [0,1,14] (c (s [4,5,6] .ret) .skip [0,1])) (s [7] (.seq (s [7,8] (.block 0 (.loop [7,8] f7L0) [7])) (.seq (s [7,35] (c (.seq (.ir (.range 7) [] [] [4,5,6]) .ret) .skip [7])) (s [7] (.seq (.ir (.range 14) [] [(3,[1]),(4,[1])] [4,5,6]) .ret))))))))=some (?b, ?r))=>⟨2, ?r,true, ?b⟩) ?_;rotate_left 2;conv=>lhs;cbv
def f9:eO:=by
 refine(fun (_:gF Try.f13 ((s [0] (s [2] .ret)))=some (?b, ?r))=>⟨1, ?r,true, ?b⟩) ?_;rotate_left 2;conv=>lhs;cbv
def f14:eO:=by
 refine(fun (_:gF Try.f33 ((s [0] (s [2] .ret)))=some (?b, ?r))=>⟨1, ?r,false, ?b⟩) ?_;rotate_left 2;conv=>lhs;cbv
def f15:eO:=by
 refine(fun (_:gF Try.f34 ((s [0] (s [0,3] (.seq (s [0,3,8] (.block 0 (s (b 2313) (c (s [0,3,17] (c (r [3]) .skip [3])) (s [0,3,8,20] (c (r [3]) (s [0,3,29] (c (r [3]) (r [3]) [3])) [3])) [3])) [3])) (s [2] .ret)))))=some (?b, ?r))=>⟨1, ?r,false, ?b⟩) ?_;rotate_left 2;conv=>lhs;cbv
def f16:eO:=by
 refine(fun (_:gF Try.f35 ((s [0] (.seq (s [0,4] (c (s [2] .ret) .skip [0])) (s [] (s [2] .ret)))))=some (?b, ?r))=>⟨1, ?r,false, ?b⟩) ?_;rotate_left 2;conv=>lhs;cbv
def f17:eO:=by
 refine(fun (_:gF Try.f36 ((s [0] (.seq (s [0,4] (c (s [2] .ret) .skip [0])) (s [2] .ret))))=some (?b, ?r))=>⟨1, ?r,false, ?b⟩) ?_;rotate_left 2;conv=>lhs;cbv
def f38:eO:=by
 refine(fun (_:gF Try.f50 ((s [0,1] (s (b 97) (.seq (s [0,5,17] (c (r [5]) .skip [5])) (s [4] .ret)))))=some (?b, ?r))=>⟨2, ?r,false, ?b⟩) ?_;rotate_left 2;conv=>lhs;cbv
@[cbv_opaque] def f39L0 : aF := by
  refine(fun (_:gL Try.f51 0 ((.seq (s [0,2,26] (c .skip (.exit 0) [0,2])) (.seq (.block 1 (s (b 13) (s (d 13 35) (c (r [0,2]) .skip [0,2]))) [0,2]) (r [0,2]))))=some ?x)=> ?x) ?_;rotate_left;conv=>lhs;cbv
def f39:eO:=by
 refine(fun (_:gF Try.f51 ((s [0] (s [0,2] (.seq (s [0,2,15] (c (r [0,2]) .skip [0,2])) (.block 0 (.loop [0,2] f39L0) [])))))=some (?b, ?r))=>⟨1, ?r,false, ?b⟩) ?_;rotate_left 2;conv=>lhs;cbv
@[cbv_opaque] def f40L0 : aF := by
  refine(fun (_:gL Try.f52 0 ((.seq (s (b 2055) (c .skip (.exit 0) [0,1,2])) (.block 1 (s (b 71) (.block 2 (s (d 71 19) (c (r (b 7)) (s (d 71 26) (c .ret (r (b 7)) [0,1,2])) [0,1,2])) [0,1,2])) [0,1,2])))=some ?x)=> ?x) ?_;rotate_left;conv=>lhs;cbv
def f40:eO:=by
 refine(fun (_:gF Try.f52 ((.block 0 (.loop [0,1,2] f40L0) []))=some (?b, ?r))=>⟨3, ?r,false, ?b⟩) ?_;rotate_left 2;conv=>lhs;cbv
@[cbv_opaque] def f41L0 : aF := by
  refine(fun (_:gL Try.f53 1 ((.seq (s [3,6,7,45] (c .skip (.exit 2) [3,6,7])) (.seq (.block 3 (s [3,6,7] (s [3,6,7] (.ir (.range 16) [] [] [3,6,7]))) [3,6,7]) (r [3,6,7]))))=some ?x)=> ?x) ?_;rotate_left;conv=>lhs;cbv
@[cbv_opaque] def f41L1 : aF := by
  refine(fun (_:gL Try.f53 0 ((s (b 15368) (.seq (c .skip (.exit 0) [3,10,11,12]) (.seq (.block 1 (s (b 7224) (s (b 269368) (c (.seq (.ir (.range 11) [] [] (b 7224)) (.ir (.range 15) [] [] (b 7176))) .skip [3,10,11,12]))) [3,10,11,12]) (r (b 7176))))))=some ?x)=> ?x) ?_;rotate_left;conv=>lhs;cbv
def f41:eO:=by
 refine(fun (_:gF Try.f53 ((s [0] (s [0,3] (.seq (s (b 7176) (.block 0 (.loop [3,10,11,12] f41L1) [3])) (s [3,6] (.seq (s [3,6,7] (.block 2 (.loop [3,6,7] f41L0) [3])) (s [2] .ret)))))))=some (?b, ?r))=>⟨1, ?r,true, ?b⟩) ?_;rotate_left 2;conv=>lhs;cbv
def f42:eO:=by
 refine(fun (_:gF Try.f27 ((s [] (s [0] .ret)))=some (?b, ?r))=>⟨0, ?r,true, ?b⟩) ?_;rotate_left 2;conv=>lhs;cbv
@[cbv_opaque] def f43L0 : aF := by
  refine(fun (_:gL Try.f28 0 ((.seq (s [7,8,37] (c .skip (.exit 0) [7,8])) (.block 1 (.ir (.range 10) [] [] [7,8]) [7,8])))=some ?x)=> ?x) ?_;rotate_left;conv=>lhs;cbv
def f43:eO:=by
 refine(fun (_:gF Try.f28 ((s [0,1] (.seq (s [0,1,10] (c (r [0,1]) .skip [0,1])) (s (b 97) (.seq (s [0,6,26] (c (r [0,6]) .skip [0,6])) (s [0,7] (s [7,8] (.seq (.block 0 (.loop [7,8] f43L0) [7]) (s [4] .ret)))))))))=some (?b, ?r))=>⟨2, ?r,true, ?b⟩) ?_;rotate_left 2;conv=>lhs;cbv
def f44:eO:=by
 refine(fun (_:gF Try.f54 ((s (b 13) (.seq (s (d 13 25) (c (s [] .ret) .skip [0,2,3])) (s (b 21) (.seq (s (d 21 37) (c .ret .skip [0,2,4])) (.seq (.ir (.range 8) [] [] (b 97)) (.seq (s (d 97 62) (c (s [] .ret) .skip [0,5,6])) (r []))))))))=some (?b, ?r))=>⟨1, ?r,false, ?b⟩) ?_;rotate_left 2;conv=>lhs;cbv
def f45:eO:=by
 refine(fun (_:gF Try.f55 ((s [0,1,8] (c (r []) .skip [])))=some (?b, ?r))=>⟨2, ?r,false, ?b⟩) ?_;rotate_left 2;conv=>lhs;cbv
@[cbv_opaque] def f58L0 : aF := by
  refine(fun (_:gL Try.f71 0 ((s [0,6,32,33,34] (.seq (c .skip (.exit 1) [0,6,32,33]) (.seq (.block 2 (s [0,6,7,32,33] (.seq (.ir (.range 23) [] [] [0,6,32,33]) (r [0,6,32,33]))) [0,6,32,33]) (r [0,6,32,33])))))=some ?x)=> ?x) ?_;rotate_left;conv=>lhs;cbv
def f58:eO:=by
 refine(fun (_:gF Try.f71 ((s [0,1] (.seq (.block 0 (s [0,1,8] (c (s [4,5] .ret) (s [0,1,11] (c (s [4,5] .ret) (.seq (.ir (.range 14) [] [] [0,1,18]) (c (s [4,5] .ret) .skip [0,1])) [0,1])) [0,1])) [0,1]) (s (b 67) (.seq (s [0,6,32,33] (.block 1 (.loop [0,6,32,33] f58L0) [6])) (s [4,5] .ret))))))=some (?b, ?r))=>⟨2, ?r,false, ?b⟩) ?_;rotate_left 2;conv=>lhs;cbv
def f59:eO:=by
 refine(fun (_:gF Try.f72 ((.seq (.seq (.ir (.range 10) [] [] [0,1,13]) (c (r [0,1]) .skip [0,1])) (s [0,1,20] (c (r []) .skip []))))=some (?b, ?r))=>⟨2, ?r,false, ?b⟩) ?_;rotate_left 2;conv=>lhs;cbv
@[cbv_opaque] def f60L0 : aF := by
  refine(fun (_:gL Try.f73 0 ((.seq (s (d 99 17) (c .skip (.exit 0) [0,1,5,6])) (.seq (.block 1 (s (b 99) (s (b 483) (s (d 227 39) (c (s [4] .ret) .skip [0,1,5,6])))) [0,1,5,6]) (r (b 99)))))=some ?x)=> ?x) ?_;rotate_left;conv=>lhs;cbv
def f60:eO:=by
 refine(fun (_:gF Try.f73 ((s [0,1] (s (b 35) (.seq (s (b 99) (.block 0 (.loop [0,1,5,6] f60L0) [0])) (s [] (s [4] .ret))))))=some (?b, ?r))=>⟨2, ?r,false, ?b⟩) ?_;rotate_left 2;conv=>lhs;cbv
@[cbv_opaque] def f61L0 : aF := by
  refine(fun (_:gL Try.f74 0 ((.seq (s [0,6,8,53] (c .skip (.exit 0) [0,6,8])) (.seq (.block 1 (.ir (.range 15) [] [] [0,6,8]) [0,6,8]) (r [0,6,8]))))=some ?x)=> ?x) ?_;rotate_left;conv=>lhs;cbv
def f61:eO:=by
 refine(fun (_:gF Try.f74 ((s (b 69) (.seq (s (d 69 20) (c .ret .skip [0,2,6])) (s [0,6,7] (.seq (s [0,6,7,28] (c .ret .skip [0,6,7])) (s [0,6,8] (.seq (s [0,6,8,42] (c (r [0,6,8]) .skip [0,6,8])) (.block 0 (.loop [0,6,8] f61L0) []))))))))=some (?b, ?r))=>⟨3, ?r,false, ?b⟩) ?_;rotate_left 2;conv=>lhs;cbv
@[cbv_opaque] def f62L0 : aF := by
  refine(fun (_:gL Try.f43 1 ((s (b 503316544) (.seq (c .skip (.exit 2) [6,25,26,27]) (.seq (.block 3 (s (b 234881344) (r [6,25,26,27])) [6,25,26,27]) (r [6,25,26,27])))))=some ?x)=> ?x) ?_;rotate_left;conv=>lhs;cbv
@[cbv_opaque] def f62L1 : aF := by
  refine(fun (_:gL Try.f43 0 ((s (b 7689) (.seq (c .skip (.exit 0) [0,3,9,10,11]) (.seq (.block 1 (s (b 3625) (s (b 3593) (s (b 1052169) (c (r (b 3593)) .skip [0,3,9,10,11])))) [0,3,9,10,11]) (r (b 3593))))))=some ?x)=> ?x) ?_;rotate_left;conv=>lhs;cbv
def f62:eO:=by
 refine(fun (_:gF Try.f43 ((s [0] (s [0,3] (.seq (s (b 3593) (.block 0 (.loop [0,3,9,10,11] f62L1) [0,3])) (s [0,6] (.seq (s [6,25,26,27] (.block 2 (.loop [6,25,26,27] f62L0) [6])) (s [2] .ret)))))))=some (?b, ?r))=>⟨1, ?r,true, ?b⟩) ?_;rotate_left 2;conv=>lhs;cbv
def f63:eO:=by
 refine(fun (_:gF Try.f44 ((s [0,1] (.seq (c (s [6,7] (s [4,5] .ret)) .skip [0,1]) (s [8,9] (s [4,5] .ret)))))=some (?b, ?r))=>⟨2, ?r,true, ?b⟩) ?_;rotate_left 2;conv=>lhs;cbv
@[cbv_opaque] def f64L0 : aF := by
  refine(fun (_:gL Try.f75 1 ((.seq (s (d 1539 46) (c .skip (.exit 2) [0,1,9,10])) (.block 3 (s (b 7683) (r (b 1539))) [0,1,9,10])))=some ?x)=> ?x) ?_;rotate_left;conv=>lhs;cbv
@[cbv_opaque] def f64L1 : aF := by
  refine(fun (_:gL Try.f75 0 ((s (b 3932195) (.seq (c .skip (.exit 0) [0,1,5,18,19,20]) (.seq (.block 1 (s (b 1835299) (r (b 1835043))) [0,1,5,18,19,20]) (r (b 1835043))))))=some ?x)=> ?x) ?_;rotate_left;conv=>lhs;cbv
def f64:eO:=by
 refine(fun (_:gF Try.f75 ((s [0,1] (s (b 35) (s (b 99) (.seq (s (b 1835043) (.block 0 (.loop [0,1,5,18,19,20] f64L1) [0,1,5])) (.seq (s (d 35 31) (c (r (b 35)) .skip [0,1,5])) (s [0,1,9] (s (b 1539) (.seq (.block 2 (.loop [0,1,9,10] f64L0) [0,1,10]) (.seq (s [0,10,65] (c (r [10]) .skip [10])) (s [4] .ret)))))))))))=some (?b, ?r))=>⟨2, ?r,false, ?b⟩) ?_;rotate_left 2;conv=>lhs;cbv
def f65:eO:=by
 refine(fun (_:gF Try.f76 ((s [0] (.seq (s [0,6] (c (s [2] .ret) .skip [0])) (.seq (s [3] (.block 0 (s [3,12] (c (s [2] .ret) (s [15] (c (s [2] .ret) .skip [])) [])) [])) (s [2] .ret)))))=some (?b, ?r))=>⟨1, ?r,true, ?b⟩) ?_;rotate_left 2;conv=>lhs;cbv
@[cbv_opaque] def f66L0 : aF := by
  refine(fun (_:gL Try.f77 0 ((s (b 968) (.seq (c .skip (.exit 0) [3,6,7,8]) (.seq (.block 1 (s (b 488) (r (b 456))) [3,6,7,8]) (r (b 456))))))=some ?x)=> ?x) ?_;rotate_left;conv=>lhs;cbv
def f66:eO:=by
 refine(fun (_:gF Try.f77 ((s [0] (s [0,3] (.seq (s (b 456) (.block 0 (.loop [3,6,7,8] f66L0) [3])) (s [2] .ret)))))=some (?b, ?r))=>⟨1, ?r,true, ?b⟩) ?_;rotate_left 2;conv=>lhs;cbv
def f72:eO:={np:=3,res:=[.tmp 6,.tmp 7],pure:=false,body:=(.seq (.oA [⟨some 6,.mv (.c (.int .i64 0)),none⟩,⟨some 7,.mv (.c (.bool false)),none⟩] [0,1,2]) (.seq (.seq (.ir [0,1,2,3,4,5,6,7,8,9,10,11,12,13,14,15,16,17,18,19,20,21,22,23,24,25,26,27,28,29,30,31,32] [⟨some 8,.mv (.t 1),none⟩,⟨some 9,.bin .lss (.t 8) (.c (.int .i64 1)),none⟩,⟨some 10,.mv (.t 9),none⟩,⟨some 11,.mv (.t 1),(some (10,false))⟩,⟨some 12,.bin .gtr (.t 11) (.c (.int .i64 15)),(some (10,false))⟩,⟨some 13,.pick (.t 10) (.c (.bool true)) (.t 12),none⟩,⟨some 14,.mv (.t 13),none⟩,⟨some 15,.mv (.t 2),(some (14,false))⟩,⟨some 16,.mv (.t 0),(some (14,false))⟩,⟨some 17,.mv (.t 1),(some (14,false))⟩,⟨some 18,.nL (.t 16),(some (14,false))⟩,⟨some 19,.nC 0 (.t 18),(some (14,false))⟩,⟨some 20,.j4 16 1 (.t 19) (.t 17),(some (14,false))⟩,⟨some 21,.load false 1 (.t 20),(some (14,false))⟩,⟨some 22,.bin .lss (.t 15) (.t 21),(some (14,false))⟩,⟨some 23,.pick (.t 14) (.c (.bool true)) (.t 22),none⟩,⟨some 24,.mv (.t 23),none⟩,⟨some 25,.mv (.t 2),(some (24,false))⟩,⟨some 26,.mv (.t 0),(some (24,false))⟩,⟨some 27,.mv (.t 1),(some (24,false))⟩,⟨some 28,.nL (.t 26),(some (24,false))⟩,⟨some 29,.nC 0 (.t 28),(some (24,false))⟩,⟨some 30,.j4 16 1 (.t 29) (.t 27),(some (24,false))⟩,⟨some 31,.load false 1 (.t 30),(some (24,false))⟩,⟨some 32,.bin .sub (.t 25) (.t 31),(some (24,false))⟩,⟨some 33,.mv (.t 0),(some (24,false))⟩,⟨some 34,.mv (.t 1),(some (24,false))⟩,⟨some 35,.nL (.t 33),(some (24,false))⟩,⟨some 36,.nC 16 (.t 35),(some (24,false))⟩,⟨some 37,.j4 16 1 (.t 36) (.t 34),(some (24,false))⟩,⟨some 38,.load false 1 (.t 37),(some (24,false))⟩,⟨some 39,.bin .geq (.t 32) (.t 38),(some (24,false))⟩,⟨some 40,.pick (.t 24) (.c (.bool true)) (.t 39),none⟩] [] [0,1,2,40]) (.cond (.t 40) (.seq (.oA [⟨some 6,.mv (.c (.int .i64 0)),none⟩,⟨some 7,.mv (.c (.bool false)),none⟩] [6,7]) (.ret)) (.skip) [0,1,2])) (.seq (.ir [0,1,2,3,4,5,6,7,8,9,10,11,12,13,14,15,16,17] [⟨some 41,.mv (.t 0),none⟩,⟨some 42,.mv (.t 1),none⟩,⟨some 43,.nL (.t 41),none⟩,⟨some 44,.nC 32 (.t 43),none⟩,⟨some 45,.j4 16 1 (.t 44) (.t 42),none⟩,⟨some 46,.load false 1 (.t 45),none⟩,⟨some 47,.mv (.t 2),none⟩,⟨some 48,.mv (.t 0),none⟩,⟨some 49,.mv (.t 1),none⟩,⟨some 50,.nL (.t 48),none⟩,⟨some 51,.nC 0 (.t 50),none⟩,⟨some 52,.j4 16 1 (.t 51) (.t 49),none⟩,⟨some 53,.load false 1 (.t 52),none⟩,⟨some 54,.bin .sub (.t 47) (.t 53),none⟩,⟨some 55,.nD 1 (.t 46) (.t 54),none⟩,⟨some 56,.load false 1 (.t 55),none⟩,⟨some 6,.mv (.t 56),none⟩,⟨some 7,.mv (.c (.bool true)),none⟩] [] [6,7]) (.ret))))}
def f73:eO:=by
 refine(fun (_:gF Try.f88 ((s (b 15) (.seq (s (b 1031) (c (r (b 7)) .skip [0,1,2])) (s [8] .ret))))=some (?b, ?r))=>⟨4, ?r,false, ?b⟩) ?_;rotate_left 2;conv=>lhs;cbv
def f74:eO:=by
 refine(fun (_:gF Try.f80 ((s [0] (s [0,5] (.seq (.block 0 (s [0,5,10] (c (s (b 28) .ret) (s [5,17] (c (s (b 28) .ret) (s [5,20] (c (s (b 28) .ret) .skip [5])) [5])) [5])) [5]) (s [5,6] (s (b 28) .ret))))))=some (?b, ?r))=>⟨1, ?r,true, ?b⟩) ?_;rotate_left 2;conv=>lhs;cbv
def f75:eO:=by
 refine(fun (_:gF Try.f81 ((s [0] (.seq (.block 0 (s [0,6] (c (s (b 28) .ret) (s [0,13] (c (s (b 28) .ret) .skip [0])) [0])) [0]) (s [0,5] (s (b 28) .ret)))))=some (?b, ?r))=>⟨1, ?r,true, ?b⟩) ?_;rotate_left 2;conv=>lhs;cbv
def f76:eO:=by
 refine(fun (_:gF Try.f59 ((s [0,1] (.seq (s (b 67) (c (r [0,1]) .skip [0,1])) (.seq (s [0,1] (s [0,1,16] (c (r [0]) .skip [0]))) (s [4] .ret)))))=some (?b, ?r))=>⟨2, ?r,false, ?b⟩) ?_;rotate_left 2;conv=>lhs;cbv
def f77:eO:=by
 refine(fun (_:gF Try.f60 ((s [0,1] (s [6] (s [4,5] .ret))))=some (?b, ?r))=>⟨2, ?r,true, ?b⟩) ?_;rotate_left 2;conv=>lhs;cbv
def f78:eO:=by
 refine(fun (_:gF Try.f61 ((s [0,1] (s (b 67) (s (b 195) (s (b 451) (s (b 963) (s (b 1987) (s (b 2755) (s (b 6851) (s (b 12995) (s (b 12931) (s (b 19) (s [4,5] .ret)))))))))))))=some (?b, ?r))=>⟨2, ?r,true, ?b⟩) ?_;rotate_left 2;conv=>lhs;cbv
def f79:eO:=by
 refine(fun (_:gF Try.f48 ((s [] (s [0] .ret)))=some (?b, ?r))=>⟨0, ?r,true, ?b⟩) ?_;rotate_left 2;conv=>lhs;cbv
def f80:eO:=by
 refine(fun (_:gF Try.f89 ((s (b 7) (.seq (s (b 263) (.block 0 (s (b 775) (c (.seq (s [0,2,13] (c (s [] (s [6,7] .ret)) .skip [0,2])) (.seq (.ir (.range 11) [] [(5,[1])] [6,7]) .ret)) (s [0,1,8,25] (c (s [6,7] .ret) (s [0,1,30] (c (s [6,7] .ret) .skip [1])) [1])) [1])) [1])) (s [6,7] .ret))))=some (?b, ?r))=>⟨3, ?r,false, ?b⟩) ?_;rotate_left 2;conv=>lhs;cbv
def f81:eO:=by
 refine(fun (_:gF Try.f58 ((s [0] (s [0,3] (s [2] .ret))))=some (?b, ?r))=>⟨1, ?r,true, ?b⟩) ?_;rotate_left 2;conv=>lhs;cbv
def f82:eO:=by
 refine(fun (_:gF Try.f78 ((s [0] (s [2] .ret)))=some (?b, ?r))=>⟨1, ?r,true, ?b⟩) ?_;rotate_left 2;conv=>lhs;cbv
def f83:eO:=by
 refine(fun (_:gF Try.f65 ((s [0,1] (s [4] .ret)))=some (?b, ?r))=>⟨2, ?r,true, ?b⟩) ?_;rotate_left 2;conv=>lhs;cbv
@[cbv_opaque] def f84L0 : aF := by
  refine(fun (_:gL Try.f82 0 ((s (b 899) (.seq (c .skip (.exit 0) [0,1,7,8]) (.seq (.block 1 (s (b 419) (s (b 65955) (c (s [4] .ret) .skip [0,1,7,8]))) [0,1,7,8]) (r (b 387))))))=some ?x)=> ?x) ?_;rotate_left;conv=>lhs;cbv
def f84:eO:=by
 refine(fun (_:gF Try.f82 ((s [0,1] (.seq (s (b 387) (.block 0 (.loop [0,1,7,8] f84L0) [])) (s [4] .ret))))=some (?b, ?r))=>⟨2, ?r,true, ?b⟩) ?_;rotate_left 2;conv=>lhs;cbv
def f118:eO:=by
 refine(fun (_:gF Try.f67 ((s [0] (.seq (s [0,4] (c (s [2] .ret) .skip [0])) (s [2] .ret))))=some (?b, ?r))=>⟨1, ?r,false, ?b⟩) ?_;rotate_left 2;conv=>lhs;cbv
@[cbv_opaque] def f189L0 : aF := by
  refine(fun (_:gL Try.f68 0 ((s (b 899) (.seq (c .skip (.exit 0) [0,1,7,8]) (.seq (.block 1 (s (b 419) (s (b 65955) (c (s [4] .ret) .skip [0,1,7,8]))) [0,1,7,8]) (r (b 387))))))=some ?x)=> ?x) ?_;rotate_left;conv=>lhs;cbv
def f189:eO:=by
 refine(fun (_:gF Try.f68 ((s [0,1] (.seq (s (b 387) (.block 0 (.loop [0,1,7,8] f189L0) [])) (s [4] .ret))))=some (?b, ?r))=>⟨2, ?r,true, ?b⟩) ?_;rotate_left 2;conv=>lhs;cbv
@[cbv_opaque] def f319L0 : aF := by
  refine(fun (_:gL Try.f6 0 ((.seq (s (d 928 36) (c .skip (.exit 0) [5,7,8,9])) (.seq (.block 1 (r (b 928)) [5,7,8,9]) (r (b 928)))))=some ?x)=> ?x) ?_;rotate_left;conv=>lhs;cbv
def f319:eO:=by
 refine(fun (_:gF Try.f6 ((s [0] (.seq (s [0,16] (c (s [2] .ret) .skip [0])) (s [3,4] (.seq (s [3,24] (c (s [2] .ret) .skip [3])) (s [5,7] (s [5,7,8] (.seq (s (b 928) (.block 0 (.loop [5,7,8,9] f319L0) [5,7,8])) (s (b 3232) (s (b 22688) (s [2] .ret)))))))))))=some (?b, ?r))=>⟨1, ?r,true, ?b⟩) ?_;rotate_left 2;conv=>lhs;cbv
def f324:eO:=by
 refine(fun (_:gF Try.f9 ((s [] (s [1,2] (s (b 30) (s (b 126) (s (b 502) (s (b 4086) (s (b 12278) (s [0] .ret)))))))))=some (?b, ?r))=>⟨0, ?r,true, ?b⟩) ?_;rotate_left 2;conv=>lhs;cbv
@[cbv_opaque] def f325L0 : aF := by
  refine(fun (_:gL Try.f10 0 ((s (b 234881073) (.seq (c .skip (.exit 0) [0,4,5,25,26]) (.seq (.block 1 (s (b 100663409) (r [0,4,5,25,26])) [0,4,5,25,26]) (r [0,4,5,25,26])))))=some ?x)=> ?x) ?_;rotate_left;conv=>lhs;cbv
def f325:eO:=by
 refine(fun (_:gF Try.f10 ((s [0] (.seq (s [0,9] (c (s [2,3] .ret) .skip [0])) (s [0,4] (s [0,4] (s (b 49) (s (b 49) (s (b 49) (.seq (s [0,4,5,25,26] (.block 0 (.loop [0,4,5,25,26] f325L0) [4])) (s [2,3] .ret))))))))))=some (?b, ?r))=>⟨1, ?r,true, ?b⟩) ?_;rotate_left 2;conv=>lhs;cbv
def f326:eO:=by
 refine(fun (_:gF Try.f11 ((s [0] (.seq (s [0,10] (c (s [2,3] .ret) .skip [0])) (s [0,4] (s (b 81) (s [2,3] .ret))))))=some (?b, ?r))=>⟨1, ?r,true, ?b⟩) ?_;rotate_left 2;conv=>lhs;cbv
def f327:eO:=by
 refine(fun (_:gF Try.f12 ((s [0] (.seq (s [0,13] (c (s [2,3] .ret) .skip [0])) (s (b 49) (s (b 113) (s (b 113) (s (b 225) (s (b 705) (s [2,3] .ret)))))))))=some (?b, ?r))=>⟨1, ?r,true, ?b⟩) ?_;rotate_left 2;conv=>lhs;cbv
def f328:eO:=by
 refine(fun (_:gF Try.f15 ((s [0] (s [0,4] (.seq (s [4,7] (c (s [2,3] .ret) .skip [4])) (s [2,3] .ret)))))=some (?b, ?r))=>⟨1, ?r,true, ?b⟩) ?_;rotate_left 2;conv=>lhs;cbv
@[cbv_opaque] def f332L0 : aF := by
  refine(fun (_:gL Try.f20 0 ((.seq (s (b 8241) (c .skip (.exit 0) [0,4,5])) (.block 1 (s (b 113) (.seq (s (b 524401) (c (r (b 113)) .skip [0,4,5,6])) (s (b 113) (r (b 49))))) [0,4,5])))=some ?x)=> ?x) ?_;rotate_left;conv=>lhs;cbv
def f332:eO:=by
 refine(fun (_:gF Try.f20 ((s [0] (.seq (s [0,9] (c (s [2,3] .ret) .skip [0])) (s [0,4] (.seq (s (b 49) (.block 0 (.loop [0,4,5] f332L0) [4])) (s [2,3] .ret))))))=some (?b, ?r))=>⟨1, ?r,true, ?b⟩) ?_;rotate_left 2;conv=>lhs;cbv
def f333:eO:=by
 refine(fun (_:gF Try.f21 ((s [0] (s [0,3] (s [0,3] (s [3] (s [2] .ret))))))=some (?b, ?r))=>⟨1, ?r,false, ?b⟩) ?_;rotate_left 2;conv=>lhs;cbv
def f334:eO:=by
 refine(fun (_:gF Try.f22 ((s [0] (.seq (s [0,4] (c (s [2] .ret) .skip [0])) (s [] (s [2] .ret)))))=some (?b, ?r))=>⟨1, ?r,false, ?b⟩) ?_;rotate_left 2;conv=>lhs;cbv
@[cbv_opaque] def f335L0 : aF := by
  refine(fun (_:gL Try.f23 0 ((s (b 917507) (.seq (c .skip (.exit 1) [0,1,17,18]) (.seq (.block 2 (s (b 393347) (r (b 393219))) [0,1,17,18]) (r (b 393219))))))=some ?x)=> ?x) ?_;rotate_left;conv=>lhs;cbv
def f335:eO:=by
 refine(fun (_:gF Try.f23 ((s (b 7) (.seq (.block 0 (s (b 263) (c (s [6] .ret) (s (b 2055) (c (s [6] .ret) .skip [0,1,2])) [0,1,2])) [0,1,2]) (.seq (s (b 393219) (.block 1 (.loop [0,1,17,18] f335L0) [])) (s [6] .ret)))))=some (?b, ?r))=>⟨3, ?r,false, ?b⟩) ?_;rotate_left 2;conv=>lhs;cbv
def f336:eO:=by
 refine(fun (_:gF Try.f24 ((s [0] (.seq (s [0,4] (c (s [2] .ret) .skip [0])) (s [2] .ret))))=some (?b, ?r))=>⟨1, ?r,false, ?b⟩) ?_;rotate_left 2;conv=>lhs;cbv
def f337:eO:=by
 refine(fun (_:gF Try.f25 ((s [0] (s [3,4] (s [2] .ret))))=some (?b, ?r))=>⟨1, ?r,true, ?b⟩) ?_;rotate_left 2;conv=>lhs;cbv
@[cbv_opaque] def f338L0 : aF := by
  refine(fun (_:gL Try.f26 0 ((s (b 16206790864) (.seq (c .skip (.exit 2) [4,6,7,25,26,30,31,32]) (.seq (.block 3 (s (b 7616857808) (r (b 7616856272))) [4,6,7,25,26,30,31,32]) (r (b 7616856272))))))=some ?x)=> ?x) ?_;rotate_left;conv=>lhs;cbv
@[cbv_opaque] def f338L1 : aF := by
  refine(fun (_:gL Try.f26 1 ((s (b 234881104) (.seq (c .skip (.exit 0) [4,6,25,26]) (.seq (.block 1 (s (b 100663760) (s (b 7616856272) (.block 2 (.loop [4,6,7,25,26,30,31,32] f338L0) [4,6,25,26]))) [4,6,25,26]) (r [4,6,25,26])))))=some ?x)=> ?x) ?_;rotate_left;conv=>lhs;cbv
def f338:eO:=by
 refine(fun (_:gF Try.f26 ((s [0] (s (b 49) (.seq (s (d 49 17) (c (s [2,3] .ret) .skip [0,4])) (s [4,6] (.seq (s [4,6,25,26] (.block 0 (.loop [4,6,25,26] f338L1) [6])) (s [2,3] .ret)))))))=some (?b, ?r))=>⟨1, ?r,true, ?b⟩) ?_;rotate_left 2;conv=>lhs;cbv
@[cbv_opaque] def f339L0 : aF := by
  refine(fun (_:gL Try.f29 0 ((s (b 245773) (.seq (c .skip (.exit 0) [0,2,3,14,15,16]) (.seq (.block 1 (s (b 115725) (s (b 129037) (s (b 126989) (s (d 118797 30) (c (r (b 114701)) .skip [0,2,3,14,15,16]))))) [0,2,3,14,15,16]) (r (b 114701))))))=some ?x)=> ?x) ?_;rotate_left;conv=>lhs;cbv
def f339:eO:=by
 refine(fun (_:gF Try.f29 ((s (b 15) (.seq (s (b 114701) (.block 0 (.loop [0,2,3,14,15,16] f339L0) [0,2])) (s [0] (s [8] .ret)))))=some (?b, ?r))=>⟨4, ?r,false, ?b⟩) ?_;rotate_left 2;conv=>lhs;cbv
@[cbv_opaque] def f340L0 : aF := by
  refine(fun (_:gL Try.f30 0 ((s (b 7864368) (.seq (c .skip (.exit 0) [4,5,19,20,21]) (.seq (.block 1 (s (b 3670192) (s (b 3671856) (s (b 3671600) (s (d 3670576 38) (c (r (b 3670064)) .skip [4,5,19,20,21]))))) [4,5,19,20,21]) (r (b 3670064))))))=some ?x)=> ?x) ?_;rotate_left;conv=>lhs;cbv
def f340:eO:=by
 refine(fun (_:gF Try.f30 ((s [0] (.seq (.ir (.range 4) [] [] (b 49)) (s (b 49) (.seq (s (b 3670064) (.block 0 (.loop [4,5,19,20,21] f340L0) [4,5])) (s [5,11] (s [11,13] (s [2,3] .ret))))))))=some (?b, ?r))=>⟨1, ?r,true, ?b⟩) ?_;rotate_left 2;conv=>lhs;cbv
@[cbv_opaque] def f341L0 : aF := by
  refine(fun (_:gL Try.f31 3 ((s [0,17,92,93,94,95] (.seq (c .skip (.exit 6) [0,17,92,93,94]) (.seq (.block 7 (s [0,17,20,92,93,94] (r [0,17,92,93,94])) [0,17,92,93,94]) (r [0,17,92,93,94])))))=some ?x)=> ?x) ?_;rotate_left;conv=>lhs;cbv
@[cbv_opaque] def f341L1 : aF := by
  refine(fun (_:gL Try.f31 2 ((s [0,6,10,77,78,79,80] (.seq (c .skip (.exit 4) [0,6,10,77,78,79]) (.seq (.block 5 (s [0,6,10,16,77,78,79] (r [0,6,10,77,78,79])) [0,6,10,77,78,79]) (r [0,6,10,77,78,79])))))=some ?x)=> ?x) ?_;rotate_left;conv=>lhs;cbv
@[cbv_opaque] def f341L2 : aF := by
  refine(fun (_:gL Try.f31 1 ((s (b 1055531162670151) (.seq (c .skip (.exit 2) [0,1,2,6,10,12,46,47,48]) (.seq (.block 3 (s (b 492581209265223) (r (b 492581209248839))) [0,1,2,6,10,12,46,47,48]) (r (b 492581209248839))))))=some ?x)=> ?x) ?_;rotate_left;conv=>lhs;cbv
@[cbv_opaque] def f341L3 : aF := by
  refine(fun (_:gL Try.f31 0 ((s (b 4026532039) (.seq (c .skip (.exit 0) [0,1,2,6,7,28,29,30]) (.seq (.block 1 (s (b 1879048903) (r (b 1879048391))) [0,1,2,6,7,28,29,30]) (r (b 1879048391))))))=some ?x)=> ?x) ?_;rotate_left;conv=>lhs;cbv
def f341:eO:=by
 refine(fun (_:gF Try.f31 ((s (b 71) (s (b 199) (.seq (s (b 1879048391) (.block 0 (.loop [0,1,2,6,7,28,29,30] f341L3) [0,1,2,6,7])) (s (b 1095) (s (b 5191) (.seq (s (b 492581209248839) (.block 2 (.loop [0,1,2,6,10,12,46,47,48] f341L2) [0,1,2,6,10,12])) (s (b 5191) (s (b 5189) (s (b 5185) (s (b 5185) (.seq (s [0,6,10,77,78,79] (.block 4 (.loop [0,6,10,77,78,79] f341L1) [0,6,10])) (s [0,6,17] (s [0,17,92,93,94] (.block 6 (.loop [0,17,92,93,94] f341L0) [])))))))))))))))=some (?b, ?r))=>⟨3, ?r,false, ?b⟩) ?_;rotate_left 2;conv=>lhs;cbv
@[cbv_opaque] def f342L0 : aF := by
  refine(fun (_:gL Try.f32 0 ((.seq (s (d 35 18) (c .skip (.exit 0) [0,1,5])) (.block 1 (r (b 35)) [0,1,5])))=some ?x)=> ?x) ?_;rotate_left;conv=>lhs;cbv
def f342:eO:=by
 refine(fun (_:gF Try.f32 ((s [0,1] (s (b 35) (.seq (.block 0 (.loop [0,1,5] f342L0) [0,5]) (s [4] .ret)))))=some (?b, ?r))=>⟨2, ?r,true, ?b⟩) ?_;rotate_left 2;conv=>lhs;cbv
@[cbv_opaque] def f343L0 : aF := by
  refine(fun (_:gL Try.f37 0 ((s (b 15392) (.seq (c .skip (.exit 0) [5,10,11,12]) (.seq (.block 1 (s (b 7328) (s (b 531488) (c (s [4] .ret) .skip [5,10,11,12]))) [5,10,11,12]) (r (b 7200))))))=some ?x)=> ?x) ?_;rotate_left;conv=>lhs;cbv
def f343:eO:=by
 refine(fun (_:gF Try.f37 ((s [0,1] (s [1,5] (.seq (s (b 7200) (.block 0 (.loop [5,10,11,12] f343L0) [])) (s [4] .ret)))))=some (?b, ?r))=>⟨2, ?r,false, ?b⟩) ?_;rotate_left 2;conv=>lhs;cbv
@[cbv_opaque] def f344L0 : aF := by
  refine(fun (_:gL Try.f38 0 ((.seq (s (b 2163) (c .skip (.exit 0) [0,1,4,5,6])) (.seq (.block 1 (s (b 243) (s (d 243 25) (c (r (b 115)) .skip [0,1,4,5,6]))) [0,1,4,5,6]) (r (b 115)))))=some ?x)=> ?x) ?_;rotate_left;conv=>lhs;cbv
def f344:eO:=by
 refine(fun (_:gF Try.f38 ((s (b 19) (s (b 51) (.seq (s (b 115) (.block 0 (.loop [0,1,4,5,6] f344L0) [4,5])) (s [4] .ret)))))=some (?b, ?r))=>⟨2, ?r,true, ?b⟩) ?_;rotate_left 2;conv=>lhs;cbv
def f345:eO:=by
 refine(fun (_:gF Try.f39 ((s [] (s [0] .ret)))=some (?b, ?r))=>⟨0, ?r,false, ?b⟩) ?_;rotate_left 2;conv=>lhs;cbv
def f346:eO:=by
 refine(fun (_:gF Try.f40 ((s (b 15) (s [8] .ret)))=some (?b, ?r))=>⟨4, ?r,false, ?b⟩) ?_;rotate_left 2;conv=>lhs;cbv
def f347:eO:=by
 refine(fun (_:gF Try.f41 ((.seq (s [0,1,9] (c (r [0,1]) .skip [0,1])) (.seq (.ir (.range 23) [] [] [0]) (r []))))=some (?b, ?r))=>⟨2, ?r,false, ?b⟩) ?_;rotate_left 2;conv=>lhs;cbv
def f348:eO:=by
 refine(fun (_:gF Try.f42 ((s [0] (.seq (s [0,7] (c (s [2,3] .ret) .skip [0])) (s [4] (.seq (s [4,14] (c (s [2,3] .ret) .skip [4])) (s [2,3] .ret))))))=some (?b, ?r))=>⟨1, ?r,true, ?b⟩) ?_;rotate_left 2;conv=>lhs;cbv
def f349:eO:=by
 refine(fun (_:gF Try.f45 ((s (b 14) (.seq (s (b 2062) (c (s (b 28) .ret) .skip [1,2,3])) (s (b 46) (s (b 172) (.seq (.ir (.range 5) [] [(1,[1])] (b 28)) .ret))))))=some (?b, ?r))=>⟨1, ?r,true, ?b⟩) ?_;rotate_left 2;conv=>lhs;cbv
def f350:eO:=by
 refine(fun (_:gF Try.f46 ((s (b 35) (s [0,5] (r []))))=some (?b, ?r))=>⟨3, ?r,false, ?b⟩) ?_;rotate_left 2;conv=>lhs;cbv
@[cbv_opaque] def f351L0 : aF := by
  refine(fun (_:gL Try.f47 0 ((s [1,7,55,56,57,58] (.seq (c .skip (.exit 2) [1,7,55,56,57]) (.seq (.block 3 (s [1,7,9,10,55,56,57] (r [1,7,55,56,57])) [1,7,55,56,57]) (r [1,7,55,56,57])))))=some ?x)=> ?x) ?_;rotate_left;conv=>lhs;cbv
@[cbv_opaque] def f351L1 : aF := by
  refine(fun (_:gL Try.f47 1 ((.block 1 (s [1,7,8] (.seq (s [1,7,8,53] (c (s [4,5] .ret) .skip [1,7])) (s [1,7,55,56,57] (.block 2 (.loop [1,7,55,56,57] f351L0) [1,7])))) [1,7]))=some ?x)=> ?x) ?_;rotate_left;conv=>lhs;cbv
def f351:eO:=by
 refine(fun (_:gF Try.f47 ((s [0,1] (s (b 67) (.seq (.seq (.ir (.range 28) [] [] [0,1,38]) (c (s [4,5] .ret) .skip [0,1])) (s [1,7] (.seq (s [1,7,43] (c (r [1,7]) .skip [1,7])) (.block 0 (.loop [1,7] f351L1) [4,5])))))))=some (?b, ?r))=>⟨2, ?r,true, ?b⟩) ?_;rotate_left 2;conv=>lhs;cbv
@[cbv_opaque] def f352L0 : aF := by
  refine(fun (_:gL Try.f49 0 ((.seq (s (d 41 26) (c .skip (.exit 1) [0,3,5])) (.seq (.block 2 (r (b 41)) [0,3,5]) (r (b 41)))))=some ?x)=> ?x) ?_;rotate_left;conv=>lhs;cbv
def f352:eO:=by
 refine(fun (_:gF Try.f49 ((s [0,3] (.seq (.block 0 (s (b 73) (c (s [4] .ret) (s [0,3,9] (c (s [4] .ret) .skip [0,3])) [0,3])) [0,3]) (.seq (s (b 41) (.block 1 (.loop [0,3,5] f352L0) [])) (s [4] .ret)))))=some (?b, ?r))=>⟨2, ?r,false, ?b⟩) ?_;rotate_left 2;conv=>lhs;cbv
@[cbv_opaque] def f353L0 : aF := by
  refine(fun (_:gL Try.f56 0 ((s [0,3,82,83,84] (.seq (c .skip (.exit 0) [0,3,82,83]) (.seq (.block 1 (.ir (.range 24) [] [] [0,3,82,83]) [0,3,82,83]) (r [0,3,82,83])))))=some ?x)=> ?x) ?_;rotate_left;conv=>lhs;cbv
def f353:eO:=by
 refine(fun (_:gF Try.f56 ((s [0,3] (.seq (s [0,3,7] (c (.seq (s [0,3,28] (c (s [4] .ret) .skip [0,3])) (.seq (.ir (.range 13) [] [] []) (s [4] .ret))) .skip [0,3])) (.seq (.seq (.ir (.range 40) [] [] [0,3,80]) (c (s [4] .ret) .skip [0,3])) (.seq (s [0,3,82,83] (.block 0 (.loop [0,3,82,83] f353L0) [])) (s [4] .ret))))))=some (?b, ?r))=>⟨2, ?r,false, ?b⟩) ?_;rotate_left 2;conv=>lhs;cbv
@[cbv_opaque] def f354L0 : aF := by
  refine(fun (_:gL Try.f57 0 ((.seq (.seq (.ir (.range 25) [] [] (d 135 32)) (c .skip (.exit 0) [0,1,2,7])) (.block 1 (r (b 135)) [0,1,2,7])))=some ?x)=> ?x) ?_;rotate_left;conv=>lhs;cbv
def f354:eO:=by
 refine(fun (_:gF Try.f57 ((s (b 7) (s (b 135) (.seq (.block 0 (.loop [0,1,2,7] f354L0) [7]) (s [6] .ret)))))=some (?b, ?r))=>⟨3, ?r,true, ?b⟩) ?_;rotate_left 2;conv=>lhs;cbv
def f355:eO:=by
 refine(fun (_:gF Try.f62 ((s [0,2] (.seq (.block 0 (s (b 21) (c (s [2,3] .ret) (s [0,2,12] (c (s [2,3] .ret) .skip [0,2])) [0,2])) [0,2]) (s [2,3] .ret))))=some (?b, ?r))=>⟨1, ?r,true, ?b⟩) ?_;rotate_left 2;conv=>lhs;cbv
def f356:eO:=by
 refine(fun (_:gF Try.f63 ((s [0,2] (.seq (s [0,2,9] (c (s [2,3] .ret) .skip [0,2])) (s [2,3] .ret))))=some (?b, ?r))=>⟨1, ?r,true, ?b⟩) ?_;rotate_left 2;conv=>lhs;cbv
def f357:eO:=by
 refine(fun (_:gF Try.f64 ((s [0] (s [2] .ret)))=some (?b, ?r))=>⟨1, ?r,true, ?b⟩) ?_;rotate_left 2;conv=>lhs;cbv
@[cbv_opaque] def f358L0 : aF := by
  refine(fun (_:gL Try.f66 0 ((s (b 968) (.seq (c .skip (.exit 0) [3,6,7,8]) (.seq (.block 1 (s (b 488) (s (b 8648) (c (r (b 456)) .skip [3,6,7,8]))) [3,6,7,8]) (r (b 456))))))=some ?x)=> ?x) ?_;rotate_left;conv=>lhs;cbv
def f358:eO:=by
 refine(fun (_:gF Try.f66 ((s [0] (s [0,3] (.seq (s (b 456) (.block 0 (.loop [3,6,7,8] f358L0) [3])) (s [2] .ret)))))=some (?b, ?r))=>⟨1, ?r,true, ?b⟩) ?_;rotate_left 2;conv=>lhs;cbv
@[cbv_opaque] def f359L0 : aF := by
  refine(fun (_:gL Try.f69 1 ((s [3,4,7,10,75,76,77,78] (.seq (c .skip (.exit 4) [3,4,7,10,75,76,77]) (.seq (.block 5 (s [3,4,7,10,12,75,76,77] (r [3,4,7,10,75,76,77])) [3,4,7,10,75,76,77]) (r [3,4,7,10,75,76,77])))))=some ?x)=> ?x) ?_;rotate_left;conv=>lhs;cbv
@[cbv_opaque] def f359L1 : aF := by
  refine(fun (_:gL Try.f69 2 ((.seq (s [3,4,7,41] (c .skip (.exit 2) [3,4,7])) (.seq (.block 3 (s (b 408) (s (b 920) (.seq (.ir (.range 23) [] [(3,[1]),(7,[1])] (b 1176)) (.seq (s [3,4,7,10,75,76,77] (.block 4 (.loop [3,4,7,10,75,76,77] f359L0) [3,4,7,10])) (r [3,4,7]))))) [3,4,7]) (r [3,4,7]))))=some ?x)=> ?x) ?_;rotate_left;conv=>lhs;cbv
@[cbv_opaque] def f359L2 : aF := by
  refine(fun (_:gL Try.f69 0 ((s (b 983065) (.seq (c .skip (.exit 0) [0,3,4,16,17,18]) (.seq (.block 1 (s (b 458873) (s (b 17236089) (c (r (b 458777)) .skip [0,3,4,16,17,18]))) [0,3,4,16,17,18]) (r (b 458777))))))=some ?x)=> ?x) ?_;rotate_left;conv=>lhs;cbv
def f359:eO:=by
 refine(fun (_:gF Try.f69 ((s [0] (s [0,3] (s (b 25) (.seq (s (b 458777) (.block 0 (.loop [0,3,4,16,17,18] f359L2) [0,3,4])) (s (b 25) (.seq (s [3,4,7] (.block 2 (.loop [3,4,7] f359L1) [3])) (s [2] .ret))))))))=some (?b, ?r))=>⟨1, ?r,true, ?b⟩) ?_;rotate_left 2;conv=>lhs;cbv
@[cbv_opaque] def f360L0 : aF := by
  refine(fun (_:gL Try.f70 0 ((.seq (s (b 32793) (c .skip (.exit 0) [0,3,4])) (.seq (.block 1 (r (b 25)) [0,3,4]) (r (b 25)))))=some ?x)=> ?x) ?_;rotate_left;conv=>lhs;cbv
def f360:eO:=by
 refine(fun (_:gF Try.f70 ((s [0] (.seq (s [0,7] (c (r [0]) .skip [0])) (s [0,3] (.seq (s (b 25) (.block 0 (.loop [0,3,4] f360L0) [3])) (s [2] .ret))))))=some (?b, ?r))=>⟨1, ?r,true, ?b⟩) ?_;rotate_left 2;conv=>lhs;cbv
@[cbv_opaque] def f361L0 : aF := by
  refine(fun (_:gL Try.f79 0 ((.seq (s (b 66317) (c .skip (.exit 0) [0,2,3,8,9])) (.seq (.block 1 (s (b 3853) (s (d 3853 28) (c (s [8] .ret) .skip [0,2,3,8,9]))) [0,2,3,8,9]) (r (b 781)))))=some ?x)=> ?x) ?_;rotate_left;conv=>lhs;cbv
def f361:eO:=by
 refine(fun (_:gF Try.f79 ((s (b 271) (.seq (s (b 781) (.block 0 (.loop [0,2,3,8,9] f361L0) [2,8])) (s [8] .ret))))=some (?b, ?r))=>⟨4, ?r,true, ?b⟩) ?_;rotate_left 2;conv=>lhs;cbv
@[cbv_opaque] def f362L0 : aF := by
  refine(fun (_:gL Try.f83 0 ((.seq (s (b 1037) (c .skip (.exit 0) [0,2,3])) (.seq (.block 1 (r (b 13)) [0,2,3]) (r (b 13)))))=some ?x)=> ?x) ?_;rotate_left;conv=>lhs;cbv
def f362:eO:=by
 refine(fun (_:gF Try.f83 ((s [0,2] (s (b 13) (.block 0 (.loop [0,2,3] f362L0) []))))=some (?b, ?r))=>⟨1, ?r,false, ?b⟩) ?_;rotate_left 2;conv=>lhs;cbv
def f363:eO:=by
 refine(fun (_:gF Try.f84 ((s [0] (s [2] .ret)))=some (?b, ?r))=>⟨1, ?r,false, ?b⟩) ?_;rotate_left 2;conv=>lhs;cbv
def f364:eO:=by
 refine(fun (_:gF Try.f85 ((s [0] (s [0,3] (s [0,3] (s [0] (s [2] .ret))))))=some (?b, ?r))=>⟨1, ?r,false, ?b⟩) ?_;rotate_left 2;conv=>lhs;cbv
def f365:eO:=by
 refine(fun (_:gF Try.f86 ((s [0] (r [])))=some (?b, ?r))=>⟨2, ?r,false, ?b⟩) ?_;rotate_left 2;conv=>lhs;cbv
@[cbv_opaque] def f366L0 : aF := by
  refine(fun (_:gL Try.f90 0 ((.block 1 (s (b 391) (.seq (s (d 391 21) (c (.exit 0) .skip [0,1,2,7,8])) (s (b 903) (.seq (s (b 1927) (s (d 1671 33) (c (r (b 647)) .skip [0,1,2,7,9]))) (.seq (s (d 647 39) (c (.exit 0) .skip [0,1,2,7,9])) (s (b 519) (r (b 135)))))))) [0,1,2,7]))=some ?x)=> ?x) ?_;rotate_left;conv=>lhs;cbv
def f366:eO:=by
 refine(fun (_:gF Try.f90 ((s (b 7) (s (b 135) (.seq (.block 0 (.loop [0,1,2,7] f366L0) [1,7]) (s [6] .ret)))))=some (?b, ?r))=>⟨3, ?r,false, ?b⟩) ?_;rotate_left 2;conv=>lhs;cbv
@[cbv_opaque] def f367L0 : aF := by
  refine(fun (_:gL Try.f91 0 ((.block 1 (s (b 19) (.seq (s (d 19 17) (c (.exit 0) .skip [0,1,4])) (s [0,4] (r [0,1])))) [0,1]))=some ?x)=> ?x) ?_;rotate_left;conv=>lhs;cbv
def f367:eO:=by
 refine(fun (_:gF Try.f91 ((.block 0 (.loop [0,1] f367L0) []))=some (?b, ?r))=>⟨2, ?r,false, ?b⟩) ?_;rotate_left 2;conv=>lhs;cbv
def f368:eO:=by
 refine(fun (_:gF Try.f110 ((s (b 7) (.seq (.seq (.ir (.range 15) [] [] (d 7 21)) (c (.seq (.ir (.range 16) [] [] [6]) .ret) .skip [0,1,2])) (.seq (.ir (.range 16) [] [] [6]) .ret))))=some (?b, ?r))=>⟨3, ?r,false, ?b⟩) ?_;rotate_left 2;conv=>lhs;cbv
def f369:eO:=by
 refine(fun (_:gF Try.f111 ((.ir (.range 16) [] [] []))=some (?b, ?r))=>⟨3, ?r,false, ?b⟩) ?_;rotate_left 2;conv=>lhs;cbv
def f370:eO:=by
 refine(fun (_:gF Try.f112 ((s [0] (s [0,3] (s (b 25) (s [4] (s [2] .ret))))))=some (?b, ?r))=>⟨1, ?r,false, ?b⟩) ?_;rotate_left 2;conv=>lhs;cbv
def f371:eO:=by
 refine(fun (_:gF Try.f113 ((.ir (.range 10) [] [] []))=some (?b, ?r))=>⟨2, ?r,false, ?b⟩) ?_;rotate_left 2;conv=>lhs;cbv
def mX:List (Nat×eO):=[(7,f7),(9,f9),(14,f14),(15,f15),(16,f16),(17,f17),(38,f38),(39,f39),(40,f40),(41,f41),(42,f42),(43,f43),(44,f44),(45,f45),(58,f58),(59,f59),(60,f60),(61,f61),(62,f62),(63,f63),(64,f64),(65,f65),(66,f66),(72,f72),(73,f73),(74,f74),(75,f75),(76,f76),(77,f77),(78,f78),(79,f79),(80,f80),(81,f81),(82,f82),(83,f83),(84,f84),(118,f118),(189,f189),(319,f319),(324,f324),(325,f325),(326,f326),(327,f327),(328,f328),(332,f332),(333,f333),(334,f334),(335,f335),(336,f336),(337,f337),(338,f338),(339,f339),(340,f340),(341,f341),(342,f342),(343,f343),(344,f344),(345,f345),(346,f346),(347,f347),(348,f348),(349,f349),(350,f350),(351,f351),(352,f352),(353,f353),(354,f354),(355,f355),(356,f356),(357,f357),(358,f358),(359,f359),(360,f360),(361,f361),(362,f362),(363,f363),(364,f364),(365,f365),(366,f366),(367,f367),(368,f368),(369,f369),(370,f370),(371,f371)]
def find:List (Nat×eO)→Nat→Option eO
 |[],_=>none
 |(i,f)::r,k=>if i=k then some f else find r k
def A:a7:=find mX
end Ab.AP
