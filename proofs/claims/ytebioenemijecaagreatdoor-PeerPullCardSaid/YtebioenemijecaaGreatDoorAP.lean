/- Part AP. -/
import Derived.Test.YtebioenemijecaaGreatDoorA2
import Derived.Test.YtebioenemijecaaGreatDoorProg
import Derived.KernelRfl
namespace Ab.Ln
open Go Go.Proofs Ab
def Gv:List (Nat×Nat)→Nat→Option Nat
 |[],_=>none
 |(i,f)::r,k=>if i=k then some f else Gv r k
def Zp:List (Nat×Nat):=[(3,223),(5,242),(6,205),(7,243),(8,244),(9,238),(10,9),(11,245),(12,240),(13,202),(15,208),(16,166),(17,106),(18,247),(20,98),(21,246),(22,207),(23,212),(24,213),(25,157),(26,279),(27,280),(28,215),(29,165),(30,156),(31,210),(32,211),(33,177),(34,120),(35,181),(36,197),(37,198),(38,281),(39,233),(40,277),(42,200),(43,172),(45,101),(46,167),(47,164),(48,183),(49,91),(50,179),(51,93),(52,151),(53,152),(54,105),(55,83),(56,261),(57,262),(58,117),(59,184),(60,263),(61,264),(62,265),(63,266),(64,267),(65,268),(66,96),(67,269),(68,270),(69,187),(70,300),(71,301),(72,302),(73,303),(74,111),(75,173),(76,169),(77,8),(78,186),(79,188),(80,102),(81,103),(82,104),(83,115),(84,160),(85,161),(86,162),(87,84),(88,123),(89,119),(90,121),(91,299),(92,107),(93,191),(94,178),(95,306),(96,307),(97,308),(98,18),(99,19),(100,20),(101,21),(102,22),(103,23),(104,24),(105,25),(106,190),(107,112),(108,124),(109,113),(110,114),(111,185),(112,118),(113,110),(114,311),(115,312),(116,313),(117,314),(118,46),(119,47),(120,48),(121,49),(122,50),(123,51),(124,32),(125,52),(126,53),(127,54),(128,192),(129,125),(130,126),(131,127),(132,128),(133,129),(134,130),(135,131),(136,122),(137,7),(138,189),(139,315),(140,67),(141,68),(142,132),(143,133),(144,134),(145,135),(146,14),(147,15),(148,16),(149,17),(152,138),(153,38),(154,39),(155,40),(156,41),(157,42),(158,43),(159,44),(160,45),(161,139),(162,140),(163,141),(165,58),(166,59),(167,60),(168,61),(169,62),(170,63),(171,64),(172,65),(173,66),(175,72),(176,73),(177,74),(178,75),(179,76),(180,77),(181,78),(182,79),(183,80),(184,81),(186,82),(150,136),(151,137),(174,143)]
def mtT:List (Nat×Nat):=[(9,0)]
def mf (k:Nat):Option Nat:=Gv Zp k
def mt (k:Nat):Nat:=(Gv mtT k).getD (k+100000)
def iv (_:String):Option (Nat×Nat×Bool):=none
def taT:List (Nat×Nat):=[]
def ta (t:Nat):Option Nat:=Gv taT t
def sqT:List Nat:=[]
def sq (t:Nat):Bool:=sqT.contains t
noncomputable def L:Lk:=⟨Tryz.prog,mf,mt,iv,ta,sq⟩
end Ab.Ln
namespace Ab.AP
open Go Go.Proofs Ab
set_option maxRecDepth 100000
set_option maxHeartbeats 4000000
/-- The tables, asked for single types alone. -/
@[cbv_opaque] noncomputable def T0 : Tables := Tryz.prog.toTables
noncomputable def P0:Program:=⟨T0, #[]⟩
noncomputable def L0:Lk:=⟨P0,Ln.mf,Ln.mt,Ln.iv,Ln.ta,Ln.sq⟩
@[cbv_eval] theorem ty3 : T0.info? 3 = some Tryz.t3 := Tryz.type3
@[cbv_eval] theorem ty4 : T0.info? 4 = some Tryz.t4 := Tryz.type4
@[cbv_eval] theorem ty5 : T0.info? 5 = some Tryz.t5 := Tryz.type5
@[cbv_eval] theorem ty9 : T0.info? 9 = some Tryz.t9 := Tryz.type9
@[cbv_eval] theorem aak : T0.info? 21 = some Tryz.t21 := Tryz.type21
@[cbv_eval] theorem aal : T0.info? 22 = some Tryz.t22 := Tryz.type22
@[cbv_eval] theorem aam : T0.info? 23 = some Tryz.t23 := Tryz.type23
@[cbv_eval] theorem aan : T0.info? 24 = some Tryz.t24 := Tryz.type24
@[cbv_eval] theorem aao : T0.info? 30 = some Tryz.t30 := Tryz.type30
@[cbv_eval] theorem aap : T0.info? 31 = some Tryz.t31 := Tryz.type31
@[cbv_eval] theorem aaq : T0.info? 32 = some Tryz.t32 := Tryz.type32
@[cbv_eval] theorem aar : T0.info? 33 = some Tryz.t33 := Tryz.type33
@[cbv_eval] theorem aas : T0.info? 34 = some Tryz.t34 := Tryz.type34
@[cbv_eval] theorem aat : T0.info? 35 = some Tryz.t35 := Tryz.type35
@[cbv_eval] theorem aau : T0.info? 45 = some Tryz.t45 := Tryz.type45
@[cbv_eval] theorem aav : T0.info? 46 = some Tryz.t46 := Tryz.type46
@[cbv_eval] theorem aaw : T0.info? 56 = some Tryz.t56 := Tryz.type56
@[cbv_eval] theorem aax : T0.info? 66 = some Tryz.t66 := Tryz.type66
@[cbv_eval] theorem aay : T0.info? 73 = some Tryz.t73 := Tryz.type73
@[cbv_eval] theorem aaz : T0.info? 75 = some Tryz.t75 := Tryz.type75
@[cbv_eval] theorem aaA : T0.info? 76 = some Tryz.t76 := Tryz.type76
@[cbv_eval] theorem aaB : T0.info? 77 = some Tryz.t77 := Tryz.type77
@[cbv_eval] theorem aaC : T0.info? 81 = some Tryz.t81 := Tryz.type81
@[cbv_eval] theorem aaD : T0.info? 82 = some Tryz.t82 := Tryz.type82
@[cbv_eval] theorem aaE : T0.info? 86 = some Tryz.t86 := Tryz.type86
@[cbv_eval] theorem aaF : T0.info? 90 = some Tryz.t90 := Tryz.type90
@[cbv_eval] theorem aaG : T0.info? 92 = some Tryz.t92 := Tryz.type92
@[cbv_eval] theorem aaH : T0.info? 93 = some Tryz.t93 := Tryz.type93
@[cbv_eval] theorem aaI : T0.info? 96 = some Tryz.t96 := Tryz.type96
@[cbv_eval] theorem aaJ : T0.info? 97 = some Tryz.t97 := Tryz.type97
@[cbv_eval] theorem aaK : T0.info? 99 = some Tryz.t99 := Tryz.type99
@[cbv_eval] theorem Zu : T0.info? 100 = some Tryz.t100 := Tryz.type100
@[cbv_eval] theorem Zv : T0.info? 103 = some Tryz.t103 := Tryz.type103
@[cbv_eval] theorem Zw : T0.info? 122 = some Tryz.t122 := Tryz.type122
@[cbv_eval] theorem Zx : T0.info? 123 = some Tryz.t123 := Tryz.type123
@[cbv_eval] theorem Zy : T0.info? 124 = some Tryz.t124 := Tryz.type124
@[cbv_eval] theorem Zz : T0.info? 125 = some Tryz.t125 := Tryz.type125
@[cbv_eval] theorem ZA : T0.info? 126 = some Tryz.t126 := Tryz.type126
@[cbv_eval] theorem ZB : T0.info? 127 = some Tryz.t127 := Tryz.type127
@[cbv_eval] theorem ZC : T0.info? 128 = some Tryz.t128 := Tryz.type128
@[cbv_eval] theorem ZD : T0.info? 129 = some Tryz.t129 := Tryz.type129
@[cbv_eval] theorem ZE : T0.info? 143 = some Tryz.t143 := Tryz.type143
@[cbv_eval] theorem ZF : T0.info? 149 = some Tryz.t149 := Tryz.type149
@[cbv_eval] theorem ZG : T0.info? 150 = some Tryz.t150 := Tryz.type150
@[cbv_eval] theorem ZH : T0.info? 151 = some Tryz.t151 := Tryz.type151
@[cbv_eval] theorem ZI : T0.info? 156 = some Tryz.t156 := Tryz.type156
@[cbv_eval] theorem ZJ : T0.info? 157 = some Tryz.t157 := Tryz.type157
@[cbv_eval] theorem ZK : T0.info? 161 = some Tryz.t161 := Tryz.type161
@[cbv_eval] theorem ZL : T0.info? 165 = some Tryz.t165 := Tryz.type165
@[cbv_eval] theorem ZM : T0.info? 170 = some Tryz.t170 := Tryz.type170
@[cbv_eval] theorem ZN : T0.info? 171 = some Tryz.t171 := Tryz.type171
@[cbv_eval] theorem ZO : T0.info? 173 = some Tryz.t173 := Tryz.type173
@[cbv_eval] theorem ZP : T0.info? 174 = some Tryz.t174 := Tryz.type174
@[cbv_eval] theorem ZQ : T0.info? 178 = some Tryz.t178 := Tryz.type178
@[cbv_eval] theorem ZR : T0.info? 179 = some Tryz.t179 := Tryz.type179
@[cbv_eval] theorem ZS : T0.info? 181 = some Tryz.t181 := Tryz.type181
@[cbv_eval] theorem ZT : T0.info? 186 = some Tryz.t186 := Tryz.type186
@[cbv_eval] theorem ZU : T0.info? 187 = some Tryz.t187 := Tryz.type187
@[cbv_eval] theorem ZV : T0.info? 188 = some Tryz.t188 := Tryz.type188
@[cbv_eval] theorem ZW : T0.info? 194 = some Tryz.t194 := Tryz.type194
@[cbv_eval] theorem ZX : T0.info? 195 = some Tryz.t195 := Tryz.type195
@[cbv_eval] theorem ZY : T0.info? 196 = some Tryz.t196 := Tryz.type196
@[cbv_eval] theorem ZZ : T0.info? 206 = some Tryz.t206 := Tryz.type206
@[cbv_eval] theorem Z0 : T0.info? 209 = some Tryz.t209 := Tryz.type209
@[cbv_eval] theorem Z1 : T0.info? 212 = some Tryz.t212 := Tryz.type212
/-- The bodies of the loops, inner ones first. -/
def U7:Code→List Code
 | .seq a b=>U7 a++U7 b
 | .cond _ a b=>U7 a++U7 b
 | .block _ c=>U7 c
 | .loop c=>U7 c++[c]
 |_=>[]
/-- The operations of a code, where what is kept is told; loops stand as they are told. -/
def gt (L:Lk) (nt:Nat):Code→aI→Option aI
 | .skip,.skip=>some .skip
 | .region _ ops false,.qz _ yR=>(dX L nt ops ops.toList).bind fun os=>some (.qz os yR)
 | .region _ ops true,.jG ord _ fl yR=>(lV L nt ops ord fl).bind fun os=>some (.jG ord os fl yR)
 | .seq a b,.seq x y=>(gt L nt a x).bind fun x'=>(gt L nt b y).bind fun y'=>some (.seq x' y')
 | .cond c a b,.cond _ x y yR=>(cX L c).bind fun c'=>(gt L nt a x).bind fun x'=>(gt L nt b y).bind fun y'=>some (.cond c' x' y' yR)
 | .block id c,.block _ x yR=>(gt L nt c x).bind fun x'=>some (.block id x' yR)
 | .loop _,.loop yR x=>some (.loop yR x)
 | .exit id,.exit _=>some (.exit id)
 | .ret,.ret=>some .ret
 |_,_=>none
noncomputable def gL (fn:Func) (i:Nat) (x:aI):Option aI:=fn.body.bind fun c=>((U7 c)[i]?).bind fun d=>gt L0 fn.ntmps d x
noncomputable def gF (fn:Func) (x:aI):Option (aI×List RV):=fn.body.bind fun c=>(gt L0 fn.ntmps c x).bind fun y=>(dk L0 fn.results.toList).bind fun r=>some (y,r)
def bt:Nat→Nat→Nat→List Nat
 |0,_,_=>[]
 |n+1,i,m=>if m=0 then []else if m%2=1 then i::bt n (i+1) (m/2)else bt n (i+1) (m/2)
def b (m:Nat):List Nat:=bt 400 0 m
def d (m t:Nat):List Nat:=bt 400 0 m++[t]
def od (a n:Nat):List Nat:=a::(List.range n).filter fun x=> !(x==a)
def s (k:List Nat) (r:aI):aI:=.seq (.qz [] k) r
def r (k:List Nat):aI:=.qz [] k
def c (x y:aI) (k:List Nat):aI:=.cond (.t 0) x y k
@[cbv_opaque] def f7L0 : aI := by
  refine(fun (_:gL Tryz.f137 0 ((.seq (s [7,28] (c .skip (.exit 0) [7])) (.block 1 (r [7,8]) [7,8])))=some ?x)=> ?x) ?_;rotate_left;conv=>lhs;cbv
def f7:fY:=by
 refine(fun (_:gF Tryz.f137 ((s [0,1] (.seq (s [0,1,14] (c (s [4,5,6] .ret) .skip [0,1])) (s [7] (.seq (s [7,8] (.block 0 (.loop [7,8] f7L0) [7])) (.seq (s [7,35] (c (.seq (.jG (.range 7) [] [] [4,5,6]) .ret) .skip [7])) (s [7] (.seq (.jG (.range 14) [] [(3,[1]),(4,[1])] [4,5,6]) .ret))))))))=some (?b, ?r))=>⟨2, ?r,true, ?b⟩) ?_;rotate_left 2;conv=>lhs;cbv
@[cbv_opaque] def f8L0 : aI := by
  refine(fun (_:gL Tryz.f77 0 ((.seq (s [7,29] (c .skip (.exit 0) [7])) (.block 1 (s [7,8] (s [7,8,9] (.seq (s [7,8,9,38] (c (.exit 0) .skip [7,8,9])) (s [7,8,39] (.block 2 (s [7,8,39,42] (c (r [7,8]) (s [7,8,39,46] (c (r [7,8]) (s [7,8,54] (c (r [7,8]) (r [7,8]) [7,8])) [7,8])) [7,8])) [7,8]))))) [7,8])))=some ?x)=> ?x) ?_;rotate_left;conv=>lhs;cbv
def f8:fY:=by
 refine(fun (_:gF Tryz.f77 ((s [0,1] (.seq (s [0,1,15] (c (s [4,5,6] .ret) .skip [0,1])) (s [7] (.seq (s [7,8] (.block 0 (.loop [7,8] f8L0) [7])) (.seq (s [7,62] (c (.seq (.jG (.range 7) [] [] [4,5,6]) .ret) .skip [7])) (.seq (.jG (.range 15) [] [] [4,5,6]) .ret)))))))=some (?b, ?r))=>⟨2, ?r,true, ?b⟩) ?_;rotate_left 2;conv=>lhs;cbv
def f9:fY:=by
 refine(fun (_:gF Tryz.f10 ((s [0] (s [2] .ret)))=some (?b, ?r))=>⟨1, ?r,true, ?b⟩) ?_;rotate_left 2;conv=>lhs;cbv
def f14:fY:=by
 refine(fun (_:gF Tryz.f146 ((s [0] (s [2] .ret)))=some (?b, ?r))=>⟨1, ?r,false, ?b⟩) ?_;rotate_left 2;conv=>lhs;cbv
def f15:fY:=by
 refine(fun (_:gF Tryz.f147 ((s [0] (s [0,3] (.seq (s [0,3,8] (.block 0 (s (b 2313) (c (s [0,3,17] (c (r [3]) .skip [3])) (s [0,3,8,20] (c (r [3]) (s [0,3,29] (c (r [3]) (r [3]) [3])) [3])) [3])) [3])) (s [2] .ret)))))=some (?b, ?r))=>⟨1, ?r,false, ?b⟩) ?_;rotate_left 2;conv=>lhs;cbv
def f16:fY:=by
 refine(fun (_:gF Tryz.f148 ((s [0] (.seq (s [0,4] (c (s [2] .ret) .skip [0])) (s [] (s [2] .ret)))))=some (?b, ?r))=>⟨1, ?r,false, ?b⟩) ?_;rotate_left 2;conv=>lhs;cbv
def f17:fY:=by
 refine(fun (_:gF Tryz.f149 ((s [0] (.seq (s [0,4] (c (s [2] .ret) .skip [0])) (s [2] .ret))))=some (?b, ?r))=>⟨1, ?r,false, ?b⟩) ?_;rotate_left 2;conv=>lhs;cbv
def f18:fY:=by
 refine(fun (_:gF Tryz.f98 ((s [0,1] (s (b 97) (.seq (s [0,5,23] (c (r [5]) .skip [5])) (s [4] .ret)))))=some (?b, ?r))=>⟨2, ?r,false, ?b⟩) ?_;rotate_left 2;conv=>lhs;cbv
@[cbv_opaque] def f19L0 : aI := by
  refine(fun (_:gL Tryz.f99 0 ((.seq (s (d 21 36) (c .skip (.exit 0) [0,2,4])) (.seq (.block 1 (s (b 53) (s (d 53 45) (c (r (b 21)) .skip [0,2,4]))) [0,2,4]) (r (b 21)))))=some ?x)=> ?x) ?_;rotate_left;conv=>lhs;cbv
def f19:fY:=by
 refine(fun (_:gF Tryz.f99 ((s [0] (s (b 13) (.seq (s [0,2,24] (c (r [0,2]) .skip [0,2])) (s (b 21) (.block 0 (.loop [0,2,4] f19L0) []))))))=some (?b, ?r))=>⟨1, ?r,false, ?b⟩) ?_;rotate_left 2;conv=>lhs;cbv
@[cbv_opaque] def f20L0 : aI := by
  refine(fun (_:gL Tryz.f100 0 ((.seq (s (d 50183 107) (c .skip (.exit 2) [0,1,2,10,14,15])) (.seq (.block 3 (.jG (.range 15) [] [] (b 50183)) [0,1,2,10,14,15]) (r (b 50183)))))=some ?x)=> ?x) ?_;rotate_left;conv=>lhs;cbv
@[cbv_opaque] def f20L1 : aI := by
  refine(fun (_:gL Tryz.f100 1 ((.seq (s (d 7 20) (c .skip (.exit 0) [0,1,2])) (.block 1 (s (b 71) (.seq (s (d 71 32) (c .ret .skip [0,1,2,6])) (.seq (s (d 71 34) (c (s (b 7) (.exit 1)) .skip [0,1,2,6])) (s (b 903) (.seq (s (d 391 46) (c (s [] .ret) .skip [0,1,2,7,8])) (s (b 1031) (.seq (s (d 1031 58) (c .ret .skip [0,1,2,10])) (s (b 3079) (.seq (s (d 3079 66) (c .ret .skip [0,1,2,10,11])) (s (b 13831) (.seq (s (d 13319 74) (c (s [] .ret) .skip [0,1,2,10,12,13])) (s (b 17415) (.seq (s (d 17415 95) (c (r (b 17415)) .skip [0,1,2,10,14])) (s (b 50183) (.block 2 (.loop [0,1,2,10,14,15] f20L0) [0,1,2]))))))))))))))) [0,1,2])))=some ?x)=> ?x) ?_;rotate_left;conv=>lhs;cbv
def f20:fY:=by
 refine(fun (_:gF Tryz.f100 ((.block 0 (.loop [0,1,2] f20L1) []))=some (?b, ?r))=>⟨3, ?r,false, ?b⟩) ?_;rotate_left 2;conv=>lhs;cbv
@[cbv_opaque] def f21L0 : aI := by
  refine(fun (_:gL Tryz.f101 0 ((.seq (s (b 32825) (c .skip (.exit 2) [0,3,4,5])) (.seq (.block 3 (s (d 57 23) (c (.seq (.jG (.range 11) [] [] (b 57)) (r (b 57))) .skip [0,3,4,5])) [0,3,4,5]) (r (b 57)))))=some ?x)=> ?x) ?_;rotate_left;conv=>lhs;cbv
@[cbv_opaque] def f21L1 : aI := by
  refine(fun (_:gL Tryz.f101 1 ((.seq (s (b 537) (c .skip (.exit 0) [0,3,4])) (.seq (.block 1 (s (b 57) (.block 2 (.loop [0,3,4,5] f21L0) [0,3,4])) [0,3,4]) (r (b 25)))))=some ?x)=> ?x) ?_;rotate_left;conv=>lhs;cbv
def f21:fY:=by
 refine(fun (_:gF Tryz.f101 ((s [0] (s [0,3] (.seq (s (b 25) (.block 0 (.loop [0,3,4] f21L1) [3])) (s [2] .ret)))))=some (?b, ?r))=>⟨1, ?r,true, ?b⟩) ?_;rotate_left 2;conv=>lhs;cbv
@[cbv_opaque] def f22L0 : aI := by
  refine(fun (_:gL Tryz.f102 0 ((.seq (s (b 38) (c .skip (.exit 0) [1,2])) (.seq (.block 1 (s (b 14) (.seq (s (b 8206) (c (r (b 14)) (s (d 14 19) (c (r (b 14)) .skip [1,2,3])) [1,2,3])) (r [1,2]))) [1,2]) (r [1,2]))))=some ?x)=> ?x) ?_;rotate_left;conv=>lhs;cbv
def f22:fY:=by
 refine(fun (_:gF Tryz.f102 ((s [] (s [1] (.seq (s [1,2] (.block 0 (.loop [1,2] f22L0) [1])) (s [0] .ret)))))=some (?b, ?r))=>⟨0, ?r,true, ?b⟩) ?_;rotate_left 2;conv=>lhs;cbv
@[cbv_opaque] def f23L0 : aI := by
  refine(fun (_:gL Tryz.f103 0 ((.seq (s (b 38) (c .skip (.exit 0) [1,2])) (.seq (.block 1 (r [1,2]) [1,2]) (r [1,2]))))=some ?x)=> ?x) ?_;rotate_left;conv=>lhs;cbv
def f23:fY:=by
 refine(fun (_:gF Tryz.f103 ((s [] (s [1] (.seq (s [1,2] (.block 0 (.loop [1,2] f23L0) [1])) (s [0] .ret)))))=some (?b, ?r))=>⟨0, ?r,true, ?b⟩) ?_;rotate_left 2;conv=>lhs;cbv
@[cbv_opaque] def f24L0 : aI := by
  refine(fun (_:gL Tryz.f104 0 ((.seq (s (d 253 37) (c .skip (.exit 0) [0,2,3,4,5,6,7])) (.seq (.block 1 (.jG (.range 9) [] [(4,[1])] (b 253)) [0,2,3,4,5,6,7]) (r (b 253)))))=some ?x)=> ?x) ?_;rotate_left;conv=>lhs;cbv
def f24:fY:=by
 refine(fun (_:gF Tryz.f104 ((s [0,2] (s (b 13) (s (b 29) (.seq (s (d 29 30) (c (s [] .ret) .skip [0,2,3,4])) (s (b 61) (s (b 125) (.seq (s (b 253) (.block 0 (.loop [0,2,3,4,5,6,7] f24L0) [0,2,3,5])) (.seq (s (d 45 57) (c (s [] .ret) .skip [0,2,3,5])) (s [0,2,8] (.seq (s [0,2,8,71] (c .ret .skip [0,2,8])) (.seq (s [0,2,8,96] (c (s [] .ret) .skip [0,2,8])) (.jG (.range 10) [] [(7,[0])] [])))))))))))))=some (?b, ?r))=>⟨1, ?r,false, ?b⟩) ?_;rotate_left 2;conv=>lhs;cbv
def f25:fY:=by
 refine(fun (_:gF Tryz.f105 ((s [0,6] (c (r []) .skip [])))=some (?b, ?r))=>⟨1, ?r,false, ?b⟩) ?_;rotate_left 2;conv=>lhs;cbv
def f32:fY:=by
 refine(fun (_:gF Tryz.f124 ((s [] (s [0] .ret)))=some (?b, ?r))=>⟨0, ?r,true, ?b⟩) ?_;rotate_left 2;conv=>lhs;cbv
def f38:fY:=by
 refine(fun (_:gF Tryz.f153 ((s [0,1] (s (b 97) (.seq (s [0,5,17] (c (r [5]) .skip [5])) (s [4] .ret)))))=some (?b, ?r))=>⟨2, ?r,false, ?b⟩) ?_;rotate_left 2;conv=>lhs;cbv
@[cbv_opaque] def f39L0 : aI := by
  refine(fun (_:gL Tryz.f154 0 ((.seq (s [0,2,26] (c .skip (.exit 0) [0,2])) (.seq (.block 1 (s (b 13) (s (d 13 35) (c (r [0,2]) .skip [0,2]))) [0,2]) (r [0,2]))))=some ?x)=> ?x) ?_;rotate_left;conv=>lhs;cbv
def f39:fY:=by
 refine(fun (_:gF Tryz.f154 ((s [0] (s [0,2] (.seq (s [0,2,15] (c (r [0,2]) .skip [0,2])) (.block 0 (.loop [0,2] f39L0) [])))))=some (?b, ?r))=>⟨1, ?r,false, ?b⟩) ?_;rotate_left 2;conv=>lhs;cbv
@[cbv_opaque] def f40L0 : aI := by
  refine(fun (_:gL Tryz.f155 0 ((.seq (s (b 2055) (c .skip (.exit 0) [0,1,2])) (.block 1 (s (b 71) (.block 2 (s (d 71 19) (c (r (b 7)) (s (d 71 26) (c .ret (r (b 7)) [0,1,2])) [0,1,2])) [0,1,2])) [0,1,2])))=some ?x)=> ?x) ?_;rotate_left;conv=>lhs;cbv
def f40:fY:=by
 refine(fun (_:gF Tryz.f155 ((.block 0 (.loop [0,1,2] f40L0) []))=some (?b, ?r))=>⟨3, ?r,false, ?b⟩) ?_;rotate_left 2;conv=>lhs;cbv
@[cbv_opaque] def f41L0 : aI := by
  refine(fun (_:gL Tryz.f156 1 ((.seq (s [3,6,7,45] (c .skip (.exit 2) [3,6,7])) (.seq (.block 3 (s [3,6,7] (s [3,6,7] (.jG (.range 16) [] [] [3,6,7]))) [3,6,7]) (r [3,6,7]))))=some ?x)=> ?x) ?_;rotate_left;conv=>lhs;cbv
@[cbv_opaque] def f41L1 : aI := by
  refine(fun (_:gL Tryz.f156 0 ((s (b 15368) (.seq (c .skip (.exit 0) [3,10,11,12]) (.seq (.block 1 (s (b 7224) (s (b 269368) (c (.seq (.jG (.range 11) [] [] (b 7224)) (.jG (.range 15) [] [] (b 7176))) .skip [3,10,11,12]))) [3,10,11,12]) (r (b 7176))))))=some ?x)=> ?x) ?_;rotate_left;conv=>lhs;cbv
def f41:fY:=by
 refine(fun (_:gF Tryz.f156 ((s [0] (s [0,3] (.seq (s (b 7176) (.block 0 (.loop [3,10,11,12] f41L1) [3])) (s [3,6] (.seq (s [3,6,7] (.block 2 (.loop [3,6,7] f41L0) [3])) (s [2] .ret)))))))=some (?b, ?r))=>⟨1, ?r,true, ?b⟩) ?_;rotate_left 2;conv=>lhs;cbv
def f42:fY:=by
 refine(fun (_:gF Tryz.f157 ((s [] (s [0] .ret)))=some (?b, ?r))=>⟨0, ?r,true, ?b⟩) ?_;rotate_left 2;conv=>lhs;cbv
@[cbv_opaque] def f43L0 : aI := by
  refine(fun (_:gL Tryz.f158 0 ((.seq (s [7,8,37] (c .skip (.exit 0) [7,8])) (.block 1 (.jG (.range 10) [] [] [7,8]) [7,8])))=some ?x)=> ?x) ?_;rotate_left;conv=>lhs;cbv
def f43:fY:=by
 refine(fun (_:gF Tryz.f158 ((s [0,1] (.seq (s [0,1,10] (c (r [0,1]) .skip [0,1])) (s (b 97) (.seq (s [0,6,26] (c (r [0,6]) .skip [0,6])) (s [0,7] (s [7,8] (.seq (.block 0 (.loop [7,8] f43L0) [7]) (s [4] .ret)))))))))=some (?b, ?r))=>⟨2, ?r,true, ?b⟩) ?_;rotate_left 2;conv=>lhs;cbv
def f44:fY:=by
 refine(fun (_:gF Tryz.f159 ((s (b 13) (.seq (s (d 13 25) (c (s [] .ret) .skip [0,2,3])) (s (b 21) (.seq (s (d 21 37) (c .ret .skip [0,2,4])) (.seq (.jG (.range 8) [] [] (b 97)) (.seq (s (d 97 62) (c (s [] .ret) .skip [0,5,6])) (r []))))))))=some (?b, ?r))=>⟨1, ?r,false, ?b⟩) ?_;rotate_left 2;conv=>lhs;cbv
def f45:fY:=by
 refine(fun (_:gF Tryz.f160 ((s [0,1,8] (c (r []) .skip [])))=some (?b, ?r))=>⟨2, ?r,false, ?b⟩) ?_;rotate_left 2;conv=>lhs;cbv
@[cbv_opaque] def f46L0 : aI := by
  refine(fun (_:gL Tryz.f118 0 ((.seq (s (d 195 29) (c .skip (.exit 0) [0,1,6,7])) (.seq (.block 1 (.seq (.jG (.range 23) [] [] (b 195)) (r (b 195))) [0,1,6,7]) (r (b 195)))))=some ?x)=> ?x) ?_;rotate_left;conv=>lhs;cbv
def f46:fY:=by
 refine(fun (_:gF Tryz.f118 ((s [0,1] (.seq (s [0,1,13] (c (s [4,5] .ret) .skip [0,1])) (.seq (.seq (.jG (.range 13) [] [] [0,1,26]) (c (s [4,5] .ret) .skip [0,1])) (s (b 67) (.seq (s (b 195) (.block 0 (.loop [0,1,6,7] f46L0) [6])) (s [4,5] .ret)))))))=some (?b, ?r))=>⟨2, ?r,false, ?b⟩) ?_;rotate_left 2;conv=>lhs;cbv
def f47:fY:=by
 refine(fun (_:gF Tryz.f119 ((r []))=some (?b, ?r))=>⟨1, ?r,false, ?b⟩) ?_;rotate_left 2;conv=>lhs;cbv
def f48:fY:=by
 refine(fun (_:gF Tryz.f120 ((.seq (.seq (.jG (.range 17) [] [] [0,1,20]) (c (r [0,1]) .skip [0,1])) (s [0,1,28] (c (r []) .skip []))))=some (?b, ?r))=>⟨2, ?r,false, ?b⟩) ?_;rotate_left 2;conv=>lhs;cbv
@[cbv_opaque] def f49L0 : aI := by
  refine(fun (_:gL Tryz.f121 0 ((.seq (s (b 131555) (c .skip (.exit 0) [0,1,5,6,7,8])) (.seq (.block 1 (s (b 483) (.seq (s (d 483 28) (c (s [4] .ret) .skip [0,1,5,6,7,8])) (.seq (s (d 483 38) (c (s [4] .ret) .skip [0,1,5,6,7,8])) (s (b 483) (s (b 483) (r (b 483))))))) [0,1,5,6,7,8]) (r (b 483)))))=some ?x)=> ?x) ?_;rotate_left;conv=>lhs;cbv
def f49:fY:=by
 refine(fun (_:gF Tryz.f121 ((s [0,1] (s (b 227) (.seq (s (b 483) (.block 0 (.loop [0,1,5,6,7,8] f49L0) [0])) (s [] (s [4] .ret))))))=some (?b, ?r))=>⟨2, ?r,false, ?b⟩) ?_;rotate_left 2;conv=>lhs;cbv
def f50:fY:=by
 refine(fun (_:gF Tryz.f122 ((s [0] (.seq (s [0,11] (c (s (b 28) .ret) .skip [0])) (.seq (s [0,13] (c (s (b 28) .ret) .skip [0])) (.seq (s [0,15] (c (s (b 28) .ret) .skip [0])) (s [0,5] (s (b 28) .ret)))))))=some (?b, ?r))=>⟨1, ?r,true, ?b⟩) ?_;rotate_left 2;conv=>lhs;cbv
def f51:fY:=by
 refine(fun (_:gF Tryz.f123 ((s [0] (.seq (s [0,11] (c (s (b 28) .ret) .skip [0])) (.seq (s [0,13] (c (s (b 28) .ret) .skip [0])) (s [0,5] (s (b 28) .ret))))))=some (?b, ?r))=>⟨1, ?r,true, ?b⟩) ?_;rotate_left 2;conv=>lhs;cbv
def f52:fY:=by
 refine(fun (_:gF Tryz.f125 ((s [0] (.seq (s [0,6] (c (s [2] .ret) .skip [0])) (s [3] (.seq (s [3,10] (c (s [2] .ret) .skip [3])) (.seq (s [12] (c (s [2] .ret) .skip [])) (s [2] .ret)))))))=some (?b, ?r))=>⟨1, ?r,true, ?b⟩) ?_;rotate_left 2;conv=>lhs;cbv
@[cbv_opaque] def f53L0 : aI := by
  refine(fun (_:gL Tryz.f126 0 ((.seq (s (d 3719 83) (c .skip (.exit 3) [0,1,2,7,9,10,11])) (.seq (.block 4 (r (b 3719)) [0,1,2,7,9,10,11]) (r (b 3719)))))=some ?x)=> ?x) ?_;rotate_left;conv=>lhs;cbv
@[cbv_opaque] def f53L1 : aI := by
  refine(fun (_:gL Tryz.f126 1 ((.seq (s (d 135 22) (c .skip (.exit 0) [0,1,2,7])) (.block 1 (s (b 391) (.seq (s (d 391 30) (c (s [6] .ret) .skip [0,1,2,7,8])) (s (b 1927) (.seq (s (d 1671 32) (.block 2 (s (b 12884903559) (c (.seq (s (d 135 37) (c (s [] (s [6] .ret)) .skip [0,1,2,7])) (s (b 1159) (r (b 1671)))) (s (d 4294968967 49) (c (s (b 1159) (r (b 1671))) (s (d 1671 54) (c (s (b 1159) (r (b 1671))) .skip [0,1,2,7,9,10])) [0,1,2,7,9,10])) [0,1,2,7,9,10])) [0,1,2,7,9,10])) (.seq (s (d 1671 71) (c (r (b 1671)) .skip [0,1,2,7,9,10])) (s (b 3719) (.block 3 (.loop [0,1,2,7,9,10,11] f53L0) [0,1,2,7]))))))) [0,1,2,7])))=some ?x)=> ?x) ?_;rotate_left;conv=>lhs;cbv
def f53:fY:=by
 refine(fun (_:gF Tryz.f126 ((s (b 7) (s (b 135) (.seq (.block 0 (.loop [0,1,2,7] f53L1) [7]) (s [6] .ret)))))=some (?b, ?r))=>⟨3, ?r,false, ?b⟩) ?_;rotate_left 2;conv=>lhs;cbv
@[cbv_opaque] def f54L0 : aI := by
  refine(fun (_:gL Tryz.f127 0 ((.seq (s (b 569) (c .skip (.exit 0) [0,3,4,5])) (.seq (.block 1 (s (b 65593) (c (s (b 41) (r (b 57))) .skip [0,3,4,5])) [0,3,4,5]) (r (b 57)))))=some ?x)=> ?x) ?_;rotate_left;conv=>lhs;cbv
def f54:fY:=by
 refine(fun (_:gF Tryz.f127 ((s [0] (s (b 25) (.seq (s (b 57) (.block 0 (.loop [0,3,4,5] f54L0) [3,4])) (s [2] .ret)))))=some (?b, ?r))=>⟨1, ?r,true, ?b⟩) ?_;rotate_left 2;conv=>lhs;cbv
@[cbv_opaque] def f58L0 : aI := by
  refine(fun (_:gL Tryz.f165 0 ((s [0,6,32,33,34] (.seq (c .skip (.exit 1) [0,6,32,33]) (.seq (.block 2 (s [0,6,7,32,33] (.seq (.jG (.range 23) [] [] [0,6,32,33]) (r [0,6,32,33]))) [0,6,32,33]) (r [0,6,32,33])))))=some ?x)=> ?x) ?_;rotate_left;conv=>lhs;cbv
def f58:fY:=by
 refine(fun (_:gF Tryz.f165 ((s [0,1] (.seq (.block 0 (s [0,1,8] (c (s [4,5] .ret) (s [0,1,11] (c (s [4,5] .ret) (.seq (.jG (.range 14) [] [] [0,1,18]) (c (s [4,5] .ret) .skip [0,1])) [0,1])) [0,1])) [0,1]) (s (b 67) (.seq (s [0,6,32,33] (.block 1 (.loop [0,6,32,33] f58L0) [6])) (s [4,5] .ret))))))=some (?b, ?r))=>⟨2, ?r,false, ?b⟩) ?_;rotate_left 2;conv=>lhs;cbv
def f59:fY:=by
 refine(fun (_:gF Tryz.f166 ((.seq (.seq (.jG (.range 10) [] [] [0,1,13]) (c (r [0,1]) .skip [0,1])) (s [0,1,20] (c (r []) .skip []))))=some (?b, ?r))=>⟨2, ?r,false, ?b⟩) ?_;rotate_left 2;conv=>lhs;cbv
@[cbv_opaque] def f60L0 : aI := by
  refine(fun (_:gL Tryz.f167 0 ((.seq (s (d 99 17) (c .skip (.exit 0) [0,1,5,6])) (.seq (.block 1 (s (b 99) (s (b 483) (s (d 227 39) (c (s [4] .ret) .skip [0,1,5,6])))) [0,1,5,6]) (r (b 99)))))=some ?x)=> ?x) ?_;rotate_left;conv=>lhs;cbv
def f60:fY:=by
 refine(fun (_:gF Tryz.f167 ((s [0,1] (s (b 35) (.seq (s (b 99) (.block 0 (.loop [0,1,5,6] f60L0) [0])) (s [] (s [4] .ret))))))=some (?b, ?r))=>⟨2, ?r,false, ?b⟩) ?_;rotate_left 2;conv=>lhs;cbv
@[cbv_opaque] def f61L0 : aI := by
  refine(fun (_:gL Tryz.f168 0 ((.seq (s [0,6,8,53] (c .skip (.exit 0) [0,6,8])) (.seq (.block 1 (.jG (.range 15) [] [] [0,6,8]) [0,6,8]) (r [0,6,8]))))=some ?x)=> ?x) ?_;rotate_left;conv=>lhs;cbv
def f61:fY:=by
 refine(fun (_:gF Tryz.f168 ((s (b 69) (.seq (s (d 69 20) (c .ret .skip [0,2,6])) (s [0,6,7] (.seq (s [0,6,7,28] (c .ret .skip [0,6,7])) (s [0,6,8] (.seq (s [0,6,8,42] (c (r [0,6,8]) .skip [0,6,8])) (.block 0 (.loop [0,6,8] f61L0) []))))))))=some (?b, ?r))=>⟨3, ?r,false, ?b⟩) ?_;rotate_left 2;conv=>lhs;cbv
@[cbv_opaque] def f62L0 : aI := by
  refine(fun (_:gL Tryz.f169 1 ((s (b 503316544) (.seq (c .skip (.exit 2) [6,25,26,27]) (.seq (.block 3 (s (b 234881344) (r [6,25,26,27])) [6,25,26,27]) (r [6,25,26,27])))))=some ?x)=> ?x) ?_;rotate_left;conv=>lhs;cbv
@[cbv_opaque] def f62L1 : aI := by
  refine(fun (_:gL Tryz.f169 0 ((s (b 7689) (.seq (c .skip (.exit 0) [0,3,9,10,11]) (.seq (.block 1 (s (b 3625) (s (b 3593) (s (b 1052169) (c (r (b 3593)) .skip [0,3,9,10,11])))) [0,3,9,10,11]) (r (b 3593))))))=some ?x)=> ?x) ?_;rotate_left;conv=>lhs;cbv
def f62:fY:=by
 refine(fun (_:gF Tryz.f169 ((s [0] (s [0,3] (.seq (s (b 3593) (.block 0 (.loop [0,3,9,10,11] f62L1) [0,3])) (s [0,6] (.seq (s [6,25,26,27] (.block 2 (.loop [6,25,26,27] f62L0) [6])) (s [2] .ret)))))))=some (?b, ?r))=>⟨1, ?r,true, ?b⟩) ?_;rotate_left 2;conv=>lhs;cbv
def f63:fY:=by
 refine(fun (_:gF Tryz.f170 ((s [0,1] (.seq (c (s [6,7] (s [4,5] .ret)) .skip [0,1]) (s [8,9] (s [4,5] .ret)))))=some (?b, ?r))=>⟨2, ?r,true, ?b⟩) ?_;rotate_left 2;conv=>lhs;cbv
@[cbv_opaque] def f64L0 : aI := by
  refine(fun (_:gL Tryz.f171 1 ((.seq (s (d 1539 46) (c .skip (.exit 2) [0,1,9,10])) (.block 3 (s (b 7683) (r (b 1539))) [0,1,9,10])))=some ?x)=> ?x) ?_;rotate_left;conv=>lhs;cbv
@[cbv_opaque] def f64L1 : aI := by
  refine(fun (_:gL Tryz.f171 0 ((s (b 3932195) (.seq (c .skip (.exit 0) [0,1,5,18,19,20]) (.seq (.block 1 (s (b 1835299) (r (b 1835043))) [0,1,5,18,19,20]) (r (b 1835043))))))=some ?x)=> ?x) ?_;rotate_left;conv=>lhs;cbv
def f64:fY:=by
 refine(fun (_:gF Tryz.f171 ((s [0,1] (s (b 35) (s (b 99) (.seq (s (b 1835043) (.block 0 (.loop [0,1,5,18,19,20] f64L1) [0,1,5])) (.seq (s (d 35 31) (c (r (b 35)) .skip [0,1,5])) (s [0,1,9] (s (b 1539) (.seq (.block 2 (.loop [0,1,9,10] f64L0) [0,1,10]) (.seq (s [0,10,65] (c (r [10]) .skip [10])) (s [4] .ret)))))))))))=some (?b, ?r))=>⟨2, ?r,false, ?b⟩) ?_;rotate_left 2;conv=>lhs;cbv
def f65:fY:=by
 refine(fun (_:gF Tryz.f172 ((s [0] (.seq (s [0,6] (c (s [2] .ret) .skip [0])) (.seq (s [3] (.block 0 (s [3,12] (c (s [2] .ret) (s [15] (c (s [2] .ret) .skip [])) [])) [])) (s [2] .ret)))))=some (?b, ?r))=>⟨1, ?r,true, ?b⟩) ?_;rotate_left 2;conv=>lhs;cbv
@[cbv_opaque] def f66L0 : aI := by
  refine(fun (_:gL Tryz.f173 0 ((s (b 968) (.seq (c .skip (.exit 0) [3,6,7,8]) (.seq (.block 1 (s (b 488) (r (b 456))) [3,6,7,8]) (r (b 456))))))=some ?x)=> ?x) ?_;rotate_left;conv=>lhs;cbv
def f66:fY:=by
 refine(fun (_:gF Tryz.f173 ((s [0] (s [0,3] (.seq (s (b 456) (.block 0 (.loop [3,6,7,8] f66L0) [3])) (s [2] .ret)))))=some (?b, ?r))=>⟨1, ?r,true, ?b⟩) ?_;rotate_left 2;conv=>lhs;cbv
@[cbv_opaque] def f67L0 : aI := by
  refine(fun (_:gL Tryz.f140 0 ((.seq (s [0,3,15] (c .skip (.exit 0) [0,3])) (.seq (.block 1 (s [0,3,29] (c (s [2] .ret) .skip [0,3])) [0,3]) (r [0,3]))))=some ?x)=> ?x) ?_;rotate_left;conv=>lhs;cbv
def f67:fY:=by
 refine(fun (_:gF Tryz.f140 ((s [0] (.seq (s [0,11] (c (s [2] .ret) .skip [0])) (.seq (s [0,3] (.block 0 (.loop [0,3] f67L0) [])) (s [2] .ret)))))=some (?b, ?r))=>⟨1, ?r,true, ?b⟩) ?_;rotate_left 2;conv=>lhs;cbv
@[cbv_opaque] def f68L0 : aI := by
  refine(fun (_:gL Tryz.f141 0 ((.seq (s (b 281) (c .skip (.exit 0) [0,3,4])) (.seq (.block 1 (s (b 32793) (c (r (b 25)) .skip [0,3,4])) [0,3,4]) (r (b 25)))))=some ?x)=> ?x) ?_;rotate_left;conv=>lhs;cbv
def f68:fY:=by
 refine(fun (_:gF Tryz.f141 ((s [0] (s [0,3] (.seq (s (b 25) (.block 0 (.loop [0,3,4] f68L0) [3])) (s [2] .ret)))))=some (?b, ?r))=>⟨1, ?r,true, ?b⟩) ?_;rotate_left 2;conv=>lhs;cbv
def f72:fY:={np:=3,res:=[.tmp 6,.tmp 7],pure:=false,body:=(.seq (.qz [⟨some 6,.mv (.c (.int .i64 0)),none⟩,⟨some 7,.mv (.c (.bool false)),none⟩] [0,1,2]) (.seq (.seq (.jG [0,1,2,3,4,5,6,7,8,9,10,11,12,13,14,15,16,17,18,19,20,21,22,23,24,25,26,27,28,29,30,31,32] [⟨some 8,.mv (.t 1),none⟩,⟨some 9,.bin .lss (.t 8) (.c (.int .i64 1)),none⟩,⟨some 10,.mv (.t 9),none⟩,⟨some 11,.mv (.t 1),(some (10,false))⟩,⟨some 12,.bin .gtr (.t 11) (.c (.int .i64 15)),(some (10,false))⟩,⟨some 13,.pick (.t 10) (.c (.bool true)) (.t 12),none⟩,⟨some 14,.mv (.t 13),none⟩,⟨some 15,.mv (.t 2),(some (14,false))⟩,⟨some 16,.mv (.t 0),(some (14,false))⟩,⟨some 17,.mv (.t 1),(some (14,false))⟩,⟨some 18,.pP (.t 16),(some (14,false))⟩,⟨some 19,.pF 0 (.t 18),(some (14,false))⟩,⟨some 20,.lZ 16 1 (.t 19) (.t 17),(some (14,false))⟩,⟨some 21,.load false 1 (.t 20),(some (14,false))⟩,⟨some 22,.bin .lss (.t 15) (.t 21),(some (14,false))⟩,⟨some 23,.pick (.t 14) (.c (.bool true)) (.t 22),none⟩,⟨some 24,.mv (.t 23),none⟩,⟨some 25,.mv (.t 2),(some (24,false))⟩,⟨some 26,.mv (.t 0),(some (24,false))⟩,⟨some 27,.mv (.t 1),(some (24,false))⟩,⟨some 28,.pP (.t 26),(some (24,false))⟩,⟨some 29,.pF 0 (.t 28),(some (24,false))⟩,⟨some 30,.lZ 16 1 (.t 29) (.t 27),(some (24,false))⟩,⟨some 31,.load false 1 (.t 30),(some (24,false))⟩,⟨some 32,.bin .sub (.t 25) (.t 31),(some (24,false))⟩,⟨some 33,.mv (.t 0),(some (24,false))⟩,⟨some 34,.mv (.t 1),(some (24,false))⟩,⟨some 35,.pP (.t 33),(some (24,false))⟩,⟨some 36,.pF 16 (.t 35),(some (24,false))⟩,⟨some 37,.lZ 16 1 (.t 36) (.t 34),(some (24,false))⟩,⟨some 38,.load false 1 (.t 37),(some (24,false))⟩,⟨some 39,.bin .geq (.t 32) (.t 38),(some (24,false))⟩,⟨some 40,.pick (.t 24) (.c (.bool true)) (.t 39),none⟩] [] [0,1,2,40]) (.cond (.t 40) (.seq (.qz [⟨some 6,.mv (.c (.int .i64 0)),none⟩,⟨some 7,.mv (.c (.bool false)),none⟩] [6,7]) (.ret)) (.skip) [0,1,2])) (.seq (.jG [0,1,2,3,4,5,6,7,8,9,10,11,12,13,14,15,16,17] [⟨some 41,.mv (.t 0),none⟩,⟨some 42,.mv (.t 1),none⟩,⟨some 43,.pP (.t 41),none⟩,⟨some 44,.pF 32 (.t 43),none⟩,⟨some 45,.lZ 16 1 (.t 44) (.t 42),none⟩,⟨some 46,.load false 1 (.t 45),none⟩,⟨some 47,.mv (.t 2),none⟩,⟨some 48,.mv (.t 0),none⟩,⟨some 49,.mv (.t 1),none⟩,⟨some 50,.pP (.t 48),none⟩,⟨some 51,.pF 0 (.t 50),none⟩,⟨some 52,.lZ 16 1 (.t 51) (.t 49),none⟩,⟨some 53,.load false 1 (.t 52),none⟩,⟨some 54,.bin .sub (.t 47) (.t 53),none⟩,⟨some 55,.pG 1 (.t 46) (.t 54),none⟩,⟨some 56,.load false 1 (.t 55),none⟩,⟨some 6,.mv (.t 56),none⟩,⟨some 7,.mv (.c (.bool true)),none⟩] [] [6,7]) (.ret))))}
def f73:fY:=by
 refine(fun (_:gF Tryz.f176 ((s (b 15) (.seq (s (b 1031) (c (r (b 7)) .skip [0,1,2])) (s [8] .ret))))=some (?b, ?r))=>⟨4, ?r,false, ?b⟩) ?_;rotate_left 2;conv=>lhs;cbv
def f74:fY:=by
 refine(fun (_:gF Tryz.f177 ((s [0] (s [0,5] (.seq (.block 0 (s [0,5,10] (c (s (b 28) .ret) (s [5,17] (c (s (b 28) .ret) (s [5,20] (c (s (b 28) .ret) .skip [5])) [5])) [5])) [5]) (s [5,6] (s (b 28) .ret))))))=some (?b, ?r))=>⟨1, ?r,true, ?b⟩) ?_;rotate_left 2;conv=>lhs;cbv
def f75:fY:=by
 refine(fun (_:gF Tryz.f178 ((s [0] (.seq (.block 0 (s [0,6] (c (s (b 28) .ret) (s [0,13] (c (s (b 28) .ret) .skip [0])) [0])) [0]) (s [0,5] (s (b 28) .ret)))))=some (?b, ?r))=>⟨1, ?r,true, ?b⟩) ?_;rotate_left 2;conv=>lhs;cbv
def f76:fY:=by
 refine(fun (_:gF Tryz.f179 ((s [0,1] (.seq (s (b 67) (c (r [0,1]) .skip [0,1])) (.seq (s [0,1] (s [0,1,16] (c (r [0]) .skip [0]))) (s [4] .ret)))))=some (?b, ?r))=>⟨2, ?r,false, ?b⟩) ?_;rotate_left 2;conv=>lhs;cbv
def f77:fY:=by
 refine(fun (_:gF Tryz.f180 ((s [0,1] (s [6] (s [4,5] .ret))))=some (?b, ?r))=>⟨2, ?r,true, ?b⟩) ?_;rotate_left 2;conv=>lhs;cbv
def f78:fY:=by
 refine(fun (_:gF Tryz.f181 ((s [0,1] (s (b 67) (s (b 195) (s (b 451) (s (b 963) (s (b 1987) (s (b 2755) (s (b 6851) (s (b 12995) (s (b 12931) (s (b 19) (s [4,5] .ret)))))))))))))=some (?b, ?r))=>⟨2, ?r,true, ?b⟩) ?_;rotate_left 2;conv=>lhs;cbv
def f79:fY:=by
 refine(fun (_:gF Tryz.f182 ((s [] (s [0] .ret)))=some (?b, ?r))=>⟨0, ?r,true, ?b⟩) ?_;rotate_left 2;conv=>lhs;cbv
def f80:fY:=by
 refine(fun (_:gF Tryz.f183 ((s (b 7) (.seq (s (b 263) (.block 0 (s (b 775) (c (.seq (s [0,2,13] (c (s [] (s [6,7] .ret)) .skip [0,2])) (.seq (.jG (.range 11) [] [(5,[1])] [6,7]) .ret)) (s [0,1,8,25] (c (s [6,7] .ret) (s [0,1,30] (c (s [6,7] .ret) .skip [1])) [1])) [1])) [1])) (s [6,7] .ret))))=some (?b, ?r))=>⟨3, ?r,false, ?b⟩) ?_;rotate_left 2;conv=>lhs;cbv
def f81:fY:=by
 refine(fun (_:gF Tryz.f184 ((s [0] (s [0,3] (s [2] .ret))))=some (?b, ?r))=>⟨1, ?r,true, ?b⟩) ?_;rotate_left 2;conv=>lhs;cbv
def f82:fY:=by
 refine(fun (_:gF Tryz.f186 ((s [0] (s [2] .ret)))=some (?b, ?r))=>⟨1, ?r,true, ?b⟩) ?_;rotate_left 2;conv=>lhs;cbv
def f83:fY:=by
 refine(fun (_:gF Tryz.f55 ((s [0,1] (s [4] .ret)))=some (?b, ?r))=>⟨2, ?r,true, ?b⟩) ?_;rotate_left 2;conv=>lhs;cbv
@[cbv_opaque] def f84L0 : aI := by
  refine(fun (_:gL Tryz.f87 0 ((s (b 899) (.seq (c .skip (.exit 0) [0,1,7,8]) (.seq (.block 1 (s (b 419) (s (b 65955) (c (s [4] .ret) .skip [0,1,7,8]))) [0,1,7,8]) (r (b 387))))))=some ?x)=> ?x) ?_;rotate_left;conv=>lhs;cbv
def f84:fY:=by
 refine(fun (_:gF Tryz.f87 ((s [0,1] (.seq (s (b 387) (.block 0 (.loop [0,1,7,8] f84L0) [])) (s [4] .ret))))=some (?b, ?r))=>⟨2, ?r,true, ?b⟩) ?_;rotate_left 2;conv=>lhs;cbv
@[cbv_opaque] def f91L0 : aI := by
  refine(fun (_:gL Tryz.f49 0 ((s (b 4026532032) (.seq (c .skip (.exit 0) [6,7,28,29,30]) (.seq (.block 1 (s (b 1879048896) (r [6,7,28,29,30])) [6,7,28,29,30]) (r [6,7,28,29,30])))))=some ?x)=> ?x) ?_;rotate_left;conv=>lhs;cbv
def f91:fY:=by
 refine(fun (_:gF Tryz.f49 ((s [1] (.seq (s [1,12] (c (s [2,3] .ret) .skip [1])) (s [1,4] (s (b 82) (s (b 210) (.seq (.seq (.jG (.range 13) [] [(5,[0,2]),(8,[0])] [6,7,28,29,30]) (.block 0 (.loop [6,7,28,29,30] f91L0) [7])) (s [2,3] .ret))))))))=some (?b, ?r))=>⟨1, ?r,true, ?b⟩) ?_;rotate_left 2;conv=>lhs;cbv
@[cbv_opaque] def f93L0 : aI := by
  refine(fun (_:gL Tryz.f51 0 ((s (b 1936) (.seq (c .skip (.exit 0) [4,7,8,9]) (.seq (.block 1 (s (b 976) (.seq (s (b 33744) (c (s [2,3] .ret) .skip [4,6,7,8,9])) (r (b 912)))) [4,7,8,9]) (r (b 912))))))=some ?x)=> ?x) ?_;rotate_left;conv=>lhs;cbv
def f93:fY:=by
 refine(fun (_:gF Tryz.f51 ((s [0] (s [0,4] (.seq (s (b 912) (.block 0 (.loop [4,7,8,9] f93L0) [4])) (s [2,3] .ret)))))=some (?b, ?r))=>⟨1, ?r,true, ?b⟩) ?_;rotate_left 2;conv=>lhs;cbv
def f96:fY:=by
 refine(fun (_:gF Tryz.f66 ((s [1] (s [4] (s [2] .ret))))=some (?b, ?r))=>⟨1, ?r,true, ?b⟩) ?_;rotate_left 2;conv=>lhs;cbv
def f98:fY:=by
 refine(fun (_:gF Tryz.f20 ((s [2,3] (s [4] .ret)))=some (?b, ?r))=>⟨2, ?r,true, ?b⟩) ?_;rotate_left 2;conv=>lhs;cbv
def f101:fY:=by
 refine(fun (_:gF Tryz.f45 ((s [0] (s [2] .ret)))=some (?b, ?r))=>⟨1, ?r,true, ?b⟩) ?_;rotate_left 2;conv=>lhs;cbv
@[cbv_opaque] def f102L0 : aI := by
  refine(fun (_:gL Tryz.f80 0 ((s (b 245778) (.seq (c .skip (.exit 0) [1,4,14,15,16]) (.seq (.block 1 (s (b 114770) (r (b 114706))) [1,4,14,15,16]) (r (b 114706))))))=some ?x)=> ?x) ?_;rotate_left;conv=>lhs;cbv
def f102:fY:=by
 refine(fun (_:gF Tryz.f80 ((s [1] (.seq (s [1,9] (c (s [2,3] .ret) .skip [1])) (s [1,4] (.seq (s (b 114706) (.block 0 (.loop [1,4,14,15,16] f102L0) [1,4])) (s [1,4,7] (.seq (s [1,4,7,26] (c (r [1,4,7]) .skip [1,4,7])) (.seq (.jG (.range 14) [] [(6,[0])] [2,3]) .ret))))))))=some (?b, ?r))=>⟨1, ?r,true, ?b⟩) ?_;rotate_left 2;conv=>lhs;cbv
@[cbv_opaque] def f103L0 : aI := by
  refine(fun (_:gL Tryz.f81 0 ((s (b 12595234) (.seq (c .skip (.exit 2) [1,5,12,13,22]) (.seq (.block 3 (s (b 4206754) (s (b 4206754) (s (b 541077538) (c (r (b 4206626)) .skip [1,5,12,13,22])))) [1,5,12,13,22]) (r (b 4206626))))))=some ?x)=> ?x) ?_;rotate_left;conv=>lhs;cbv
@[cbv_opaque] def f103L1 : aI := by
  refine(fun (_:gL Tryz.f81 1 ((s (b 28706) (.seq (c .skip (.exit 0) [1,5,12,13]) (.seq (.block 1 (s (b 12386) (s (b 12322) (s (b 4206626) (.block 2 (.loop [1,5,12,13,22] f103L0) [1,5,12,13])))) [1,5,12,13]) (r (b 12322))))))=some ?x)=> ?x) ?_;rotate_left;conv=>lhs;cbv
def f103:fY:=by
 refine(fun (_:gF Tryz.f81 ((s [0,1] (s [1,5] (.seq (s (b 12322) (.block 0 (.loop [1,5,12,13] f103L1) [5])) (s [4] .ret)))))=some (?b, ?r))=>⟨2, ?r,true, ?b⟩) ?_;rotate_left 2;conv=>lhs;cbv
@[cbv_opaque] def f104L0 : aI := by
  refine(fun (_:gL Tryz.f82 0 ((s (b 7201) (.seq (c .skip (.exit 0) [0,5,10,11]) (.seq (.block 1 (s (b 3169) (r (b 3105))) [0,5,10,11]) (r (b 3105))))))=some ?x)=> ?x) ?_;rotate_left;conv=>lhs;cbv
def f104:fY:=by
 refine(fun (_:gF Tryz.f82 ((s [0,1] (s [0,5] (.seq (s (b 3105) (.block 0 (.loop [0,5,10,11] f104L0) [5])) (s [4] .ret)))))=some (?b, ?r))=>⟨2, ?r,true, ?b⟩) ?_;rotate_left 2;conv=>lhs;cbv
def f105:fY:=by
 refine(fun (_:gF Tryz.f54 ((s [0] (s [2] .ret)))=some (?b, ?r))=>⟨1, ?r,true, ?b⟩) ?_;rotate_left 2;conv=>lhs;cbv
@[cbv_opaque] def f106L0 : aI := by
  refine(fun (_:gL Tryz.f17 0 ((.seq (s (b 16419) (c .skip (.exit 0) [0,1,5])) (.seq (.block 1 (.seq (.jG (.range 9) [] [] (d 35 25)) (c (s [4] .ret) .skip [0,1,5])) [0,1,5]) (r (b 35)))))=some ?x)=> ?x) ?_;rotate_left;conv=>lhs;cbv
def f106:fY:=by
 refine(fun (_:gF Tryz.f17 ((s [0,1] (.seq (s [0,1,10] (c (s [4] .ret) .skip [0,1])) (.seq (s (b 35) (.block 0 (.loop [0,1,5] f106L0) [])) (s [4] .ret)))))=some (?b, ?r))=>⟨2, ?r,true, ?b⟩) ?_;rotate_left 2;conv=>lhs;cbv
def f107:fY:=by
 refine(fun (_:gF Tryz.f92 ((s [1] (.seq (s [1,10] (c (s [2,3] .ret) .skip [1])) (.seq (s [1,12] (c (s [2,3] .ret) .skip [1])) (s (b 50) (.seq (.jG (.range 12) [] [(7,[0])] [2,3]) .ret))))))=some (?b, ?r))=>⟨1, ?r,true, ?b⟩) ?_;rotate_left 2;conv=>lhs;cbv
@[cbv_opaque] def f110L0 : aI := by
  refine(fun (_:gL Tryz.f113 0 ((s (b 7864384) (.seq (c .skip (.exit 0) [6,19,20,21]) (.seq (.block 1 (s (b 3670464) (r (b 3670080))) [6,19,20,21]) (r (b 3670080))))))=some ?x)=> ?x) ?_;rotate_left;conv=>lhs;cbv
def f110:fY:=by
 refine(fun (_:gF Tryz.f113 ((s [0,1] (.seq (s [0,1,16] (c (s [4,5] .ret) .skip [0,1])) (s [1,6] (.seq (s (b 3670080) (.block 0 (.loop [6,19,20,21] f110L0) [6])) (s [4,5] .ret))))))=some (?b, ?r))=>⟨2, ?r,false, ?b⟩) ?_;rotate_left 2;conv=>lhs;cbv
@[cbv_opaque] def f111L0 : aI := by
  refine(fun (_:gL Tryz.f74 0 ((.seq (s (d 99 20) (c .skip (.exit 2) [0,1,5,6])) (.seq (.block 3 (s (d 99 25) (c (r (b 99)) (r (b 99)) [0,1,5,6])) [0,1,5,6]) (r (b 99)))))=some ?x)=> ?x) ?_;rotate_left;conv=>lhs;cbv
@[cbv_opaque] def f111L1 : aI := by
  refine(fun (_:gL Tryz.f74 1 ((.seq (s (b 1059) (c .skip (.exit 0) [0,1,5])) (.seq (.block 1 (s (b 35) (s (b 99) (.block 2 (.loop [0,1,5,6] f111L0) [0,1,5]))) [0,1,5]) (r (b 35)))))=some ?x)=> ?x) ?_;rotate_left;conv=>lhs;cbv
def f111:fY:=by
 refine(fun (_:gF Tryz.f74 ((s [0,1] (.seq (s (b 35) (.block 0 (.loop [0,1,5] f111L1) [0])) (s [4] .ret))))=some (?b, ?r))=>⟨2, ?r,true, ?b⟩) ?_;rotate_left 2;conv=>lhs;cbv
def f112:fY:=by
 refine(fun (_:gF Tryz.f107 ((s [0] (s [2] .ret)))=some (?b, ?r))=>⟨1, ?r,false, ?b⟩) ?_;rotate_left 2;conv=>lhs;cbv
@[cbv_opaque] def f113L0 : aI := (.seq (.qz [ ⟨some 9, .bin .lss (.t 8) (.t 7), none⟩] [1, 7, 8, 9]) (.seq (.cond (.t 9) (.skip) (.exit 0) [1, 7, 8]) (.seq (.block 1 (.seq (.qz [ ⟨some 10, .mv (.t 8), none⟩, ⟨some 3, .mv (.t 10), none⟩] [1, 3, 7, 8]) (.seq (.qz [ ⟨some 11, .pF 0 (.t 1), none⟩, ⟨some 12, .load false 1 (.t 11), none⟩, ⟨some 13, .mv (.t 3), none⟩, ⟨some 14, .pG 9 (.t 12) (.t 13), none⟩, ⟨some 4, .mv (.t 14), none⟩] [1, 3, 4, 7, 8]) (.seq (.jG [0, 1, 2, 3, 4, 5, 6, 7, 8, 9, 10, 11, 12, 13, 14, 15, 16, 17, 18, 19, 20, 21, 22, 23, 24, 25, 26, 27, 28, 29, 30, 31, 32, 33] [ ⟨some 15, .mv (.t 4), none⟩, ⟨some 16, .pP (.t 15), none⟩, ⟨some 17, .pF 0 (.t 16), none⟩, ⟨some 18, .load false 1 (.t 17), none⟩, ⟨some 19, .call (.c (.fn 121 [] [])) [(.t 18)], none⟩, ⟨some 20, .not (.t 19), none⟩, ⟨some 21, .mv (.t 20), none⟩, ⟨some 22, .mv (.t 3), (some (21, false))⟩, ⟨some 23, .bin .gtr (.t 22) (.c (.int .i64 0)), (some (21, false))⟩, ⟨some 24, .mv (.t 23), (some (21, false))⟩, ⟨some 25, .pF 0 (.t 1), (some (24, true))⟩, ⟨some 26, .load false 1 (.t 25), (some (24, true))⟩, ⟨some 27, .mv (.t 3), (some (24, true))⟩, ⟨some 28, .bin .sub (.t 27) (.c (.int .i64 1)), (some (24, true))⟩, ⟨some 29, .pG 9 (.t 26) (.t 28), (some (24, true))⟩, ⟨some 30, .pF 0 (.t 29), (some (24, true))⟩, ⟨some 31, .load false 1 (.t 30), (some (24, true))⟩, ⟨some 32, .mv (.t 4), (some (24, true))⟩, ⟨some 33, .pP (.t 32), (some (24, true))⟩, ⟨some 34, .pF 0 (.t 33), (some (24, true))⟩, ⟨some 35, .load false 1 (.t 34), (some (24, true))⟩, ⟨some 36, .bin .geq (.t 31) (.t 35), (some (24, true))⟩, ⟨some 37, .pick (.t 24) (.t 36) (.c (.bool false)), (some (21, false))⟩, ⟨some 38, .pick (.t 21) (.c (.bool true)) (.t 37), none⟩, ⟨some 39, .mv (.t 38), none⟩, ⟨some 40, .mv (.t 4), (some (39, false))⟩, ⟨some 41, .call (.c (.fn 112 [] [])) [(.t 40)], (some (39, false))⟩, ⟨some 42, .not (.t 41), (some (39, false))⟩, ⟨some 43, .pick (.t 39) (.c (.bool true)) (.t 42), none⟩, ⟨some 44, .mv (.t 43), none⟩, ⟨some 45, .mv (.t 4), (some (44, false))⟩, ⟨some 46, .call (.c (.fn 122 [] [])) [(.t 45)], (some (44, false))⟩, ⟨some 47, .not (.t 46), (some (44, false))⟩, ⟨some 48, .pick (.t 44) (.c (.bool true)) (.t 47), none⟩] [] [1, 7, 8, 48]) (.cond (.t 48) (.seq (.qz [ ⟨some 2, .mv (.c (.bool false)), none⟩] [2]) (.ret)) (.skip) [1, 7, 8])))) [1, 7, 8])
 (.qz [⟨some 49,.bin .add (.t 8) (.c (.int .i64 1)),none⟩,⟨some 8,.mv (.t 49),none⟩] [1,7,8]))))
def f113:fY:=by
 refine(fun (_:gF Tryz.f109 ((s [1] (.seq (s [1,7,8] (.block 0 (.loop [1,7,8] f113L0) [1])) (s [2] .ret))))=some (?b, ?r))=>⟨1, ?r,true, ?b⟩) ?_;rotate_left 2;conv=>lhs;cbv
def f114:fY:=by
 refine(fun (_:gF Tryz.f110 ((s (b 7) (.seq (s (d 7 16) (c (s [6,7] .ret) .skip [0,1,2])) (.seq (s [1,2,17] (.block 0 (s (b 393222) (c (s [1,23] (c (s [6,7] .ret) .skip [])) (s [1,2,25] (c (s (b 1798) (s [8,47] (c (s [6,7] .ret) .skip []))) .skip [])) [])) [])) (s [6,7] .ret)))))=some (?b, ?r))=>⟨3, ?r,true, ?b⟩) ?_;rotate_left 2;conv=>lhs;cbv
def f115:fY:=by
 refine(fun (_:gF Tryz.f83 ((s [0] (s [2] .ret)))=some (?b, ?r))=>⟨1, ?r,true, ?b⟩) ?_;rotate_left 2;conv=>lhs;cbv
def f117:fY:=by
 refine(fun (_:gF Tryz.f58 ((s [0] (s [2] .ret)))=some (?b, ?r))=>⟨1, ?r,true, ?b⟩) ?_;rotate_left 2;conv=>lhs;cbv
def f118:fY:=by
 refine(fun (_:gF Tryz.f112 ((s [0] (.seq (s [0,4] (c (s [2] .ret) .skip [0])) (s [2] .ret))))=some (?b, ?r))=>⟨1, ?r,false, ?b⟩) ?_;rotate_left 2;conv=>lhs;cbv
def f119:fY:=by
 refine(fun (_:gF Tryz.f89 ((s [0] (s [2] .ret)))=some (?b, ?r))=>⟨1, ?r,true, ?b⟩) ?_;rotate_left 2;conv=>lhs;cbv
def f120:fY:=by
 refine(fun (_:gF Tryz.f34 ((s [0] (s [2] .ret)))=some (?b, ?r))=>⟨1, ?r,true, ?b⟩) ?_;rotate_left 2;conv=>lhs;cbv
def f121:fY:=by
 refine(fun (_:gF Tryz.f90 ((s [0] (s [2] .ret)))=some (?b, ?r))=>⟨1, ?r,true, ?b⟩) ?_;rotate_left 2;conv=>lhs;cbv
def f122:fY:=by
 refine(fun (_:gF Tryz.f136 ((s [0] (.seq (s [0,6] (c (s [2] .ret) .skip [0])) (.seq (s [0,36] (.block 0 (s [0,36,37] (c (.seq (.jG (.range 10) [] [] [0,48]) (c (s [2] .ret) .skip [0])) (s [0,49] (c (s [0,56] (c (s [2] .ret) .skip [0])) (s [2] .ret) [0])) [0])) [0])) (s [2] .ret)))))=some (?b, ?r))=>⟨1, ?r,false, ?b⟩) ?_;rotate_left 2;conv=>lhs;cbv
def f123:fY:=by
 refine(fun (_:gF Tryz.f88 ((s [0] (s [2] .ret)))=some (?b, ?r))=>⟨1, ?r,true, ?b⟩) ?_;rotate_left 2;conv=>lhs;cbv
def f124:fY:=by
 refine(fun (_:gF Tryz.f108 ((s [0,1] (.seq (s [0,1,12] (c (s [4] .ret) .skip [0,1])) (.seq (s [0,1,21] (c (.seq (.jG (.range 8) [] [] [4]) .ret) .skip [0,1])) (.seq (s (b 99) (s (d 35 34) (c (s [4] .ret) .skip [0,1]))) (s [4] .ret))))))=some (?b, ?r))=>⟨2, ?r,true, ?b⟩) ?_;rotate_left 2;conv=>lhs;cbv
@[cbv_opaque] def f125L0 : aI := by
  refine(fun (_:gL Tryz.f129 0 ((.seq (s [0,1,13] (c .skip (.exit 0) [0,1])) (.block 1 (r [0,1]) [0,1])))=some ?x)=> ?x) ?_;rotate_left;conv=>lhs;cbv
def f125:fY:=by
 refine(fun (_:gF Tryz.f129 ((s [0,1] (.seq (.block 0 (.loop [0,1] f125L0) [0]) (s [4] .ret))))=some (?b, ?r))=>⟨2, ?r,true, ?b⟩) ?_;rotate_left 2;conv=>lhs;cbv
@[cbv_opaque] def f126L0 : aI := by
  refine(fun (_:gL Tryz.f130 0 ((.seq (s [0,1,16] (c .skip (.exit 0) [0,1])) (.block 1 (r [0,1]) [0,1])))=some ?x)=> ?x) ?_;rotate_left;conv=>lhs;cbv
def f126:fY:=by
 refine(fun (_:gF Tryz.f130 ((s [0,1] (.seq (.block 0 (.loop [0,1] f126L0) [0]) (s [4] .ret))))=some (?b, ?r))=>⟨2, ?r,true, ?b⟩) ?_;rotate_left 2;conv=>lhs;cbv
@[cbv_opaque] def f127L0 : aI := by
  refine(fun (_:gL Tryz.f131 0 ((.seq (s (b 533) (c .skip (.exit 0) [0,2,4])) (.seq (.block 1 (s (b 53) (.seq (s (b 65589) (c (s [2,3] .ret) .skip [0,2,4,5])) (r (b 21)))) [0,2,4]) (r (b 21)))))=some ?x)=> ?x) ?_;rotate_left;conv=>lhs;cbv
def f127:fY:=by
 refine(fun (_:gF Tryz.f131 ((s [0,2] (.seq (s (b 21) (.block 0 (.loop [0,2,4] f127L0) [2])) (s [2,3] .ret))))=some (?b, ?r))=>⟨1, ?r,true, ?b⟩) ?_;rotate_left 2;conv=>lhs;cbv
@[cbv_opaque] def f128L0 : aI := by
  refine(fun (_:gL Tryz.f132 0 ((.seq (s [0,1,7] (c .skip (.exit 0) [0,1])) (.block 1 (.seq (s [0,1,12] (c (.exit 0) .skip [0,1])) (r [0,1])) [0,1])))=some ?x)=> ?x) ?_;rotate_left;conv=>lhs;cbv
def f128:fY:=by
 refine(fun (_:gF Tryz.f132 ((s [0,1] (.seq (.block 0 (.loop [0,1] f128L0) [0]) (s [4] .ret))))=some (?b, ?r))=>⟨2, ?r,false, ?b⟩) ?_;rotate_left 2;conv=>lhs;cbv
@[cbv_opaque] def f129L0 : aI := by
  refine(fun (_:gL Tryz.f133 0 ((.seq (s [0,1,7] (c .skip (.exit 0) [0,1])) (.block 1 (.seq (s [0,1,15] (c (.exit 0) .skip [0,1])) (r [0,1])) [0,1])))=some ?x)=> ?x) ?_;rotate_left;conv=>lhs;cbv
def f129:fY:=by
 refine(fun (_:gF Tryz.f133 ((s [0,1] (.seq (.block 0 (.loop [0,1] f129L0) [0]) (s [4] .ret))))=some (?b, ?r))=>⟨2, ?r,false, ?b⟩) ?_;rotate_left 2;conv=>lhs;cbv
@[cbv_opaque] def f130L0 : aI := by
  refine(fun (_:gL Tryz.f134 0 ((.seq (s [0,1,9] (c .skip (.exit 0) [0,1])) (.block 1 (s (b 99) (.seq (s (d 67 18) (c (.exit 0) .skip [0,1,6])) (r [0,1]))) [0,1])))=some ?x)=> ?x) ?_;rotate_left;conv=>lhs;cbv
def f130:fY:=by
 refine(fun (_:gF Tryz.f134 ((s [0,1] (.seq (.block 0 (.loop [0,1] f130L0) [0]) (s [4] .ret))))=some (?b, ?r))=>⟨2, ?r,true, ?b⟩) ?_;rotate_left 2;conv=>lhs;cbv
@[cbv_opaque] def f131L0 : aI := by
  refine(fun (_:gL Tryz.f135 0 ((.seq (s [0,1,9] (c .skip (.exit 0) [0,1])) (.block 1 (s (b 99) (.seq (s (d 99 17) (c (r (b 99)) .skip [0,1,5,6])) (.seq (s (d 67 26) (c (.exit 0) .skip [0,1,6])) (r [0,1])))) [0,1])))=some ?x)=> ?x) ?_;rotate_left;conv=>lhs;cbv
def f131:fY:=by
 refine(fun (_:gF Tryz.f135 ((s [0,1] (.seq (.block 0 (.loop [0,1] f131L0) [0]) (s [4] .ret))))=some (?b, ?r))=>⟨2, ?r,true, ?b⟩) ?_;rotate_left 2;conv=>lhs;cbv
def f132:fY:=by
 refine(fun (_:gF Tryz.f142 ((s [0,1] (s [4] .ret)))=some (?b, ?r))=>⟨2, ?r,false, ?b⟩) ?_;rotate_left 2;conv=>lhs;cbv
def f133:fY:=by
 refine(fun (_:gF Tryz.f143 ((s [0] (.seq (s [0,10] (c (s [2,3] .ret) (r [2,3]) [2,3])) .ret)))=some (?b, ?r))=>⟨1, ?r,true, ?b⟩) ?_;rotate_left 2;conv=>lhs;cbv
def f134:fY:=by
 refine(fun (_:gF Tryz.f144 ((s [0,1] (s [4] .ret)))=some (?b, ?r))=>⟨2, ?r,true, ?b⟩) ?_;rotate_left 2;conv=>lhs;cbv
@[cbv_opaque] def f135L0 : aI := by
  refine(fun (_:gL Tryz.f145 0 ((.seq (s (d 113 27) (c .skip (.exit 0) [0,4,5,6])) (.seq (.block 1 (s (d 113 33) (c (.exit 0) .skip [0,4,5,6])) [0,4,5,6]) (r (b 113)))))=some ?x)=> ?x) ?_;rotate_left;conv=>lhs;cbv
def f135:fY:=by
 refine(fun (_:gF Tryz.f145 ((s [0] (s [0,4] (.seq (s [0,4,10] (c (s [2,3] .ret) .skip [0,4])) (s (b 49) (s (b 53) (.seq (s (d 53 18) (c (s [2,3] .ret) .skip [0,4,5])) (s (b 113) (.seq (s (b 113) (.block 0 (.loop [0,4,5,6] f135L0) [0,4,5])) (.seq (s (d 49 35) (c (r (b 49)) .skip [0,4,5])) (s (b 60) (.seq (s [2,3,48] (c (s [2,3] .ret) .skip [2,3])) (s [2,3] .ret)))))))))))))=some (?b, ?r))=>⟨1, ?r,true, ?b⟩) ?_;rotate_left 2;conv=>lhs;cbv
def f138:fY:=by
 refine(fun (_:gF Tryz.f152 ((s [0] (s [2] .ret)))=some (?b, ?r))=>⟨1, ?r,true, ?b⟩) ?_;rotate_left 2;conv=>lhs;cbv
def f139:fY:=by
 refine(fun (_:gF Tryz.f161 ((s [0,1] (s [4] .ret)))=some (?b, ?r))=>⟨2, ?r,true, ?b⟩) ?_;rotate_left 2;conv=>lhs;cbv
def f140:fY:=by
 refine(fun (_:gF Tryz.f162 ((s [0] (.seq (.block 0 (s [0,3] (c (s [2] .ret) (s [10] (c (s [2] .ret) .skip [])) [])) []) (s [2] .ret))))=some (?b, ?r))=>⟨1, ?r,true, ?b⟩) ?_;rotate_left 2;conv=>lhs;cbv
def f141:fY:=by
 refine(fun (_:gF Tryz.f163 ((s [0] (s [2] .ret)))=some (?b, ?r))=>⟨1, ?r,true, ?b⟩) ?_;rotate_left 2;conv=>lhs;cbv
def f151:fY:=by
 refine(fun (_:gF Tryz.f52 ((s [1] (.seq (s [1,8] (c (s [2,3] .ret) .skip [1])) (s [1,4] (.seq (.jG (.range 16) [] [(5,[0,2]),(10,[0])] [2,3]) .ret)))))=some (?b, ?r))=>⟨1, ?r,true, ?b⟩) ?_;rotate_left 2;conv=>lhs;cbv
@[cbv_opaque] def f152L0 : aI := by
  refine(fun (_:gL Tryz.f53 0 ((.seq (s (b 561) (c .skip (.exit 0) [0,4,5])) (.seq (.block 1 (.seq (s (d 49 17) (c (s [2,3] .ret) .skip [0,4,5])) (r (b 49))) [0,4,5]) (r (b 49)))))=some ?x)=> ?x) ?_;rotate_left;conv=>lhs;cbv
def f152:fY:=by
 refine(fun (_:gF Tryz.f53 ((s [0] (s [0,4] (.seq (s (b 49) (.block 0 (.loop [0,4,5] f152L0) [4])) (s [2,3] .ret)))))=some (?b, ?r))=>⟨1, ?r,true, ?b⟩) ?_;rotate_left 2;conv=>lhs;cbv
def f156:fY:=by
 refine(fun (_:gF Tryz.f30 ((s (b 28) (.seq (s (d 28 23) (c (s [4,5] .ret) .skip [2,3,4])) (s (b 92) (.seq (s (d 92 45) (c (r (b 92)) .skip [2,3,4,6])) (s [4,6,7] (s [4,6] (s [4,5] .ret))))))))=some (?b, ?r))=>⟨2, ?r,true, ?b⟩) ?_;rotate_left 2;conv=>lhs;cbv
def f157:fY:=by
 refine(fun (_:gF Tryz.f25 ((s [1] (.seq (s [1,7] (c (s [2] .ret) .skip [1])) (.seq (s [1,9] (c (s [2] .ret) .skip [1])) (s (b 26) (.seq (.jG (.range 10) [] [(6,[0])] [2]) .ret))))))=some (?b, ?r))=>⟨1, ?r,true, ?b⟩) ?_;rotate_left 2;conv=>lhs;cbv
@[cbv_opaque] def f160L0 : aI := by
  refine(fun (_:gL Tryz.f84 0 ((.seq (s (d 50 17) (c .skip (.exit 0) [1,4,5])) (.seq (.block 1 (r (b 50)) [1,4,5]) (r (b 50)))))=some ?x)=> ?x) ?_;rotate_left;conv=>lhs;cbv
def f160:fY:=by
 refine(fun (_:gF Tryz.f84 ((s [1] (.seq (s [1,9] (c (s [2,3] .ret) .skip [1])) (s [1,4] (.seq (s (b 50) (.block 0 (.loop [1,4,5] f160L0) [1,4])) (s (b 82) (.seq (s (d 82 29) (c (r (b 82)) .skip [1,4,6])) (.seq (.jG (.range 14) [] [(6,[0])] [2,3]) .ret))))))))=some (?b, ?r))=>⟨1, ?r,true, ?b⟩) ?_;rotate_left 2;conv=>lhs;cbv
@[cbv_opaque] def f161L0 : aI := by
  refine(fun (_:gL Tryz.f85 0 ((.seq (s (b 611) (c .skip (.exit 0) [0,1,5,6])) (.seq (.block 1 (r (b 99)) [0,1,5,6]) (r (b 99)))))=some ?x)=> ?x) ?_;rotate_left;conv=>lhs;cbv
def f161:fY:=by
 refine(fun (_:gF Tryz.f85 ((s [0,1] (s (b 35) (.seq (s (b 99) (.block 0 (.loop [0,1,5,6] f161L0) [5])) (s [4] .ret)))))=some (?b, ?r))=>⟨2, ?r,true, ?b⟩) ?_;rotate_left 2;conv=>lhs;cbv
def f162:fY:=by
 refine(fun (_:gF Tryz.f86 ((s [0] (s [2] .ret)))=some (?b, ?r))=>⟨1, ?r,true, ?b⟩) ?_;rotate_left 2;conv=>lhs;cbv
def f164:fY:=by
 refine(fun (_:gF Tryz.f47 ((s (b 7) (.seq (s (d 7 16) (c (s [6,7] .ret) .skip [0,1,2])) (.seq (s [1,2,17] (.block 0 (s (b 393222) (c (s [1,23] (c (s [6,7] .ret) .skip [])) (s [1,2,25] (c (s (b 1798) (s [8,47] (c (s [6,7] .ret) .skip []))) .skip [])) [])) [])) (s [6,7] .ret)))))=some (?b, ?r))=>⟨3, ?r,true, ?b⟩) ?_;rotate_left 2;conv=>lhs;cbv
def f165:fY:=by
 refine(fun (_:gF Tryz.f29 ((s [1,2] (s [1,2] (s [2] .ret))))=some (?b, ?r))=>⟨1, ?r,true, ?b⟩) ?_;rotate_left 2;conv=>lhs;cbv
@[cbv_opaque] def f166L0 : aI := by
  refine(fun (_:gL Tryz.f16 0 ((.seq (s (b 524483) (c .skip (.exit 0) [0,1,6,7])) (.seq (.block 1 (.jG (.range 13) [] [] (b 195)) [0,1,6,7]) (r (b 195)))))=some ?x)=> ?x) ?_;rotate_left;conv=>lhs;cbv
def f166:fY:=by
 refine(fun (_:gF Tryz.f16 ((s [0,1] (.seq (s [0,1,15] (c (s [4,5] .ret) .skip [0,1])) (s (b 67) (.seq (s (b 195) (.block 0 (.loop [0,1,6,7] f166L0) [6])) (s [4,5] .ret))))))=some (?b, ?r))=>⟨2, ?r,true, ?b⟩) ?_;rotate_left 2;conv=>lhs;cbv
def f167:fY:=by
 refine(fun (_:gF Tryz.f46 ((s [1] (.seq (s [1,11] (c (s [2] .ret) .skip [1])) (.seq (s [1,13] (c (s [2] .ret) .skip [1])) (.seq (s [1,49] (c (s [2] .ret) .skip [1])) (s [2] .ret))))))=some (?b, ?r))=>⟨1, ?r,true, ?b⟩) ?_;rotate_left 2;conv=>lhs;cbv
def f169:fY:=by
 refine(fun (_:gF Tryz.f76 ((s [1] (s [2] .ret)))=some (?b, ?r))=>⟨1, ?r,true, ?b⟩) ?_;rotate_left 2;conv=>lhs;cbv
@[cbv_opaque] def f172L0 : aI := by
  refine(fun (_:gL Tryz.f43 0 ((.seq (s [0,3,7] (c .skip (.exit 0) [0,3])) (.seq (.block 1 (s [0,3,21] (c (s [2] .ret) .skip [0,3])) [0,3]) (r [0,3]))))=some ?x)=> ?x) ?_;rotate_left;conv=>lhs;cbv
def f172:fY:=by
 refine(fun (_:gF Tryz.f43 ((s [0] (.seq (s [0,3] (.block 0 (.loop [0,3] f172L0) [0])) (s [2] .ret))))=some (?b, ?r))=>⟨1, ?r,true, ?b⟩) ?_;rotate_left 2;conv=>lhs;cbv
@[cbv_opaque] def f173L0 : aI := by
  refine(fun (_:gL Tryz.f75 0 ((.seq (s [0,3,24] (c .skip (.exit 0) [0,3])) (.seq (.block 1 (s (b 25) (s [0,3,55] (c (s [2] .ret) .skip [0,3]))) [0,3]) (r [0,3]))))=some ?x)=> ?x) ?_;rotate_left;conv=>lhs;cbv
def f173:fY:=by
 refine(fun (_:gF Tryz.f75 ((s [0] (.seq (s [0,20] (c (s [2] .ret) .skip [0])) (.seq (s [0,3] (.block 0 (.loop [0,3] f173L0) [])) (s [2] .ret)))))=some (?b, ?r))=>⟨1, ?r,true, ?b⟩) ?_;rotate_left 2;conv=>lhs;cbv
@[cbv_opaque] def f177L0 : aI := by
  refine(fun (_:gL Tryz.f33 1 ((s [10,42,43,44] (.seq (c .skip (.exit 2) [10,42,43]) (.seq (.block 3 (s [10,12,42,43] (s [10,13,42,43] (r [10,42,43]))) [10,42,43]) (r [10,42,43])))))=some ?x)=> ?x) ?_;rotate_left;conv=>lhs;cbv
@[cbv_opaque] def f177L1 : aI := by
  refine(fun (_:gL Tryz.f33 0 ((s (b 7864336) (.seq (c .skip (.exit 0) [4,19,20,21]) (.seq (.block 1 (s (b 3670096) (s (b 3670224) (s (b 3670672) (r (b 3670032))))) [4,19,20,21]) (r (b 3670032))))))=some ?x)=> ?x) ?_;rotate_left;conv=>lhs;cbv
def f177:fY:=by
 refine(fun (_:gF Tryz.f33 ((s [1] (.seq (s [1,17] (c (s [2,3] .ret) .skip [1])) (s [1,4] (.seq (s (b 3670032) (.block 0 (.loop [4,19,20,21] f177L1) [4])) (s [4,10] (.seq (s [10,42,43] (.block 2 (.loop [10,42,43] f177L0) [10])) (s [2,3] .ret))))))))=some (?b, ?r))=>⟨1, ?r,false, ?b⟩) ?_;rotate_left 2;conv=>lhs;cbv
@[cbv_opaque] def f178L0 : aI := by
  refine(fun (_:gL Tryz.f94 0 ((s (b 3932226) (.seq (c .skip (.exit 0) [1,6,18,19,20]) (.seq (.block 1 (s (b 1835330) (s (b 270270786) (c (.jG (.range 10) [] [(2,[1])] (b 1835074)) .skip [1,6,18,19,20]))) [1,6,18,19,20]) (r (b 1835074))))))=some ?x)=> ?x) ?_;rotate_left;conv=>lhs;cbv
def f178:fY:=by
 refine(fun (_:gF Tryz.f94 ((s [1,2] (.seq (s [1,2,16] (c (s [4,5] .ret) .skip [1,2])) (s (b 70) (.seq (s (b 1835074) (.block 0 (.loop [1,6,18,19,20] f178L0) [6])) (s [4,5] .ret))))))=some (?b, ?r))=>⟨2, ?r,false, ?b⟩) ?_;rotate_left 2;conv=>lhs;cbv
def f179:fY:=by
 refine(fun (_:gF Tryz.f50 ((s [0] (s [2] .ret)))=some (?b, ?r))=>⟨1, ?r,true, ?b⟩) ?_;rotate_left 2;conv=>lhs;cbv
def f181:fY:=by
 refine(fun (_:gF Tryz.f35 ((s [0] (s (b 49) (.seq (s [4,17] (c (s [2,3] .ret) .skip [4])) (s [2,3] .ret)))))=some (?b, ?r))=>⟨1, ?r,true, ?b⟩) ?_;rotate_left 2;conv=>lhs;cbv
def f183:fY:=by
 refine(fun (_:gF Tryz.f48 ((s [1] (s [2] .ret)))=some (?b, ?r))=>⟨1, ?r,true, ?b⟩) ?_;rotate_left 2;conv=>lhs;cbv
@[cbv_opaque] def f184L0 : aI := by
  refine(fun (_:gL Tryz.f59 0 ((s (b 481) (.seq (c .skip (.exit 0) [0,5,6,7]) (.seq (.block 1 (s (b 249) (s (d 225 30) (c (s [2] .ret) .skip [0,5,6,7]))) [0,5,6,7]) (r (b 225))))))=some ?x)=> ?x) ?_;rotate_left;conv=>lhs;cbv
def f184:fY:=by
 refine(fun (_:gF Tryz.f59 ((s [0] (.seq (s (b 225) (.block 0 (.loop [0,5,6,7] f184L0) [])) (s [2] .ret))))=some (?b, ?r))=>⟨1, ?r,true, ?b⟩) ?_;rotate_left 2;conv=>lhs;cbv
def f185:fY:=by
 refine(fun (_:gF Tryz.f111 ((s [0,1] (s [4] .ret)))=some (?b, ?r))=>⟨2, ?r,true, ?b⟩) ?_;rotate_left 2;conv=>lhs;cbv
def f186:fY:=by
 refine(fun (_:gF Tryz.f78 ((s [1] (s [3] (s [2] .ret))))=some (?b, ?r))=>⟨1, ?r,true, ?b⟩) ?_;rotate_left 2;conv=>lhs;cbv
def f187:fY:=by
 refine(fun (_:gF Tryz.f69 ((s [0,1] (s [4] .ret)))=some (?b, ?r))=>⟨2, ?r,true, ?b⟩) ?_;rotate_left 2;conv=>lhs;cbv
def f188:fY:=by
 refine(fun (_:gF Tryz.f79 ((s [1] (s [2] .ret)))=some (?b, ?r))=>⟨1, ?r,true, ?b⟩) ?_;rotate_left 2;conv=>lhs;cbv
@[cbv_opaque] def f189L0 : aI := by
  refine(fun (_:gL Tryz.f138 0 ((s (b 899) (.seq (c .skip (.exit 0) [0,1,7,8]) (.seq (.block 1 (s (b 419) (s (b 65955) (c (s [4] .ret) .skip [0,1,7,8]))) [0,1,7,8]) (r (b 387))))))=some ?x)=> ?x) ?_;rotate_left;conv=>lhs;cbv
def f189:fY:=by
 refine(fun (_:gF Tryz.f138 ((s [0,1] (.seq (s (b 387) (.block 0 (.loop [0,1,7,8] f189L0) [])) (s [4] .ret))))=some (?b, ?r))=>⟨2, ?r,true, ?b⟩) ?_;rotate_left 2;conv=>lhs;cbv
def f190:fY:=by
 refine(fun (_:gF Tryz.f106 ((s [1] (.seq (s [1,5] (c (s [2] .ret) .skip [1])) (s [2] .ret))))=some (?b, ?r))=>⟨1, ?r,true, ?b⟩) ?_;rotate_left 2;conv=>lhs;cbv
@[cbv_opaque] def f191L0 : aI := by
  refine(fun (_:gL Tryz.f93 0 ((s (b 899) (.seq (c .skip (.exit 0) [0,1,7,8]) (.seq (.block 1 (s (b 419) (s (b 65955) (c (s [4] .ret) .skip [0,1,7,8]))) [0,1,7,8]) (r (b 387))))))=some ?x)=> ?x) ?_;rotate_left;conv=>lhs;cbv
def f191:fY:=by
 refine(fun (_:gF Tryz.f93 ((s [0,1] (.seq (s (b 387) (.block 0 (.loop [0,1,7,8] f191L0) [])) (s [4] .ret))))=some (?b, ?r))=>⟨2, ?r,true, ?b⟩) ?_;rotate_left 2;conv=>lhs;cbv
@[cbv_opaque] def f192L0 : aI := by
  refine(fun (_:gL Tryz.f128 0 ((s (b 7177) (.seq (c .skip (.exit 0) [0,3,10,11]) (.seq (.block 1 (s (b 3097) (s (b 3113) (.jG (.range 17) [] [] (b 3081)))) [0,3,10,11]) (r (b 3081))))))=some ?x)=> ?x) ?_;rotate_left;conv=>lhs;cbv
def f192:fY:=by
 refine(fun (_:gF Tryz.f128 ((s [0] (s [0,3] (.seq (s (b 3081) (.block 0 (.loop [0,3,10,11] f192L0) [3])) (s [2] .ret)))))=some (?b, ?r))=>⟨1, ?r,false, ?b⟩) ?_;rotate_left 2;conv=>lhs;cbv
@[cbv_opaque] def f197L0 : aI := by
  refine(fun (_:gL Tryz.f36 0 ((.seq (s (d 242 23) (c .skip (.exit 2) [1,4,5,6,7])) (.seq (.block 3 (s (d 242 34) (c (s (b 498) (r (b 242))) .skip [1,4,5,6,7])) [1,4,5,6,7]) (r (b 242)))))=some ?x)=> ?x) ?_;rotate_left;conv=>lhs;cbv
@[cbv_opaque] def f197L1 : aI := by
  refine(fun (_:gL Tryz.f36 1 ((.seq (s (b 65586) (c .skip (.exit 0) [1,4,5])) (.seq (.block 1 (s (b 114) (.seq (s (b 242) (.block 2 (.loop [1,4,5,6,7] f197L0) [1,4,5,6])) (s (b 1074) (r (b 50))))) [1,4,5]) (r (b 50)))))=some ?x)=> ?x) ?_;rotate_left;conv=>lhs;cbv
def f197:fY:=by
 refine(fun (_:gF Tryz.f36 ((s [1] (.seq (s [1,14] (c (s [2,3] .ret) .skip [1])) (s [1,4] (.seq (s (b 50) (.block 0 (.loop [1,4,5] f197L1) [4])) (s [2,3] .ret))))))=some (?b, ?r))=>⟨1, ?r,true, ?b⟩) ?_;rotate_left 2;conv=>lhs;cbv
def f198:fY:=by
 refine(fun (_:gF Tryz.f37 ((s [0] (s (b 49) (.seq (s [4,17] (c (s [2,3] .ret) .skip [4])) (s [2,3] .ret)))))=some (?b, ?r))=>⟨1, ?r,true, ?b⟩) ?_;rotate_left 2;conv=>lhs;cbv
def f200:fY:=by
 refine(fun (_:gF Tryz.f42 ((s [0] (s [2] .ret)))=some (?b, ?r))=>⟨1, ?r,true, ?b⟩) ?_;rotate_left 2;conv=>lhs;cbv
def f202:fY:=by
 refine(fun (_:gF Tryz.f13 ((s [2,3] (s [4] .ret)))=some (?b, ?r))=>⟨2, ?r,true, ?b⟩) ?_;rotate_left 2;conv=>lhs;cbv
@[cbv_opaque] def f205L0 : aI := by
  refine(fun (_:gL Tryz.f6 0 ((.seq (s [1,3,16] (c .skip (.exit 0) [1,3])) (.seq (.block 1 (s [1,3,25] (c (s [2] .ret) .skip [1,3])) [1,3]) (r [1,3]))))=some ?x)=> ?x) ?_;rotate_left;conv=>lhs;cbv
def f205:fY:=by
 refine(fun (_:gF Tryz.f6 ((s [1] (.seq (s [1,11] (c (s [2] .ret) .skip [1])) (.seq (s [1,3] (.block 0 (.loop [1,3] f205L0) [])) (s [2] .ret)))))=some (?b, ?r))=>⟨1, ?r,true, ?b⟩) ?_;rotate_left 2;conv=>lhs;cbv
@[cbv_opaque] def f207L0 : aI := by
  refine(fun (_:gL Tryz.f22 0 ((.seq (s (b 16419) (c .skip (.exit 0) [0,1,5])) (.seq (.block 1 (.seq (.jG (.range 10) [] [] (d 35 26)) (c (s [4] .ret) .skip [0,1,5])) [0,1,5]) (r (b 35)))))=some ?x)=> ?x) ?_;rotate_left;conv=>lhs;cbv
def f207:fY:=by
 refine(fun (_:gF Tryz.f22 ((s [0,1] (.seq (s [0,1,10] (c (s [4] .ret) .skip [0,1])) (.seq (s (b 35) (.block 0 (.loop [0,1,5] f207L0) [])) (s [4] .ret)))))=some (?b, ?r))=>⟨2, ?r,true, ?b⟩) ?_;rotate_left 2;conv=>lhs;cbv
@[cbv_opaque] def f208L0 : aI := by
  refine(fun (_:gL Tryz.f15 0 ((.seq (s (b 2118) (c .skip (.exit 0) [1,2,6])) (.seq (.block 1 (s (d 70 21) (c (.seq (.jG (.range 11) [] [] [4,5]) .ret) .skip [1,2,6])) [1,2,6]) (r (b 70)))))=some ?x)=> ?x) ?_;rotate_left;conv=>lhs;cbv
def f208:fY:=by
 refine(fun (_:gF Tryz.f15 ((s [1,2] (.seq (s (b 70) (.block 0 (.loop [1,2,6] f208L0) [2])) (s [4,5] .ret))))=some (?b, ?r))=>⟨2, ?r,true, ?b⟩) ?_;rotate_left 2;conv=>lhs;cbv
def f210:fY:=by
 refine(fun (_:gF Tryz.f31 ((s (b 406) (s (b 902) (.seq (s (b 9090) (c (s [8,9] (s [8] .ret)) .skip [1,7,8,9])) (s (b 1922) (.seq (.jG (.range 9) [] [] (b 1922)) (s (b 1794) (.seq (.jG (.range 9) [] [] [8,10]) (s [8] .ret)))))))))=some (?b, ?r))=>⟨4, ?r,true, ?b⟩) ?_;rotate_left 2;conv=>lhs;cbv
def f211:fY:=by
 refine(fun (_:gF Tryz.f32 ((s [1] (s [2] .ret)))=some (?b, ?r))=>⟨1, ?r,true, ?b⟩) ?_;rotate_left 2;conv=>lhs;cbv
@[cbv_opaque] def f212L0 : aI := by
  refine(fun (_:gL Tryz.f23 0 ((.seq (s [1,3,12] (c .skip (.exit 0) [1,3])) (.seq (.block 1 (.seq (.jG (.range 27) [] [] [1,3,41]) (c (s [2] .ret) .skip [1,3])) [1,3]) (r [1,3]))))=some ?x)=> ?x) ?_;rotate_left;conv=>lhs;cbv
def f212:fY:=by
 refine(fun (_:gF Tryz.f23 ((s [1] (.seq (s [1,7] (c (s [2] .ret) .skip [1])) (.seq (s [1,3] (.block 0 (.loop [1,3] f212L0) [])) (s [2] .ret)))))=some (?b, ?r))=>⟨1, ?r,true, ?b⟩) ?_;rotate_left 2;conv=>lhs;cbv
@[cbv_opaque] def f213L0 : aI := by
  refine(fun (_:gL Tryz.f24 0 ((.seq (s (b 4122) (c .skip (.exit 0) [1,3,4])) (.seq (.block 1 (.jG (.range 21) [] [] (b 26)) [1,3,4]) (r (b 26)))))=some ?x)=> ?x) ?_;rotate_left;conv=>lhs;cbv
def f213:fY:=by
 refine(fun (_:gF Tryz.f24 ((s [1] (.seq (s [1,7] (c (s [2] .ret) .skip [1])) (s [1,3] (.seq (s (b 26) (.block 0 (.loop [1,3,4] f213L0) [3])) (s [2] .ret))))))=some (?b, ?r))=>⟨1, ?r,true, ?b⟩) ?_;rotate_left 2;conv=>lhs;cbv
@[cbv_opaque] def f215L0 : aI := by
  refine(fun (_:gL Tryz.f28 0 ((.seq (s (b 542) (c .skip (.exit 0) [1,2,3,4])) (.seq (.block 1 (.jG (.range 12) [] [(1,[1])] (b 30)) [1,2,3,4]) (r (b 30)))))=some ?x)=> ?x) ?_;rotate_left;conv=>lhs;cbv
def f215:fY:=by
 refine(fun (_:gF Tryz.f28 ((s [1,2] (s (b 14) (.seq (s (b 30) (.block 0 (.loop [1,2,3,4] f215L0) [2,3])) (s [2] .ret)))))=some (?b, ?r))=>⟨1, ?r,false, ?b⟩) ?_;rotate_left 2;conv=>lhs;cbv
@[cbv_opaque] def f223L0 : aI := by
  refine(fun (_:gL Tryz.f3 0 ((.seq (s (d 1772 49) (c .skip (.exit 0) [2,3,5,6,7,9,10])) (.seq (.block 1 (s (b 3820) (.seq (s (d 3820 55) (c (r (b 3820)) .skip [2,3,5,6,7,9,10,11])) (.seq (s (d 3820 59) (c (s (b 12908) (.seq (s (d 4716 68) (c (s [4] .ret) .skip [2,3,5,6,9,12])) (s (b 620) (.exit 0)))) .skip [2,3,5,6,7,9,10,11])) (s (b 116460) (.seq (s (d 50924 86) (c (s [4] .ret) .skip [2,3,5,6,7,9,10,14,15])) (.seq (s (d 18156 88) (c (.exit 0) .skip [2,3,5,6,7,9,10,14])) (r (b 1772)))))))) [2,3,5,6,7,9,10]) (r (b 1772)))))=some ?x)=> ?x) ?_;rotate_left;conv=>lhs;cbv
def f223:fY:=by
 refine(fun (_:gF Tryz.f3 ((s [2,3] (.seq (s [2,3,18] (c (s [4] .ret) .skip [2,3])) (.seq (s [2,3,31] (c (s [4] .ret) .skip [2,3])) (s (b 108) (s (b 492) (.seq (s (d 236 46) (c (s [4] .ret) .skip [2,3,5,6,7])) (s (b 748) (.seq (s (b 1772) (.block 0 (.loop [2,3,5,6,7,9,10] f223L0) [2,3,5,6,9])) (.seq (s (d 556 91) (c (s [4] .ret) .skip [2,3,5,9])) (s [4] .ret)))))))))))=some (?b, ?r))=>⟨2, ?r,true, ?b⟩) ?_;rotate_left 2;conv=>lhs;cbv
def f233:fY:=by
 refine(fun (_:gF Tryz.f39 ((s [1] (.seq (s [1,22] (c (s [2] .ret) .skip [1])) (s [1,3] (.seq (s [1,3,24] (.block 0 (s [1,3,24,25] (c (s [1,3] (r [1,3])) (s [1,3,24,31] (c (s [1,3] (r [1,3])) (s [1,3,24,44] (c (s [1,4] (s [1,3] (r [1,3]))) (s [1,3,24,69] (c (s [1,3] (r [1,3])) (s [1,3,75] (c (s [1,5] (s [1,3] (r [1,3]))) .skip [1,3])) [1,3])) [1,3])) [1,3])) [1,3])) [1,3])) (s [2] .ret))))))=some (?b, ?r))=>⟨1, ?r,true, ?b⟩) ?_;rotate_left 2;conv=>lhs;cbv
def f238:fY:=by
 refine(fun (_:gF Tryz.f9 ((s (b 78) (s (b 838) (.seq (s (d 326 33) (c (s [6,7] .ret) .skip [1,2,6,8])) (s (b 1094) (s [6,7] .ret))))))=some (?b, ?r))=>⟨3, ?r,true, ?b⟩) ?_;rotate_left 2;conv=>lhs;cbv
def f240:fY:=by
 refine(fun (_:gF Tryz.f12 ((s (b 28) (s (b 412) (.seq (s (d 156 22) (c (s [4,5,6] .ret) .skip [2,3,4,7])) (s (b 668) (s (b 1692) (.seq (s [4,9,42] (c (s [4,5,6] .ret) .skip [4,9])) (s [4,5,6] .ret))))))))=some (?b, ?r))=>⟨2, ?r,false, ?b⟩) ?_;rotate_left 2;conv=>lhs;cbv
def f242:fY:=by
 refine(fun (_:gF Tryz.f5 ((s [] (s [1] (s (b 14) (s (b 126) (s (b 1022) (s (b 8190) (s (b 65534) (s (b 458750) (s (b 3604474) (s (b 11993082) (s [0] .ret))))))))))))=some (?b, ?r))=>⟨0, ?r,true, ?b⟩) ?_;rotate_left 2;conv=>lhs;cbv
@[cbv_opaque] def f243L0 : aI := by
  refine(fun (_:gL Tryz.f7 0 ((.seq (s (d 108 24) (c .skip (.exit 2) [2,3,5,6])) (.seq (.block 3 (.seq (.jG (.range 14) [] [(6,[1]),(9,[1])] (b 492)) (s (b 1004) (.seq (s (d 1004 54) (c (.exit 3) .skip [2,3,5,6,7,8,9])) (s (b 3052) (s (b 7148) (s (d 108 115) (c (s [4] .ret) .skip [2,3,5,6]))))))) [2,3,5,6]) (r (b 108)))))=some ?x)=> ?x) ?_;rotate_left;conv=>lhs;cbv
@[cbv_opaque] def f243L1 : aI := by
  refine(fun (_:gL Tryz.f7 1 ((.seq (s (d 44 17) (c .skip (.exit 0) [2,3,5])) (.seq (.block 1 (s (b 108) (.block 2 (.loop [2,3,5,6] f243L0) [2,3,5])) [2,3,5]) (r (b 44)))))=some ?x)=> ?x) ?_;rotate_left;conv=>lhs;cbv
def f243:fY:=by
 refine(fun (_:gF Tryz.f7 ((s [2,3] (.seq (s (b 44) (.block 0 (.loop [2,3,5] f243L1) [])) (s [4] .ret))))=some (?b, ?r))=>⟨2, ?r,true, ?b⟩) ?_;rotate_left 2;conv=>lhs;cbv
@[cbv_opaque] def f244L0 : aI := by
  refine(fun (_:gL Tryz.f8 1 ((.seq (s (d 402 36) (c .skip (.exit 2) [1,4,7,8])) (.seq (.block 3 (.seq (.jG (.range 12) [] [] (b 1938)) (s (b 3986) (.seq (s (d 3986 54) (c (.seq (.jG (od 13 16) [] [(0,[1])] (b 8082)) (r (b 3986))) .skip [1,4,7,8,9,10,11])) (r (b 402))))) [1,4,7,8]) (r (b 402)))))=some ?x)=> ?x) ?_;rotate_left;conv=>lhs;cbv
@[cbv_opaque] def f244L1 : aI := by
  refine(fun (_:gL Tryz.f8 0 ((.seq (s (d 86 21) (c .skip (.exit 0) [1,2,4,6])) (.seq (.block 1 (s (d 86 29) (c (s [4,5] .ret) .skip [1,2,4,6])) [1,2,4,6]) (r (b 86)))))=some ?x)=> ?x) ?_;rotate_left;conv=>lhs;cbv
def f244:fY:=by
 refine(fun (_:gF Tryz.f8 ((s (b 22) (.seq (s (b 65558) (c (s [4,5] .ret) .skip [1,2,4])) (.seq (s (b 86) (.block 0 (.loop [1,2,4,6] f244L1) [1,2,4])) (s [1,4,7] (.seq (s (b 402) (.block 2 (.loop [1,4,7,8] f244L0) [4,7])) (.seq (s [4,7,76] (c (s [4,5] .ret) .skip [4,7])) (s [4,5] .ret))))))))=some (?b, ?r))=>⟨2, ?r,true, ?b⟩) ?_;rotate_left 2;conv=>lhs;cbv
@[cbv_opaque] def f245L0 : aI := by
  refine(fun (_:gL Tryz.f11 0 ((.seq (s (d 8364 54) (c .skip (.exit 0) [2,3,5,7,13])) (.seq (.block 1 (.seq (.jG (.range 19) [] [(13,[0])] (d 8364 75)) (c (s [4] .ret) .skip [2,3,5,7,13])) [2,3,5,7,13]) (r (b 8364)))))=some ?x)=> ?x) ?_;rotate_left;conv=>lhs;cbv
def f245:fY:=by
 refine(fun (_:gF Tryz.f11 ((s [2,3] (s (b 44) (s (b 172) (s (b 684) (s (b 2732) (.seq (s (d 172 52) (c (s [4] .ret) .skip [2,3,5,7])) (.seq (s (b 8364) (.block 0 (.loop [2,3,5,7,13] f245L0) [])) (s [4] .ret)))))))))=some (?b, ?r))=>⟨2, ?r,true, ?b⟩) ?_;rotate_left 2;conv=>lhs;cbv
def f246:fY:=by
 refine(fun (_:gF Tryz.f21 ((s (b 271) (s (b 783) (s (b 783) (s [8] .ret)))))=some (?b, ?r))=>⟨4, ?r,true, ?b⟩) ?_;rotate_left 2;conv=>lhs;cbv
@[cbv_opaque] def f247L0 : aI := by
  refine(fun (_:gL Tryz.f18 0 ((.seq (s (b 16419) (c .skip (.exit 0) [0,1,5])) (.seq (.block 1 (.seq (.jG (.range 9) [] [] (d 35 25)) (c (s [4] .ret) .skip [0,1,5])) [0,1,5]) (r (b 35)))))=some ?x)=> ?x) ?_;rotate_left;conv=>lhs;cbv
def f247:fY:=by
 refine(fun (_:gF Tryz.f18 ((s [0,1] (.seq (s [0,1,10] (c (s [4] .ret) .skip [0,1])) (.seq (s (b 35) (.block 0 (.loop [0,1,5] f247L0) [])) (s [4] .ret)))))=some (?b, ?r))=>⟨2, ?r,true, ?b⟩) ?_;rotate_left 2;conv=>lhs;cbv
def f261:fY:=by
 refine(fun (_:gF Tryz.f56 ((s [0] (s [2] .ret)))=some (?b, ?r))=>⟨1, ?r,true, ?b⟩) ?_;rotate_left 2;conv=>lhs;cbv
def f262:fY:=by
 refine(fun (_:gF Tryz.f57 ((s [1] (s [2] .ret)))=some (?b, ?r))=>⟨1, ?r,true, ?b⟩) ?_;rotate_left 2;conv=>lhs;cbv
@[cbv_opaque] def f263L0 : aI := by
  refine(fun (_:gL Tryz.f60 0 ((s (b 3591) (.seq (c .skip (.exit 0) [0,1,2,9,10]) (.seq (.block 1 (s (b 1671) (.seq (.jG (.range 25) [] [] (d 1543 37)) (c (s [6] .ret) .skip [0,1,2,9,10]))) [0,1,2,9,10]) (r (b 1543))))))=some ?x)=> ?x) ?_;rotate_left;conv=>lhs;cbv
def f263:fY:=by
 refine(fun (_:gF Tryz.f60 ((s (b 7) (.seq (s (b 1543) (.block 0 (.loop [0,1,2,9,10] f263L0) [0,1])) (s [6] .ret))))=some (?b, ?r))=>⟨3, ?r,true, ?b⟩) ?_;rotate_left 2;conv=>lhs;cbv
def f264:fY:=by
 refine(fun (_:gF Tryz.f61 ((s [0] (s [2] .ret)))=some (?b, ?r))=>⟨1, ?r,false, ?b⟩) ?_;rotate_left 2;conv=>lhs;cbv
def f265:fY:=by
 refine(fun (_:gF Tryz.f62 ((s [0,1] (s [4] .ret)))=some (?b, ?r))=>⟨2, ?r,true, ?b⟩) ?_;rotate_left 2;conv=>lhs;cbv
@[cbv_opaque] def f266L0 : aI := by
  refine(fun (_:gL Tryz.f63 0 ((s (b 3591) (.seq (c .skip (.exit 0) [0,1,2,9,10]) (.seq (.block 1 (s (b 1671) (.seq (.jG (.range 25) [] [] (d 1543 37)) (c (s [6] .ret) .skip [0,1,2,9,10]))) [0,1,2,9,10]) (r (b 1543))))))=some ?x)=> ?x) ?_;rotate_left;conv=>lhs;cbv
def f266:fY:=by
 refine(fun (_:gF Tryz.f63 ((s (b 7) (.seq (s (b 1543) (.block 0 (.loop [0,1,2,9,10] f266L0) [0,1])) (s [6] .ret))))=some (?b, ?r))=>⟨3, ?r,true, ?b⟩) ?_;rotate_left 2;conv=>lhs;cbv
def f267:fY:=by
 refine(fun (_:gF Tryz.f64 ((s [0] (s [2] .ret)))=some (?b, ?r))=>⟨1, ?r,false, ?b⟩) ?_;rotate_left 2;conv=>lhs;cbv
def f268:fY:=by
 refine(fun (_:gF Tryz.f65 ((s [1] (s [2] .ret)))=some (?b, ?r))=>⟨1, ?r,true, ?b⟩) ?_;rotate_left 2;conv=>lhs;cbv
@[cbv_opaque] def f269L0 : aI := by
  refine(fun (_:gL Tryz.f67 0 ((s (b 3591) (.seq (c .skip (.exit 0) [0,1,2,9,10]) (.seq (.block 1 (s (b 1671) (.seq (.jG (.range 25) [] [] (d 1543 37)) (c (s [6] .ret) .skip [0,1,2,9,10]))) [0,1,2,9,10]) (r (b 1543))))))=some ?x)=> ?x) ?_;rotate_left;conv=>lhs;cbv
def f269:fY:=by
 refine(fun (_:gF Tryz.f67 ((s (b 7) (.seq (s (b 1543) (.block 0 (.loop [0,1,2,9,10] f269L0) [0,1])) (s [6] .ret))))=some (?b, ?r))=>⟨3, ?r,true, ?b⟩) ?_;rotate_left 2;conv=>lhs;cbv
def f270:fY:=by
 refine(fun (_:gF Tryz.f68 ((s [0] (s [2] .ret)))=some (?b, ?r))=>⟨1, ?r,false, ?b⟩) ?_;rotate_left 2;conv=>lhs;cbv
def f277:fY:=by
 refine(fun (_:gF Tryz.f40 ((s [0] (.seq (s [3] (.block 0 (s [3,4] (c (s [2] .ret) (s [3,6] (c (s [2] .ret) (s [3,8] (c (s [2] .ret) (s [10] (c (s [2] .ret) .skip [])) [])) [])) [])) [])) (s [2] .ret))))=some (?b, ?r))=>⟨1, ?r,true, ?b⟩) ?_;rotate_left 2;conv=>lhs;cbv
@[cbv_opaque] def f279L0 : aI := by
  refine(fun (_:gL Tryz.f26 0 ((.seq (s (d 451 20) (c .skip (.exit 0) [0,1,6,7,8])) (.seq (.block 1 (.seq (.jG (.range 13) [] [] (b 451)) (.jG (.range 13) [] [] (b 451))) [0,1,6,7,8]) (r (b 451)))))=some ?x)=> ?x) ?_;rotate_left;conv=>lhs;cbv
def f279:fY:=by
 refine(fun (_:gF Tryz.f26 ((s [0,1] (.seq (s [0,1,16] (c (s [4,5] .ret) .skip [0,1])) (s (b 195) (.seq (s (b 451) (.block 0 (.loop [0,1,6,7,8] f279L0) [6,7])) (.seq (.block 2 (s [6,7,47] (c (s [4,5] .ret) (s [7,52] (c (s [4,5] .ret) (s [54] (c (s [4,5] .ret) .skip [])) [])) [])) []) (s [4,5] .ret)))))))=some (?b, ?r))=>⟨2, ?r,true, ?b⟩) ?_;rotate_left 2;conv=>lhs;cbv
def f280:fY:=by
 refine(fun (_:gF Tryz.f27 ((s [2,3] (s [2,3] (s [4] .ret))))=some (?b, ?r))=>⟨2, ?r,true, ?b⟩) ?_;rotate_left 2;conv=>lhs;cbv
@[cbv_opaque] def f281L0 : aI := by
  refine(fun (_:gL Tryz.f38 0 ((.seq (s (b 2150) (c .skip (.exit 0) [1,2,5,6])) (.seq (.block 1 (s (d 102 22) (c (r (b 102)) .skip [1,2,5,6])) [1,2,5,6]) (r (b 102)))))=some ?x)=> ?x) ?_;rotate_left;conv=>lhs;cbv
def f281:fY:=by
 refine(fun (_:gF Tryz.f38 ((s [1,2] (s (b 38) (.seq (s (b 102) (.block 0 (.loop [1,2,5,6] f281L0) [5])) (s [4] .ret)))))=some (?b, ?r))=>⟨2, ?r,true, ?b⟩) ?_;rotate_left 2;conv=>lhs;cbv
@[cbv_opaque] def f299L0 : aI := by
  refine(fun (_:gL Tryz.f91 0 ((s (b 899) (.seq (c .skip (.exit 0) [0,1,7,8]) (.seq (.block 1 (s (b 419) (s (b 65955) (c (s [4] .ret) .skip [0,1,7,8]))) [0,1,7,8]) (r (b 387))))))=some ?x)=> ?x) ?_;rotate_left;conv=>lhs;cbv
def f299:fY:=by
 refine(fun (_:gF Tryz.f91 ((s [0,1] (.seq (s (b 387) (.block 0 (.loop [0,1,7,8] f299L0) [])) (s [4] .ret))))=some (?b, ?r))=>⟨2, ?r,true, ?b⟩) ?_;rotate_left 2;conv=>lhs;cbv
def f300:fY:=by
 refine(fun (_:gF Tryz.f70 ((s (b 7) (s (b 135) (s [1,7] (s [6] .ret)))))=some (?b, ?r))=>⟨3, ?r,false, ?b⟩) ?_;rotate_left 2;conv=>lhs;cbv
@[cbv_opaque] def f301L0 : aI := by
  refine(fun (_:gL Tryz.f71 0 ((s (b 61447) (.seq (c .skip (.exit 0) [0,1,2,12,13,14]) (.seq (.block 1 (s (b 29063) (s (d 28807 27) (c (r (b 28679)) .skip [0,1,2,12,13,14]))) [0,1,2,12,13,14]) (r (b 28679))))))=some ?x)=> ?x) ?_;rotate_left;conv=>lhs;cbv
def f301:fY:=by
 refine(fun (_:gF Tryz.f71 ((s (b 7) (.seq (s (b 28679) (.block 0 (.loop [0,1,2,12,13,14] f301L0) [0,2])) (s [0,2] (.seq (.jG (.range 16) [] [] [2]) (s [6] .ret))))))=some (?b, ?r))=>⟨3, ?r,false, ?b⟩) ?_;rotate_left 2;conv=>lhs;cbv
@[cbv_opaque] def f302L0 : aI := by
  refine(fun (_:gL Tryz.f72 0 ((s (b 229383) (.seq (c .skip (.exit 0) [0,1,2,15,16]) (.seq (.block 1 (s (b 98439) (s (d 98439 27) (c (.jG (.range 18) [] [] (b 98311)) .skip [0,1,2,15,16]))) [0,1,2,15,16]) (r (b 98311))))))=some ?x)=> ?x) ?_;rotate_left;conv=>lhs;cbv
def f302:fY:=by
 refine(fun (_:gF Tryz.f72 ((s (b 7) (s (b 7) (.seq (s (b 98311) (.block 0 (.loop [0,1,2,15,16] f302L0) [2])) (s [6] .ret)))))=some (?b, ?r))=>⟨3, ?r,false, ?b⟩) ?_;rotate_left 2;conv=>lhs;cbv
@[cbv_opaque] def f303L0 : aI := by
  refine(fun (_:gL Tryz.f73 0 ((s (b 1966085) (.seq (c .skip (.exit 0) [0,2,17,18,19]) (.seq (.block 1 (s (b 917765) (s (b 919045) (s (d 918021 31) (c (.jG (.range 19) [] [(4,[1])] (b 917509)) .skip [0,2,17,18,19])))) [0,2,17,18,19]) (r (b 917509))))))=some ?x)=> ?x) ?_;rotate_left;conv=>lhs;cbv
def f303:fY:=by
 refine(fun (_:gF Tryz.f73 ((s (b 7) (s (b 7) (.seq (s (b 917509) (.block 0 (.loop [0,2,17,18,19] f303L0) [2])) (s [6] .ret)))))=some (?b, ?r))=>⟨3, ?r,false, ?b⟩) ?_;rotate_left 2;conv=>lhs;cbv
def f306:fY:=by
 refine(fun (_:gF Tryz.f95 ((s [0,1] (.seq (.jG (.range 13) [] [] (b 99)) (.seq (s (d 35 22) (c (s [4] .ret) .skip [0,1,5])) (s [1,7] (s [7,8] (s [4] .ret)))))))=some (?b, ?r))=>⟨2, ?r,false, ?b⟩) ?_;rotate_left 2;conv=>lhs;cbv
def f307:fY:=by
 refine(fun (_:gF Tryz.f96 ((s [0,1] (s [4,5] .ret)))=some (?b, ?r))=>⟨2, ?r,false, ?b⟩) ?_;rotate_left 2;conv=>lhs;cbv
def f308:fY:=by
 refine(fun (_:gF Tryz.f97 ((s [1,2] (s [1,2] (s [2] .ret))))=some (?b, ?r))=>⟨1, ?r,false, ?b⟩) ?_;rotate_left 2;conv=>lhs;cbv
@[cbv_opaque] def f311L0 : aI := by
  refine(fun (_:gL Tryz.f114 0 ((s (b 28675) (.seq (c .skip (.exit 0) [0,1,12,13]) (.seq (.block 1 (s (b 12323) (.seq (.jG (.range 9) [] [] (b 16789507)) (c (s [4] .ret) .skip [0,1,12,13]))) [0,1,12,13]) (r (b 12291))))))=some ?x)=> ?x) ?_;rotate_left;conv=>lhs;cbv
def f311:fY:=by
 refine(fun (_:gF Tryz.f114 ((s [0,1] (.seq (s [0,1,10] (c (s [4] .ret) .skip [0,1])) (.seq (s (b 12291) (.block 0 (.loop [0,1,12,13] f311L0) [])) (s [4] .ret)))))=some (?b, ?r))=>⟨2, ?r,true, ?b⟩) ?_;rotate_left 2;conv=>lhs;cbv
@[cbv_opaque] def f312L0 : aI := by
  refine(fun (_:gL Tryz.f115 0 ((.seq (s (b 132871) (c .skip (.exit 0) [0,1,2,8,9,10])) (.block 1 (s (b 3847) (s (d 3847 31) (c (r (b 1799)) (r (b 1799)) [0,1,2,8,9,10]))) [0,1,2,8,9,10])))=some ?x)=> ?x) ?_;rotate_left;conv=>lhs;cbv
def f312:fY:=by
 refine(fun (_:gF Tryz.f115 ((s (b 7) (s (b 263) (s (b 1799) (.seq (.block 0 (.loop [0,1,2,8,9,10] f312L0) [0,1,2,8,9]) (s [6,7] .ret))))))=some (?b, ?r))=>⟨3, ?r,true, ?b⟩) ?_;rotate_left 2;conv=>lhs;cbv
def f313:fY:=by
 refine(fun (_:gF Tryz.f116 ((s [1,2] (s [4] .ret)))=some (?b, ?r))=>⟨2, ?r,true, ?b⟩) ?_;rotate_left 2;conv=>lhs;cbv
def f314:fY:=by
 refine(fun (_:gF Tryz.f117 ((s [0,1] (s (b 35) (s (b 99) (.seq (s (b 2115) (c (.seq (s [12] (c (s [4] .ret) .skip [])) (s [4] .ret)) .skip [0,1,6])) (.seq (s [0,1,13] (c (s [4] .ret) .skip [0,1])) (.seq (s [0,1,16] (c (s [4] .ret) .skip [0,1])) (.seq (s [19] (c (s [4] .ret) .skip [])) (s [4] .ret)))))))))=some (?b, ?r))=>⟨2, ?r,true, ?b⟩) ?_;rotate_left 2;conv=>lhs;cbv
def f315:fY:=by
 refine(fun (_:gF Tryz.f139 ((s [0] (s [2] .ret)))=some (?b, ?r))=>⟨1, ?r,true, ?b⟩) ?_;rotate_left 2;conv=>lhs;cbv
def f92:fY:={np:=1,res:=[.cell 2 true 9],pure:=false,body:=(.seq (.qz [⟨some 1,.box 9 (.t 0),none⟩,⟨some 2,.alloc [.str ⟨#[]⟩,.bool false,.aS,.int .i64 0,.int .i64 0,.int .i64 0,.str ⟨#[]⟩,.int .i64 0,.int .i64 0],none⟩] [1,2]) (.seq (.qz [⟨some 3,.dj 1 0 [.int .i64 0] [],none⟩,⟨some 4,.pF 2 (.t 1),none⟩,⟨some 5,.load false 1 (.t 4),none⟩,⟨some 6,.app 1 8 (.t 3) (.t 5),none⟩,⟨some 7,.pF 2 (.t 1),none⟩,
 ⟨none,.store 1 (.t 7) (.t 6),none⟩] [1,2]) (.seq (.qz [⟨some 8,.load true 9 (.t 1),none⟩,
 ⟨none,.store 9 (.t 2) (.t 8),none⟩] [2]) (.ret))))}
def oV:List (Nat×fY):=[(92,f92),(7,f7),(8,f8),(9,f9),(14,f14),(15,f15),(16,f16),(17,f17),(18,f18),(19,f19),(20,f20),(21,f21),(22,f22),(23,f23),(24,f24),(25,f25),(32,f32),(38,f38),(39,f39),(40,f40),(41,f41),(42,f42),(43,f43),(44,f44),(45,f45),(46,f46),(47,f47),(48,f48),(49,f49),(50,f50),(51,f51),(52,f52),(53,f53),(54,f54),(58,f58),(59,f59),(60,f60),(61,f61),(62,f62),(63,f63),(64,f64),(65,f65),(66,f66),(67,f67),(68,f68),(72,f72),(73,f73),(74,f74),(75,f75),(76,f76),(77,f77),(78,f78),(79,f79),(80,f80),(81,f81),(82,f82),(83,f83),(84,f84),(91,f91),(93,f93),(96,f96),(98,f98),(101,f101),(102,f102),(103,f103),(104,f104),(105,f105),(106,f106),(107,f107),(110,f110),(111,f111),(112,f112),(113,f113),(114,f114),(115,f115),(117,f117),(118,f118),(119,f119),(120,f120),(121,f121),(122,f122),(123,f123),(124,f124),(125,f125),(126,f126),(127,f127),(128,f128),(129,f129),(130,f130),(131,f131),(132,f132),(133,f133),(134,f134),(135,f135),(138,f138),(139,f139),(140,f140),(141,f141),(151,f151),(152,f152),(156,f156),(157,f157),(160,f160),(161,f161),(162,f162),(164,f164),(165,f165),(166,f166),(167,f167),(169,f169),(172,f172),(173,f173),(177,f177),(178,f178),(179,f179),(181,f181),(183,f183),(184,f184),(185,f185),(186,f186),(187,f187),(188,f188),(189,f189),(190,f190),(191,f191),(192,f192),(197,f197),(198,f198),(200,f200),(202,f202),(205,f205),(207,f207),(208,f208),(210,f210),(211,f211),(212,f212),(213,f213),(215,f215),(223,f223),(233,f233),(238,f238),(240,f240),(242,f242),(243,f243),(244,f244),(245,f245),(246,f246),(247,f247),(261,f261),(262,f262),(263,f263),(264,f264),(265,f265),(266,f266),(267,f267),(268,f268),(269,f269),(270,f270),(277,f277),(279,f279),(280,f280),(281,f281),(299,f299),(300,f300),(301,f301),(302,f302),(303,f303),(306,f306),(307,f307),(308,f308),(311,f311),(312,f312),(313,f313),(314,f314),(315,f315)]
def find:List (Nat×fY)→Nat→Option fY
 |[],_=>none
 |(i,f)::r,k=>if i=k then some f else find r k
def A:bp:=find oV
end Ab.AP
