/- Part AP. -/
import Derived.Test.YtmckmpeekikfdaaGreatA2
import Derived.Test.YtmckmpeekikfdaaGreatProg
import Derived.KernelRfl
namespace Ab.Ln
open Go Go.Proofs Ab
def Cw:List (Nat×Nat)→Nat→Option Nat
 |[],_=>none
 |(i,f)::r,k=>if i=k then some f else Cw r k
def Ui:List (Nat×Nat):=[(3,375),(4,377),(5,325),(6,170),(7,326),(8,171),(9,327),(10,13),(11,9),(12,378),(13,324),(14,379),(15,333),(16,334),(17,335),(18,336),(19,33),(20,174),(21,37),(22,337),(23,338),(24,42),(25,43),(26,339),(27,27),(28,34),(29,22),(30,23),(31,36),(32,340),(33,341),(34,342),(35,28),(36,29),(37,30),(38,31),(39,32),(40,35),(41,380),(42,332),(43,7),(44,345),(45,346),(46,347),(47,57),(48,328),(49,348),(50,62),(51,63),(52,349),(53,350),(54,55),(55,52),(56,351),(57,79),(58,352),(59,50),(60,51),(61,56),(62,344),(63,14),(64,15),(65,16),(66,17),(67,343),(68,81),(69,41),(70,76),(71,77),(72,78),(73,355),(74,356),(75,69),(76,67),(77,68),(78,357),(79,83),(80,358),(81,118),(82,189),(83,359),(84,360),(85,70),(86,71),(87,354),(88,38),(89,39),(90,40),(91,44),(92,45),(93,353),(94,82),(95,361),(96,74),(97,75),(98,84),(99,362),(100,363),(101,364),(102,365),(103,58),(104,59),(105,60),(106,61),(107,64),(108,65),(109,66),(110,366),(111,367),(112,72),(113,73),(114,80),(133,368),(134,369),(135,370),(136,371)]
def Te:List (Nat×Nat):=[(9,0),(140,2),(144,1)]
def mf (k:Nat):Option Nat:=Cw Ui k
def mt (k:Nat):Nat:=(Cw Te k).getD (k+100000)
def T5 : List (String × Nat × Bool) := [("Len", 363, true), ("Less", 368, true), ("Swap", 369, true), ("Push", 371, false), ("Pop", 370, false)]
def iv (s:String):Option (Nat×Nat×Bool):=(T5.find? fun p=>p.1==s).map fun p=>(1,p.2)
def Ud:List (Nat×Nat):=[(140,2)]
def ta (t:Nat):Option Nat:=Cw Ud t
def Ub:List Nat:=[36]
def sq (t:Nat):Bool:=Ub.contains t
noncomputable def L:Lk:=⟨Tryz.prog,mf,mt,iv,ta,sq⟩
end Ab.Ln
namespace Ab.AP
open Go Go.Proofs Ab
set_option maxRecDepth 100000
set_option maxHeartbeats 4000000
/-- The tables, asked for single types alone. -/
@[cbv_opaque] noncomputable def T0 : Tables := Tryz.prog.toTables
noncomputable def P0:Program:=⟨T0, #[]⟩
noncomputable def L0:Lk:=⟨P0,Ln.mf,Ln.mt,Ln.iv,Ln.ta,Ln.sq⟩
@[cbv_eval] theorem Vt : T0.info? 3 = some Tryz.t3 := Tryz.type3
@[cbv_eval] theorem Vu : T0.info? 4 = some Tryz.t4 := Tryz.type4
@[cbv_eval] theorem Vv : T0.info? 5 = some Tryz.t5 := Tryz.type5
@[cbv_eval] theorem Vw : T0.info? 9 = some Tryz.t9 := Tryz.type9
@[cbv_eval] theorem U5 : T0.info? 22 = some Tryz.t22 := Tryz.type22
@[cbv_eval] theorem U6 : T0.info? 24 = some Tryz.t24 := Tryz.type24
@[cbv_eval] theorem U7 : T0.info? 35 = some Tryz.t35 := Tryz.type35
@[cbv_eval] theorem U8 : T0.info? 36 = some Tryz.t36 := Tryz.type36
@[cbv_eval] theorem U9 : T0.info? 37 = some Tryz.t37 := Tryz.type37
@[cbv_eval] theorem Va : T0.info? 42 = some Tryz.t42 := Tryz.type42
@[cbv_eval] theorem Vb : T0.info? 43 = some Tryz.t43 := Tryz.type43
@[cbv_eval] theorem Vc : T0.info? 44 = some Tryz.t44 := Tryz.type44
@[cbv_eval] theorem Vd : T0.info? 45 = some Tryz.t45 := Tryz.type45
@[cbv_eval] theorem Ve : T0.info? 48 = some Tryz.t48 := Tryz.type48
@[cbv_eval] theorem Vf : T0.info? 51 = some Tryz.t51 := Tryz.type51
@[cbv_eval] theorem Vg : T0.info? 61 = some Tryz.t61 := Tryz.type61
@[cbv_eval] theorem Vh : T0.info? 62 = some Tryz.t62 := Tryz.type62
@[cbv_eval] theorem Vi : T0.info? 69 = some Tryz.t69 := Tryz.type69
@[cbv_eval] theorem Vj : T0.info? 70 = some Tryz.t70 := Tryz.type70
@[cbv_eval] theorem Vk : T0.info? 76 = some Tryz.t76 := Tryz.type76
@[cbv_eval] theorem Vl : T0.info? 77 = some Tryz.t77 := Tryz.type77
@[cbv_eval] theorem Vm : T0.info? 80 = some Tryz.t80 := Tryz.type80
@[cbv_eval] theorem Vn : T0.info? 83 = some Tryz.t83 := Tryz.type83
@[cbv_eval] theorem Vo : T0.info? 84 = some Tryz.t84 := Tryz.type84
@[cbv_eval] theorem Vp : T0.info? 85 = some Tryz.t85 := Tryz.type85
@[cbv_eval] theorem Vq : T0.info? 86 = some Tryz.t86 := Tryz.type86
@[cbv_eval] theorem Vr : T0.info? 88 = some Tryz.t88 := Tryz.type88
@[cbv_eval] theorem Um : T0.info? 102 = some Tryz.t102 := Tryz.type102
@[cbv_eval] theorem Un : T0.info? 103 = some Tryz.t103 := Tryz.type103
@[cbv_eval] theorem Uo : T0.info? 105 = some Tryz.t105 := Tryz.type105
@[cbv_eval] theorem Up : T0.info? 106 = some Tryz.t106 := Tryz.type106
@[cbv_eval] theorem Uq : T0.info? 108 = some Tryz.t108 := Tryz.type108
@[cbv_eval] theorem Ur : T0.info? 109 = some Tryz.t109 := Tryz.type109
@[cbv_eval] theorem Us : T0.info? 112 = some Tryz.t112 := Tryz.type112
@[cbv_eval] theorem Ut : T0.info? 113 = some Tryz.t113 := Tryz.type113
@[cbv_eval] theorem Uu : T0.info? 116 = some Tryz.t116 := Tryz.type116
@[cbv_eval] theorem Uv : T0.info? 121 = some Tryz.t121 := Tryz.type121
@[cbv_eval] theorem Uw : T0.info? 123 = some Tryz.t123 := Tryz.type123
@[cbv_eval] theorem Ux : T0.info? 124 = some Tryz.t124 := Tryz.type124
@[cbv_eval] theorem Uy : T0.info? 125 = some Tryz.t125 := Tryz.type125
@[cbv_eval] theorem Uz : T0.info? 126 = some Tryz.t126 := Tryz.type126
@[cbv_eval] theorem UA : T0.info? 128 = some Tryz.t128 := Tryz.type128
@[cbv_eval] theorem UB : T0.info? 129 = some Tryz.t129 := Tryz.type129
@[cbv_eval] theorem UC : T0.info? 133 = some Tryz.t133 := Tryz.type133
@[cbv_eval] theorem UD : T0.info? 136 = some Tryz.t136 := Tryz.type136
@[cbv_eval] theorem UE : T0.info? 138 = some Tryz.t138 := Tryz.type138
@[cbv_eval] theorem UF : T0.info? 139 = some Tryz.t139 := Tryz.type139
@[cbv_eval] theorem UG : T0.info? 140 = some Tryz.t140 := Tryz.type140
@[cbv_eval] theorem UH : T0.info? 141 = some Tryz.t141 := Tryz.type141
@[cbv_eval] theorem UI : T0.info? 142 = some Tryz.t142 := Tryz.type142
@[cbv_eval] theorem UJ : T0.info? 144 = some Tryz.t144 := Tryz.type144
@[cbv_eval] theorem UK : T0.info? 165 = some Tryz.t165 := Tryz.type165
/-- The bodies of the loops, inner ones first. -/
def Qr:Code→List Code
 | .seq a b=>Qr a++Qr b
 | .cond _ a b=>Qr a++Qr b
 | .block _ c=>Qr c
 | .loop c=>Qr c++[c]
 |_=>[]
/-- The operations of a code, where what is kept is told; loops stand as they are told. -/
def gt (L:Lk) (nt:Nat):Code→aG→Option aG
 | .skip,.skip=>some .skip
 | .region _ ops false,.pC _ xc=>(du L nt ops ops.toList).bind fun os=>some (.pC os xc)
 | .region _ ops true,.iW ord _ fl xc=>(kL L nt ops ord fl).bind fun os=>some (.iW ord os fl xc)
 | .seq a b,.seq x y=>(gt L nt a x).bind fun x'=>(gt L nt b y).bind fun y'=>some (.seq x' y')
 | .cond c a b,.cond _ x y xc=>(cX L c).bind fun c'=>(gt L nt a x).bind fun x'=>(gt L nt b y).bind fun y'=>some (.cond c' x' y' xc)
 | .block id c,.block _ x xc=>(gt L nt c x).bind fun x'=>some (.block id x' xc)
 | .loop _,.loop xc x=>some (.loop xc x)
 | .exit id,.exit _=>some (.exit id)
 | .ret,.ret=>some .ret
 |_,_=>none
noncomputable def gL (fn:Func) (i:Nat) (x:aG):Option aG:=fn.body.bind fun c=>((Qr c)[i]?).bind fun d=>gt L0 fn.ntmps d x
noncomputable def gF (fn:Func) (x:aG):Option (aG×List RV):=fn.body.bind fun c=>(gt L0 fn.ntmps c x).bind fun y=>(cD L0 fn.results.toList).bind fun r=>some (y,r)
def bt:Nat→Nat→Nat→List Nat
 |0,_,_=>[]
 |n+1,i,m=>if m=0 then []else if m%2=1 then i::bt n (i+1) (m/2)else bt n (i+1) (m/2)
def b (m:Nat):List Nat:=bt 400 0 m
def d (m t:Nat):List Nat:=bt 400 0 m++[t]
def od (a n:Nat):List Nat:=a::(List.range n).filter fun x=> !(x==a)
def s (k:List Nat) (r:aG):aG:=.seq (.pC [] k) r
def r (k:List Nat):aG:=.pC [] k
def c (x y:aG) (k:List Nat):aG:=.cond (.t 0) x y k
@[cbv_opaque] def f7L0 : aG := by
  refine(fun (_:gL Tryz.f43 0 ((.seq (s [7,28] (c .skip (.exit 0) [7])) (.block 1 (r [7,8]) [7,8])))=some ?x)=> ?x) ?_;rotate_left;conv=>lhs;cbv
def f7:fh:=by
 refine(fun (_:gF Tryz.f43 ((s [0,1] (.seq (s [0,1,14] (c (s [4,5,6] .ret) .skip [0,1])) (s [7] (.seq (s [7,8] (.block 0 (.loop [7,8] f7L0) [7])) (.seq (s [7,35] (c (.seq (.iW (.range 7) [] [] [4,5,6]) .ret) .skip [7])) (s [7] (.seq (.iW (.range 14) [] [(3,[1]),(4,[1])] [4,5,6]) .ret))))))))=some (?b, ?r))=>⟨2, ?r,true, ?b⟩) ?_;rotate_left 2;conv=>lhs;cbv
def f9:fh:=by
 refine(fun (_:gF Tryz.f11 ((s [0] (s [2] .ret)))=some (?b, ?r))=>⟨1, ?r,true, ?b⟩) ?_;rotate_left 2;conv=>lhs;cbv
@[cbv_opaque] def f13L0 : aG := by
  refine(fun (_:gL Tryz.f10 4 ((.seq (s (d 352364545 194) (c .skip (.exit 8) [0,11,13,15,24,26,28])) (.seq (.block 9 (r (b 352364545)) [0,11,13,15,24,26,28]) (r (b 352364545)))))=some ?x)=> ?x) ?_;rotate_left;conv=>lhs;cbv
@[cbv_opaque] def f13L1 : aG := by
  refine(fun (_:gL Tryz.f10 3 ((.seq (s (d 61122561 177) (c .skip (.exit 6) [0,11,13,15,18,21,23,24,25])) (.seq (.block 7 (r (b 61122561)) [0,11,13,15,18,21,23,24,25]) (r (b 61122561)))))=some ?x)=> ?x) ?_;rotate_left;conv=>lhs;cbv
@[cbv_opaque] def f13L2 : aG := by
  refine(fun (_:gL Tryz.f10 2 ((.seq (s (d 7645185 142) (c .skip (.exit 4) [0,11,13,15,18,20,21,22])) (.seq (.block 5 (r (b 7645185)) [0,11,13,15,18,20,21,22]) (r (b 7645185)))))=some ?x)=> ?x) ?_;rotate_left;conv=>lhs;cbv
@[cbv_opaque] def f13L3 : aG := by
  refine(fun (_:gL Tryz.f10 1 ((.seq (s (d 239617 122) (c .skip (.exit 2) [0,11,13,15,16,17])) (.seq (.block 3 (r (b 239617)) [0,11,13,15,16,17]) (r (b 239617)))))=some ?x)=> ?x) ?_;rotate_left;conv=>lhs;cbv
@[cbv_opaque] def f13L4 : aG := by
  refine(fun (_:gL Tryz.f10 0 ((.seq (s (d 113 43) (c .skip (.exit 0) [0,4,5,6])) (.seq (.block 1 (.seq (s (d 113 51) (c (s (b 113) (.exit 1)) .skip [0,4,5,6])) (s (b 241) (s (b 753) (s (b 625) (r (b 113)))))) [0,4,5,6]) (r (b 113)))))=some ?x)=> ?x) ?_;rotate_left;conv=>lhs;cbv
def f13:fh:=by
 refine(fun (_:gF Tryz.f10 ((s [0] (.seq (s [0,35] (c (s [2,3] .ret) .skip [0])) (.seq (.iW (.range 4) [] [] (b 49)) (s (b 49) (.seq (s (b 113) (.block 0 (.loop [0,4,5,6] f13L4) [0,4,5])) (s [0,5,11] (s [0,11,13] (s [0,11,13] (s [0,11,13] (s (b 43009) (s (b 43009) (s (b 108545) (.seq (s (b 239617) (.block 2 (.loop [0,11,13,15,16,17] f13L3) [0,11,13,15,16])) (s (b 305153) (s (b 1353729) (s (b 3450881) (.seq (s (b 7645185) (.block 4 (.loop [0,11,13,15,18,20,21,22] f13L2) [0,11,13,15,18,21])) (s (b 10790913) (s (b 27568129) (s (b 27568129) (s (b 27568129) (s (b 27568129) (s (b 27568129) (.seq (s (b 61122561) (.block 6 (.loop [0,11,13,15,18,21,23,24,25] f13L1) [0,11,13,15,18,24])) (s (b 83929089) (.seq (s (b 352364545) (.block 8 (.loop [0,11,13,15,24,26,28] f13L0) [0,11,13,24])) (s [0,13,24,29] (s [0,24,29,31] (s [24] (s [2,3] .ret)))))))))))))))))))))))))))))))=some (?b, ?r))=>⟨1, ?r,true, ?b⟩) ?_;rotate_left 2;conv=>lhs;cbv
def f14:fh:=by
 refine(fun (_:gF Tryz.f63 ((s [0] (s [2] .ret)))=some (?b, ?r))=>⟨1, ?r,false, ?b⟩) ?_;rotate_left 2;conv=>lhs;cbv
def f15:fh:=by
 refine(fun (_:gF Tryz.f64 ((s [0] (s [0,3] (.seq (s [0,3,8] (.block 0 (s (b 2313) (c (s [0,3,17] (c (r [3]) .skip [3])) (s [0,3,8,20] (c (r [3]) (s [0,3,29] (c (r [3]) (r [3]) [3])) [3])) [3])) [3])) (s [2] .ret)))))=some (?b, ?r))=>⟨1, ?r,false, ?b⟩) ?_;rotate_left 2;conv=>lhs;cbv
def f16:fh:=by
 refine(fun (_:gF Tryz.f65 ((s [0] (.seq (s [0,4] (c (s [2] .ret) .skip [0])) (s [] (s [2] .ret)))))=some (?b, ?r))=>⟨1, ?r,false, ?b⟩) ?_;rotate_left 2;conv=>lhs;cbv
def f17:fh:=by
 refine(fun (_:gF Tryz.f66 ((s [0] (.seq (s [0,4] (c (s [2] .ret) .skip [0])) (s [2] .ret))))=some (?b, ?r))=>⟨1, ?r,false, ?b⟩) ?_;rotate_left 2;conv=>lhs;cbv
@[cbv_opaque] def f22L0 : aG := by
  refine(fun (_:gL Tryz.f29 0 ((.seq (s (b 38) (c .skip (.exit 0) [1,2])) (.seq (.block 1 (s (b 14) (.seq (s (b 8206) (c (r (b 14)) (s (d 14 19) (c (r (b 14)) .skip [1,2,3])) [1,2,3])) (r [1,2]))) [1,2]) (r [1,2]))))=some ?x)=> ?x) ?_;rotate_left;conv=>lhs;cbv
def f22:fh:=by
 refine(fun (_:gF Tryz.f29 ((s [] (s [1] (.seq (s [1,2] (.block 0 (.loop [1,2] f22L0) [1])) (s [0] .ret)))))=some (?b, ?r))=>⟨0, ?r,true, ?b⟩) ?_;rotate_left 2;conv=>lhs;cbv
@[cbv_opaque] def f23L0 : aG := by
  refine(fun (_:gL Tryz.f30 0 ((.seq (s (b 38) (c .skip (.exit 0) [1,2])) (.seq (.block 1 (r [1,2]) [1,2]) (r [1,2]))))=some ?x)=> ?x) ?_;rotate_left;conv=>lhs;cbv
def f23:fh:=by
 refine(fun (_:gF Tryz.f30 ((s [] (s [1] (.seq (s [1,2] (.block 0 (.loop [1,2] f23L0) [1])) (s [0] .ret)))))=some (?b, ?r))=>⟨0, ?r,true, ?b⟩) ?_;rotate_left 2;conv=>lhs;cbv
def f27:fh:=by
 refine(fun (_:gF Tryz.f27 ((s [0] (s [3,4] (s [2] .ret))))=some (?b, ?r))=>⟨1, ?r,true, ?b⟩) ?_;rotate_left 2;conv=>lhs;cbv
@[cbv_opaque] def f28L0 : aG := by
  refine(fun (_:gL Tryz.f35 0 ((.seq (.block 1 (s (b 117) (s (d 117 25) (c (s [2,3] .ret) .skip [0,2,4]))) [0,2,4]) (r (b 21))))=some ?x)=> ?x) ?_;rotate_left;conv=>lhs;cbv
def f28:fh:=by
 refine(fun (_:gF Tryz.f35 ((s [0,2] (.seq (s [0,2,13] (c (s [2,3] .ret) .skip [0,2])) (s (b 21) (.block 0 (.loop [0,2,4] f28L0) [2,3])))))=some (?b, ?r))=>⟨1, ?r,true, ?b⟩) ?_;rotate_left 2;conv=>lhs;cbv
@[cbv_opaque] def f29L0 : aG := by
  refine(fun (_:gL Tryz.f36 0 ((.seq (.block 1 (s (b 117) (s (d 117 25) (c (s [2,3] .ret) .skip [0,2,4]))) [0,2,4]) (r (b 21))))=some ?x)=> ?x) ?_;rotate_left;conv=>lhs;cbv
def f29:fh:=by
 refine(fun (_:gF Tryz.f36 ((s [0,2] (.seq (s [0,2,13] (c (s [2,3] .ret) .skip [0,2])) (s (b 21) (.block 0 (.loop [0,2,4] f29L0) [2,3])))))=some (?b, ?r))=>⟨1, ?r,true, ?b⟩) ?_;rotate_left 2;conv=>lhs;cbv
@[cbv_opaque] def f30L0 : aG := by
  refine(fun (_:gL Tryz.f37 2 ((.seq (s (d 8898 129) (c .skip (.exit 6) [1,6,7,9,13])) (.seq (.block 7 (r (b 8898)) [1,6,7,9,13]) (r (b 8898)))))=some ?x)=> ?x) ?_;rotate_left;conv=>lhs;cbv
@[cbv_opaque] def f30L1 : aG := by
  refine(fun (_:gL Tryz.f37 1 ((.seq (s (d 7874 103) (c .skip (.exit 4) [1,6,7,9,10,11,12])) (.seq (.block 5 (.seq (.iW (.range 11) [] [] (b 7874)) (r (b 7874))) [1,6,7,9,10,11,12]) (r (b 7874)))))=some ?x)=> ?x) ?_;rotate_left;conv=>lhs;cbv
@[cbv_opaque] def f30L2 : aG := by
  refine(fun (_:gL Tryz.f37 3 ((.block 3 (s (b 1730) (s (b 3778) (.seq (s (b 7874) (.block 4 (.loop [1,6,7,9,10,11,12] f30L1) [1,6,7,9,11])) (.seq (s (d 706 124) (c (s [4,5] .ret) .skip [1,6,7,9])) (s (b 8898) (.block 6 (.loop [1,6,7,9,13] f30L0) [1,6,7,9])))))) [1,6,7,9]))=some ?x)=> ?x) ?_;rotate_left;conv=>lhs;cbv
@[cbv_opaque] def f30L3 : aG := by
  refine(fun (_:gL Tryz.f37 0 ((.seq (s (d 451 33) (c .skip (.exit 0) [0,1,6,7,8])) (.seq (.block 1 (.seq (s (d 451 47) (c (s [4,5] .ret) .skip [0,1,6,7,8])) (s (d 451 52) (c (s (b 451) (r (b 451))) .skip [0,1,6,7,8]))) [0,1,6,7,8]) (r (b 451)))))=some ?x)=> ?x) ?_;rotate_left;conv=>lhs;cbv
def f30:fh:=by
 refine(fun (_:gF Tryz.f37 ((s [0,1] (.seq (s [0,1,29] (c (s [4,5] .ret) .skip [0,1])) (s (b 195) (.seq (s (b 451) (.block 0 (.loop [0,1,6,7,8] f30L3) [0,1,6,7])) (.seq (s (d 195 72) (c (s (b 195) (r (b 195))) (s (d 195 83) (c (s (b 195) (r (b 195))) .skip [0,1,6,7])) [0,1,6,7])) (.seq (s (d 195 94) (c (s [4,5] .ret) .skip [0,1,6,7])) (s (b 706) (.block 2 (.loop [1,6,7,9] f30L2) [4,5])))))))))=some (?b, ?r))=>⟨2, ?r,true, ?b⟩) ?_;rotate_left 2;conv=>lhs;cbv
@[cbv_opaque] def f31L0 : aG := by
  refine(fun (_:gL Tryz.f38 0 ((.seq (s (b 1059) (c .skip (.exit 0) [0,1,5])) (.seq (.block 1 (s (d 35 18) (c (s [4] .ret) .skip [0,1,5])) [0,1,5]) (r (b 35)))))=some ?x)=> ?x) ?_;rotate_left;conv=>lhs;cbv
def f31:fh:=by
 refine(fun (_:gF Tryz.f38 ((s [0,1] (.seq (s (b 35) (.block 0 (.loop [0,1,5] f31L0) [1])) (s [4] .ret))))=some (?b, ?r))=>⟨2, ?r,true, ?b⟩) ?_;rotate_left 2;conv=>lhs;cbv
def f32:fh:=by
 refine(fun (_:gF Tryz.f39 ((s [] (s [0] .ret)))=some (?b, ?r))=>⟨0, ?r,true, ?b⟩) ?_;rotate_left 2;conv=>lhs;cbv
@[cbv_opaque] def f33L0 : aG := by
  refine(fun (_:gL Tryz.f19 0 ((.seq (s (d 135 35) (c .skip (.exit 0) [0,1,2,7])) (.seq (.block 1 (r (b 135)) [0,1,2,7]) (r (b 135)))))=some ?x)=> ?x) ?_;rotate_left;conv=>lhs;cbv
def f33:fh:=by
 refine(fun (_:gF Tryz.f19 ((s (b 7) (.seq (s (d 7 32) (c (s [6] .ret) .skip [0,1,2])) (.seq (s (b 135) (.block 0 (.loop [0,1,2,7] f33L0) [])) (s [6] .ret)))))=some (?b, ?r))=>⟨3, ?r,false, ?b⟩) ?_;rotate_left 2;conv=>lhs;cbv
@[cbv_opaque] def f34L0 : aG := by
  refine(fun (_:gL Tryz.f28 0 ((.seq (s (d 481 30) (c .skip (.exit 2) [0,5,6,7,8])) (.seq (.block 3 (s (d 481 38) (c (s (b 481) (r (b 481))) .skip [0,5,6,7,8])) [0,5,6,7,8]) (r (b 481)))))=some ?x)=> ?x) ?_;rotate_left;conv=>lhs;cbv
@[cbv_opaque] def f34L1 : aG := by
  refine(fun (_:gL Tryz.f28 1 ((.seq (s (d 225 22) (c .skip (.exit 0) [0,5,6,7])) (.seq (.block 1 (s (b 225) (s (b 481) (.block 2 (.loop [0,5,6,7,8] f34L0) [0,5,6,7]))) [0,5,6,7]) (r (b 225)))))=some ?x)=> ?x) ?_;rotate_left;conv=>lhs;cbv
def f34:fh:=by
 refine(fun (_:gF Tryz.f28 ((s [0] (s [0,4] (.seq (s [0,4,16] (c (s [2,3] .ret) .skip [0])) (s [0,5] (s (b 97) (.seq (s (b 225) (.block 0 (.loop [0,5,6,7] f34L1) [5])) (s [2,3] .ret))))))))=some (?b, ?r))=>⟨1, ?r,true, ?b⟩) ?_;rotate_left 2;conv=>lhs;cbv
@[cbv_opaque] def f35L0 : aG := by
  refine(fun (_:gL Tryz.f40 0 ((.seq (s (d 41 41) (c .skip (.exit 0) [0,3,5])) (.seq (.block 1 (r (b 41)) [0,3,5]) (r (b 41)))))=some ?x)=> ?x) ?_;rotate_left;conv=>lhs;cbv
def f35:fh:=by
 refine(fun (_:gF Tryz.f40 ((s [0,3] (.seq (.seq (.iW (.range 31) [] [] [0,3,36]) (c (s [4] .ret) .skip [0,3])) (.seq (s (b 41) (.block 0 (.loop [0,3,5] f35L0) [])) (s [4] .ret)))))=some (?b, ?r))=>⟨2, ?r,false, ?b⟩) ?_;rotate_left 2;conv=>lhs;cbv
@[cbv_opaque] def f36L0 : aG := by
  refine(fun (_:gL Tryz.f31 0 ((.seq (s (b 65807) (c .skip (.exit 0) [0,1,2,3,8])) (.seq (.block 1 (.seq (s (d 271 24) (c (s (b 271) (.exit 1)) .skip [0,1,2,3,8])) (s (b 783) (s (b 783) (s (b 271) (s (b 2319) (s (b 2319) (r (b 271)))))))) [0,1,2,3,8]) (r (b 271)))))=some ?x)=> ?x) ?_;rotate_left;conv=>lhs;cbv
def f36:fh:=by
 refine(fun (_:gF Tryz.f31 ((.seq (s (b 271) (.block 0 (.loop [0,1,2,3,8] f36L0) [0,2])) (r [])))=some (?b, ?r))=>⟨4, ?r,false, ?b⟩) ?_;rotate_left 2;conv=>lhs;cbv
def f37:fh:=by
 refine(fun (_:gF Tryz.f21 ((s [0] (s [2] .ret)))=some (?b, ?r))=>⟨1, ?r,false, ?b⟩) ?_;rotate_left 2;conv=>lhs;cbv
def f38:fh:=by
 refine(fun (_:gF Tryz.f88 ((s [0,1] (s (b 97) (.seq (s [0,5,17] (c (r [5]) .skip [5])) (s [4] .ret)))))=some (?b, ?r))=>⟨2, ?r,false, ?b⟩) ?_;rotate_left 2;conv=>lhs;cbv
@[cbv_opaque] def f39L0 : aG := by
  refine(fun (_:gL Tryz.f89 0 ((.seq (s [0,2,26] (c .skip (.exit 0) [0,2])) (.seq (.block 1 (s (b 13) (s (d 13 35) (c (r [0,2]) .skip [0,2]))) [0,2]) (r [0,2]))))=some ?x)=> ?x) ?_;rotate_left;conv=>lhs;cbv
def f39:fh:=by
 refine(fun (_:gF Tryz.f89 ((s [0] (s [0,2] (.seq (s [0,2,15] (c (r [0,2]) .skip [0,2])) (.block 0 (.loop [0,2] f39L0) [])))))=some (?b, ?r))=>⟨1, ?r,false, ?b⟩) ?_;rotate_left 2;conv=>lhs;cbv
@[cbv_opaque] def f40L0 : aG := by
  refine(fun (_:gL Tryz.f90 0 ((.seq (s (b 2055) (c .skip (.exit 0) [0,1,2])) (.block 1 (s (b 71) (.block 2 (s (d 71 19) (c (r (b 7)) (s (d 71 26) (c .ret (r (b 7)) [0,1,2])) [0,1,2])) [0,1,2])) [0,1,2])))=some ?x)=> ?x) ?_;rotate_left;conv=>lhs;cbv
def f40:fh:=by
 refine(fun (_:gF Tryz.f90 ((.block 0 (.loop [0,1,2] f40L0) []))=some (?b, ?r))=>⟨3, ?r,false, ?b⟩) ?_;rotate_left 2;conv=>lhs;cbv
@[cbv_opaque] def f41L0 : aG := by
  refine(fun (_:gL Tryz.f69 1 ((.seq (s [3,6,7,45] (c .skip (.exit 2) [3,6,7])) (.seq (.block 3 (s [3,6,7] (s [3,6,7] (.iW (.range 16) [] [] [3,6,7]))) [3,6,7]) (r [3,6,7]))))=some ?x)=> ?x) ?_;rotate_left;conv=>lhs;cbv
@[cbv_opaque] def f41L1 : aG := by
  refine(fun (_:gL Tryz.f69 0 ((s (b 15368) (.seq (c .skip (.exit 0) [3,10,11,12]) (.seq (.block 1 (s (b 7224) (s (b 269368) (c (.seq (.iW (.range 11) [] [] (b 7224)) (.iW (.range 15) [] [] (b 7176))) .skip [3,10,11,12]))) [3,10,11,12]) (r (b 7176))))))=some ?x)=> ?x) ?_;rotate_left;conv=>lhs;cbv
def f41:fh:=by
 refine(fun (_:gF Tryz.f69 ((s [0] (s [0,3] (.seq (s (b 7176) (.block 0 (.loop [3,10,11,12] f41L1) [3])) (s [3,6] (.seq (s [3,6,7] (.block 2 (.loop [3,6,7] f41L0) [3])) (s [2] .ret)))))))=some (?b, ?r))=>⟨1, ?r,true, ?b⟩) ?_;rotate_left 2;conv=>lhs;cbv
def f42:fh:=by
 refine(fun (_:gF Tryz.f24 ((s [] (s [0] .ret)))=some (?b, ?r))=>⟨0, ?r,true, ?b⟩) ?_;rotate_left 2;conv=>lhs;cbv
@[cbv_opaque] def f43L0 : aG := by
  refine(fun (_:gL Tryz.f25 0 ((.seq (s [7,8,37] (c .skip (.exit 0) [7,8])) (.block 1 (.iW (.range 10) [] [] [7,8]) [7,8])))=some ?x)=> ?x) ?_;rotate_left;conv=>lhs;cbv
def f43:fh:=by
 refine(fun (_:gF Tryz.f25 ((s [0,1] (.seq (s [0,1,10] (c (r [0,1]) .skip [0,1])) (s (b 97) (.seq (s [0,6,26] (c (r [0,6]) .skip [0,6])) (s [0,7] (s [7,8] (.seq (.block 0 (.loop [7,8] f43L0) [7]) (s [4] .ret)))))))))=some (?b, ?r))=>⟨2, ?r,true, ?b⟩) ?_;rotate_left 2;conv=>lhs;cbv
def f44:fh:=by
 refine(fun (_:gF Tryz.f91 ((s (b 13) (.seq (s (d 13 25) (c (s [] .ret) .skip [0,2,3])) (s (b 21) (.seq (s (d 21 37) (c .ret .skip [0,2,4])) (.seq (.iW (.range 8) [] [] (b 97)) (.seq (s (d 97 62) (c (s [] .ret) .skip [0,5,6])) (r []))))))))=some (?b, ?r))=>⟨1, ?r,false, ?b⟩) ?_;rotate_left 2;conv=>lhs;cbv
def f45:fh:=by
 refine(fun (_:gF Tryz.f92 ((s [0,1,8] (c (r []) .skip [])))=some (?b, ?r))=>⟨2, ?r,false, ?b⟩) ?_;rotate_left 2;conv=>lhs;cbv
def f50:fh:=by
 refine(fun (_:gF Tryz.f59 ((s [0] (.seq (s [0,11] (c (s (b 28) .ret) .skip [0])) (.seq (s [0,13] (c (s (b 28) .ret) .skip [0])) (.seq (s [0,15] (c (s (b 28) .ret) .skip [0])) (s [0,5] (s (b 28) .ret)))))))=some (?b, ?r))=>⟨1, ?r,true, ?b⟩) ?_;rotate_left 2;conv=>lhs;cbv
def f51:fh:=by
 refine(fun (_:gF Tryz.f60 ((s [0] (.seq (s [0,11] (c (s (b 28) .ret) .skip [0])) (.seq (s [0,13] (c (s (b 28) .ret) .skip [0])) (s [0,5] (s (b 28) .ret))))))=some (?b, ?r))=>⟨1, ?r,true, ?b⟩) ?_;rotate_left 2;conv=>lhs;cbv
def f52:fh:=by
 refine(fun (_:gF Tryz.f55 ((s [0] (.seq (s [0,6] (c (s [2] .ret) .skip [0])) (s [3] (.seq (s [3,10] (c (s [2] .ret) .skip [3])) (.seq (s [12] (c (s [2] .ret) .skip [])) (s [2] .ret)))))))=some (?b, ?r))=>⟨1, ?r,true, ?b⟩) ?_;rotate_left 2;conv=>lhs;cbv
@[cbv_opaque] def f55L0 : aG := by
  refine(fun (_:gL Tryz.f54 0 ((.seq (s (d 113 37) (c .skip (.exit 2) [0,4,5,6])) (.seq (.block 3 (r (b 113)) [0,4,5,6]) (r (b 113)))))=some ?x)=> ?x) ?_;rotate_left;conv=>lhs;cbv
@[cbv_opaque] def f55L1 : aG := by
  refine(fun (_:gL Tryz.f54 1 ((.seq (s (b 8241) (c .skip (.exit 0) [0,4,5])) (.seq (.block 1 (.seq (s (d 49 21) (c (r (b 49)) .skip [0,4,5])) (s (b 113) (.block 2 (.loop [0,4,5,6] f55L0) [0,4,5]))) [0,4,5]) (r (b 49)))))=some ?x)=> ?x) ?_;rotate_left;conv=>lhs;cbv
def f55:fh:=by
 refine(fun (_:gF Tryz.f54 ((s [0] (.seq (s [0,9] (c (s [2,3] .ret) .skip [0])) (s [0,4] (.seq (s (b 49) (.block 0 (.loop [0,4,5] f55L1) [4])) (s [2,3] .ret))))))=some (?b, ?r))=>⟨1, ?r,true, ?b⟩) ?_;rotate_left 2;conv=>lhs;cbv
@[cbv_opaque] def f56L0 : aG := by
  refine(fun (_:gL Tryz.f61 2 ((.seq (s (d 3849 89) (c .skip (.exit 6) [0,3,8,9,10,11])) (.seq (.block 7 (r (b 3849)) [0,3,8,9,10,11]) (r (b 3849)))))=some ?x)=> ?x) ?_;rotate_left;conv=>lhs;cbv
@[cbv_opaque] def f56L1 : aG := by
  refine(fun (_:gL Tryz.f61 3 ((.seq (s (d 777 78) (c .skip (.exit 4) [0,3,8,9])) (.seq (.block 5 (s (b 1801) (.seq (s (b 3849) (.block 6 (.loop [0,3,8,9,10,11] f56L0) [0,3,8,9,10])) (r (b 777)))) [0,3,8,9]) (r (b 777)))))=some ?x)=> ?x) ?_;rotate_left;conv=>lhs;cbv
@[cbv_opaque] def f56L2 : aG := by
  refine(fun (_:gL Tryz.f61 1 ((.seq (s (d 41 29) (c .skip (.exit 2) [0,3,5])) (.seq (.block 3 (s (b 105) (s (b 233) (.seq (.iW (.range 12) [] [] (b 233)) (.seq (.iW (.range 12) [] [] (b 233)) (.iW (.range 17) [] [] (b 41)))))) [0,3,5]) (r (b 41)))))=some ?x)=> ?x) ?_;rotate_left;conv=>lhs;cbv
@[cbv_opaque] def f56L3 : aG := by
  refine(fun (_:gL Tryz.f61 0 ((.seq (s (d 25 17) (c .skip (.exit 0) [0,3,4])) (.seq (.block 1 (r (b 25)) [0,3,4]) (r (b 25)))))=some ?x)=> ?x) ?_;rotate_left;conv=>lhs;cbv
def f56:fh:=by
 refine(fun (_:gF Tryz.f61 ((s [0] (s [0,3] (.seq (s (b 25) (.block 0 (.loop [0,3,4] f56L3) [0,3])) (.seq (s (b 41) (.block 2 (.loop [0,3,5] f56L2) [0,3])) (s [0,3,8] (.seq (s (b 777) (.block 4 (.loop [0,3,8,9] f56L1) [8])) (s [2] .ret))))))))=some (?b, ?r))=>⟨1, ?r,true, ?b⟩) ?_;rotate_left 2;conv=>lhs;cbv
def f57:fh:=by
 refine(fun (_:gF Tryz.f47 ((.seq (s [0,1,10] (c (r [0,1]) .skip [0,1])) (s (b 19) (.seq (.iW (.range 23) [] [] [0]) (r [])))))=some (?b, ?r))=>⟨2, ?r,false, ?b⟩) ?_;rotate_left 2;conv=>lhs;cbv
@[cbv_opaque] def f58L0 : aG := by
  refine(fun (_:gL Tryz.f103 0 ((s [0,6,32,33,34] (.seq (c .skip (.exit 1) [0,6,32,33]) (.seq (.block 2 (s [0,6,7,32,33] (.seq (.iW (.range 23) [] [] [0,6,32,33]) (r [0,6,32,33]))) [0,6,32,33]) (r [0,6,32,33])))))=some ?x)=> ?x) ?_;rotate_left;conv=>lhs;cbv
def f58:fh:=by
 refine(fun (_:gF Tryz.f103 ((s [0,1] (.seq (.block 0 (s [0,1,8] (c (s [4,5] .ret) (s [0,1,11] (c (s [4,5] .ret) (.seq (.iW (.range 14) [] [] [0,1,18]) (c (s [4,5] .ret) .skip [0,1])) [0,1])) [0,1])) [0,1]) (s (b 67) (.seq (s [0,6,32,33] (.block 1 (.loop [0,6,32,33] f58L0) [6])) (s [4,5] .ret))))))=some (?b, ?r))=>⟨2, ?r,false, ?b⟩) ?_;rotate_left 2;conv=>lhs;cbv
def f59:fh:=by
 refine(fun (_:gF Tryz.f104 ((.seq (.seq (.iW (.range 10) [] [] [0,1,13]) (c (r [0,1]) .skip [0,1])) (s [0,1,20] (c (r []) .skip []))))=some (?b, ?r))=>⟨2, ?r,false, ?b⟩) ?_;rotate_left 2;conv=>lhs;cbv
@[cbv_opaque] def f60L0 : aG := by
  refine(fun (_:gL Tryz.f105 0 ((.seq (s (d 99 17) (c .skip (.exit 0) [0,1,5,6])) (.seq (.block 1 (s (b 99) (s (b 483) (s (d 227 39) (c (s [4] .ret) .skip [0,1,5,6])))) [0,1,5,6]) (r (b 99)))))=some ?x)=> ?x) ?_;rotate_left;conv=>lhs;cbv
def f60:fh:=by
 refine(fun (_:gF Tryz.f105 ((s [0,1] (s (b 35) (.seq (s (b 99) (.block 0 (.loop [0,1,5,6] f60L0) [0])) (s [] (s [4] .ret))))))=some (?b, ?r))=>⟨2, ?r,false, ?b⟩) ?_;rotate_left 2;conv=>lhs;cbv
@[cbv_opaque] def f61L0 : aG := by
  refine(fun (_:gL Tryz.f106 0 ((.seq (s [0,6,8,53] (c .skip (.exit 0) [0,6,8])) (.seq (.block 1 (.iW (.range 15) [] [] [0,6,8]) [0,6,8]) (r [0,6,8]))))=some ?x)=> ?x) ?_;rotate_left;conv=>lhs;cbv
def f61:fh:=by
 refine(fun (_:gF Tryz.f106 ((s (b 69) (.seq (s (d 69 20) (c .ret .skip [0,2,6])) (s [0,6,7] (.seq (s [0,6,7,28] (c .ret .skip [0,6,7])) (s [0,6,8] (.seq (s [0,6,8,42] (c (r [0,6,8]) .skip [0,6,8])) (.block 0 (.loop [0,6,8] f61L0) []))))))))=some (?b, ?r))=>⟨3, ?r,false, ?b⟩) ?_;rotate_left 2;conv=>lhs;cbv
@[cbv_opaque] def f62L0 : aG := by
  refine(fun (_:gL Tryz.f50 1 ((s (b 503316544) (.seq (c .skip (.exit 2) [6,25,26,27]) (.seq (.block 3 (s (b 234881344) (r [6,25,26,27])) [6,25,26,27]) (r [6,25,26,27])))))=some ?x)=> ?x) ?_;rotate_left;conv=>lhs;cbv
@[cbv_opaque] def f62L1 : aG := by
  refine(fun (_:gL Tryz.f50 0 ((s (b 7689) (.seq (c .skip (.exit 0) [0,3,9,10,11]) (.seq (.block 1 (s (b 3625) (s (b 3593) (s (b 1052169) (c (r (b 3593)) .skip [0,3,9,10,11])))) [0,3,9,10,11]) (r (b 3593))))))=some ?x)=> ?x) ?_;rotate_left;conv=>lhs;cbv
def f62:fh:=by
 refine(fun (_:gF Tryz.f50 ((s [0] (s [0,3] (.seq (s (b 3593) (.block 0 (.loop [0,3,9,10,11] f62L1) [0,3])) (s [0,6] (.seq (s [6,25,26,27] (.block 2 (.loop [6,25,26,27] f62L0) [6])) (s [2] .ret)))))))=some (?b, ?r))=>⟨1, ?r,true, ?b⟩) ?_;rotate_left 2;conv=>lhs;cbv
def f63:fh:=by
 refine(fun (_:gF Tryz.f51 ((s [0,1] (.seq (c (s [6,7] (s [4,5] .ret)) .skip [0,1]) (s [8,9] (s [4,5] .ret)))))=some (?b, ?r))=>⟨2, ?r,true, ?b⟩) ?_;rotate_left 2;conv=>lhs;cbv
@[cbv_opaque] def f64L0 : aG := by
  refine(fun (_:gL Tryz.f107 1 ((.seq (s (d 1539 46) (c .skip (.exit 2) [0,1,9,10])) (.block 3 (s (b 7683) (r (b 1539))) [0,1,9,10])))=some ?x)=> ?x) ?_;rotate_left;conv=>lhs;cbv
@[cbv_opaque] def f64L1 : aG := by
  refine(fun (_:gL Tryz.f107 0 ((s (b 3932195) (.seq (c .skip (.exit 0) [0,1,5,18,19,20]) (.seq (.block 1 (s (b 1835299) (r (b 1835043))) [0,1,5,18,19,20]) (r (b 1835043))))))=some ?x)=> ?x) ?_;rotate_left;conv=>lhs;cbv
def f64:fh:=by
 refine(fun (_:gF Tryz.f107 ((s [0,1] (s (b 35) (s (b 99) (.seq (s (b 1835043) (.block 0 (.loop [0,1,5,18,19,20] f64L1) [0,1,5])) (.seq (s (d 35 31) (c (r (b 35)) .skip [0,1,5])) (s [0,1,9] (s (b 1539) (.seq (.block 2 (.loop [0,1,9,10] f64L0) [0,1,10]) (.seq (s [0,10,65] (c (r [10]) .skip [10])) (s [4] .ret)))))))))))=some (?b, ?r))=>⟨2, ?r,false, ?b⟩) ?_;rotate_left 2;conv=>lhs;cbv
def f65:fh:=by
 refine(fun (_:gF Tryz.f108 ((s [0] (.seq (s [0,6] (c (s [2] .ret) .skip [0])) (.seq (s [3] (.block 0 (s [3,12] (c (s [2] .ret) (s [15] (c (s [2] .ret) .skip [])) [])) [])) (s [2] .ret)))))=some (?b, ?r))=>⟨1, ?r,true, ?b⟩) ?_;rotate_left 2;conv=>lhs;cbv
@[cbv_opaque] def f66L0 : aG := by
  refine(fun (_:gL Tryz.f109 0 ((s (b 968) (.seq (c .skip (.exit 0) [3,6,7,8]) (.seq (.block 1 (s (b 488) (r (b 456))) [3,6,7,8]) (r (b 456))))))=some ?x)=> ?x) ?_;rotate_left;conv=>lhs;cbv
def f66:fh:=by
 refine(fun (_:gF Tryz.f109 ((s [0] (s [0,3] (.seq (s (b 456) (.block 0 (.loop [3,6,7,8] f66L0) [3])) (s [2] .ret)))))=some (?b, ?r))=>⟨1, ?r,true, ?b⟩) ?_;rotate_left 2;conv=>lhs;cbv
@[cbv_opaque] def f67L0 : aG := by
  refine(fun (_:gL Tryz.f76 0 ((.seq (s [0,3,15] (c .skip (.exit 0) [0,3])) (.seq (.block 1 (s [0,3,29] (c (s [2] .ret) .skip [0,3])) [0,3]) (r [0,3]))))=some ?x)=> ?x) ?_;rotate_left;conv=>lhs;cbv
def f67:fh:=by
 refine(fun (_:gF Tryz.f76 ((s [0] (.seq (s [0,11] (c (s [2] .ret) .skip [0])) (.seq (s [0,3] (.block 0 (.loop [0,3] f67L0) [])) (s [2] .ret)))))=some (?b, ?r))=>⟨1, ?r,true, ?b⟩) ?_;rotate_left 2;conv=>lhs;cbv
@[cbv_opaque] def f68L0 : aG := by
  refine(fun (_:gL Tryz.f77 0 ((.seq (s (b 281) (c .skip (.exit 0) [0,3,4])) (.seq (.block 1 (s (b 32793) (c (r (b 25)) .skip [0,3,4])) [0,3,4]) (r (b 25)))))=some ?x)=> ?x) ?_;rotate_left;conv=>lhs;cbv
def f68:fh:=by
 refine(fun (_:gF Tryz.f77 ((s [0] (s [0,3] (.seq (s (b 25) (.block 0 (.loop [0,3,4] f68L0) [3])) (s [2] .ret)))))=some (?b, ?r))=>⟨1, ?r,true, ?b⟩) ?_;rotate_left 2;conv=>lhs;cbv
@[cbv_opaque] def f69L0 : aG := by
  refine(fun (_:gL Tryz.f75 0 ((.seq (s (b 537) (c .skip (.exit 0) [0,3,4])) (.seq (.block 1 (s (b 57) (.seq (s (d 57 18) (c (.seq (s (d 25 31) (c (s [2] .ret) .skip [0,3,4])) (r (b 25))) (.seq (s (d 57 62) (c (s [2] .ret) .skip [0,3,4,5])) (r (b 25))) [0,3,4])) (s (d 25 68) (c (s [2] .ret) .skip [0,3,4])))) [0,3,4]) (r (b 25)))))=some ?x)=> ?x) ?_;rotate_left;conv=>lhs;cbv
def f69:fh:=by
 refine(fun (_:gF Tryz.f75 ((s [0] (s [0,3] (.seq (s (b 25) (.block 0 (.loop [0,3,4] f69L0) [])) (s [2] .ret)))))=some (?b, ?r))=>⟨1, ?r,true, ?b⟩) ?_;rotate_left 2;conv=>lhs;cbv
def f70:fh:=by
 refine(fun (_:gF Tryz.f85 ((s [0] (s [0] (r []))))=some (?b, ?r))=>⟨2, ?r,false, ?b⟩) ?_;rotate_left 2;conv=>lhs;cbv
@[cbv_opaque] def f71L0 : aG := by
  refine(fun (_:gL Tryz.f86 0 ((.seq (s (b 2073) (c .skip (.exit 0) [0,3,4])) (.seq (.block 1 (.seq (.iW (.range 28) [] [] (d 25 41)) (c (r (b 25)) .skip [0,3,4])) [0,3,4]) (r (b 25)))))=some ?x)=> ?x) ?_;rotate_left;conv=>lhs;cbv
def f71:fh:=by
 refine(fun (_:gF Tryz.f86 ((s [0] (s [0,3] (.seq (s (b 25) (.block 0 (.loop [0,3,4] f71L0) [0,3])) (s [3] (s [2] .ret))))))=some (?b, ?r))=>⟨1, ?r,false, ?b⟩) ?_;rotate_left 2;conv=>lhs;cbv
def f72:fh:={np:=3,res:=[.tmp 6,.tmp 7],pure:=false,body:=(.seq (.pC [⟨some 6,.mv (.c (.int .i64 0)),none⟩,⟨some 7,.mv (.c (.bool false)),none⟩] [0,1,2]) (.seq (.seq (.iW [0,1,2,3,4,5,6,7,8,9,10,11,12,13,14,15,16,17,18,19,20,21,22,23,24,25,26,27,28,29,30,31,32] [⟨some 8,.mv (.t 1),none⟩,⟨some 9,.bin .lss (.t 8) (.c (.int .i64 1)),none⟩,⟨some 10,.mv (.t 9),none⟩,⟨some 11,.mv (.t 1),(some (10,false))⟩,⟨some 12,.bin .gtr (.t 11) (.c (.int .i64 15)),(some (10,false))⟩,⟨some 13,.pick (.t 10) (.c (.bool true)) (.t 12),none⟩,⟨some 14,.mv (.t 13),none⟩,⟨some 15,.mv (.t 2),(some (14,false))⟩,⟨some 16,.mv (.t 0),(some (14,false))⟩,⟨some 17,.mv (.t 1),(some (14,false))⟩,⟨some 18,.oK (.t 16),(some (14,false))⟩,⟨some 19,.oB 0 (.t 18),(some (14,false))⟩,⟨some 20,.kM 16 1 (.t 19) (.t 17),(some (14,false))⟩,⟨some 21,.load false 1 (.t 20),(some (14,false))⟩,⟨some 22,.bin .lss (.t 15) (.t 21),(some (14,false))⟩,⟨some 23,.pick (.t 14) (.c (.bool true)) (.t 22),none⟩,⟨some 24,.mv (.t 23),none⟩,⟨some 25,.mv (.t 2),(some (24,false))⟩,⟨some 26,.mv (.t 0),(some (24,false))⟩,⟨some 27,.mv (.t 1),(some (24,false))⟩,⟨some 28,.oK (.t 26),(some (24,false))⟩,⟨some 29,.oB 0 (.t 28),(some (24,false))⟩,⟨some 30,.kM 16 1 (.t 29) (.t 27),(some (24,false))⟩,⟨some 31,.load false 1 (.t 30),(some (24,false))⟩,⟨some 32,.bin .sub (.t 25) (.t 31),(some (24,false))⟩,⟨some 33,.mv (.t 0),(some (24,false))⟩,⟨some 34,.mv (.t 1),(some (24,false))⟩,⟨some 35,.oK (.t 33),(some (24,false))⟩,⟨some 36,.oB 16 (.t 35),(some (24,false))⟩,⟨some 37,.kM 16 1 (.t 36) (.t 34),(some (24,false))⟩,⟨some 38,.load false 1 (.t 37),(some (24,false))⟩,⟨some 39,.bin .geq (.t 32) (.t 38),(some (24,false))⟩,⟨some 40,.pick (.t 24) (.c (.bool true)) (.t 39),none⟩] [] [0,1,2,40]) (.cond (.t 40) (.seq (.pC [⟨some 6,.mv (.c (.int .i64 0)),none⟩,⟨some 7,.mv (.c (.bool false)),none⟩] [6,7]) (.ret)) (.skip) [0,1,2])) (.seq (.iW [0,1,2,3,4,5,6,7,8,9,10,11,12,13,14,15,16,17] [⟨some 41,.mv (.t 0),none⟩,⟨some 42,.mv (.t 1),none⟩,⟨some 43,.oK (.t 41),none⟩,⟨some 44,.oB 32 (.t 43),none⟩,⟨some 45,.kM 16 1 (.t 44) (.t 42),none⟩,⟨some 46,.load false 1 (.t 45),none⟩,⟨some 47,.mv (.t 2),none⟩,⟨some 48,.mv (.t 0),none⟩,⟨some 49,.mv (.t 1),none⟩,⟨some 50,.oK (.t 48),none⟩,⟨some 51,.oB 0 (.t 50),none⟩,⟨some 52,.kM 16 1 (.t 51) (.t 49),none⟩,⟨some 53,.load false 1 (.t 52),none⟩,⟨some 54,.bin .sub (.t 47) (.t 53),none⟩,⟨some 55,.oC 1 (.t 46) (.t 54),none⟩,⟨some 56,.load false 1 (.t 55),none⟩,⟨some 6,.mv (.t 56),none⟩,⟨some 7,.mv (.c (.bool true)),none⟩] [] [6,7]) (.ret))))}
def f73:fh:=by
 refine(fun (_:gF Tryz.f113 ((s (b 15) (.seq (s (b 1031) (c (r (b 7)) .skip [0,1,2])) (s [8] .ret))))=some (?b, ?r))=>⟨4, ?r,false, ?b⟩) ?_;rotate_left 2;conv=>lhs;cbv
def f74:fh:=by
 refine(fun (_:gF Tryz.f96 ((s [0] (s [0,5] (.seq (.block 0 (s [0,5,10] (c (s (b 28) .ret) (s [5,17] (c (s (b 28) .ret) (s [5,20] (c (s (b 28) .ret) .skip [5])) [5])) [5])) [5]) (s [5,6] (s (b 28) .ret))))))=some (?b, ?r))=>⟨1, ?r,true, ?b⟩) ?_;rotate_left 2;conv=>lhs;cbv
def f75:fh:=by
 refine(fun (_:gF Tryz.f97 ((s [0] (.seq (.block 0 (s [0,6] (c (s (b 28) .ret) (s [0,13] (c (s (b 28) .ret) .skip [0])) [0])) [0]) (s [0,5] (s (b 28) .ret)))))=some (?b, ?r))=>⟨1, ?r,true, ?b⟩) ?_;rotate_left 2;conv=>lhs;cbv
def f76:fh:=by
 refine(fun (_:gF Tryz.f70 ((s [0,1] (.seq (s (b 67) (c (r [0,1]) .skip [0,1])) (.seq (s [0,1] (s [0,1,16] (c (r [0]) .skip [0]))) (s [4] .ret)))))=some (?b, ?r))=>⟨2, ?r,false, ?b⟩) ?_;rotate_left 2;conv=>lhs;cbv
def f77:fh:=by
 refine(fun (_:gF Tryz.f71 ((s [0,1] (s [6] (s [4,5] .ret))))=some (?b, ?r))=>⟨2, ?r,true, ?b⟩) ?_;rotate_left 2;conv=>lhs;cbv
def f78:fh:=by
 refine(fun (_:gF Tryz.f72 ((s [0,1] (s (b 67) (s (b 195) (s (b 451) (s (b 963) (s (b 1987) (s (b 2755) (s (b 6851) (s (b 12995) (s (b 12931) (s (b 19) (s [4,5] .ret)))))))))))))=some (?b, ?r))=>⟨2, ?r,true, ?b⟩) ?_;rotate_left 2;conv=>lhs;cbv
def f79:fh:=by
 refine(fun (_:gF Tryz.f57 ((s [] (s [0] .ret)))=some (?b, ?r))=>⟨0, ?r,true, ?b⟩) ?_;rotate_left 2;conv=>lhs;cbv
def f80:fh:=by
 refine(fun (_:gF Tryz.f114 ((s (b 7) (.seq (s (b 263) (.block 0 (s (b 775) (c (.seq (s [0,2,13] (c (s [] (s [6,7] .ret)) .skip [0,2])) (.seq (.iW (.range 11) [] [(5,[1])] [6,7]) .ret)) (s [0,1,8,25] (c (s [6,7] .ret) (s [0,1,30] (c (s [6,7] .ret) .skip [1])) [1])) [1])) [1])) (s [6,7] .ret))))=some (?b, ?r))=>⟨3, ?r,false, ?b⟩) ?_;rotate_left 2;conv=>lhs;cbv
def f81:fh:=by
 refine(fun (_:gF Tryz.f68 ((s [0] (s [0,3] (s [2] .ret))))=some (?b, ?r))=>⟨1, ?r,true, ?b⟩) ?_;rotate_left 2;conv=>lhs;cbv
def f82:fh:=by
 refine(fun (_:gF Tryz.f94 ((s [0] (s [2] .ret)))=some (?b, ?r))=>⟨1, ?r,true, ?b⟩) ?_;rotate_left 2;conv=>lhs;cbv
def f83:fh:=by
 refine(fun (_:gF Tryz.f79 ((s [0,1] (s [4] .ret)))=some (?b, ?r))=>⟨2, ?r,true, ?b⟩) ?_;rotate_left 2;conv=>lhs;cbv
@[cbv_opaque] def f84L0 : aG := by
  refine(fun (_:gL Tryz.f98 0 ((s (b 899) (.seq (c .skip (.exit 0) [0,1,7,8]) (.seq (.block 1 (s (b 419) (s (b 65955) (c (s [4] .ret) .skip [0,1,7,8]))) [0,1,7,8]) (r (b 387))))))=some ?x)=> ?x) ?_;rotate_left;conv=>lhs;cbv
def f84:fh:=by
 refine(fun (_:gF Tryz.f98 ((s [0,1] (.seq (s (b 387) (.block 0 (.loop [0,1,7,8] f84L0) [])) (s [4] .ret))))=some (?b, ?r))=>⟨2, ?r,true, ?b⟩) ?_;rotate_left 2;conv=>lhs;cbv
def f118:fh:=by
 refine(fun (_:gF Tryz.f81 ((s [0] (.seq (s [0,4] (c (s [2] .ret) .skip [0])) (s [2] .ret))))=some (?b, ?r))=>⟨1, ?r,false, ?b⟩) ?_;rotate_left 2;conv=>lhs;cbv
def f170:fh:=by
 refine(fun (_:gF Tryz.f6 ((s [0] (.seq (s [0,7] (c (s [2,3] .ret) .skip [0])) (s [0,4] (s [0,4] (s [0,4] (s [0,4] (s [0,4] (s [2,3] .ret)))))))))=some (?b, ?r))=>⟨1, ?r,true, ?b⟩) ?_;rotate_left 2;conv=>lhs;cbv
def f171:fh:=by
 refine(fun (_:gF Tryz.f8 ((s [0] (.seq (s [0,11] (c (s [2,3] .ret) .skip [0])) (s [0,4] (s [0,4] (s (b 49) (s (b 177) (s [4] (s [2,3] .ret)))))))))=some (?b, ?r))=>⟨1, ?r,true, ?b⟩) ?_;rotate_left 2;conv=>lhs;cbv
@[cbv_opaque] def f174L0 : aG := by
  refine(fun (_:gL Tryz.f20 0 ((.seq (s [0,7] (c .skip (.exit 0) [0])) (.block 1 (r [0]) [0])))=some ?x)=> ?x) ?_;rotate_left;conv=>lhs;cbv
def f174:fh:=by
 refine(fun (_:gF Tryz.f20 ((.block 0 (.loop [0] f174L0) []))=some (?b, ?r))=>⟨1, ?r,false, ?b⟩) ?_;rotate_left 2;conv=>lhs;cbv
@[cbv_opaque] def f189L0 : aG := by
  refine(fun (_:gL Tryz.f82 0 ((s (b 899) (.seq (c .skip (.exit 0) [0,1,7,8]) (.seq (.block 1 (s (b 419) (s (b 65955) (c (s [4] .ret) .skip [0,1,7,8]))) [0,1,7,8]) (r (b 387))))))=some ?x)=> ?x) ?_;rotate_left;conv=>lhs;cbv
def f189:fh:=by
 refine(fun (_:gF Tryz.f82 ((s [0,1] (.seq (s (b 387) (.block 0 (.loop [0,1,7,8] f189L0) [])) (s [4] .ret))))=some (?b, ?r))=>⟨2, ?r,true, ?b⟩) ?_;rotate_left 2;conv=>lhs;cbv
def f324:fh:=by
 refine(fun (_:gF Tryz.f13 ((s [] (s [1,2] (s (b 30) (s (b 126) (s (b 502) (s (b 4086) (s (b 12278) (s [0] .ret)))))))))=some (?b, ?r))=>⟨0, ?r,true, ?b⟩) ?_;rotate_left 2;conv=>lhs;cbv
@[cbv_opaque] def f325L0 : aG := by
  refine(fun (_:gL Tryz.f5 0 ((s (b 234881073) (.seq (c .skip (.exit 0) [0,4,5,25,26]) (.seq (.block 1 (s (b 100663409) (r [0,4,5,25,26])) [0,4,5,25,26]) (r [0,4,5,25,26])))))=some ?x)=> ?x) ?_;rotate_left;conv=>lhs;cbv
def f325:fh:=by
 refine(fun (_:gF Tryz.f5 ((s [0] (.seq (s [0,9] (c (s [2,3] .ret) .skip [0])) (s [0,4] (s [0,4] (s (b 49) (s (b 49) (s (b 49) (.seq (s [0,4,5,25,26] (.block 0 (.loop [0,4,5,25,26] f325L0) [4])) (s [2,3] .ret))))))))))=some (?b, ?r))=>⟨1, ?r,true, ?b⟩) ?_;rotate_left 2;conv=>lhs;cbv
def f326:fh:=by
 refine(fun (_:gF Tryz.f7 ((s [0] (.seq (s [0,10] (c (s [2,3] .ret) .skip [0])) (s [0,4] (s (b 81) (s [2,3] .ret))))))=some (?b, ?r))=>⟨1, ?r,true, ?b⟩) ?_;rotate_left 2;conv=>lhs;cbv
def f327:fh:=by
 refine(fun (_:gF Tryz.f9 ((s [0] (.seq (s [0,13] (c (s [2,3] .ret) .skip [0])) (s (b 49) (s (b 113) (s (b 113) (s (b 225) (s (b 705) (s [2,3] .ret)))))))))=some (?b, ?r))=>⟨1, ?r,true, ?b⟩) ?_;rotate_left 2;conv=>lhs;cbv
def f328:fh:=by
 refine(fun (_:gF Tryz.f48 ((s [0] (s [0,4] (.seq (s [4,7] (c (s [2,3] .ret) .skip [4])) (s [2,3] .ret)))))=some (?b, ?r))=>⟨1, ?r,true, ?b⟩) ?_;rotate_left 2;conv=>lhs;cbv
@[cbv_opaque] def f332L0 : aG := by
  refine(fun (_:gL Tryz.f42 0 ((.seq (s (b 8241) (c .skip (.exit 0) [0,4,5])) (.block 1 (s (b 113) (.seq (s (b 524401) (c (r (b 113)) .skip [0,4,5,6])) (s (b 113) (r (b 49))))) [0,4,5])))=some ?x)=> ?x) ?_;rotate_left;conv=>lhs;cbv
def f332:fh:=by
 refine(fun (_:gF Tryz.f42 ((s [0] (.seq (s [0,9] (c (s [2,3] .ret) .skip [0])) (s [0,4] (.seq (s (b 49) (.block 0 (.loop [0,4,5] f332L0) [4])) (s [2,3] .ret))))))=some (?b, ?r))=>⟨1, ?r,true, ?b⟩) ?_;rotate_left 2;conv=>lhs;cbv
def f333:fh:=by
 refine(fun (_:gF Tryz.f15 ((s [0] (s [0,3] (s [0,3] (s [3] (s [2] .ret))))))=some (?b, ?r))=>⟨1, ?r,false, ?b⟩) ?_;rotate_left 2;conv=>lhs;cbv
def f334:fh:=by
 refine(fun (_:gF Tryz.f16 ((s [0] (.seq (s [0,4] (c (s [2] .ret) .skip [0])) (s [] (s [2] .ret)))))=some (?b, ?r))=>⟨1, ?r,false, ?b⟩) ?_;rotate_left 2;conv=>lhs;cbv
@[cbv_opaque] def f335L0 : aG := by
  refine(fun (_:gL Tryz.f17 0 ((s (b 917507) (.seq (c .skip (.exit 1) [0,1,17,18]) (.seq (.block 2 (s (b 393347) (r (b 393219))) [0,1,17,18]) (r (b 393219))))))=some ?x)=> ?x) ?_;rotate_left;conv=>lhs;cbv
def f335:fh:=by
 refine(fun (_:gF Tryz.f17 ((s (b 7) (.seq (.block 0 (s (b 263) (c (s [6] .ret) (s (b 2055) (c (s [6] .ret) .skip [0,1,2])) [0,1,2])) [0,1,2]) (.seq (s (b 393219) (.block 1 (.loop [0,1,17,18] f335L0) [])) (s [6] .ret)))))=some (?b, ?r))=>⟨3, ?r,false, ?b⟩) ?_;rotate_left 2;conv=>lhs;cbv
def f336:fh:=by
 refine(fun (_:gF Tryz.f18 ((s [0] (.seq (s [0,4] (c (s [2] .ret) .skip [0])) (s [2] .ret))))=some (?b, ?r))=>⟨1, ?r,false, ?b⟩) ?_;rotate_left 2;conv=>lhs;cbv
def f337:fh:=by
 refine(fun (_:gF Tryz.f22 ((s [0] (s [3,4] (s [2] .ret))))=some (?b, ?r))=>⟨1, ?r,true, ?b⟩) ?_;rotate_left 2;conv=>lhs;cbv
@[cbv_opaque] def f338L0 : aG := by
  refine(fun (_:gL Tryz.f23 0 ((s (b 16206790864) (.seq (c .skip (.exit 2) [4,6,7,25,26,30,31,32]) (.seq (.block 3 (s (b 7616857808) (r (b 7616856272))) [4,6,7,25,26,30,31,32]) (r (b 7616856272))))))=some ?x)=> ?x) ?_;rotate_left;conv=>lhs;cbv
@[cbv_opaque] def f338L1 : aG := by
  refine(fun (_:gL Tryz.f23 1 ((s (b 234881104) (.seq (c .skip (.exit 0) [4,6,25,26]) (.seq (.block 1 (s (b 100663760) (s (b 7616856272) (.block 2 (.loop [4,6,7,25,26,30,31,32] f338L0) [4,6,25,26]))) [4,6,25,26]) (r [4,6,25,26])))))=some ?x)=> ?x) ?_;rotate_left;conv=>lhs;cbv
def f338:fh:=by
 refine(fun (_:gF Tryz.f23 ((s [0] (s (b 49) (.seq (s (d 49 17) (c (s [2,3] .ret) .skip [0,4])) (s [4,6] (.seq (s [4,6,25,26] (.block 0 (.loop [4,6,25,26] f338L1) [6])) (s [2,3] .ret)))))))=some (?b, ?r))=>⟨1, ?r,true, ?b⟩) ?_;rotate_left 2;conv=>lhs;cbv
@[cbv_opaque] def f339L0 : aG := by
  refine(fun (_:gL Tryz.f26 0 ((s (b 245773) (.seq (c .skip (.exit 0) [0,2,3,14,15,16]) (.seq (.block 1 (s (b 115725) (s (b 129037) (s (b 126989) (s (d 118797 30) (c (r (b 114701)) .skip [0,2,3,14,15,16]))))) [0,2,3,14,15,16]) (r (b 114701))))))=some ?x)=> ?x) ?_;rotate_left;conv=>lhs;cbv
def f339:fh:=by
 refine(fun (_:gF Tryz.f26 ((s (b 15) (.seq (s (b 114701) (.block 0 (.loop [0,2,3,14,15,16] f339L0) [0,2])) (s [0] (s [8] .ret)))))=some (?b, ?r))=>⟨4, ?r,false, ?b⟩) ?_;rotate_left 2;conv=>lhs;cbv
@[cbv_opaque] def f340L0 : aG := by
  refine(fun (_:gL Tryz.f32 0 ((s (b 7864368) (.seq (c .skip (.exit 0) [4,5,19,20,21]) (.seq (.block 1 (s (b 3670192) (s (b 3671856) (s (b 3671600) (s (d 3670576 38) (c (r (b 3670064)) .skip [4,5,19,20,21]))))) [4,5,19,20,21]) (r (b 3670064))))))=some ?x)=> ?x) ?_;rotate_left;conv=>lhs;cbv
def f340:fh:=by
 refine(fun (_:gF Tryz.f32 ((s [0] (.seq (.iW (.range 4) [] [] (b 49)) (s (b 49) (.seq (s (b 3670064) (.block 0 (.loop [4,5,19,20,21] f340L0) [4,5])) (s [5,11] (s [11,13] (s [2,3] .ret))))))))=some (?b, ?r))=>⟨1, ?r,true, ?b⟩) ?_;rotate_left 2;conv=>lhs;cbv
@[cbv_opaque] def f341L0 : aG := by
  refine(fun (_:gL Tryz.f33 3 ((s [0,17,92,93,94,95] (.seq (c .skip (.exit 6) [0,17,92,93,94]) (.seq (.block 7 (s [0,17,20,92,93,94] (r [0,17,92,93,94])) [0,17,92,93,94]) (r [0,17,92,93,94])))))=some ?x)=> ?x) ?_;rotate_left;conv=>lhs;cbv
@[cbv_opaque] def f341L1 : aG := by
  refine(fun (_:gL Tryz.f33 2 ((s [0,6,10,77,78,79,80] (.seq (c .skip (.exit 4) [0,6,10,77,78,79]) (.seq (.block 5 (s [0,6,10,16,77,78,79] (r [0,6,10,77,78,79])) [0,6,10,77,78,79]) (r [0,6,10,77,78,79])))))=some ?x)=> ?x) ?_;rotate_left;conv=>lhs;cbv
@[cbv_opaque] def f341L2 : aG := by
  refine(fun (_:gL Tryz.f33 1 ((s (b 1055531162670151) (.seq (c .skip (.exit 2) [0,1,2,6,10,12,46,47,48]) (.seq (.block 3 (s (b 492581209265223) (r (b 492581209248839))) [0,1,2,6,10,12,46,47,48]) (r (b 492581209248839))))))=some ?x)=> ?x) ?_;rotate_left;conv=>lhs;cbv
@[cbv_opaque] def f341L3 : aG := by
  refine(fun (_:gL Tryz.f33 0 ((s (b 4026532039) (.seq (c .skip (.exit 0) [0,1,2,6,7,28,29,30]) (.seq (.block 1 (s (b 1879048903) (r (b 1879048391))) [0,1,2,6,7,28,29,30]) (r (b 1879048391))))))=some ?x)=> ?x) ?_;rotate_left;conv=>lhs;cbv
def f341:fh:=by
 refine(fun (_:gF Tryz.f33 ((s (b 71) (s (b 199) (.seq (s (b 1879048391) (.block 0 (.loop [0,1,2,6,7,28,29,30] f341L3) [0,1,2,6,7])) (s (b 1095) (s (b 5191) (.seq (s (b 492581209248839) (.block 2 (.loop [0,1,2,6,10,12,46,47,48] f341L2) [0,1,2,6,10,12])) (s (b 5191) (s (b 5189) (s (b 5185) (s (b 5185) (.seq (s [0,6,10,77,78,79] (.block 4 (.loop [0,6,10,77,78,79] f341L1) [0,6,10])) (s [0,6,17] (s [0,17,92,93,94] (.block 6 (.loop [0,17,92,93,94] f341L0) [])))))))))))))))=some (?b, ?r))=>⟨3, ?r,false, ?b⟩) ?_;rotate_left 2;conv=>lhs;cbv
@[cbv_opaque] def f342L0 : aG := by
  refine(fun (_:gL Tryz.f34 0 ((.seq (s (d 35 18) (c .skip (.exit 0) [0,1,5])) (.block 1 (r (b 35)) [0,1,5])))=some ?x)=> ?x) ?_;rotate_left;conv=>lhs;cbv
def f342:fh:=by
 refine(fun (_:gF Tryz.f34 ((s [0,1] (s (b 35) (.seq (.block 0 (.loop [0,1,5] f342L0) [0,5]) (s [4] .ret)))))=some (?b, ?r))=>⟨2, ?r,true, ?b⟩) ?_;rotate_left 2;conv=>lhs;cbv
@[cbv_opaque] def f343L0 : aG := by
  refine(fun (_:gL Tryz.f67 0 ((s (b 15392) (.seq (c .skip (.exit 0) [5,10,11,12]) (.seq (.block 1 (s (b 7328) (s (b 531488) (c (s [4] .ret) .skip [5,10,11,12]))) [5,10,11,12]) (r (b 7200))))))=some ?x)=> ?x) ?_;rotate_left;conv=>lhs;cbv
def f343:fh:=by
 refine(fun (_:gF Tryz.f67 ((s [0,1] (s [1,5] (.seq (s (b 7200) (.block 0 (.loop [5,10,11,12] f343L0) [])) (s [4] .ret)))))=some (?b, ?r))=>⟨2, ?r,false, ?b⟩) ?_;rotate_left 2;conv=>lhs;cbv
@[cbv_opaque] def f344L0 : aG := by
  refine(fun (_:gL Tryz.f62 0 ((.seq (s (b 2163) (c .skip (.exit 0) [0,1,4,5,6])) (.seq (.block 1 (s (b 243) (s (d 243 25) (c (r (b 115)) .skip [0,1,4,5,6]))) [0,1,4,5,6]) (r (b 115)))))=some ?x)=> ?x) ?_;rotate_left;conv=>lhs;cbv
def f344:fh:=by
 refine(fun (_:gF Tryz.f62 ((s (b 19) (s (b 51) (.seq (s (b 115) (.block 0 (.loop [0,1,4,5,6] f344L0) [4,5])) (s [4] .ret)))))=some (?b, ?r))=>⟨2, ?r,true, ?b⟩) ?_;rotate_left 2;conv=>lhs;cbv
def f345:fh:=by
 refine(fun (_:gF Tryz.f44 ((s [] (s [0] .ret)))=some (?b, ?r))=>⟨0, ?r,false, ?b⟩) ?_;rotate_left 2;conv=>lhs;cbv
def f346:fh:=by
 refine(fun (_:gF Tryz.f45 ((s (b 15) (s [8] .ret)))=some (?b, ?r))=>⟨4, ?r,false, ?b⟩) ?_;rotate_left 2;conv=>lhs;cbv
def f347:fh:=by
 refine(fun (_:gF Tryz.f46 ((.seq (s [0,1,9] (c (r [0,1]) .skip [0,1])) (.seq (.iW (.range 23) [] [] [0]) (r []))))=some (?b, ?r))=>⟨2, ?r,false, ?b⟩) ?_;rotate_left 2;conv=>lhs;cbv
def f348:fh:=by
 refine(fun (_:gF Tryz.f49 ((s [0] (.seq (s [0,7] (c (s [2,3] .ret) .skip [0])) (s [4] (.seq (s [4,14] (c (s [2,3] .ret) .skip [4])) (s [2,3] .ret))))))=some (?b, ?r))=>⟨1, ?r,true, ?b⟩) ?_;rotate_left 2;conv=>lhs;cbv
def f349:fh:=by
 refine(fun (_:gF Tryz.f52 ((s (b 14) (.seq (s (b 2062) (c (s (b 28) .ret) .skip [1,2,3])) (s (b 46) (s (b 172) (.seq (.iW (.range 5) [] [(1,[1])] (b 28)) .ret))))))=some (?b, ?r))=>⟨1, ?r,true, ?b⟩) ?_;rotate_left 2;conv=>lhs;cbv
def f350:fh:=by
 refine(fun (_:gF Tryz.f53 ((s (b 35) (s [0,5] (r []))))=some (?b, ?r))=>⟨3, ?r,false, ?b⟩) ?_;rotate_left 2;conv=>lhs;cbv
@[cbv_opaque] def f351L0 : aG := by
  refine(fun (_:gL Tryz.f56 0 ((s [1,7,55,56,57,58] (.seq (c .skip (.exit 2) [1,7,55,56,57]) (.seq (.block 3 (s [1,7,9,10,55,56,57] (r [1,7,55,56,57])) [1,7,55,56,57]) (r [1,7,55,56,57])))))=some ?x)=> ?x) ?_;rotate_left;conv=>lhs;cbv
@[cbv_opaque] def f351L1 : aG := by
  refine(fun (_:gL Tryz.f56 1 ((.block 1 (s [1,7,8] (.seq (s [1,7,8,53] (c (s [4,5] .ret) .skip [1,7])) (s [1,7,55,56,57] (.block 2 (.loop [1,7,55,56,57] f351L0) [1,7])))) [1,7]))=some ?x)=> ?x) ?_;rotate_left;conv=>lhs;cbv
def f351:fh:=by
 refine(fun (_:gF Tryz.f56 ((s [0,1] (s (b 67) (.seq (.seq (.iW (.range 28) [] [] [0,1,38]) (c (s [4,5] .ret) .skip [0,1])) (s [1,7] (.seq (s [1,7,43] (c (r [1,7]) .skip [1,7])) (.block 0 (.loop [1,7] f351L1) [4,5])))))))=some (?b, ?r))=>⟨2, ?r,true, ?b⟩) ?_;rotate_left 2;conv=>lhs;cbv
@[cbv_opaque] def f352L0 : aG := by
  refine(fun (_:gL Tryz.f58 0 ((.seq (s (d 41 26) (c .skip (.exit 1) [0,3,5])) (.seq (.block 2 (r (b 41)) [0,3,5]) (r (b 41)))))=some ?x)=> ?x) ?_;rotate_left;conv=>lhs;cbv
def f352:fh:=by
 refine(fun (_:gF Tryz.f58 ((s [0,3] (.seq (.block 0 (s (b 73) (c (s [4] .ret) (s [0,3,9] (c (s [4] .ret) .skip [0,3])) [0,3])) [0,3]) (.seq (s (b 41) (.block 1 (.loop [0,3,5] f352L0) [])) (s [4] .ret)))))=some (?b, ?r))=>⟨2, ?r,false, ?b⟩) ?_;rotate_left 2;conv=>lhs;cbv
@[cbv_opaque] def f353L0 : aG := by
  refine(fun (_:gL Tryz.f93 0 ((s [0,3,82,83,84] (.seq (c .skip (.exit 0) [0,3,82,83]) (.seq (.block 1 (.iW (.range 24) [] [] [0,3,82,83]) [0,3,82,83]) (r [0,3,82,83])))))=some ?x)=> ?x) ?_;rotate_left;conv=>lhs;cbv
def f353:fh:=by
 refine(fun (_:gF Tryz.f93 ((s [0,3] (.seq (s [0,3,7] (c (.seq (s [0,3,28] (c (s [4] .ret) .skip [0,3])) (.seq (.iW (.range 13) [] [] []) (s [4] .ret))) .skip [0,3])) (.seq (.seq (.iW (.range 40) [] [] [0,3,80]) (c (s [4] .ret) .skip [0,3])) (.seq (s [0,3,82,83] (.block 0 (.loop [0,3,82,83] f353L0) [])) (s [4] .ret))))))=some (?b, ?r))=>⟨2, ?r,false, ?b⟩) ?_;rotate_left 2;conv=>lhs;cbv
@[cbv_opaque] def f354L0 : aG := by
  refine(fun (_:gL Tryz.f87 0 ((.seq (.seq (.iW (.range 25) [] [] (d 135 32)) (c .skip (.exit 0) [0,1,2,7])) (.block 1 (r (b 135)) [0,1,2,7])))=some ?x)=> ?x) ?_;rotate_left;conv=>lhs;cbv
def f354:fh:=by
 refine(fun (_:gF Tryz.f87 ((s (b 7) (s (b 135) (.seq (.block 0 (.loop [0,1,2,7] f354L0) [7]) (s [6] .ret)))))=some (?b, ?r))=>⟨3, ?r,true, ?b⟩) ?_;rotate_left 2;conv=>lhs;cbv
def f355:fh:=by
 refine(fun (_:gF Tryz.f73 ((s [0,2] (.seq (.block 0 (s (b 21) (c (s [2,3] .ret) (s [0,2,12] (c (s [2,3] .ret) .skip [0,2])) [0,2])) [0,2]) (s [2,3] .ret))))=some (?b, ?r))=>⟨1, ?r,true, ?b⟩) ?_;rotate_left 2;conv=>lhs;cbv
def f356:fh:=by
 refine(fun (_:gF Tryz.f74 ((s [0,2] (.seq (s [0,2,9] (c (s [2,3] .ret) .skip [0,2])) (s [2,3] .ret))))=some (?b, ?r))=>⟨1, ?r,true, ?b⟩) ?_;rotate_left 2;conv=>lhs;cbv
def f357:fh:=by
 refine(fun (_:gF Tryz.f78 ((s [0] (s [2] .ret)))=some (?b, ?r))=>⟨1, ?r,true, ?b⟩) ?_;rotate_left 2;conv=>lhs;cbv
@[cbv_opaque] def f358L0 : aG := by
  refine(fun (_:gL Tryz.f80 0 ((s (b 968) (.seq (c .skip (.exit 0) [3,6,7,8]) (.seq (.block 1 (s (b 488) (s (b 8648) (c (r (b 456)) .skip [3,6,7,8]))) [3,6,7,8]) (r (b 456))))))=some ?x)=> ?x) ?_;rotate_left;conv=>lhs;cbv
def f358:fh:=by
 refine(fun (_:gF Tryz.f80 ((s [0] (s [0,3] (.seq (s (b 456) (.block 0 (.loop [3,6,7,8] f358L0) [3])) (s [2] .ret)))))=some (?b, ?r))=>⟨1, ?r,true, ?b⟩) ?_;rotate_left 2;conv=>lhs;cbv
@[cbv_opaque] def f359L0 : aG := by
  refine(fun (_:gL Tryz.f83 1 ((s [3,4,7,10,75,76,77,78] (.seq (c .skip (.exit 4) [3,4,7,10,75,76,77]) (.seq (.block 5 (s [3,4,7,10,12,75,76,77] (r [3,4,7,10,75,76,77])) [3,4,7,10,75,76,77]) (r [3,4,7,10,75,76,77])))))=some ?x)=> ?x) ?_;rotate_left;conv=>lhs;cbv
@[cbv_opaque] def f359L1 : aG := by
  refine(fun (_:gL Tryz.f83 2 ((.seq (s [3,4,7,41] (c .skip (.exit 2) [3,4,7])) (.seq (.block 3 (s (b 408) (s (b 920) (.seq (.iW (.range 23) [] [(3,[1]),(7,[1])] (b 1176)) (.seq (s [3,4,7,10,75,76,77] (.block 4 (.loop [3,4,7,10,75,76,77] f359L0) [3,4,7,10])) (r [3,4,7]))))) [3,4,7]) (r [3,4,7]))))=some ?x)=> ?x) ?_;rotate_left;conv=>lhs;cbv
@[cbv_opaque] def f359L2 : aG := by
  refine(fun (_:gL Tryz.f83 0 ((s (b 983065) (.seq (c .skip (.exit 0) [0,3,4,16,17,18]) (.seq (.block 1 (s (b 458873) (s (b 17236089) (c (r (b 458777)) .skip [0,3,4,16,17,18]))) [0,3,4,16,17,18]) (r (b 458777))))))=some ?x)=> ?x) ?_;rotate_left;conv=>lhs;cbv
def f359:fh:=by
 refine(fun (_:gF Tryz.f83 ((s [0] (s [0,3] (s (b 25) (.seq (s (b 458777) (.block 0 (.loop [0,3,4,16,17,18] f359L2) [0,3,4])) (s (b 25) (.seq (s [3,4,7] (.block 2 (.loop [3,4,7] f359L1) [3])) (s [2] .ret))))))))=some (?b, ?r))=>⟨1, ?r,true, ?b⟩) ?_;rotate_left 2;conv=>lhs;cbv
@[cbv_opaque] def f360L0 : aG := by
  refine(fun (_:gL Tryz.f84 0 ((.seq (s (b 32793) (c .skip (.exit 0) [0,3,4])) (.seq (.block 1 (r (b 25)) [0,3,4]) (r (b 25)))))=some ?x)=> ?x) ?_;rotate_left;conv=>lhs;cbv
def f360:fh:=by
 refine(fun (_:gF Tryz.f84 ((s [0] (.seq (s [0,7] (c (r [0]) .skip [0])) (s [0,3] (.seq (s (b 25) (.block 0 (.loop [0,3,4] f360L0) [3])) (s [2] .ret))))))=some (?b, ?r))=>⟨1, ?r,true, ?b⟩) ?_;rotate_left 2;conv=>lhs;cbv
@[cbv_opaque] def f361L0 : aG := by
  refine(fun (_:gL Tryz.f95 0 ((.seq (s (b 66317) (c .skip (.exit 0) [0,2,3,8,9])) (.seq (.block 1 (s (b 3853) (s (d 3853 28) (c (s [8] .ret) .skip [0,2,3,8,9]))) [0,2,3,8,9]) (r (b 781)))))=some ?x)=> ?x) ?_;rotate_left;conv=>lhs;cbv
def f361:fh:=by
 refine(fun (_:gF Tryz.f95 ((s (b 271) (.seq (s (b 781) (.block 0 (.loop [0,2,3,8,9] f361L0) [2,8])) (s [8] .ret))))=some (?b, ?r))=>⟨4, ?r,true, ?b⟩) ?_;rotate_left 2;conv=>lhs;cbv
@[cbv_opaque] def f362L0 : aG := by
  refine(fun (_:gL Tryz.f99 0 ((.seq (s (b 1037) (c .skip (.exit 0) [0,2,3])) (.seq (.block 1 (r (b 13)) [0,2,3]) (r (b 13)))))=some ?x)=> ?x) ?_;rotate_left;conv=>lhs;cbv
def f362:fh:=by
 refine(fun (_:gF Tryz.f99 ((s [0,2] (s (b 13) (.block 0 (.loop [0,2,3] f362L0) []))))=some (?b, ?r))=>⟨1, ?r,false, ?b⟩) ?_;rotate_left 2;conv=>lhs;cbv
def f363:fh:=by
 refine(fun (_:gF Tryz.f100 ((s [0] (s [2] .ret)))=some (?b, ?r))=>⟨1, ?r,false, ?b⟩) ?_;rotate_left 2;conv=>lhs;cbv
def f364:fh:=by
 refine(fun (_:gF Tryz.f101 ((s [0] (s [0,3] (s [0,3] (s [0] (s [2] .ret))))))=some (?b, ?r))=>⟨1, ?r,false, ?b⟩) ?_;rotate_left 2;conv=>lhs;cbv
def f365:fh:=by
 refine(fun (_:gF Tryz.f102 ((s [0] (r [])))=some (?b, ?r))=>⟨2, ?r,false, ?b⟩) ?_;rotate_left 2;conv=>lhs;cbv
@[cbv_opaque] def f366L0 : aG := by
  refine(fun (_:gL Tryz.f110 0 ((.block 1 (s (b 391) (.seq (s (d 391 21) (c (.exit 0) .skip [0,1,2,7,8])) (s (b 903) (.seq (s (b 1927) (s (d 1671 33) (c (r (b 647)) .skip [0,1,2,7,9]))) (.seq (s (d 647 39) (c (.exit 0) .skip [0,1,2,7,9])) (s (b 519) (r (b 135)))))))) [0,1,2,7]))=some ?x)=> ?x) ?_;rotate_left;conv=>lhs;cbv
def f366:fh:=by
 refine(fun (_:gF Tryz.f110 ((s (b 7) (s (b 135) (.seq (.block 0 (.loop [0,1,2,7] f366L0) [1,7]) (s [6] .ret)))))=some (?b, ?r))=>⟨3, ?r,false, ?b⟩) ?_;rotate_left 2;conv=>lhs;cbv
@[cbv_opaque] def f367L0 : aG := by
  refine(fun (_:gL Tryz.f111 0 ((.block 1 (s (b 19) (.seq (s (d 19 17) (c (.exit 0) .skip [0,1,4])) (s [0,4] (r [0,1])))) [0,1]))=some ?x)=> ?x) ?_;rotate_left;conv=>lhs;cbv
def f367:fh:=by
 refine(fun (_:gF Tryz.f111 ((.block 0 (.loop [0,1] f367L0) []))=some (?b, ?r))=>⟨2, ?r,false, ?b⟩) ?_;rotate_left 2;conv=>lhs;cbv
def f368:fh:=by
 refine(fun (_:gF Tryz.f133 ((s (b 7) (.seq (.seq (.iW (.range 15) [] [] (d 7 21)) (c (.seq (.iW (.range 16) [] [] [6]) .ret) .skip [0,1,2])) (.seq (.iW (.range 16) [] [] [6]) .ret))))=some (?b, ?r))=>⟨3, ?r,false, ?b⟩) ?_;rotate_left 2;conv=>lhs;cbv
def f369:fh:=by
 refine(fun (_:gF Tryz.f134 ((.iW (.range 16) [] [] []))=some (?b, ?r))=>⟨3, ?r,false, ?b⟩) ?_;rotate_left 2;conv=>lhs;cbv
def f370:fh:=by
 refine(fun (_:gF Tryz.f135 ((s [0] (s [0,3] (s (b 25) (s [4] (s [2] .ret))))))=some (?b, ?r))=>⟨1, ?r,false, ?b⟩) ?_;rotate_left 2;conv=>lhs;cbv
def f371:fh:=by
 refine(fun (_:gF Tryz.f136 ((.iW (.range 10) [] [] []))=some (?b, ?r))=>⟨2, ?r,false, ?b⟩) ?_;rotate_left 2;conv=>lhs;cbv
def f375:fh:=by
 refine(fun (_:gF Tryz.f3 ((s [0,1] (s (b 35) (s (b 227) (s (b 994) (s (b 4066) (s (b 16354) (s (b 65506) (s (b 262114) (s [4] .ret))))))))))=some (?b, ?r))=>⟨2, ?r,true, ?b⟩) ?_;rotate_left 2;conv=>lhs;cbv
def f377:fh:=by
 refine(fun (_:gF Tryz.f4 ((s [0] (s [0,3] (s [2] .ret))))=some (?b, ?r))=>⟨1, ?r,false, ?b⟩) ?_;rotate_left 2;conv=>lhs;cbv
def f378:fh:=by
 refine(fun (_:gF Tryz.f12 ((s [0,1] (s (b 35) (s [4] .ret))))=some (?b, ?r))=>⟨2, ?r,false, ?b⟩) ?_;rotate_left 2;conv=>lhs;cbv
def f379:fh:=by
 refine(fun (_:gF Tryz.f14 ((s [0] (s [2] .ret)))=some (?b, ?r))=>⟨1, ?r,false, ?b⟩) ?_;rotate_left 2;conv=>lhs;cbv
@[cbv_opaque] def f380L0 : aG := by
  refine(fun (_:gL Tryz.f41 0 ((.seq (s (b 16419) (c .skip (.exit 0) [0,1,5])) (.seq (.block 1 (.seq (.iW (.range 9) [] [] (d 35 25)) (c (s [4] .ret) .skip [0,1,5])) [0,1,5]) (r (b 35)))))=some ?x)=> ?x) ?_;rotate_left;conv=>lhs;cbv
def f380:fh:=by
 refine(fun (_:gF Tryz.f41 ((s [0,1] (.seq (s [0,1,10] (c (s [4] .ret) .skip [0,1])) (.seq (s (b 35) (.block 0 (.loop [0,1,5] f380L0) [])) (s [4] .ret)))))=some (?b, ?r))=>⟨2, ?r,true, ?b⟩) ?_;rotate_left 2;conv=>lhs;cbv
def nU:List (Nat×fh):=[(7,f7),(9,f9),(13,f13),(14,f14),(15,f15),(16,f16),(17,f17),(22,f22),(23,f23),(27,f27),(28,f28),(29,f29),(30,f30),(31,f31),(32,f32),(33,f33),(34,f34),(35,f35),(36,f36),(37,f37),(38,f38),(39,f39),(40,f40),(41,f41),(42,f42),(43,f43),(44,f44),(45,f45),(50,f50),(51,f51),(52,f52),(55,f55),(56,f56),(57,f57),(58,f58),(59,f59),(60,f60),(61,f61),(62,f62),(63,f63),(64,f64),(65,f65),(66,f66),(67,f67),(68,f68),(69,f69),(70,f70),(71,f71),(72,f72),(73,f73),(74,f74),(75,f75),(76,f76),(77,f77),(78,f78),(79,f79),(80,f80),(81,f81),(82,f82),(83,f83),(84,f84),(118,f118),(170,f170),(171,f171),(174,f174),(189,f189),(324,f324),(325,f325),(326,f326),(327,f327),(328,f328),(332,f332),(333,f333),(334,f334),(335,f335),(336,f336),(337,f337),(338,f338),(339,f339),(340,f340),(341,f341),(342,f342),(343,f343),(344,f344),(345,f345),(346,f346),(347,f347),(348,f348),(349,f349),(350,f350),(351,f351),(352,f352),(353,f353),(354,f354),(355,f355),(356,f356),(357,f357),(358,f358),(359,f359),(360,f360),(361,f361),(362,f362),(363,f363),(364,f364),(365,f365),(366,f366),(367,f367),(368,f368),(369,f369),(370,f370),(371,f371),(375,f375),(377,f377),(378,f378),(379,f379),(380,f380)]
def find:List (Nat×fh)→Nat→Option fh
 |[],_=>none
 |(i,f)::r,k=>if i=k then some f else find r k
def A:a8:=find nU
end Ab.AP
