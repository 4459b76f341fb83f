/- Part AP. -/
import Derived.Test.YtcapkjggnnakfaaGreatDoorA2
import Derived.Test.YtcapkjggnnakfaaGreatDoorProg
import Derived.KernelRfl
namespace Ab.Ln
open Go Go.Proofs Ab
def Ds:List (Nat×Nat)→Nat→Option Nat
 |[],_=>none
 |(i,f)::r,k=>if i=k then some f else Ds r k
def Tn:List (Nat×Nat):=[(11,225),(19,9),(20,232),(21,233),(26,101),(28,238),(30,240),(33,242),(34,205),(38,246),(39,197),(40,199),(43,106),(44,247),(45,98),(55,115),(57,161),(65,182),(66,207),(67,120),(68,105),(69,83),(70,261),(71,262),(72,117),(73,184),(74,263),(75,264),(76,265),(77,266),(78,267),(79,268),(80,96),(81,269),(82,270),(83,187),(85,162),(86,206),(93,111),(94,177),(95,181),(97,277),(100,212),(101,213),(102,157),(111,200),(112,151),(113,152),(114,172),(115,173),(120,104),(121,113),(122,192),(128,103),(129,160),(141,84),(142,123),(143,119),(144,121),(145,299),(146,107),(147,191),(148,183),(149,91),(150,179),(151,93),(152,300),(153,301),(154,302),(155,303),(156,167),(157,164),(160,112),(161,122),(162,102),(164,169),(167,124),(168,114),(169,186),(170,188),(171,178),(172,306),(173,307),(174,308),(175,8),(182,125),(183,126),(184,127),(185,128),(186,129),(187,130),(188,131),(189,7),(190,190),(191,185),(192,118),(193,110),(194,311),(195,312),(196,313),(197,314),(198,18),(199,19),(200,20),(201,21),(202,22),(203,23),(204,24),(205,25),(217,32),(219,132),(220,133),(221,134),(222,135),(223,14),(224,15),(225,16),(226,17),(227,189),(228,315),(229,46),(230,47),(231,48),(232,49),(233,50),(234,51),(235,52),(236,53),(237,54),(243,138),(244,38),(245,39),(246,40),(247,41),(248,42),(249,43),(250,44),(251,45),(252,67),(253,68),(257,139),(258,140),(259,141),(261,58),(262,59),(263,60),(264,61),(265,62),(266,63),(267,64),(268,65),(269,66),(271,72),(272,73),(273,74),(274,75),(275,76),(276,77),(277,78),(278,79),(279,80),(280,81),(282,82),(241,136),(242,137),(270,143)]
def Un:List (Nat×Nat):=[(9,0)]
def mf (k:Nat):Option Nat:=Ds Tn k
def mt (k:Nat):Nat:=(Ds Un k).getD (k+100000)
def iv (_:String):Option (Nat×Nat×Bool):=none
def Uq:List (Nat×Nat):=[]
def ta (t:Nat):Option Nat:=Ds Uq t
noncomputable def L:Lk:=⟨Tryz.prog,mf,mt,iv,ta⟩
end Ab.Ln
namespace Ab.AP
open Go Go.Proofs Ab
set_option maxRecDepth 100000
set_option maxHeartbeats 4000000
/-- The tables, asked for single types alone. -/
@[cbv_opaque] noncomputable def T0 : Tables := Tryz.prog.toTables
noncomputable def P0:Program:=⟨T0, #[]⟩
noncomputable def L0:Lk:=⟨P0,Ln.mf,Ln.mt,Ln.iv,Ln.ta⟩
@[cbv_eval] theorem UM : T0.info? 3 = some Tryz.t3 := Tryz.type3
@[cbv_eval] theorem UN : T0.info? 4 = some Tryz.t4 := Tryz.type4
@[cbv_eval] theorem UO : T0.info? 5 = some Tryz.t5 := Tryz.type5
@[cbv_eval] theorem UP : T0.info? 9 = some Tryz.t9 := Tryz.type9
@[cbv_eval] theorem Ur : T0.info? 21 = some Tryz.t21 := Tryz.type21
@[cbv_eval] theorem Ut : T0.info? 22 = some Tryz.t22 := Tryz.type22
@[cbv_eval] theorem Uu : T0.info? 23 = some Tryz.t23 := Tryz.type23
@[cbv_eval] theorem Uv : T0.info? 24 = some Tryz.t24 := Tryz.type24
@[cbv_eval] theorem Uw : T0.info? 25 = some Tryz.t25 := Tryz.type25
@[cbv_eval] theorem Ux : T0.info? 26 = some Tryz.t26 := Tryz.type26
@[cbv_eval] theorem Uy : T0.info? 27 = some Tryz.t27 := Tryz.type27
@[cbv_eval] theorem Uz : T0.info? 29 = some Tryz.t29 := Tryz.type29
@[cbv_eval] theorem UA : T0.info? 44 = some Tryz.t44 := Tryz.type44
@[cbv_eval] theorem UB : T0.info? 45 = some Tryz.t45 := Tryz.type45
@[cbv_eval] theorem UC : T0.info? 47 = some Tryz.t47 := Tryz.type47
@[cbv_eval] theorem UD : T0.info? 48 = some Tryz.t48 := Tryz.type48
@[cbv_eval] theorem UE : T0.info? 49 = some Tryz.t49 := Tryz.type49
@[cbv_eval] theorem UF : T0.info? 50 = some Tryz.t50 := Tryz.type50
@[cbv_eval] theorem UG : T0.info? 52 = some Tryz.t52 := Tryz.type52
@[cbv_eval] theorem UH : T0.info? 56 = some Tryz.t56 := Tryz.type56
@[cbv_eval] theorem UI : T0.info? 57 = some Tryz.t57 := Tryz.type57
@[cbv_eval] theorem Tp : T0.info? 118 = some Tryz.t118 := Tryz.type118
@[cbv_eval] theorem Tq : T0.info? 121 = some Tryz.t121 := Tryz.type121
@[cbv_eval] theorem Tr : T0.info? 123 = some Tryz.t123 := Tryz.type123
@[cbv_eval] theorem Ts : T0.info? 124 = some Tryz.t124 := Tryz.type124
@[cbv_eval] theorem Tt : T0.info? 127 = some Tryz.t127 := Tryz.type127
@[cbv_eval] theorem Tu : T0.info? 128 = some Tryz.t128 := Tryz.type128
@[cbv_eval] theorem Tv : T0.info? 129 = some Tryz.t129 := Tryz.type129
@[cbv_eval] theorem Tw : T0.info? 131 = some Tryz.t131 := Tryz.type131
@[cbv_eval] theorem Tx : T0.info? 132 = some Tryz.t132 := Tryz.type132
@[cbv_eval] theorem Tz : T0.info? 140 = some Tryz.t140 := Tryz.type140
@[cbv_eval] theorem TA : T0.info? 147 = some Tryz.t147 := Tryz.type147
@[cbv_eval] theorem TB : T0.info? 149 = some Tryz.t149 := Tryz.type149
@[cbv_eval] theorem TC : T0.info? 150 = some Tryz.t150 := Tryz.type150
@[cbv_eval] theorem TD : T0.info? 151 = some Tryz.t151 := Tryz.type151
@[cbv_eval] theorem TE : T0.info? 169 = some Tryz.t169 := Tryz.type169
@[cbv_eval] theorem TF : T0.info? 191 = some Tryz.t191 := Tryz.type191
@[cbv_eval] theorem TG : T0.info? 219 = some Tryz.t219 := Tryz.type219
@[cbv_eval] theorem TH : T0.info? 220 = some Tryz.t220 := Tryz.type220
@[cbv_eval] theorem TI : T0.info? 224 = some Tryz.t224 := Tryz.type224
@[cbv_eval] theorem TJ : T0.info? 232 = some Tryz.t232 := Tryz.type232
@[cbv_eval] theorem TK : T0.info? 233 = some Tryz.t233 := Tryz.type233
@[cbv_eval] theorem TL : T0.info? 234 = some Tryz.t234 := Tryz.type234
@[cbv_eval] theorem TM : T0.info? 235 = some Tryz.t235 := Tryz.type235
@[cbv_eval] theorem TN : T0.info? 236 = some Tryz.t236 := Tryz.type236
@[cbv_eval] theorem TO : T0.info? 237 = some Tryz.t237 := Tryz.type237
@[cbv_eval] theorem TP : T0.info? 266 = some Tryz.t266 := Tryz.type266
@[cbv_eval] theorem TQ : T0.info? 267 = some Tryz.t267 := Tryz.type267
@[cbv_eval] theorem TR : T0.info? 269 = some Tryz.t269 := Tryz.type269
@[cbv_eval] theorem TS : T0.info? 270 = some Tryz.t270 := Tryz.type270
@[cbv_eval] theorem TT : T0.info? 277 = some Tryz.t277 := Tryz.type277
@[cbv_eval] theorem TU : T0.info? 278 = some Tryz.t278 := Tryz.type278
@[cbv_eval] theorem TV : T0.info? 279 = some Tryz.t279 := Tryz.type279
@[cbv_eval] theorem TW : T0.info? 284 = some Tryz.t284 := Tryz.type284
@[cbv_eval] theorem TX : T0.info? 285 = some Tryz.t285 := Tryz.type285
@[cbv_eval] theorem TY : T0.info? 287 = some Tryz.t287 := Tryz.type287
@[cbv_eval] theorem TZ : T0.info? 291 = some Tryz.t291 := Tryz.type291
@[cbv_eval] theorem T7 : T0.info? 297 = some Tryz.t297 := Tryz.type297
@[cbv_eval] theorem T8 : T0.info? 298 = some Tryz.t298 := Tryz.type298
@[cbv_eval] theorem T9 : T0.info? 299 = some Tryz.t299 := Tryz.type299
@[cbv_eval] theorem Ua : T0.info? 305 = some Tryz.t305 := Tryz.type305
@[cbv_eval] theorem Ub : T0.info? 306 = some Tryz.t306 := Tryz.type306
@[cbv_eval] theorem Uc : T0.info? 307 = some Tryz.t307 := Tryz.type307
@[cbv_eval] theorem Ud : T0.info? 317 = some Tryz.t317 := Tryz.type317
@[cbv_eval] theorem Ue : T0.info? 320 = some Tryz.t320 := Tryz.type320
@[cbv_eval] theorem Uf : T0.info? 323 = some Tryz.t323 := Tryz.type323
/-- The bodies of the loops, inner ones first. -/
def PB:Code→List Code
 | .seq a b=>PB a++PB b
 | .cond _ a b=>PB a++PB b
 | .block _ c=>PB c
 | .loop c=>PB c++[c]
 |_=>[]
/-- The operations of a code, where what is kept is told; loops stand as they are told. -/
def gt (L:Lk) (nt:Nat):Code→aF→Option aF
 | .skip,.skip=>some .skip
 | .region _ ops false,.oI _ wN=>(dD L nt ops ops.toList).bind fun os=>some (.oI os wN)
 | .region _ ops true,.iS ord _ fl wN=>(kv L nt ops ord fl).bind fun os=>some (.iS ord os fl wN)
 | .seq a b,.seq x y=>(gt L nt a x).bind fun x'=>(gt L nt b y).bind fun y'=>some (.seq x' y')
 | .cond c a b,.cond _ x y wN=>(cX L c).bind fun c'=>(gt L nt a x).bind fun x'=>(gt L nt b y).bind fun y'=>some (.cond c' x' y' wN)
 | .block id c,.block _ x wN=>(gt L nt c x).bind fun x'=>some (.block id x' wN)
 | .loop _,.loop wN x=>some (.loop wN x)
 | .exit id,.exit _=>some (.exit id)
 | .ret,.ret=>some .ret
 |_,_=>none
noncomputable def gL (fn:Func) (i:Nat) (x:aF):Option aF:=fn.body.bind fun c=>((PB c)[i]?).bind fun d=>gt L0 fn.ntmps d x
noncomputable def gF (fn:Func) (x:aF):Option (aF×List RV):=fn.body.bind fun c=>(gt L0 fn.ntmps c x).bind fun y=>(cT L0 fn.results.toList).bind fun r=>some (y,r)
def bt:Nat→Nat→Nat→List Nat
 |0,_,_=>[]
 |n+1,i,m=>if m=0 then []else if m%2=1 then i::bt n (i+1) (m/2)else bt n (i+1) (m/2)
def b (m:Nat):List Nat:=bt 400 0 m
def d (m t:Nat):List Nat:=bt 400 0 m++[t]
def od (a n:Nat):List Nat:=a::(List.range n).filter fun x=> !(x==a)
def s (k:List Nat) (r:aF):aF:=.seq (.oI [] k) r
def r (k:List Nat):aF:=.oI [] k
def c (x y:aF) (k:List Nat):aF:=.cond (.t 0) x y k
@[cbv_opaque] def f7L0 : aF := by
  refine(fun (_:gL Tryz.f189 0 ((.seq (s [7,28] (c .skip (.exit 0) [7])) (.block 1 (r [7,8]) [7,8])))=some ?x)=> ?x) ?_;rotate_left;conv=>lhs;cbv
def f7:fh:=by
 refine(fun (_:gF Tryz.f189 ((s [0,1] (.seq (s [0,1,14] (c (s [4,5,6] .ret) .skip [0,1])) (s [7] (.seq (s [7,8] (.block 0 (.loop [7,8] f7L0) [7])) (.seq (s [7,35] (c (.seq (.iS (.range 7) [] [] [4,5,6]) .ret) .skip [7])) (s [7] (.seq (.iS (.range 14) [] [(3,[1]),(4,[1])] [4,5,6]) .ret))))))))=some (?b, ?r))=>⟨2, ?r,true, ?b⟩) ?_;rotate_left 2;conv=>lhs;cbv
@[cbv_opaque] def f8L0 : aF := by
  refine(fun (_:gL Tryz.f175 0 ((.seq (s [7,29] (c .skip (.exit 0) [7])) (.block 1 (s [7,8] (s [7,8,9] (.seq (s [7,8,9,38] (c (.exit 0) .skip [7,8,9])) (s [7,8,39] (.block 2 (s [7,8,39,42] (c (r [7,8]) (s [7,8,39,46] (c (r [7,8]) (s [7,8,54] (c (r [7,8]) (r [7,8]) [7,8])) [7,8])) [7,8])) [7,8]))))) [7,8])))=some ?x)=> ?x) ?_;rotate_left;conv=>lhs;cbv
def f8:fh:=by
 refine(fun (_:gF Tryz.f175 ((s [0,1] (.seq (s [0,1,15] (c (s [4,5,6] .ret) .skip [0,1])) (s [7] (.seq (s [7,8] (.block 0 (.loop [7,8] f8L0) [7])) (.seq (s [7,62] (c (.seq (.iS (.range 7) [] [] [4,5,6]) .ret) .skip [7])) (.seq (.iS (.range 15) [] [] [4,5,6]) .ret)))))))=some (?b, ?r))=>⟨2, ?r,true, ?b⟩) ?_;rotate_left 2;conv=>lhs;cbv
def f9:fh:=by
 refine(fun (_:gF Tryz.f19 ((s [0] (s [2] .ret)))=some (?b, ?r))=>⟨1, ?r,true, ?b⟩) ?_;rotate_left 2;conv=>lhs;cbv
def f14:fh:=by
 refine(fun (_:gF Tryz.f223 ((s [0] (s [2] .ret)))=some (?b, ?r))=>⟨1, ?r,false, ?b⟩) ?_;rotate_left 2;conv=>lhs;cbv
def f15:fh:=by
 refine(fun (_:gF Tryz.f224 ((s [0] (s [0,3] (.seq (s [0,3,8] (.block 0 (s (b 2313) (c (s [0,3,17] (c (r [3]) .skip [3])) (s [0,3,8,20] (c (r [3]) (s [0,3,29] (c (r [3]) (r [3]) [3])) [3])) [3])) [3])) (s [2] .ret)))))=some (?b, ?r))=>⟨1, ?r,false, ?b⟩) ?_;rotate_left 2;conv=>lhs;cbv
def f16:fh:=by
 refine(fun (_:gF Tryz.f225 ((s [0] (.seq (s [0,4] (c (s [2] .ret) .skip [0])) (s [] (s [2] .ret)))))=some (?b, ?r))=>⟨1, ?r,false, ?b⟩) ?_;rotate_left 2;conv=>lhs;cbv
def f17:fh:=by
 refine(fun (_:gF Tryz.f226 ((s [0] (.seq (s [0,4] (c (s [2] .ret) .skip [0])) (s [2] .ret))))=some (?b, ?r))=>⟨1, ?r,false, ?b⟩) ?_;rotate_left 2;conv=>lhs;cbv
def f18:fh:=by
 refine(fun (_:gF Tryz.f198 ((s [0,1] (s (b 97) (.seq (s [0,5,23] (c (r [5]) .skip [5])) (s [4] .ret)))))=some (?b, ?r))=>⟨2, ?r,false, ?b⟩) ?_;rotate_left 2;conv=>lhs;cbv
@[cbv_opaque] def f19L0 : aF := by
  refine(fun (_:gL Tryz.f199 0 ((.seq (s (d 21 36) (c .skip (.exit 0) [0,2,4])) (.seq (.block 1 (s (b 53) (s (d 53 45) (c (r (b 21)) .skip [0,2,4]))) [0,2,4]) (r (b 21)))))=some ?x)=> ?x) ?_;rotate_left;conv=>lhs;cbv
def f19:fh:=by
 refine(fun (_:gF Tryz.f199 ((s [0] (s (b 13) (.seq (s [0,2,24] (c (r [0,2]) .skip [0,2])) (s (b 21) (.block 0 (.loop [0,2,4] f19L0) []))))))=some (?b, ?r))=>⟨1, ?r,false, ?b⟩) ?_;rotate_left 2;conv=>lhs;cbv
@[cbv_opaque] def f20L0 : aF := by
  refine(fun (_:gL Tryz.f200 0 ((.seq (s (d 50183 107) (c .skip (.exit 2) [0,1,2,10,14,15])) (.seq (.block 3 (.iS (.range 15) [] [] (b 50183)) [0,1,2,10,14,15]) (r (b 50183)))))=some ?x)=> ?x) ?_;rotate_left;conv=>lhs;cbv
@[cbv_opaque] def f20L1 : aF := by
  refine(fun (_:gL Tryz.f200 1 ((.seq (s (d 7 20) (c .skip (.exit 0) [0,1,2])) (.block 1 (s (b 71) (.seq (s (d 71 32) (c .ret .skip [0,1,2,6])) (.seq (s (d 71 34) (c (s (b 7) (.exit 1)) .skip [0,1,2,6])) (s (b 903) (.seq (s (d 391 46) (c (s [] .ret) .skip [0,1,2,7,8])) (s (b 1031) (.seq (s (d 1031 58) (c .ret .skip [0,1,2,10])) (s (b 3079) (.seq (s (d 3079 66) (c .ret .skip [0,1,2,10,11])) (s (b 13831) (.seq (s (d 13319 74) (c (s [] .ret) .skip [0,1,2,10,12,13])) (s (b 17415) (.seq (s (d 17415 95) (c (r (b 17415)) .skip [0,1,2,10,14])) (s (b 50183) (.block 2 (.loop [0,1,2,10,14,15] f20L0) [0,1,2]))))))))))))))) [0,1,2])))=some ?x)=> ?x) ?_;rotate_left;conv=>lhs;cbv
def f20:fh:=by
 refine(fun (_:gF Tryz.f200 ((.block 0 (.loop [0,1,2] f20L1) []))=some (?b, ?r))=>⟨3, ?r,false, ?b⟩) ?_;rotate_left 2;conv=>lhs;cbv
@[cbv_opaque] def f21L0 : aF := by
  refine(fun (_:gL Tryz.f201 0 ((.seq (s (b 32825) (c .skip (.exit 2) [0,3,4,5])) (.seq (.block 3 (s (d 57 23) (c (.seq (.iS (.range 11) [] [] (b 57)) (r (b 57))) .skip [0,3,4,5])) [0,3,4,5]) (r (b 57)))))=some ?x)=> ?x) ?_;rotate_left;conv=>lhs;cbv
@[cbv_opaque] def f21L1 : aF := by
  refine(fun (_:gL Tryz.f201 1 ((.seq (s (b 537) (c .skip (.exit 0) [0,3,4])) (.seq (.block 1 (s (b 57) (.block 2 (.loop [0,3,4,5] f21L0) [0,3,4])) [0,3,4]) (r (b 25)))))=some ?x)=> ?x) ?_;rotate_left;conv=>lhs;cbv
def f21:fh:=by
 refine(fun (_:gF Tryz.f201 ((s [0] (s [0,3] (.seq (s (b 25) (.block 0 (.loop [0,3,4] f21L1) [3])) (s [2] .ret)))))=some (?b, ?r))=>⟨1, ?r,true, ?b⟩) ?_;rotate_left 2;conv=>lhs;cbv
@[cbv_opaque] def f22L0 : aF := by
  refine(fun (_:gL Tryz.f202 0 ((.seq (s (b 38) (c .skip (.exit 0) [1,2])) (.seq (.block 1 (s (b 14) (.seq (s (b 8206) (c (r (b 14)) (s (d 14 19) (c (r (b 14)) .skip [1,2,3])) [1,2,3])) (r [1,2]))) [1,2]) (r [1,2]))))=some ?x)=> ?x) ?_;rotate_left;conv=>lhs;cbv
def f22:fh:=by
 refine(fun (_:gF Tryz.f202 ((s [] (s [1] (.seq (s [1,2] (.block 0 (.loop [1,2] f22L0) [1])) (s [0] .ret)))))=some (?b, ?r))=>⟨0, ?r,true, ?b⟩) ?_;rotate_left 2;conv=>lhs;cbv
@[cbv_opaque] def f23L0 : aF := by
  refine(fun (_:gL Tryz.f203 0 ((.seq (s (b 38) (c .skip (.exit 0) [1,2])) (.seq (.block 1 (r [1,2]) [1,2]) (r [1,2]))))=some ?x)=> ?x) ?_;rotate_left;conv=>lhs;cbv
def f23:fh:=by
 refine(fun (_:gF Tryz.f203 ((s [] (s [1] (.seq (s [1,2] (.block 0 (.loop [1,2] f23L0) [1])) (s [0] .ret)))))=some (?b, ?r))=>⟨0, ?r,true, ?b⟩) ?_;rotate_left 2;conv=>lhs;cbv
@[cbv_opaque] def f24L0 : aF := by
  refine(fun (_:gL Tryz.f204 0 ((.seq (s (d 253 37) (c .skip (.exit 0) [0,2,3,4,5,6,7])) (.seq (.block 1 (.iS (.range 9) [] [(4,[1])] (b 253)) [0,2,3,4,5,6,7]) (r (b 253)))))=some ?x)=> ?x) ?_;rotate_left;conv=>lhs;cbv
def f24:fh:=by
 refine(fun (_:gF Tryz.f204 ((s [0,2] (s (b 13) (s (b 29) (.seq (s (d 29 30) (c (s [] .ret) .skip [0,2,3,4])) (s (b 61) (s (b 125) (.seq (s (b 253) (.block 0 (.loop [0,2,3,4,5,6,7] f24L0) [0,2,3,5])) (.seq (s (d 45 57) (c (s [] .ret) .skip [0,2,3,5])) (s [0,2,8] (.seq (s [0,2,8,71] (c .ret .skip [0,2,8])) (.seq (s [0,2,8,96] (c (s [] .ret) .skip [0,2,8])) (.iS (.range 10) [] [(7,[0])] [])))))))))))))=some (?b, ?r))=>⟨1, ?r,false, ?b⟩) ?_;rotate_left 2;conv=>lhs;cbv
def f25:fh:=by
 refine(fun (_:gF Tryz.f205 ((s [0,6] (c (r []) .skip [])))=some (?b, ?r))=>⟨1, ?r,false, ?b⟩) ?_;rotate_left 2;conv=>lhs;cbv
def f32:fh:=by
 refine(fun (_:gF Tryz.f217 ((s [] (s [0] .ret)))=some (?b, ?r))=>⟨0, ?r,true, ?b⟩) ?_;rotate_left 2;conv=>lhs;cbv
def f38:fh:=by
 refine(fun (_:gF Tryz.f244 ((s [0,1] (s (b 97) (.seq (s [0,5,17] (c (r [5]) .skip [5])) (s [4] .ret)))))=some (?b, ?r))=>⟨2, ?r,false, ?b⟩) ?_;rotate_left 2;conv=>lhs;cbv
@[cbv_opaque] def f39L0 : aF := by
  refine(fun (_:gL Tryz.f245 0 ((.seq (s [0,2,26] (c .skip (.exit 0) [0,2])) (.seq (.block 1 (s (b 13) (s (d 13 35) (c (r [0,2]) .skip [0,2]))) [0,2]) (r [0,2]))))=some ?x)=> ?x) ?_;rotate_left;conv=>lhs;cbv
def f39:fh:=by
 refine(fun (_:gF Tryz.f245 ((s [0] (s [0,2] (.seq (s [0,2,15] (c (r [0,2]) .skip [0,2])) (.block 0 (.loop [0,2] f39L0) [])))))=some (?b, ?r))=>⟨1, ?r,false, ?b⟩) ?_;rotate_left 2;conv=>lhs;cbv
@[cbv_opaque] def f40L0 : aF := by
  refine(fun (_:gL Tryz.f246 0 ((.seq (s (b 2055) (c .skip (.exit 0) [0,1,2])) (.block 1 (s (b 71) (.block 2 (s (d 71 19) (c (r (b 7)) (s (d 71 26) (c .ret (r (b 7)) [0,1,2])) [0,1,2])) [0,1,2])) [0,1,2])))=some ?x)=> ?x) ?_;rotate_left;conv=>lhs;cbv
def f40:fh:=by
 refine(fun (_:gF Tryz.f246 ((.block 0 (.loop [0,1,2] f40L0) []))=some (?b, ?r))=>⟨3, ?r,false, ?b⟩) ?_;rotate_left 2;conv=>lhs;cbv
@[cbv_opaque] def f41L0 : aF := by
  refine(fun (_:gL Tryz.f247 1 ((.seq (s [3,6,7,45] (c .skip (.exit 2) [3,6,7])) (.seq (.block 3 (s [3,6,7] (s [3,6,7] (.iS (.range 16) [] [] [3,6,7]))) [3,6,7]) (r [3,6,7]))))=some ?x)=> ?x) ?_;rotate_left;conv=>lhs;cbv
@[cbv_opaque] def f41L1 : aF := by
  refine(fun (_:gL Tryz.f247 0 ((s (b 15368) (.seq (c .skip (.exit 0) [3,10,11,12]) (.seq (.block 1 (s (b 7224) (s (b 269368) (c (.seq (.iS (.range 11) [] [] (b 7224)) (.iS (.range 15) [] [] (b 7176))) .skip [3,10,11,12]))) [3,10,11,12]) (r (b 7176))))))=some ?x)=> ?x) ?_;rotate_left;conv=>lhs;cbv
def f41:fh:=by
 refine(fun (_:gF Tryz.f247 ((s [0] (s [0,3] (.seq (s (b 7176) (.block 0 (.loop [3,10,11,12] f41L1) [3])) (s [3,6] (.seq (s [3,6,7] (.block 2 (.loop [3,6,7] f41L0) [3])) (s [2] .ret)))))))=some (?b, ?r))=>⟨1, ?r,true, ?b⟩) ?_;rotate_left 2;conv=>lhs;cbv
def f42:fh:=by
 refine(fun (_:gF Tryz.f248 ((s [] (s [0] .ret)))=some (?b, ?r))=>⟨0, ?r,true, ?b⟩) ?_;rotate_left 2;conv=>lhs;cbv
@[cbv_opaque] def f43L0 : aF := by
  refine(fun (_:gL Tryz.f249 0 ((.seq (s [7,8,37] (c .skip (.exit 0) [7,8])) (.block 1 (.iS (.range 10) [] [] [7,8]) [7,8])))=some ?x)=> ?x) ?_;rotate_left;conv=>lhs;cbv
def f43:fh:=by
 refine(fun (_:gF Tryz.f249 ((s [0,1] (.seq (s [0,1,10] (c (r [0,1]) .skip [0,1])) (s (b 97) (.seq (s [0,6,26] (c (r [0,6]) .skip [0,6])) (s [0,7] (s [7,8] (.seq (.block 0 (.loop [7,8] f43L0) [7]) (s [4] .ret)))))))))=some (?b, ?r))=>⟨2, ?r,true, ?b⟩) ?_;rotate_left 2;conv=>lhs;cbv
def f44:fh:=by
 refine(fun (_:gF Tryz.f250 ((s (b 13) (.seq (s (d 13 25) (c (s [] .ret) .skip [0,2,3])) (s (b 21) (.seq (s (d 21 37) (c .ret .skip [0,2,4])) (.seq (.iS (.range 8) [] [] (b 97)) (.seq (s (d 97 62) (c (s [] .ret) .skip [0,5,6])) (r []))))))))=some (?b, ?r))=>⟨1, ?r,false, ?b⟩) ?_;rotate_left 2;conv=>lhs;cbv
def f45:fh:=by
 refine(fun (_:gF Tryz.f251 ((s [0,1,8] (c (r []) .skip [])))=some (?b, ?r))=>⟨2, ?r,false, ?b⟩) ?_;rotate_left 2;conv=>lhs;cbv
@[cbv_opaque] def f46L0 : aF := by
  refine(fun (_:gL Tryz.f229 0 ((.seq (s (d 195 29) (c .skip (.exit 0) [0,1,6,7])) (.seq (.block 1 (.seq (.iS (.range 23) [] [] (b 195)) (r (b 195))) [0,1,6,7]) (r (b 195)))))=some ?x)=> ?x) ?_;rotate_left;conv=>lhs;cbv
def f46:fh:=by
 refine(fun (_:gF Tryz.f229 ((s [0,1] (.seq (s [0,1,13] (c (s [4,5] .ret) .skip [0,1])) (.seq (.seq (.iS (.range 13) [] [] [0,1,26]) (c (s [4,5] .ret) .skip [0,1])) (s (b 67) (.seq (s (b 195) (.block 0 (.loop [0,1,6,7] f46L0) [6])) (s [4,5] .ret)))))))=some (?b, ?r))=>⟨2, ?r,false, ?b⟩) ?_;rotate_left 2;conv=>lhs;cbv
def f47:fh:=by
 refine(fun (_:gF Tryz.f230 ((r []))=some (?b, ?r))=>⟨1, ?r,false, ?b⟩) ?_;rotate_left 2;conv=>lhs;cbv
def f48:fh:=by
 refine(fun (_:gF Tryz.f231 ((.seq (.seq (.iS (.range 17) [] [] [0,1,20]) (c (r [0,1]) .skip [0,1])) (s [0,1,28] (c (r []) .skip []))))=some (?b, ?r))=>⟨2, ?r,false, ?b⟩) ?_;rotate_left 2;conv=>lhs;cbv
@[cbv_opaque] def f49L0 : aF := by
  refine(fun (_:gL Tryz.f232 0 ((.seq (s (b 131555) (c .skip (.exit 0) [0,1,5,6,7,8])) (.seq (.block 1 (s (b 483) (.seq (s (d 483 28) (c (s [4] .ret) .skip [0,1,5,6,7,8])) (.seq (s (d 483 38) (c (s [4] .ret) .skip [0,1,5,6,7,8])) (s (b 483) (s (b 483) (r (b 483))))))) [0,1,5,6,7,8]) (r (b 483)))))=some ?x)=> ?x) ?_;rotate_left;conv=>lhs;cbv
def f49:fh:=by
 refine(fun (_:gF Tryz.f232 ((s [0,1] (s (b 227) (.seq (s (b 483) (.block 0 (.loop [0,1,5,6,7,8] f49L0) [0])) (s [] (s [4] .ret))))))=some (?b, ?r))=>⟨2, ?r,false, ?b⟩) ?_;rotate_left 2;conv=>lhs;cbv
def f50:fh:=by
 refine(fun (_:gF Tryz.f233 ((s [0] (.seq (s [0,11] (c (s (b 28) .ret) .skip [0])) (.seq (s [0,13] (c (s (b 28) .ret) .skip [0])) (.seq (s [0,15] (c (s (b 28) .ret) .skip [0])) (s [0,5] (s (b 28) .ret)))))))=some (?b, ?r))=>⟨1, ?r,true, ?b⟩) ?_;rotate_left 2;conv=>lhs;cbv
def f51:fh:=by
 refine(fun (_:gF Tryz.f234 ((s [0] (.seq (s [0,11] (c (s (b 28) .ret) .skip [0])) (.seq (s [0,13] (c (s (b 28) .ret) .skip [0])) (s [0,5] (s (b 28) .ret))))))=some (?b, ?r))=>⟨1, ?r,true, ?b⟩) ?_;rotate_left 2;conv=>lhs;cbv
def f52:fh:=by
 refine(fun (_:gF Tryz.f235 ((s [0] (.seq (s [0,6] (c (s [2] .ret) .skip [0])) (s [3] (.seq (s [3,10] (c (s [2] .ret) .skip [3])) (.seq (s [12] (c (s [2] .ret) .skip [])) (s [2] .ret)))))))=some (?b, ?r))=>⟨1, ?r,true, ?b⟩) ?_;rotate_left 2;conv=>lhs;cbv
@[cbv_opaque] def f53L0 : aF := by
  refine(fun (_:gL Tryz.f236 0 ((.seq (s (d 3719 83) (c .skip (.exit 3) [0,1,2,7,9,10,11])) (.seq (.block 4 (r (b 3719)) [0,1,2,7,9,10,11]) (r (b 3719)))))=some ?x)=> ?x) ?_;rotate_left;conv=>lhs;cbv
@[cbv_opaque] def f53L1 : aF := by
  refine(fun (_:gL Tryz.f236 1 ((.seq (s (d 135 22) (c .skip (.exit 0) [0,1,2,7])) (.block 1 (s (b 391) (.seq (s (d 391 30) (c (s [6] .ret) .skip [0,1,2,7,8])) (s (b 1927) (.seq (s (d 1671 32) (.block 2 (s (b 12884903559) (c (.seq (s (d 135 37) (c (s [] (s [6] .ret)) .skip [0,1,2,7])) (s (b 1159) (r (b 1671)))) (s (d 4294968967 49) (c (s (b 1159) (r (b 1671))) (s (d 1671 54) (c (s (b 1159) (r (b 1671))) .skip [0,1,2,7,9,10])) [0,1,2,7,9,10])) [0,1,2,7,9,10])) [0,1,2,7,9,10])) (.seq (s (d 1671 71) (c (r (b 1671)) .skip [0,1,2,7,9,10])) (s (b 3719) (.block 3 (.loop [0,1,2,7,9,10,11] f53L0) [0,1,2,7]))))))) [0,1,2,7])))=some ?x)=> ?x) ?_;rotate_left;conv=>lhs;cbv
def f53:fh:=by
 refine(fun (_:gF Tryz.f236 ((s (b 7) (s (b 135) (.seq (.block 0 (.loop [0,1,2,7] f53L1) [7]) (s [6] .ret)))))=some (?b, ?r))=>⟨3, ?r,false, ?b⟩) ?_;rotate_left 2;conv=>lhs;cbv
@[cbv_opaque] def f54L0 : aF := by
  refine(fun (_:gL Tryz.f237 0 ((.seq (s (b 569) (c .skip (.exit 0) [0,3,4,5])) (.seq (.block 1 (s (b 65593) (c (s (b 41) (r (b 57))) .skip [0,3,4,5])) [0,3,4,5]) (r (b 57)))))=some ?x)=> ?x) ?_;rotate_left;conv=>lhs;cbv
def f54:fh:=by
 refine(fun (_:gF Tryz.f237 ((s [0] (s (b 25) (.seq (s (b 57) (.block 0 (.loop [0,3,4,5] f54L0) [3,4])) (s [2] .ret)))))=some (?b, ?r))=>⟨1, ?r,true, ?b⟩) ?_;rotate_left 2;conv=>lhs;cbv
@[cbv_opaque] def f58L0 : aF := by
  refine(fun (_:gL Tryz.f261 0 ((s [0,6,32,33,34] (.seq (c .skip (.exit 1) [0,6,32,33]) (.seq (.block 2 (s [0,6,7,32,33] (.seq (.iS (.range 23) [] [] [0,6,32,33]) (r [0,6,32,33]))) [0,6,32,33]) (r [0,6,32,33])))))=some ?x)=> ?x) ?_;rotate_left;conv=>lhs;cbv
def f58:fh:=by
 refine(fun (_:gF Tryz.f261 ((s [0,1] (.seq (.block 0 (s [0,1,8] (c (s [4,5] .ret) (s [0,1,11] (c (s [4,5] .ret) (.seq (.iS (.range 14) [] [] [0,1,18]) (c (s [4,5] .ret) .skip [0,1])) [0,1])) [0,1])) [0,1]) (s (b 67) (.seq (s [0,6,32,33] (.block 1 (.loop [0,6,32,33] f58L0) [6])) (s [4,5] .ret))))))=some (?b, ?r))=>⟨2, ?r,false, ?b⟩) ?_;rotate_left 2;conv=>lhs;cbv
def f59:fh:=by
 refine(fun (_:gF Tryz.f262 ((.seq (.seq (.iS (.range 10) [] [] [0,1,13]) (c (r [0,1]) .skip [0,1])) (s [0,1,20] (c (r []) .skip []))))=some (?b, ?r))=>⟨2, ?r,false, ?b⟩) ?_;rotate_left 2;conv=>lhs;cbv
@[cbv_opaque] def f60L0 : aF := by
  refine(fun (_:gL Tryz.f263 0 ((.seq (s (d 99 17) (c .skip (.exit 0) [0,1,5,6])) (.seq (.block 1 (s (b 99) (s (b 483) (s (d 227 39) (c (s [4] .ret) .skip [0,1,5,6])))) [0,1,5,6]) (r (b 99)))))=some ?x)=> ?x) ?_;rotate_left;conv=>lhs;cbv
def f60:fh:=by
 refine(fun (_:gF Tryz.f263 ((s [0,1] (s (b 35) (.seq (s (b 99) (.block 0 (.loop [0,1,5,6] f60L0) [0])) (s [] (s [4] .ret))))))=some (?b, ?r))=>⟨2, ?r,false, ?b⟩) ?_;rotate_left 2;conv=>lhs;cbv
@[cbv_opaque] def f61L0 : aF := by
  refine(fun (_:gL Tryz.f264 0 ((.seq (s [0,6,8,53] (c .skip (.exit 0) [0,6,8])) (.seq (.block 1 (.iS (.range 15) [] [] [0,6,8]) [0,6,8]) (r [0,6,8]))))=some ?x)=> ?x) ?_;rotate_left;conv=>lhs;cbv
def f61:fh:=by
 refine(fun (_:gF Tryz.f264 ((s (b 69) (.seq (s (d 69 20) (c .ret .skip [0,2,6])) (s [0,6,7] (.seq (s [0,6,7,28] (c .ret .skip [0,6,7])) (s [0,6,8] (.seq (s [0,6,8,42] (c (r [0,6,8]) .skip [0,6,8])) (.block 0 (.loop [0,6,8] f61L0) []))))))))=some (?b, ?r))=>⟨3, ?r,false, ?b⟩) ?_;rotate_left 2;conv=>lhs;cbv
@[cbv_opaque] def f62L0 : aF := by
  refine(fun (_:gL Tryz.f265 1 ((s (b 503316544) (.seq (c .skip (.exit 2) [6,25,26,27]) (.seq (.block 3 (s (b 234881344) (r [6,25,26,27])) [6,25,26,27]) (r [6,25,26,27])))))=some ?x)=> ?x) ?_;rotate_left;conv=>lhs;cbv
@[cbv_opaque] def f62L1 : aF := by
  refine(fun (_:gL Tryz.f265 0 ((s (b 7689) (.seq (c .skip (.exit 0) [0,3,9,10,11]) (.seq (.block 1 (s (b 3625) (s (b 3593) (s (b 1052169) (c (r (b 3593)) .skip [0,3,9,10,11])))) [0,3,9,10,11]) (r (b 3593))))))=some ?x)=> ?x) ?_;rotate_left;conv=>lhs;cbv
def f62:fh:=by
 refine(fun (_:gF Tryz.f265 ((s [0] (s [0,3] (.seq (s (b 3593) (.block 0 (.loop [0,3,9,10,11] f62L1) [0,3])) (s [0,6] (.seq (s [6,25,26,27] (.block 2 (.loop [6,25,26,27] f62L0) [6])) (s [2] .ret)))))))=some (?b, ?r))=>⟨1, ?r,true, ?b⟩) ?_;rotate_left 2;conv=>lhs;cbv
def f63:fh:=by
 refine(fun (_:gF Tryz.f266 ((s [0,1] (.seq (c (s [6,7] (s [4,5] .ret)) .skip [0,1]) (s [8,9] (s [4,5] .ret)))))=some (?b, ?r))=>⟨2, ?r,true, ?b⟩) ?_;rotate_left 2;conv=>lhs;cbv
@[cbv_opaque] def f64L0 : aF := by
  refine(fun (_:gL Tryz.f267 1 ((.seq (s (d 1539 46) (c .skip (.exit 2) [0,1,9,10])) (.block 3 (s (b 7683) (r (b 1539))) [0,1,9,10])))=some ?x)=> ?x) ?_;rotate_left;conv=>lhs;cbv
@[cbv_opaque] def f64L1 : aF := by
  refine(fun (_:gL Tryz.f267 0 ((s (b 3932195) (.seq (c .skip (.exit 0) [0,1,5,18,19,20]) (.seq (.block 1 (s (b 1835299) (r (b 1835043))) [0,1,5,18,19,20]) (r (b 1835043))))))=some ?x)=> ?x) ?_;rotate_left;conv=>lhs;cbv
def f64:fh:=by
 refine(fun (_:gF Tryz.f267 ((s [0,1] (s (b 35) (s (b 99) (.seq (s (b 1835043) (.block 0 (.loop [0,1,5,18,19,20] f64L1) [0,1,5])) (.seq (s (d 35 31) (c (r (b 35)) .skip [0,1,5])) (s [0,1,9] (s (b 1539) (.seq (.block 2 (.loop [0,1,9,10] f64L0) [0,1,10]) (.seq (s [0,10,65] (c (r [10]) .skip [10])) (s [4] .ret)))))))))))=some (?b, ?r))=>⟨2, ?r,false, ?b⟩) ?_;rotate_left 2;conv=>lhs;cbv
def f65:fh:=by
 refine(fun (_:gF Tryz.f268 ((s [0] (.seq (s [0,6] (c (s [2] .ret) .skip [0])) (.seq (s [3] (.block 0 (s [3,12] (c (s [2] .ret) (s [15] (c (s [2] .ret) .skip [])) [])) [])) (s [2] .ret)))))=some (?b, ?r))=>⟨1, ?r,true, ?b⟩) ?_;rotate_left 2;conv=>lhs;cbv
@[cbv_opaque] def f66L0 : aF := by
  refine(fun (_:gL Tryz.f269 0 ((s (b 968) (.seq (c .skip (.exit 0) [3,6,7,8]) (.seq (.block 1 (s (b 488) (r (b 456))) [3,6,7,8]) (r (b 456))))))=some ?x)=> ?x) ?_;rotate_left;conv=>lhs;cbv
def f66:fh:=by
 refine(fun (_:gF Tryz.f269 ((s [0] (s [0,3] (.seq (s (b 456) (.block 0 (.loop [3,6,7,8] f66L0) [3])) (s [2] .ret)))))=some (?b, ?r))=>⟨1, ?r,true, ?b⟩) ?_;rotate_left 2;conv=>lhs;cbv
@[cbv_opaque] def f67L0 : aF := by
  refine(fun (_:gL Tryz.f252 0 ((.seq (s [0,3,15] (c .skip (.exit 0) [0,3])) (.seq (.block 1 (s [0,3,29] (c (s [2] .ret) .skip [0,3])) [0,3]) (r [0,3]))))=some ?x)=> ?x) ?_;rotate_left;conv=>lhs;cbv
def f67:fh:=by
 refine(fun (_:gF Tryz.f252 ((s [0] (.seq (s [0,11] (c (s [2] .ret) .skip [0])) (.seq (s [0,3] (.block 0 (.loop [0,3] f67L0) [])) (s [2] .ret)))))=some (?b, ?r))=>⟨1, ?r,true, ?b⟩) ?_;rotate_left 2;conv=>lhs;cbv
@[cbv_opaque] def f68L0 : aF := by
  refine(fun (_:gL Tryz.f253 0 ((.seq (s (b 281) (c .skip (.exit 0) [0,3,4])) (.seq (.block 1 (s (b 32793) (c (r (b 25)) .skip [0,3,4])) [0,3,4]) (r (b 25)))))=some ?x)=> ?x) ?_;rotate_left;conv=>lhs;cbv
def f68:fh:=by
 refine(fun (_:gF Tryz.f253 ((s [0] (s [0,3] (.seq (s (b 25) (.block 0 (.loop [0,3,4] f68L0) [3])) (s [2] .ret)))))=some (?b, ?r))=>⟨1, ?r,true, ?b⟩) ?_;rotate_left 2;conv=>lhs;cbv
def f72:fh:={np:=3,res:=[.tmp 6,.tmp 7],pure:=false,body:=(.seq (.oI [⟨some 6,.mv (.c (.int .i64 0)),none⟩,⟨some 7,.mv (.c (.bool false)),none⟩] [0,1,2]) (.seq (.seq (.iS [0,1,2,3,4,5,6,7,8,9,10,11,12,13,14,15,16,17,18,19,20,21,22,23,24,25,26,27,28,29,30,31,32] [⟨some 8,.mv (.t 1),none⟩,⟨some 9,.bin .lss (.t 8) (.c (.int .i64 1)),none⟩,⟨some 10,.mv (.t 9),none⟩,⟨some 11,.mv (.t 1),(some (10,false))⟩,⟨some 12,.bin .gtr (.t 11) (.c (.int .i64 15)),(some (10,false))⟩,⟨some 13,.pick (.t 10) (.c (.bool true)) (.t 12),none⟩,⟨some 14,.mv (.t 13),none⟩,⟨some 15,.mv (.t 2),(some (14,false))⟩,⟨some 16,.mv (.t 0),(some (14,false))⟩,⟨some 17,.mv (.t 1),(some (14,false))⟩,⟨some 18,.nR (.t 16),(some (14,false))⟩,⟨some 19,.nI 0 (.t 18),(some (14,false))⟩,⟨some 20,.ky 16 1 (.t 19) (.t 17),(some (14,false))⟩,⟨some 21,.load false 1 (.t 20),(some (14,false))⟩,⟨some 22,.bin .lss (.t 15) (.t 21),(some (14,false))⟩,⟨some 23,.pick (.t 14) (.c (.bool true)) (.t 22),none⟩,⟨some 24,.mv (.t 23),none⟩,⟨some 25,.mv (.t 2),(some (24,false))⟩,⟨some 26,.mv (.t 0),(some (24,false))⟩,⟨some 27,.mv (.t 1),(some (24,false))⟩,⟨some 28,.nR (.t 26),(some (24,false))⟩,⟨some 29,.nI 0 (.t 28),(some (24,false))⟩,⟨some 30,.ky 16 1 (.t 29) (.t 27),(some (24,false))⟩,⟨some 31,.load false 1 (.t 30),(some (24,false))⟩,⟨some 32,.bin .sub (.t 25) (.t 31),(some (24,false))⟩,⟨some 33,.mv (.t 0),(some (24,false))⟩,⟨some 34,.mv (.t 1),(some (24,false))⟩,⟨some 35,.nR (.t 33),(some (24,false))⟩,⟨some 36,.nI 16 (.t 35),(some (24,false))⟩,⟨some 37,.ky 16 1 (.t 36) (.t 34),(some (24,false))⟩,⟨some 38,.load false 1 (.t 37),(some (24,false))⟩,⟨some 39,.bin .geq (.t 32) (.t 38),(some (24,false))⟩,⟨some 40,.pick (.t 24) (.c (.bool true)) (.t 39),none⟩] [] [0,1,2,40]) (.cond (.t 40) (.seq (.oI [⟨some 6,.mv (.c (.int .i64 0)),none⟩,⟨some 7,.mv (.c (.bool false)),none⟩] [6,7]) (.ret)) (.skip) [0,1,2])) (.seq (.iS [0,1,2,3,4,5,6,7,8,9,10,11,12,13,14,15,16,17] [⟨some 41,.mv (.t 0),none⟩,⟨some 42,.mv (.t 1),none⟩,⟨some 43,.nR (.t 41),none⟩,⟨some 44,.nI 32 (.t 43),none⟩,⟨some 45,.ky 16 1 (.t 44) (.t 42),none⟩,⟨some 46,.load false 1 (.t 45),none⟩,⟨some 47,.mv (.t 2),none⟩,⟨some 48,.mv (.t 0),none⟩,⟨some 49,.mv (.t 1),none⟩,⟨some 50,.nR (.t 48),none⟩,⟨some 51,.nI 0 (.t 50),none⟩,⟨some 52,.ky 16 1 (.t 51) (.t 49),none⟩,⟨some 53,.load false 1 (.t 52),none⟩,⟨some 54,.bin .sub (.t 47) (.t 53),none⟩,⟨some 55,.nJ 1 (.t 46) (.t 54),none⟩,⟨some 56,.load false 1 (.t 55),none⟩,⟨some 6,.mv (.t 56),none⟩,⟨some 7,.mv (.c (.bool true)),none⟩] [] [6,7]) (.ret))))}
def f73:fh:=by
 refine(fun (_:gF Tryz.f272 ((s (b 15) (.seq (s (b 1031) (c (r (b 7)) .skip [0,1,2])) (s [8] .ret))))=some (?b, ?r))=>⟨4, ?r,false, ?b⟩) ?_;rotate_left 2;conv=>lhs;cbv
def f74:fh:=by
 refine(fun (_:gF Tryz.f273 ((s [0] (s [0,5] (.seq (.block 0 (s [0,5,10] (c (s (b 28) .ret) (s [5,17] (c (s (b 28) .ret) (s [5,20] (c (s (b 28) .ret) .skip [5])) [5])) [5])) [5]) (s [5,6] (s (b 28) .ret))))))=some (?b, ?r))=>⟨1, ?r,true, ?b⟩) ?_;rotate_left 2;conv=>lhs;cbv
def f75:fh:=by
 refine(fun (_:gF Tryz.f274 ((s [0] (.seq (.block 0 (s [0,6] (c (s (b 28) .ret) (s [0,13] (c (s (b 28) .ret) .skip [0])) [0])) [0]) (s [0,5] (s (b 28) .ret)))))=some (?b, ?r))=>⟨1, ?r,true, ?b⟩) ?_;rotate_left 2;conv=>lhs;cbv
def f76:fh:=by
 refine(fun (_:gF Tryz.f275 ((s [0,1] (.seq (s (b 67) (c (r [0,1]) .skip [0,1])) (.seq (s [0,1] (s [0,1,16] (c (r [0]) .skip [0]))) (s [4] .ret)))))=some (?b, ?r))=>⟨2, ?r,false, ?b⟩) ?_;rotate_left 2;conv=>lhs;cbv
def f77:fh:=by
 refine(fun (_:gF Tryz.f276 ((s [0,1] (s [6] (s [4,5] .ret))))=some (?b, ?r))=>⟨2, ?r,true, ?b⟩) ?_;rotate_left 2;conv=>lhs;cbv
def f78:fh:=by
 refine(fun (_:gF Tryz.f277 ((s [0,1] (s (b 67) (s (b 195) (s (b 451) (s (b 963) (s (b 1987) (s (b 2755) (s (b 6851) (s (b 12995) (s (b 12931) (s (b 19) (s [4,5] .ret)))))))))))))=some (?b, ?r))=>⟨2, ?r,true, ?b⟩) ?_;rotate_left 2;conv=>lhs;cbv
def f79:fh:=by
 refine(fun (_:gF Tryz.f278 ((s [] (s [0] .ret)))=some (?b, ?r))=>⟨0, ?r,true, ?b⟩) ?_;rotate_left 2;conv=>lhs;cbv
def f80:fh:=by
 refine(fun (_:gF Tryz.f279 ((s (b 7) (.seq (s (b 263) (.block 0 (s (b 775) (c (.seq (s [0,2,13] (c (s [] (s [6,7] .ret)) .skip [0,2])) (.seq (.iS (.range 11) [] [(5,[1])] [6,7]) .ret)) (s [0,1,8,25] (c (s [6,7] .ret) (s [0,1,30] (c (s [6,7] .ret) .skip [1])) [1])) [1])) [1])) (s [6,7] .ret))))=some (?b, ?r))=>⟨3, ?r,false, ?b⟩) ?_;rotate_left 2;conv=>lhs;cbv
def f81:fh:=by
 refine(fun (_:gF Tryz.f280 ((s [0] (s [0,3] (s [2] .ret))))=some (?b, ?r))=>⟨1, ?r,true, ?b⟩) ?_;rotate_left 2;conv=>lhs;cbv
def f82:fh:=by
 refine(fun (_:gF Tryz.f282 ((s [0] (s [2] .ret)))=some (?b, ?r))=>⟨1, ?r,true, ?b⟩) ?_;rotate_left 2;conv=>lhs;cbv
def f83:fh:=by
 refine(fun (_:gF Tryz.f69 ((s [0,1] (s [4] .ret)))=some (?b, ?r))=>⟨2, ?r,true, ?b⟩) ?_;rotate_left 2;conv=>lhs;cbv
@[cbv_opaque] def f84L0 : aF := by
  refine(fun (_:gL Tryz.f141 0 ((s (b 899) (.seq (c .skip (.exit 0) [0,1,7,8]) (.seq (.block 1 (s (b 419) (s (b 65955) (c (s [4] .ret) .skip [0,1,7,8]))) [0,1,7,8]) (r (b 387))))))=some ?x)=> ?x) ?_;rotate_left;conv=>lhs;cbv
def f84:fh:=by
 refine(fun (_:gF Tryz.f141 ((s [0,1] (.seq (s (b 387) (.block 0 (.loop [0,1,7,8] f84L0) [])) (s [4] .ret))))=some (?b, ?r))=>⟨2, ?r,true, ?b⟩) ?_;rotate_left 2;conv=>lhs;cbv
@[cbv_opaque] def f91L0 : aF := by
  refine(fun (_:gL Tryz.f149 0 ((s (b 4026532032) (.seq (c .skip (.exit 0) [6,7,28,29,30]) (.seq (.block 1 (s (b 1879048896) (r [6,7,28,29,30])) [6,7,28,29,30]) (r [6,7,28,29,30])))))=some ?x)=> ?x) ?_;rotate_left;conv=>lhs;cbv
def f91:fh:=by
 refine(fun (_:gF Tryz.f149 ((s [1] (.seq (s [1,12] (c (s [2,3] .ret) .skip [1])) (s [1,4] (s (b 82) (s (b 210) (.seq (.seq (.iS (.range 13) [] [(5,[0,2]),(8,[0])] [6,7,28,29,30]) (.block 0 (.loop [6,7,28,29,30] f91L0) [7])) (s [2,3] .ret))))))))=some (?b, ?r))=>⟨1, ?r,true, ?b⟩) ?_;rotate_left 2;conv=>lhs;cbv
@[cbv_opaque] def f93L0 : aF := by
  refine(fun (_:gL Tryz.f151 0 ((s (b 1936) (.seq (c .skip (.exit 0) [4,7,8,9]) (.seq (.block 1 (s (b 976) (.seq (s (b 33744) (c (s [2,3] .ret) .skip [4,6,7,8,9])) (r (b 912)))) [4,7,8,9]) (r (b 912))))))=some ?x)=> ?x) ?_;rotate_left;conv=>lhs;cbv
def f93:fh:=by
 refine(fun (_:gF Tryz.f151 ((s [0] (s [0,4] (.seq (s (b 912) (.block 0 (.loop [4,7,8,9] f93L0) [4])) (s [2,3] .ret)))))=some (?b, ?r))=>⟨1, ?r,true, ?b⟩) ?_;rotate_left 2;conv=>lhs;cbv
def f96:fh:=by
 refine(fun (_:gF Tryz.f80 ((s [1] (s [4] (s [2] .ret))))=some (?b, ?r))=>⟨1, ?r,true, ?b⟩) ?_;rotate_left 2;conv=>lhs;cbv
def f98:fh:=by
 refine(fun (_:gF Tryz.f45 ((s [2,3] (s [4] .ret)))=some (?b, ?r))=>⟨2, ?r,true, ?b⟩) ?_;rotate_left 2;conv=>lhs;cbv
def f101:fh:=by
 refine(fun (_:gF Tryz.f26 ((s [0] (s [2] .ret)))=some (?b, ?r))=>⟨1, ?r,true, ?b⟩) ?_;rotate_left 2;conv=>lhs;cbv
@[cbv_opaque] def f102L0 : aF := by
  refine(fun (_:gL Tryz.f162 0 ((s (b 245778) (.seq (c .skip (.exit 0) [1,4,14,15,16]) (.seq (.block 1 (s (b 114770) (r (b 114706))) [1,4,14,15,16]) (r (b 114706))))))=some ?x)=> ?x) ?_;rotate_left;conv=>lhs;cbv
def f102:fh:=by
 refine(fun (_:gF Tryz.f162 ((s [1] (.seq (s [1,9] (c (s [2,3] .ret) .skip [1])) (s [1,4] (.seq (s (b 114706) (.block 0 (.loop [1,4,14,15,16] f102L0) [1,4])) (s [1,4,7] (.seq (s [1,4,7,26] (c (r [1,4,7]) .skip [1,4,7])) (.seq (.iS (.range 14) [] [(6,[0])] [2,3]) .ret))))))))=some (?b, ?r))=>⟨1, ?r,true, ?b⟩) ?_;rotate_left 2;conv=>lhs;cbv
@[cbv_opaque] def f103L0 : aF := by
  refine(fun (_:gL Tryz.f128 0 ((s (b 12595234) (.seq (c .skip (.exit 2) [1,5,12,13,22]) (.seq (.block 3 (s (b 4206754) (s (b 4206754) (s (b 541077538) (c (r (b 4206626)) .skip [1,5,12,13,22])))) [1,5,12,13,22]) (r (b 4206626))))))=some ?x)=> ?x) ?_;rotate_left;conv=>lhs;cbv
@[cbv_opaque] def f103L1 : aF := by
  refine(fun (_:gL Tryz.f128 1 ((s (b 28706) (.seq (c .skip (.exit 0) [1,5,12,13]) (.seq (.block 1 (s (b 12386) (s (b 12322) (s (b 4206626) (.block 2 (.loop [1,5,12,13,22] f103L0) [1,5,12,13])))) [1,5,12,13]) (r (b 12322))))))=some ?x)=> ?x) ?_;rotate_left;conv=>lhs;cbv
def f103:fh:=by
 refine(fun (_:gF Tryz.f128 ((s [0,1] (s [1,5] (.seq (s (b 12322) (.block 0 (.loop [1,5,12,13] f103L1) [5])) (s [4] .ret)))))=some (?b, ?r))=>⟨2, ?r,true, ?b⟩) ?_;rotate_left 2;conv=>lhs;cbv
@[cbv_opaque] def f104L0 : aF := by
  refine(fun (_:gL Tryz.f120 0 ((s (b 7201) (.seq (c .skip (.exit 0) [0,5,10,11]) (.seq (.block 1 (s (b 3169) (r (b 3105))) [0,5,10,11]) (r (b 3105))))))=some ?x)=> ?x) ?_;rotate_left;conv=>lhs;cbv
def f104:fh:=by
 refine(fun (_:gF Tryz.f120 ((s [0,1] (s [0,5] (.seq (s (b 3105) (.block 0 (.loop [0,5,10,11] f104L0) [5])) (s [4] .ret)))))=some (?b, ?r))=>⟨2, ?r,true, ?b⟩) ?_;rotate_left 2;conv=>lhs;cbv
def f105:fh:=by
 refine(fun (_:gF Tryz.f68 ((s [0] (s [2] .ret)))=some (?b, ?r))=>⟨1, ?r,true, ?b⟩) ?_;rotate_left 2;conv=>lhs;cbv
@[cbv_opaque] def f106L0 : aF := by
  refine(fun (_:gL Tryz.f43 0 ((.seq (s (b 16419) (c .skip (.exit 0) [0,1,5])) (.seq (.block 1 (.seq (.iS (.range 9) [] [] (d 35 25)) (c (s [4] .ret) .skip [0,1,5])) [0,1,5]) (r (b 35)))))=some ?x)=> ?x) ?_;rotate_left;conv=>lhs;cbv
def f106:fh:=by
 refine(fun (_:gF Tryz.f43 ((s [0,1] (.seq (s [0,1,10] (c (s [4] .ret) .skip [0,1])) (.seq (s (b 35) (.block 0 (.loop [0,1,5] f106L0) [])) (s [4] .ret)))))=some (?b, ?r))=>⟨2, ?r,true, ?b⟩) ?_;rotate_left 2;conv=>lhs;cbv
def f107:fh:=by
 refine(fun (_:gF Tryz.f146 ((s [1] (.seq (s [1,10] (c (s [2,3] .ret) .skip [1])) (.seq (s [1,12] (c (s [2,3] .ret) .skip [1])) (s (b 50) (.seq (.iS (.range 12) [] [(7,[0])] [2,3]) .ret))))))=some (?b, ?r))=>⟨1, ?r,true, ?b⟩) ?_;rotate_left 2;conv=>lhs;cbv
@[cbv_opaque] def f110L0 : aF := by
  refine(fun (_:gL Tryz.f193 0 ((s (b 7864384) (.seq (c .skip (.exit 0) [6,19,20,21]) (.seq (.block 1 (s (b 3670464) (r (b 3670080))) [6,19,20,21]) (r (b 3670080))))))=some ?x)=> ?x) ?_;rotate_left;conv=>lhs;cbv
def f110:fh:=by
 refine(fun (_:gF Tryz.f193 ((s [0,1] (.seq (s [0,1,16] (c (s [4,5] .ret) .skip [0,1])) (s [1,6] (.seq (s (b 3670080) (.block 0 (.loop [6,19,20,21] f110L0) [6])) (s [4,5] .ret))))))=some (?b, ?r))=>⟨2, ?r,false, ?b⟩) ?_;rotate_left 2;conv=>lhs;cbv
@[cbv_opaque] def f111L0 : aF := by
  refine(fun (_:gL Tryz.f93 0 ((.seq (s (d 99 20) (c .skip (.exit 2) [0,1,5,6])) (.seq (.block 3 (s (d 99 25) (c (r (b 99)) (r (b 99)) [0,1,5,6])) [0,1,5,6]) (r (b 99)))))=some ?x)=> ?x) ?_;rotate_left;conv=>lhs;cbv
@[cbv_opaque] def f111L1 : aF := by
  refine(fun (_:gL Tryz.f93 1 ((.seq (s (b 1059) (c .skip (.exit 0) [0,1,5])) (.seq (.block 1 (s (b 35) (s (b 99) (.block 2 (.loop [0,1,5,6] f111L0) [0,1,5]))) [0,1,5]) (r (b 35)))))=some ?x)=> ?x) ?_;rotate_left;conv=>lhs;cbv
def f111:fh:=by
 refine(fun (_:gF Tryz.f93 ((s [0,1] (.seq (s (b 35) (.block 0 (.loop [0,1,5] f111L1) [0])) (s [4] .ret))))=some (?b, ?r))=>⟨2, ?r,true, ?b⟩) ?_;rotate_left 2;conv=>lhs;cbv
def f112:fh:=by
 refine(fun (_:gF Tryz.f160 ((s [0] (s [2] .ret)))=some (?b, ?r))=>⟨1, ?r,false, ?b⟩) ?_;rotate_left 2;conv=>lhs;cbv
@[cbv_opaque] def f113L0 : aF := (.seq (.oI [ ⟨some 9, .bin .lss (.t 8) (.t 7), none⟩] [1, 7, 8, 9]) (.seq (.cond (.t 9) (.skip) (.exit 0) [1, 7, 8]) (.seq (.block 1 (.seq (.oI [ ⟨some 10, .mv (.t 8), none⟩, ⟨some 3, .mv (.t 10), none⟩] [1, 3, 7, 8]) (.seq (.oI [ ⟨some 11, .nI 0 (.t 1), none⟩, ⟨some 12, .load false 1 (.t 11), none⟩, ⟨some 13, .mv (.t 3), none⟩, ⟨some 14, .nJ 9 (.t 12) (.t 13), none⟩, ⟨some 4, .mv (.t 14), none⟩] [1, 3, 4, 7, 8]) (.seq (.iS [0, 1, 2, 3, 4, 5, 6, 7, 8, 9, 10, 11, 12, 13, 14, 15, 16, 17, 18, 19, 20, 21, 22, 23, 24, 25, 26, 27, 28, 29, 30, 31, 32, 33] [ ⟨some 15, .mv (.t 4), none⟩, ⟨some 16, .nR (.t 15), none⟩, ⟨some 17, .nI 0 (.t 16), none⟩, ⟨some 18, .load false 1 (.t 17), none⟩, ⟨some 19, .call (.c (.fn 121 [] [])) [(.t 18)], none⟩, ⟨some 20, .not (.t 19), none⟩, ⟨some 21, .mv (.t 20), none⟩, ⟨some 22, .mv (.t 3), (some (21, false))⟩, ⟨some 23, .bin .gtr (.t 22) (.c (.int .i64 0)), (some (21, false))⟩, ⟨some 24, .mv (.t 23), (some (21, false))⟩, ⟨some 25, .nI 0 (.t 1), (some (24, true))⟩, ⟨some 26, .load false 1 (.t 25), (some (24, true))⟩, ⟨some 27, .mv (.t 3), (some (24, true))⟩, ⟨some 28, .bin .sub (.t 27) (.c (.int .i64 1)), (some (24, true))⟩, ⟨some 29, .nJ 9 (.t 26) (.t 28), (some (24, true))⟩, ⟨some 30, .nI 0 (.t 29), (some (24, true))⟩, ⟨some 31, .load false 1 (.t 30), (some (24, true))⟩, ⟨some 32, .mv (.t 4), (some (24, true))⟩, ⟨some 33, .nR (.t 32), (some (24, true))⟩, ⟨some 34, .nI 0 (.t 33), (some (24, true))⟩, ⟨some 35, .load false 1 (.t 34), (some (24, true))⟩, ⟨some 36, .bin .geq (.t 31) (.t 35), (some (24, true))⟩, ⟨some 37, .pick (.t 24) (.t 36) (.c (.bool false)), (some (21, false))⟩, ⟨some 38, .pick (.t 21) (.c (.bool true)) (.t 37), none⟩, ⟨some 39, .mv (.t 38), none⟩, ⟨some 40, .mv (.t 4), (some (39, false))⟩, ⟨some 41, .call (.c (.fn 112 [] [])) [(.t 40)], (some (39, false))⟩, ⟨some 42, .not (.t 41), (some (39, false))⟩, ⟨some 43, .pick (.t 39) (.c (.bool true)) (.t 42), none⟩, ⟨some 44, .mv (.t 43), none⟩, ⟨some 45, .mv (.t 4), (some (44, false))⟩, ⟨some 46, .call (.c (.fn 122 [] [])) [(.t 45)], (some (44, false))⟩, ⟨some 47, .not (.t 46), (some (44, false))⟩, ⟨some 48, .pick (.t 44) (.c (.bool true)) (.t 47), none⟩] [] [1, 7, 8, 48]) (.cond (.t 48) (.seq (.oI [ ⟨some 2, .mv (.c (.bool false)), none⟩] [2]) (.ret)) (.skip) [1, 7, 8])))) [1, 7, 8])
 (.oI [⟨some 49,.bin .add (.t 8) (.c (.int .i64 1)),none⟩,⟨some 8,.mv (.t 49),none⟩] [1,7,8]))))
def f113:fh:=by
 refine(fun (_:gF Tryz.f121 ((s [1] (.seq (s [1,7,8] (.block 0 (.loop [1,7,8] f113L0) [1])) (s [2] .ret))))=some (?b, ?r))=>⟨1, ?r,true, ?b⟩) ?_;rotate_left 2;conv=>lhs;cbv
def f114:fh:=by
 refine(fun (_:gF Tryz.f168 ((s (b 7) (.seq (s (d 7 16) (c (s [6,7] .ret) .skip [0,1,2])) (.seq (s [1,2,17] (.block 0 (s (b 393222) (c (s [1,23] (c (s [6,7] .ret) .skip [])) (s [1,2,25] (c (s (b 1798) (s [8,47] (c (s [6,7] .ret) .skip []))) .skip [])) [])) [])) (s [6,7] .ret)))))=some (?b, ?r))=>⟨3, ?r,true, ?b⟩) ?_;rotate_left 2;conv=>lhs;cbv
def f115:fh:=by
 refine(fun (_:gF Tryz.f55 ((s [0] (s [2] .ret)))=some (?b, ?r))=>⟨1, ?r,true, ?b⟩) ?_;rotate_left 2;conv=>lhs;cbv
def f117:fh:=by
 refine(fun (_:gF Tryz.f72 ((s [0] (s [2] .ret)))=some (?b, ?r))=>⟨1, ?r,true, ?b⟩) ?_;rotate_left 2;conv=>lhs;cbv
def f118:fh:=by
 refine(fun (_:gF Tryz.f192 ((s [0] (.seq (s [0,4] (c (s [2] .ret) .skip [0])) (s [2] .ret))))=some (?b, ?r))=>⟨1, ?r,false, ?b⟩) ?_;rotate_left 2;conv=>lhs;cbv
def f119:fh:=by
 refine(fun (_:gF Tryz.f143 ((s [0] (s [2] .ret)))=some (?b, ?r))=>⟨1, ?r,true, ?b⟩) ?_;rotate_left 2;conv=>lhs;cbv
def f120:fh:=by
 refine(fun (_:gF Tryz.f67 ((s [0] (s [2] .ret)))=some (?b, ?r))=>⟨1, ?r,true, ?b⟩) ?_;rotate_left 2;conv=>lhs;cbv
def f121:fh:=by
 refine(fun (_:gF Tryz.f144 ((s [0] (s [2] .ret)))=some (?b, ?r))=>⟨1, ?r,true, ?b⟩) ?_;rotate_left 2;conv=>lhs;cbv
def f122:fh:=by
 refine(fun (_:gF Tryz.f161 ((s [0] (.seq (s [0,6] (c (s [2] .ret) .skip [0])) (.seq (s [0,36] (.block 0 (s [0,36,37] (c (.seq (.iS (.range 10) [] [] [0,48]) (c (s [2] .ret) .skip [0])) (s [0,49] (c (s [0,56] (c (s [2] .ret) .skip [0])) (s [2] .ret) [0])) [0])) [0])) (s [2] .ret)))))=some (?b, ?r))=>⟨1, ?r,false, ?b⟩) ?_;rotate_left 2;conv=>lhs;cbv
def f123:fh:=by
 refine(fun (_:gF Tryz.f142 ((s [0] (s [2] .ret)))=some (?b, ?r))=>⟨1, ?r,true, ?b⟩) ?_;rotate_left 2;conv=>lhs;cbv
def f124:fh:=by
 refine(fun (_:gF Tryz.f167 ((s [0,1] (.seq (s [0,1,12] (c (s [4] .ret) .skip [0,1])) (.seq (s [0,1,21] (c (.seq (.iS (.range 8) [] [] [4]) .ret) .skip [0,1])) (.seq (s (b 99) (s (d 35 34) (c (s [4] .ret) .skip [0,1]))) (s [4] .ret))))))=some (?b, ?r))=>⟨2, ?r,true, ?b⟩) ?_;rotate_left 2;conv=>lhs;cbv
@[cbv_opaque] def f125L0 : aF := by
  refine(fun (_:gL Tryz.f182 0 ((.seq (s [0,1,13] (c .skip (.exit 0) [0,1])) (.block 1 (r [0,1]) [0,1])))=some ?x)=> ?x) ?_;rotate_left;conv=>lhs;cbv
def f125:fh:=by
 refine(fun (_:gF Tryz.f182 ((s [0,1] (.seq (.block 0 (.loop [0,1] f125L0) [0]) (s [4] .ret))))=some (?b, ?r))=>⟨2, ?r,true, ?b⟩) ?_;rotate_left 2;conv=>lhs;cbv
@[cbv_opaque] def f126L0 : aF := by
  refine(fun (_:gL Tryz.f183 0 ((.seq (s [0,1,16] (c .skip (.exit 0) [0,1])) (.block 1 (r [0,1]) [0,1])))=some ?x)=> ?x) ?_;rotate_left;conv=>lhs;cbv
def f126:fh:=by
 refine(fun (_:gF Tryz.f183 ((s [0,1] (.seq (.block 0 (.loop [0,1] f126L0) [0]) (s [4] .ret))))=some (?b, ?r))=>⟨2, ?r,true, ?b⟩) ?_;rotate_left 2;conv=>lhs;cbv
@[cbv_opaque] def f127L0 : aF := by
  refine(fun (_:gL Tryz.f184 0 ((.seq (s (b 533) (c .skip (.exit 0) [0,2,4])) (.seq (.block 1 (s (b 53) (.seq (s (b 65589) (c (s [2,3] .ret) .skip [0,2,4,5])) (r (b 21)))) [0,2,4]) (r (b 21)))))=some ?x)=> ?x) ?_;rotate_left;conv=>lhs;cbv
def f127:fh:=by
 refine(fun (_:gF Tryz.f184 ((s [0,2] (.seq (s (b 21) (.block 0 (.loop [0,2,4] f127L0) [2])) (s [2,3] .ret))))=some (?b, ?r))=>⟨1, ?r,true, ?b⟩) ?_;rotate_left 2;conv=>lhs;cbv
@[cbv_opaque] def f128L0 : aF := by
  refine(fun (_:gL Tryz.f185 0 ((.seq (s [0,1,7] (c .skip (.exit 0) [0,1])) (.block 1 (.seq (s [0,1,12] (c (.exit 0) .skip [0,1])) (r [0,1])) [0,1])))=some ?x)=> ?x) ?_;rotate_left;conv=>lhs;cbv
def f128:fh:=by
 refine(fun (_:gF Tryz.f185 ((s [0,1] (.seq (.block 0 (.loop [0,1] f128L0) [0]) (s [4] .ret))))=some (?b, ?r))=>⟨2, ?r,false, ?b⟩) ?_;rotate_left 2;conv=>lhs;cbv
@[cbv_opaque] def f129L0 : aF := by
  refine(fun (_:gL Tryz.f186 0 ((.seq (s [0,1,7] (c .skip (.exit 0) [0,1])) (.block 1 (.seq (s [0,1,15] (c (.exit 0) .skip [0,1])) (r [0,1])) [0,1])))=some ?x)=> ?x) ?_;rotate_left;conv=>lhs;cbv
def f129:fh:=by
 refine(fun (_:gF Tryz.f186 ((s [0,1] (.seq (.block 0 (.loop [0,1] f129L0) [0]) (s [4] .ret))))=some (?b, ?r))=>⟨2, ?r,false, ?b⟩) ?_;rotate_left 2;conv=>lhs;cbv
@[cbv_opaque] def f130L0 : aF := by
  refine(fun (_:gL Tryz.f187 0 ((.seq (s [0,1,9] (c .skip (.exit 0) [0,1])) (.block 1 (s (b 99) (.seq (s (d 67 18) (c (.exit 0) .skip [0,1,6])) (r [0,1]))) [0,1])))=some ?x)=> ?x) ?_;rotate_left;conv=>lhs;cbv
def f130:fh:=by
 refine(fun (_:gF Tryz.f187 ((s [0,1] (.seq (.block 0 (.loop [0,1] f130L0) [0]) (s [4] .ret))))=some (?b, ?r))=>⟨2, ?r,true, ?b⟩) ?_;rotate_left 2;conv=>lhs;cbv
@[cbv_opaque] def f131L0 : aF := by
  refine(fun (_:gL Tryz.f188 0 ((.seq (s [0,1,9] (c .skip (.exit 0) [0,1])) (.block 1 (s (b 99) (.seq (s (d 99 17) (c (r (b 99)) .skip [0,1,5,6])) (.seq (s (d 67 26) (c (.exit 0) .skip [0,1,6])) (r [0,1])))) [0,1])))=some ?x)=> ?x) ?_;rotate_left;conv=>lhs;cbv
def f131:fh:=by
 refine(fun (_:gF Tryz.f188 ((s [0,1] (.seq (.block 0 (.loop [0,1] f131L0) [0]) (s [4] .ret))))=some (?b, ?r))=>⟨2, ?r,true, ?b⟩) ?_;rotate_left 2;conv=>lhs;cbv
def f132:fh:=by
 refine(fun (_:gF Tryz.f219 ((s [0,1] (s [4] .ret)))=some (?b, ?r))=>⟨2, ?r,false, ?b⟩) ?_;rotate_left 2;conv=>lhs;cbv
def f133:fh:=by
 refine(fun (_:gF Tryz.f220 ((s [0] (.seq (s [0,10] (c (s [2,3] .ret) (r [2,3]) [2,3])) .ret)))=some (?b, ?r))=>⟨1, ?r,true, ?b⟩) ?_;rotate_left 2;conv=>lhs;cbv
def f134:fh:=by
 refine(fun (_:gF Tryz.f221 ((s [0,1] (s [4] .ret)))=some (?b, ?r))=>⟨2, ?r,true, ?b⟩) ?_;rotate_left 2;conv=>lhs;cbv
@[cbv_opaque] def f135L0 : aF := by
  refine(fun (_:gL Tryz.f222 0 ((.seq (s (d 113 27) (c .skip (.exit 0) [0,4,5,6])) (.seq (.block 1 (s (d 113 33) (c (.exit 0) .skip [0,4,5,6])) [0,4,5,6]) (r (b 113)))))=some ?x)=> ?x) ?_;rotate_left;conv=>lhs;cbv
def f135:fh:=by
 refine(fun (_:gF Tryz.f222 ((s [0] (s [0,4] (.seq (s [0,4,10] (c (s [2,3] .ret) .skip [0,4])) (s (b 49) (s (b 53) (.seq (s (d 53 18) (c (s [2,3] .ret) .skip [0,4,5])) (s (b 113) (.seq (s (b 113) (.block 0 (.loop [0,4,5,6] f135L0) [0,4,5])) (.seq (s (d 49 35) (c (r (b 49)) .skip [0,4,5])) (s (b 60) (.seq (s [2,3,48] (c (s [2,3] .ret) .skip [2,3])) (s [2,3] .ret)))))))))))))=some (?b, ?r))=>⟨1, ?r,true, ?b⟩) ?_;rotate_left 2;conv=>lhs;cbv
def f138:fh:=by
 refine(fun (_:gF Tryz.f243 ((s [0] (s [2] .ret)))=some (?b, ?r))=>⟨1, ?r,true, ?b⟩) ?_;rotate_left 2;conv=>lhs;cbv
def f139:fh:=by
 refine(fun (_:gF Tryz.f257 ((s [0,1] (s [4] .ret)))=some (?b, ?r))=>⟨2, ?r,true, ?b⟩) ?_;rotate_left 2;conv=>lhs;cbv
def f140:fh:=by
 refine(fun (_:gF Tryz.f258 ((s [0] (.seq (.block 0 (s [0,3] (c (s [2] .ret) (s [10] (c (s [2] .ret) .skip [])) [])) []) (s [2] .ret))))=some (?b, ?r))=>⟨1, ?r,true, ?b⟩) ?_;rotate_left 2;conv=>lhs;cbv
def f141:fh:=by
 refine(fun (_:gF Tryz.f259 ((s [0] (s [2] .ret)))=some (?b, ?r))=>⟨1, ?r,true, ?b⟩) ?_;rotate_left 2;conv=>lhs;cbv
def f151:fh:=by
 refine(fun (_:gF Tryz.f112 ((s [1] (.seq (s [1,8] (c (s [2,3] .ret) .skip [1])) (s [1,4] (.seq (.iS (.range 16) [] [(5,[0,2]),(10,[0])] [2,3]) .ret)))))=some (?b, ?r))=>⟨1, ?r,true, ?b⟩) ?_;rotate_left 2;conv=>lhs;cbv
@[cbv_opaque] def f152L0 : aF := by
  refine(fun (_:gL Tryz.f113 0 ((.seq (s (b 561) (c .skip (.exit 0) [0,4,5])) (.seq (.block 1 (.seq (s (d 49 17) (c (s [2,3] .ret) .skip [0,4,5])) (r (b 49))) [0,4,5]) (r (b 49)))))=some ?x)=> ?x) ?_;rotate_left;conv=>lhs;cbv
def f152:fh:=by
 refine(fun (_:gF Tryz.f113 ((s [0] (s [0,4] (.seq (s (b 49) (.block 0 (.loop [0,4,5] f152L0) [4])) (s [2,3] .ret)))))=some (?b, ?r))=>⟨1, ?r,true, ?b⟩) ?_;rotate_left 2;conv=>lhs;cbv
def f157:fh:=by
 refine(fun (_:gF Tryz.f102 ((s [1] (.seq (s [1,7] (c (s [2] .ret) .skip [1])) (.seq (s [1,9] (c (s [2] .ret) .skip [1])) (s (b 26) (.seq (.iS (.range 10) [] [(6,[0])] [2]) .ret))))))=some (?b, ?r))=>⟨1, ?r,true, ?b⟩) ?_;rotate_left 2;conv=>lhs;cbv
@[cbv_opaque] def f160L0 : aF := by
  refine(fun (_:gL Tryz.f129 0 ((.seq (s (d 50 17) (c .skip (.exit 0) [1,4,5])) (.seq (.block 1 (r (b 50)) [1,4,5]) (r (b 50)))))=some ?x)=> ?x) ?_;rotate_left;conv=>lhs;cbv
def f160:fh:=by
 refine(fun (_:gF Tryz.f129 ((s [1] (.seq (s [1,9] (c (s [2,3] .ret) .skip [1])) (s [1,4] (.seq (s (b 50) (.block 0 (.loop [1,4,5] f160L0) [1,4])) (s (b 82) (.seq (s (d 82 29) (c (r (b 82)) .skip [1,4,6])) (.seq (.iS (.range 14) [] [(6,[0])] [2,3]) .ret))))))))=some (?b, ?r))=>⟨1, ?r,true, ?b⟩) ?_;rotate_left 2;conv=>lhs;cbv
@[cbv_opaque] def f161L0 : aF := by
  refine(fun (_:gL Tryz.f57 0 ((.seq (s (b 611) (c .skip (.exit 0) [0,1,5,6])) (.seq (.block 1 (r (b 99)) [0,1,5,6]) (r (b 99)))))=some ?x)=> ?x) ?_;rotate_left;conv=>lhs;cbv
def f161:fh:=by
 refine(fun (_:gF Tryz.f57 ((s [0,1] (s (b 35) (.seq (s (b 99) (.block 0 (.loop [0,1,5,6] f161L0) [5])) (s [4] .ret)))))=some (?b, ?r))=>⟨2, ?r,true, ?b⟩) ?_;rotate_left 2;conv=>lhs;cbv
def f162:fh:=by
 refine(fun (_:gF Tryz.f85 ((s [0] (s [2] .ret)))=some (?b, ?r))=>⟨1, ?r,true, ?b⟩) ?_;rotate_left 2;conv=>lhs;cbv
def f164:fh:=by
 refine(fun (_:gF Tryz.f157 ((s (b 7) (.seq (s (d 7 16) (c (s [6,7] .ret) .skip [0,1,2])) (.seq (s [1,2,17] (.block 0 (s (b 393222) (c (s [1,23] (c (s [6,7] .ret) .skip [])) (s [1,2,25] (c (s (b 1798) (s [8,47] (c (s [6,7] .ret) .skip []))) .skip [])) [])) [])) (s [6,7] .ret)))))=some (?b, ?r))=>⟨3, ?r,true, ?b⟩) ?_;rotate_left 2;conv=>lhs;cbv
def f167:fh:=by
 refine(fun (_:gF Tryz.f156 ((s [1] (.seq (s [1,11] (c (s [2] .ret) .skip [1])) (.seq (s [1,13] (c (s [2] .ret) .skip [1])) (.seq (s [1,49] (c (s [2] .ret) .skip [1])) (s [2] .ret))))))=some (?b, ?r))=>⟨1, ?r,true, ?b⟩) ?_;rotate_left 2;conv=>lhs;cbv
def f169:fh:=by
 refine(fun (_:gF Tryz.f164 ((s [1] (s [2] .ret)))=some (?b, ?r))=>⟨1, ?r,true, ?b⟩) ?_;rotate_left 2;conv=>lhs;cbv
@[cbv_opaque] def f172L0 : aF := by
  refine(fun (_:gL Tryz.f114 0 ((.seq (s [0,3,7] (c .skip (.exit 0) [0,3])) (.seq (.block 1 (s [0,3,21] (c (s [2] .ret) .skip [0,3])) [0,3]) (r [0,3]))))=some ?x)=> ?x) ?_;rotate_left;conv=>lhs;cbv
def f172:fh:=by
 refine(fun (_:gF Tryz.f114 ((s [0] (.seq (s [0,3] (.block 0 (.loop [0,3] f172L0) [0])) (s [2] .ret))))=some (?b, ?r))=>⟨1, ?r,true, ?b⟩) ?_;rotate_left 2;conv=>lhs;cbv
@[cbv_opaque] def f173L0 : aF := by
  refine(fun (_:gL Tryz.f115 0 ((.seq (s [0,3,24] (c .skip (.exit 0) [0,3])) (.seq (.block 1 (s (b 25) (s [0,3,55] (c (s [2] .ret) .skip [0,3]))) [0,3]) (r [0,3]))))=some ?x)=> ?x) ?_;rotate_left;conv=>lhs;cbv
def f173:fh:=by
 refine(fun (_:gF Tryz.f115 ((s [0] (.seq (s [0,20] (c (s [2] .ret) .skip [0])) (.seq (s [0,3] (.block 0 (.loop [0,3] f173L0) [])) (s [2] .ret)))))=some (?b, ?r))=>⟨1, ?r,true, ?b⟩) ?_;rotate_left 2;conv=>lhs;cbv
@[cbv_opaque] def f177L0 : aF := by
  refine(fun (_:gL Tryz.f94 1 ((s [10,42,43,44] (.seq (c .skip (.exit 2) [10,42,43]) (.seq (.block 3 (s [10,12,42,43] (s [10,13,42,43] (r [10,42,43]))) [10,42,43]) (r [10,42,43])))))=some ?x)=> ?x) ?_;rotate_left;conv=>lhs;cbv
@[cbv_opaque] def f177L1 : aF := by
  refine(fun (_:gL Tryz.f94 0 ((s (b 7864336) (.seq (c .skip (.exit 0) [4,19,20,21]) (.seq (.block 1 (s (b 3670096) (s (b 3670224) (s (b 3670672) (r (b 3670032))))) [4,19,20,21]) (r (b 3670032))))))=some ?x)=> ?x) ?_;rotate_left;conv=>lhs;cbv
def f177:fh:=by
 refine(fun (_:gF Tryz.f94 ((s [1] (.seq (s [1,17] (c (s [2,3] .ret) .skip [1])) (s [1,4] (.seq (s (b 3670032) (.block 0 (.loop [4,19,20,21] f177L1) [4])) (s [4,10] (.seq (s [10,42,43] (.block 2 (.loop [10,42,43] f177L0) [10])) (s [2,3] .ret))))))))=some (?b, ?r))=>⟨1, ?r,false, ?b⟩) ?_;rotate_left 2;conv=>lhs;cbv
@[cbv_opaque] def f178L0 : aF := by
  refine(fun (_:gL Tryz.f171 0 ((s (b 3932226) (.seq (c .skip (.exit 0) [1,6,18,19,20]) (.seq (.block 1 (s (b 1835330) (s (b 270270786) (c (.iS (.range 10) [] [(2,[1])] (b 1835074)) .skip [1,6,18,19,20]))) [1,6,18,19,20]) (r (b 1835074))))))=some ?x)=> ?x) ?_;rotate_left;conv=>lhs;cbv
def f178:fh:=by
 refine(fun (_:gF Tryz.f171 ((s [1,2] (.seq (s [1,2,16] (c (s [4,5] .ret) .skip [1,2])) (s (b 70) (.seq (s (b 1835074) (.block 0 (.loop [1,6,18,19,20] f178L0) [6])) (s [4,5] .ret))))))=some (?b, ?r))=>⟨2, ?r,false, ?b⟩) ?_;rotate_left 2;conv=>lhs;cbv
def f179:fh:=by
 refine(fun (_:gF Tryz.f150 ((s [0] (s [2] .ret)))=some (?b, ?r))=>⟨1, ?r,true, ?b⟩) ?_;rotate_left 2;conv=>lhs;cbv
def f181:fh:=by
 refine(fun (_:gF Tryz.f95 ((s [0] (s (b 49) (.seq (s [4,17] (c (s [2,3] .ret) .skip [4])) (s [2,3] .ret)))))=some (?b, ?r))=>⟨1, ?r,true, ?b⟩) ?_;rotate_left 2;conv=>lhs;cbv
@[cbv_opaque] def f182L0 : aF := by
  refine(fun (_:gL Tryz.f65 0 ((.seq (s (b 16419) (c .skip (.exit 0) [0,1,5])) (.seq (.block 1 (.seq (.iS (.range 25) [] [] (d 35 41)) (c (s [4] .ret) .skip [0,1,5])) [0,1,5]) (r (b 35)))))=some ?x)=> ?x) ?_;rotate_left;conv=>lhs;cbv
def f182:fh:=by
 refine(fun (_:gF Tryz.f65 ((s [0,1] (.seq (s [0,1,10] (c (s [4] .ret) .skip [0,1])) (.seq (s (b 35) (.block 0 (.loop [0,1,5] f182L0) [])) (s [4] .ret)))))=some (?b, ?r))=>⟨2, ?r,true, ?b⟩) ?_;rotate_left 2;conv=>lhs;cbv
def f183:fh:=by
 refine(fun (_:gF Tryz.f148 ((s [1] (s [2] .ret)))=some (?b, ?r))=>⟨1, ?r,true, ?b⟩) ?_;rotate_left 2;conv=>lhs;cbv
@[cbv_opaque] def f184L0 : aF := by
  refine(fun (_:gL Tryz.f73 0 ((s (b 481) (.seq (c .skip (.exit 0) [0,5,6,7]) (.seq (.block 1 (s (b 249) (s (d 225 30) (c (s [2] .ret) .skip [0,5,6,7]))) [0,5,6,7]) (r (b 225))))))=some ?x)=> ?x) ?_;rotate_left;conv=>lhs;cbv
def f184:fh:=by
 refine(fun (_:gF Tryz.f73 ((s [0] (.seq (s (b 225) (.block 0 (.loop [0,5,6,7] f184L0) [])) (s [2] .ret))))=some (?b, ?r))=>⟨1, ?r,true, ?b⟩) ?_;rotate_left 2;conv=>lhs;cbv
def f185:fh:=by
 refine(fun (_:gF Tryz.f191 ((s [0,1] (s [4] .ret)))=some (?b, ?r))=>⟨2, ?r,true, ?b⟩) ?_;rotate_left 2;conv=>lhs;cbv
def f186:fh:=by
 refine(fun (_:gF Tryz.f169 ((s [1] (s [3] (s [2] .ret))))=some (?b, ?r))=>⟨1, ?r,true, ?b⟩) ?_;rotate_left 2;conv=>lhs;cbv
def f187:fh:=by
 refine(fun (_:gF Tryz.f83 ((s [0,1] (s [4] .ret)))=some (?b, ?r))=>⟨2, ?r,true, ?b⟩) ?_;rotate_left 2;conv=>lhs;cbv
def f188:fh:=by
 refine(fun (_:gF Tryz.f170 ((s [1] (s [2] .ret)))=some (?b, ?r))=>⟨1, ?r,true, ?b⟩) ?_;rotate_left 2;conv=>lhs;cbv
@[cbv_opaque] def f189L0 : aF := by
  refine(fun (_:gL Tryz.f227 0 ((s (b 899) (.seq (c .skip (.exit 0) [0,1,7,8]) (.seq (.block 1 (s (b 419) (s (b 65955) (c (s [4] .ret) .skip [0,1,7,8]))) [0,1,7,8]) (r (b 387))))))=some ?x)=> ?x) ?_;rotate_left;conv=>lhs;cbv
def f189:fh:=by
 refine(fun (_:gF Tryz.f227 ((s [0,1] (.seq (s (b 387) (.block 0 (.loop [0,1,7,8] f189L0) [])) (s [4] .ret))))=some (?b, ?r))=>⟨2, ?r,true, ?b⟩) ?_;rotate_left 2;conv=>lhs;cbv
def f190:fh:=by
 refine(fun (_:gF Tryz.f190 ((s [1] (.seq (s [1,5] (c (s [2] .ret) .skip [1])) (s [2] .ret))))=some (?b, ?r))=>⟨1, ?r,true, ?b⟩) ?_;rotate_left 2;conv=>lhs;cbv
@[cbv_opaque] def f191L0 : aF := by
  refine(fun (_:gL Tryz.f147 0 ((s (b 899) (.seq (c .skip (.exit 0) [0,1,7,8]) (.seq (.block 1 (s (b 419) (s (b 65955) (c (s [4] .ret) .skip [0,1,7,8]))) [0,1,7,8]) (r (b 387))))))=some ?x)=> ?x) ?_;rotate_left;conv=>lhs;cbv
def f191:fh:=by
 refine(fun (_:gF Tryz.f147 ((s [0,1] (.seq (s (b 387) (.block 0 (.loop [0,1,7,8] f191L0) [])) (s [4] .ret))))=some (?b, ?r))=>⟨2, ?r,true, ?b⟩) ?_;rotate_left 2;conv=>lhs;cbv
@[cbv_opaque] def f192L0 : aF := by
  refine(fun (_:gL Tryz.f122 0 ((s (b 7177) (.seq (c .skip (.exit 0) [0,3,10,11]) (.seq (.block 1 (s (b 3097) (s (b 3113) (.iS (.range 17) [] [] (b 3081)))) [0,3,10,11]) (r (b 3081))))))=some ?x)=> ?x) ?_;rotate_left;conv=>lhs;cbv
def f192:fh:=by
 refine(fun (_:gF Tryz.f122 ((s [0] (s [0,3] (.seq (s (b 3081) (.block 0 (.loop [0,3,10,11] f192L0) [3])) (s [2] .ret)))))=some (?b, ?r))=>⟨1, ?r,false, ?b⟩) ?_;rotate_left 2;conv=>lhs;cbv
@[cbv_opaque] def f197L0 : aF := by
  refine(fun (_:gL Tryz.f39 0 ((.seq (s (d 242 23) (c .skip (.exit 2) [1,4,5,6,7])) (.seq (.block 3 (s (d 242 34) (c (s (b 498) (r (b 242))) .skip [1,4,5,6,7])) [1,4,5,6,7]) (r (b 242)))))=some ?x)=> ?x) ?_;rotate_left;conv=>lhs;cbv
@[cbv_opaque] def f197L1 : aF := by
  refine(fun (_:gL Tryz.f39 1 ((.seq (s (b 65586) (c .skip (.exit 0) [1,4,5])) (.seq (.block 1 (s (b 114) (.seq (s (b 242) (.block 2 (.loop [1,4,5,6,7] f197L0) [1,4,5,6])) (s (b 1074) (r (b 50))))) [1,4,5]) (r (b 50)))))=some ?x)=> ?x) ?_;rotate_left;conv=>lhs;cbv
def f197:fh:=by
 refine(fun (_:gF Tryz.f39 ((s [1] (.seq (s [1,14] (c (s [2,3] .ret) .skip [1])) (s [1,4] (.seq (s (b 50) (.block 0 (.loop [1,4,5] f197L1) [4])) (s [2,3] .ret))))))=some (?b, ?r))=>⟨1, ?r,true, ?b⟩) ?_;rotate_left 2;conv=>lhs;cbv
@[cbv_opaque] def f199L0 : aF := by
  refine(fun (_:gL Tryz.f40 0 ((.seq (s (d 454 27) (c .skip (.exit 2) [1,2,6,7,8])) (.seq (.block 3 (.seq (.iS (.range 12) [] [(10,[0])] (d 454 41)) (c (.iS (.range 19) [] [(2,[1]),(6,[1])] (b 454)) .skip [1,2,6,7,8])) [1,2,6,7,8]) (r (b 454)))))=some ?x)=> ?x) ?_;rotate_left;conv=>lhs;cbv
@[cbv_opaque] def f199L1 : aF := by
  refine(fun (_:gL Tryz.f40 1 ((.seq (s (d 198 21) (c .skip (.exit 0) [1,2,6,7])) (.seq (.block 1 (s (b 454) (.block 2 (.loop [1,2,6,7,8] f199L0) [1,2,6,7])) [1,2,6,7]) (r (b 198)))))=some ?x)=> ?x) ?_;rotate_left;conv=>lhs;cbv
def f199:fh:=by
 refine(fun (_:gF Tryz.f40 ((s [1,2] (.seq (s [1,2,16] (c (s [4,5] .ret) .skip [1,2])) (s (b 70) (.seq (s (b 198) (.block 0 (.loop [1,2,6,7] f199L1) [6])) (s [4,5] .ret))))))=some (?b, ?r))=>⟨2, ?r,true, ?b⟩) ?_;rotate_left 2;conv=>lhs;cbv
def f200:fh:=by
 refine(fun (_:gF Tryz.f111 ((s [0] (s [2] .ret)))=some (?b, ?r))=>⟨1, ?r,true, ?b⟩) ?_;rotate_left 2;conv=>lhs;cbv
@[cbv_opaque] def f205L0 : aF := by
  refine(fun (_:gL Tryz.f34 0 ((.seq (s [1,3,16] (c .skip (.exit 0) [1,3])) (.seq (.block 1 (s [1,3,25] (c (s [2] .ret) .skip [1,3])) [1,3]) (r [1,3]))))=some ?x)=> ?x) ?_;rotate_left;conv=>lhs;cbv
def f205:fh:=by
 refine(fun (_:gF Tryz.f34 ((s [1] (.seq (s [1,11] (c (s [2] .ret) .skip [1])) (.seq (s [1,3] (.block 0 (.loop [1,3] f205L0) [])) (s [2] .ret)))))=some (?b, ?r))=>⟨1, ?r,true, ?b⟩) ?_;rotate_left 2;conv=>lhs;cbv
@[cbv_opaque] def f206L0 : aF := by
  refine(fun (_:gL Tryz.f86 0 ((.seq (s [0,3,7] (c .skip (.exit 0) [0,3])) (.seq (.block 1 (.seq (.iS (.range 28) [] [] [0,3,37]) (c (s [2] .ret) .skip [0,3])) [0,3]) (r [0,3]))))=some ?x)=> ?x) ?_;rotate_left;conv=>lhs;cbv
def f206:fh:=by
 refine(fun (_:gF Tryz.f86 ((s [0] (.seq (s [0,3] (.block 0 (.loop [0,3] f206L0) [])) (s [2] .ret))))=some (?b, ?r))=>⟨1, ?r,true, ?b⟩) ?_;rotate_left 2;conv=>lhs;cbv
@[cbv_opaque] def f207L0 : aF := by
  refine(fun (_:gL Tryz.f66 0 ((.seq (s (b 16419) (c .skip (.exit 0) [0,1,5])) (.seq (.block 1 (.seq (.iS (.range 10) [] [] (d 35 26)) (c (s [4] .ret) .skip [0,1,5])) [0,1,5]) (r (b 35)))))=some ?x)=> ?x) ?_;rotate_left;conv=>lhs;cbv
def f207:fh:=by
 refine(fun (_:gF Tryz.f66 ((s [0,1] (.seq (s [0,1,10] (c (s [4] .ret) .skip [0,1])) (.seq (s (b 35) (.block 0 (.loop [0,1,5] f207L0) [])) (s [4] .ret)))))=some (?b, ?r))=>⟨2, ?r,true, ?b⟩) ?_;rotate_left 2;conv=>lhs;cbv
@[cbv_opaque] def f212L0 : aF := by
  refine(fun (_:gL Tryz.f100 0 ((.seq (s [1,3,12] (c .skip (.exit 0) [1,3])) (.seq (.block 1 (.seq (.iS (.range 27) [] [] [1,3,41]) (c (s [2] .ret) .skip [1,3])) [1,3]) (r [1,3]))))=some ?x)=> ?x) ?_;rotate_left;conv=>lhs;cbv
def f212:fh:=by
 refine(fun (_:gF Tryz.f100 ((s [1] (.seq (s [1,7] (c (s [2] .ret) .skip [1])) (.seq (s [1,3] (.block 0 (.loop [1,3] f212L0) [])) (s [2] .ret)))))=some (?b, ?r))=>⟨1, ?r,true, ?b⟩) ?_;rotate_left 2;conv=>lhs;cbv
@[cbv_opaque] def f213L0 : aF := by
  refine(fun (_:gL Tryz.f101 0 ((.seq (s (b 4122) (c .skip (.exit 0) [1,3,4])) (.seq (.block 1 (.iS (.range 21) [] [] (b 26)) [1,3,4]) (r (b 26)))))=some ?x)=> ?x) ?_;rotate_left;conv=>lhs;cbv
def f213:fh:=by
 refine(fun (_:gF Tryz.f101 ((s [1] (.seq (s [1,7] (c (s [2] .ret) .skip [1])) (s [1,3] (.seq (s (b 26) (.block 0 (.loop [1,3,4] f213L0) [3])) (s [2] .ret))))))=some (?b, ?r))=>⟨1, ?r,true, ?b⟩) ?_;rotate_left 2;conv=>lhs;cbv
@[cbv_opaque] def f225L0 : aF := by
  refine(fun (_:gL Tryz.f11 0 ((.seq (s (d 100232 79) (c .skip (.exit 0) [3,7,8,9,10,15,16])) (.seq (.block 1 (.seq (.iS (od 10 14) [] [(0,[1])] (b 1017736)) (s (d 100232 103) (c (s [6] .ret) .skip [3,7,8,9,10,15,16]))) [3,7,8,9,10,15,16]) (r (b 100232)))))=some ?x)=> ?x) ?_;rotate_left;conv=>lhs;cbv
def f225:fh:=by
 refine(fun (_:gF Tryz.f11 ((s (b 14) (.seq (s (d 14 21) (c (s [6] .ret) .skip [1,2,3])) (.seq (s (d 14 24) (c (s [6] .ret) .skip [1,2,3])) (s [3,7,8] (.seq (s [3,7,8,31] (c (r [3,7,8]) .skip [3,7,8])) (s (b 1928) (s (b 3976) (s (b 12168) (s (b 34696) (.seq (s (d 34696 67) (c (r (b 34696)) .skip [3,7,8,9,10,15])) (.seq (s (b 100232) (.block 0 (.loop [3,7,8,9,10,15,16] f225L0) [7,8,9,10])) (s [6] .ret)))))))))))))=some (?b, ?r))=>⟨3, ?r,true, ?b⟩) ?_;rotate_left 2;conv=>lhs;cbv
def f232:fh:=by
 refine(fun (_:gF Tryz.f20 ((s [2,3] (s [4] .ret)))=some (?b, ?r))=>⟨2, ?r,true, ?b⟩) ?_;rotate_left 2;conv=>lhs;cbv
def f233:fh:=by
 refine(fun (_:gF Tryz.f21 ((s [1] (.seq (s [1,22] (c (s [2] .ret) .skip [1])) (s [1,3] (.seq (s [1,3,24] (.block 0 (s [1,3,24,25] (c (s [1,3] (r [1,3])) (s [1,3,24,31] (c (s [1,3] (r [1,3])) (s [1,3,24,44] (c (s [1,4] (s [1,3] (r [1,3]))) (s [1,3,24,69] (c (s [1,3] (r [1,3])) (s [1,3,75] (c (s [1,5] (s [1,3] (r [1,3]))) .skip [1,3])) [1,3])) [1,3])) [1,3])) [1,3])) [1,3])) (s [2] .ret))))))=some (?b, ?r))=>⟨1, ?r,true, ?b⟩) ?_;rotate_left 2;conv=>lhs;cbv
def f238:fh:=by
 refine(fun (_:gF Tryz.f28 ((s (b 78) (s (b 838) (.seq (s (d 326 33) (c (s [6,7] .ret) .skip [1,2,6,8])) (s (b 1094) (s [6,7] .ret))))))=some (?b, ?r))=>⟨3, ?r,true, ?b⟩) ?_;rotate_left 2;conv=>lhs;cbv
def f240:fh:=by
 refine(fun (_:gF Tryz.f30 ((s (b 28) (s (b 412) (.seq (s (d 156 22) (c (s [4,5,6] .ret) .skip [2,3,4,7])) (s (b 668) (s (b 1692) (.seq (s [4,9,42] (c (s [4,5,6] .ret) .skip [4,9])) (s [4,5,6] .ret))))))))=some (?b, ?r))=>⟨2, ?r,false, ?b⟩) ?_;rotate_left 2;conv=>lhs;cbv
def f242:fh:=by
 refine(fun (_:gF Tryz.f33 ((s [] (s [1] (s (b 14) (s (b 126) (s (b 1022) (s (b 8190) (s (b 65534) (s (b 458750) (s (b 3604474) (s (b 11993082) (s [0] .ret))))))))))))=some (?b, ?r))=>⟨0, ?r,true, ?b⟩) ?_;rotate_left 2;conv=>lhs;cbv
def f246:fh:=by
 refine(fun (_:gF Tryz.f38 ((s (b 271) (s (b 783) (s (b 783) (s [8] .ret)))))=some (?b, ?r))=>⟨4, ?r,true, ?b⟩) ?_;rotate_left 2;conv=>lhs;cbv
@[cbv_opaque] def f247L0 : aF := by
  refine(fun (_:gL Tryz.f44 0 ((.seq (s (b 16419) (c .skip (.exit 0) [0,1,5])) (.seq (.block 1 (.seq (.iS (.range 9) [] [] (d 35 25)) (c (s [4] .ret) .skip [0,1,5])) [0,1,5]) (r (b 35)))))=some ?x)=> ?x) ?_;rotate_left;conv=>lhs;cbv
def f247:fh:=by
 refine(fun (_:gF Tryz.f44 ((s [0,1] (.seq (s [0,1,10] (c (s [4] .ret) .skip [0,1])) (.seq (s (b 35) (.block 0 (.loop [0,1,5] f247L0) [])) (s [4] .ret)))))=some (?b, ?r))=>⟨2, ?r,true, ?b⟩) ?_;rotate_left 2;conv=>lhs;cbv
def f261:fh:=by
 refine(fun (_:gF Tryz.f70 ((s [0] (s [2] .ret)))=some (?b, ?r))=>⟨1, ?r,true, ?b⟩) ?_;rotate_left 2;conv=>lhs;cbv
def f262:fh:=by
 refine(fun (_:gF Tryz.f71 ((s [1] (s [2] .ret)))=some (?b, ?r))=>⟨1, ?r,true, ?b⟩) ?_;rotate_left 2;conv=>lhs;cbv
@[cbv_opaque] def f263L0 : aF := by
  refine(fun (_:gL Tryz.f74 0 ((s (b 3591) (.seq (c .skip (.exit 0) [0,1,2,9,10]) (.seq (.block 1 (s (b 1671) (.seq (.iS (.range 25) [] [] (d 1543 37)) (c (s [6] .ret) .skip [0,1,2,9,10]))) [0,1,2,9,10]) (r (b 1543))))))=some ?x)=> ?x) ?_;rotate_left;conv=>lhs;cbv
def f263:fh:=by
 refine(fun (_:gF Tryz.f74 ((s (b 7) (.seq (s (b 1543) (.block 0 (.loop [0,1,2,9,10] f263L0) [0,1])) (s [6] .ret))))=some (?b, ?r))=>⟨3, ?r,true, ?b⟩) ?_;rotate_left 2;conv=>lhs;cbv
def f264:fh:=by
 refine(fun (_:gF Tryz.f75 ((s [0] (s [2] .ret)))=some (?b, ?r))=>⟨1, ?r,false, ?b⟩) ?_;rotate_left 2;conv=>lhs;cbv
def f265:fh:=by
 refine(fun (_:gF Tryz.f76 ((s [0,1] (s [4] .ret)))=some (?b, ?r))=>⟨2, ?r,true, ?b⟩) ?_;rotate_left 2;conv=>lhs;cbv
@[cbv_opaque] def f266L0 : aF := by
  refine(fun (_:gL Tryz.f77 0 ((s (b 3591) (.seq (c .skip (.exit 0) [0,1,2,9,10]) (.seq (.block 1 (s (b 1671) (.seq (.iS (.range 25) [] [] (d 1543 37)) (c (s [6] .ret) .skip [0,1,2,9,10]))) [0,1,2,9,10]) (r (b 1543))))))=some ?x)=> ?x) ?_;rotate_left;conv=>lhs;cbv
def f266:fh:=by
 refine(fun (_:gF Tryz.f77 ((s (b 7) (.seq (s (b 1543) (.block 0 (.loop [0,1,2,9,10] f266L0) [0,1])) (s [6] .ret))))=some (?b, ?r))=>⟨3, ?r,true, ?b⟩) ?_;rotate_left 2;conv=>lhs;cbv
def f267:fh:=by
 refine(fun (_:gF Tryz.f78 ((s [0] (s [2] .ret)))=some (?b, ?r))=>⟨1, ?r,false, ?b⟩) ?_;rotate_left 2;conv=>lhs;cbv
def f268:fh:=by
 refine(fun (_:gF Tryz.f79 ((s [1] (s [2] .ret)))=some (?b, ?r))=>⟨1, ?r,true, ?b⟩) ?_;rotate_left 2;conv=>lhs;cbv
@[cbv_opaque] def f269L0 : aF := by
  refine(fun (_:gL Tryz.f81 0 ((s (b 3591) (.seq (c .skip (.exit 0) [0,1,2,9,10]) (.seq (.block 1 (s (b 1671) (.seq (.iS (.range 25) [] [] (d 1543 37)) (c (s [6] .ret) .skip [0,1,2,9,10]))) [0,1,2,9,10]) (r (b 1543))))))=some ?x)=> ?x) ?_;rotate_left;conv=>lhs;cbv
def f269:fh:=by
 refine(fun (_:gF Tryz.f81 ((s (b 7) (.seq (s (b 1543) (.block 0 (.loop [0,1,2,9,10] f269L0) [0,1])) (s [6] .ret))))=some (?b, ?r))=>⟨3, ?r,true, ?b⟩) ?_;rotate_left 2;conv=>lhs;cbv
def f270:fh:=by
 refine(fun (_:gF Tryz.f82 ((s [0] (s [2] .ret)))=some (?b, ?r))=>⟨1, ?r,false, ?b⟩) ?_;rotate_left 2;conv=>lhs;cbv
def f277:fh:=by
 refine(fun (_:gF Tryz.f97 ((s [0] (.seq (s [3] (.block 0 (s [3,4] (c (s [2] .ret) (s [3,6] (c (s [2] .ret) (s [3,8] (c (s [2] .ret) (s [10] (c (s [2] .ret) .skip [])) [])) [])) [])) [])) (s [2] .ret))))=some (?b, ?r))=>⟨1, ?r,true, ?b⟩) ?_;rotate_left 2;conv=>lhs;cbv
@[cbv_opaque] def f299L0 : aF := by
  refine(fun (_:gL Tryz.f145 0 ((s (b 899) (.seq (c .skip (.exit 0) [0,1,7,8]) (.seq (.block 1 (s (b 419) (s (b 65955) (c (s [4] .ret) .skip [0,1,7,8]))) [0,1,7,8]) (r (b 387))))))=some ?x)=> ?x) ?_;rotate_left;conv=>lhs;cbv
def f299:fh:=by
 refine(fun (_:gF Tryz.f145 ((s [0,1] (.seq (s (b 387) (.block 0 (.loop [0,1,7,8] f299L0) [])) (s [4] .ret))))=some (?b, ?r))=>⟨2, ?r,true, ?b⟩) ?_;rotate_left 2;conv=>lhs;cbv
def f300:fh:=by
 refine(fun (_:gF Tryz.f152 ((s (b 7) (s (b 135) (s [1,7] (s [6] .ret)))))=some (?b, ?r))=>⟨3, ?r,false, ?b⟩) ?_;rotate_left 2;conv=>lhs;cbv
@[cbv_opaque] def f301L0 : aF := by
  refine(fun (_:gL Tryz.f153 0 ((s (b 61447) (.seq (c .skip (.exit 0) [0,1,2,12,13,14]) (.seq (.block 1 (s (b 29063) (s (d 28807 27) (c (r (b 28679)) .skip [0,1,2,12,13,14]))) [0,1,2,12,13,14]) (r (b 28679))))))=some ?x)=> ?x) ?_;rotate_left;conv=>lhs;cbv
def f301:fh:=by
 refine(fun (_:gF Tryz.f153 ((s (b 7) (.seq (s (b 28679) (.block 0 (.loop [0,1,2,12,13,14] f301L0) [0,2])) (s [0,2] (.seq (.iS (.range 16) [] [] [2]) (s [6] .ret))))))=some (?b, ?r))=>⟨3, ?r,false, ?b⟩) ?_;rotate_left 2;conv=>lhs;cbv
@[cbv_opaque] def f302L0 : aF := by
  refine(fun (_:gL Tryz.f154 0 ((s (b 229383) (.seq (c .skip (.exit 0) [0,1,2,15,16]) (.seq (.block 1 (s (b 98439) (s (d 98439 27) (c (.iS (.range 18) [] [] (b 98311)) .skip [0,1,2,15,16]))) [0,1,2,15,16]) (r (b 98311))))))=some ?x)=> ?x) ?_;rotate_left;conv=>lhs;cbv
def f302:fh:=by
 refine(fun (_:gF Tryz.f154 ((s (b 7) (s (b 7) (.seq (s (b 98311) (.block 0 (.loop [0,1,2,15,16] f302L0) [2])) (s [6] .ret)))))=some (?b, ?r))=>⟨3, ?r,false, ?b⟩) ?_;rotate_left 2;conv=>lhs;cbv
@[cbv_opaque] def f303L0 : aF := by
  refine(fun (_:gL Tryz.f155 0 ((s (b 1966085) (.seq (c .skip (.exit 0) [0,2,17,18,19]) (.seq (.block 1 (s (b 917765) (s (b 919045) (s (d 918021 31) (c (.iS (.range 19) [] [(4,[1])] (b 917509)) .skip [0,2,17,18,19])))) [0,2,17,18,19]) (r (b 917509))))))=some ?x)=> ?x) ?_;rotate_left;conv=>lhs;cbv
def f303:fh:=by
 refine(fun (_:gF Tryz.f155 ((s (b 7) (s (b 7) (.seq (s (b 917509) (.block 0 (.loop [0,2,17,18,19] f303L0) [2])) (s [6] .ret)))))=some (?b, ?r))=>⟨3, ?r,false, ?b⟩) ?_;rotate_left 2;conv=>lhs;cbv
def f306:fh:=by
 refine(fun (_:gF Tryz.f172 ((s [0,1] (.seq (.iS (.range 13) [] [] (b 99)) (.seq (s (d 35 22) (c (s [4] .ret) .skip [0,1,5])) (s [1,7] (s [7,8] (s [4] .ret)))))))=some (?b, ?r))=>⟨2, ?r,false, ?b⟩) ?_;rotate_left 2;conv=>lhs;cbv
def f307:fh:=by
 refine(fun (_:gF Tryz.f173 ((s [0,1] (s [4,5] .ret)))=some (?b, ?r))=>⟨2, ?r,false, ?b⟩) ?_;rotate_left 2;conv=>lhs;cbv
def f308:fh:=by
 refine(fun (_:gF Tryz.f174 ((s [1,2] (s [1,2] (s [2] .ret))))=some (?b, ?r))=>⟨1, ?r,false, ?b⟩) ?_;rotate_left 2;conv=>lhs;cbv
@[cbv_opaque] def f311L0 : aF := by
  refine(fun (_:gL Tryz.f194 0 ((s (b 28675) (.seq (c .skip (.exit 0) [0,1,12,13]) (.seq (.block 1 (s (b 12323) (.seq (.iS (.range 9) [] [] (b 16789507)) (c (s [4] .ret) .skip [0,1,12,13]))) [0,1,12,13]) (r (b 12291))))))=some ?x)=> ?x) ?_;rotate_left;conv=>lhs;cbv
def f311:fh:=by
 refine(fun (_:gF Tryz.f194 ((s [0,1] (.seq (s [0,1,10] (c (s [4] .ret) .skip [0,1])) (.seq (s (b 12291) (.block 0 (.loop [0,1,12,13] f311L0) [])) (s [4] .ret)))))=some (?b, ?r))=>⟨2, ?r,true, ?b⟩) ?_;rotate_left 2;conv=>lhs;cbv
@[cbv_opaque] def f312L0 : aF := by
  refine(fun (_:gL Tryz.f195 0 ((.seq (s (b 132871) (c .skip (.exit 0) [0,1,2,8,9,10])) (.block 1 (s (b 3847) (s (d 3847 31) (c (r (b 1799)) (r (b 1799)) [0,1,2,8,9,10]))) [0,1,2,8,9,10])))=some ?x)=> ?x) ?_;rotate_left;conv=>lhs;cbv
def f312:fh:=by
 refine(fun (_:gF Tryz.f195 ((s (b 7) (s (b 263) (s (b 1799) (.seq (.block 0 (.loop [0,1,2,8,9,10] f312L0) [0,1,2,8,9]) (s [6,7] .ret))))))=some (?b, ?r))=>⟨3, ?r,true, ?b⟩) ?_;rotate_left 2;conv=>lhs;cbv
def f313:fh:=by
 refine(fun (_:gF Tryz.f196 ((s [1,2] (s [4] .ret)))=some (?b, ?r))=>⟨2, ?r,true, ?b⟩) ?_;rotate_left 2;conv=>lhs;cbv
def f314:fh:=by
 refine(fun (_:gF Tryz.f197 ((s [0,1] (s (b 35) (s (b 99) (.seq (s (b 2115) (c (.seq (s [12] (c (s [4] .ret) .skip [])) (s [4] .ret)) .skip [0,1,6])) (.seq (s [0,1,13] (c (s [4] .ret) .skip [0,1])) (.seq (s [0,1,16] (c (s [4] .ret) .skip [0,1])) (.seq (s [19] (c (s [4] .ret) .skip [])) (s [4] .ret)))))))))=some (?b, ?r))=>⟨2, ?r,true, ?b⟩) ?_;rotate_left 2;conv=>lhs;cbv
def f315:fh:=by
 refine(fun (_:gF Tryz.f228 ((s [0] (s [2] .ret)))=some (?b, ?r))=>⟨1, ?r,true, ?b⟩) ?_;rotate_left 2;conv=>lhs;cbv
def mY:List (Nat×fh):=[(7,f7),(8,f8),(9,f9),(14,f14),(15,f15),(16,f16),(17,f17),(18,f18),(19,f19),(20,f20),(21,f21),(22,f22),(23,f23),(24,f24),(25,f25),(32,f32),(38,f38),(39,f39),(40,f40),(41,f41),(42,f42),(43,f43),(44,f44),(45,f45),(46,f46),(47,f47),(48,f48),(49,f49),(50,f50),(51,f51),(52,f52),(53,f53),(54,f54),(58,f58),(59,f59),(60,f60),(61,f61),(62,f62),(63,f63),(64,f64),(65,f65),(66,f66),(67,f67),(68,f68),(72,f72),(73,f73),(74,f74),(75,f75),(76,f76),(77,f77),(78,f78),(79,f79),(80,f80),(81,f81),(82,f82),(83,f83),(84,f84),(91,f91),(93,f93),(96,f96),(98,f98),(101,f101),(102,f102),(103,f103),(104,f104),(105,f105),(106,f106),(107,f107),(110,f110),(111,f111),(112,f112),(113,f113),(114,f114),(115,f115),(117,f117),(118,f118),(119,f119),(120,f120),(121,f121),(122,f122),(123,f123),(124,f124),(125,f125),(126,f126),(127,f127),(128,f128),(129,f129),(130,f130),(131,f131),(132,f132),(133,f133),(134,f134),(135,f135),(138,f138),(139,f139),(140,f140),(141,f141),(151,f151),(152,f152),(157,f157),(160,f160),(161,f161),(162,f162),(164,f164),(167,f167),(169,f169),(172,f172),(173,f173),(177,f177),(178,f178),(179,f179),(181,f181),(182,f182),(183,f183),(184,f184),(185,f185),(186,f186),(187,f187),(188,f188),(189,f189),(190,f190),(191,f191),(192,f192),(197,f197),(199,f199),(200,f200),(205,f205),(206,f206),(207,f207),(212,f212),(213,f213),(225,f225),(232,f232),(233,f233),(238,f238),(240,f240),(242,f242),(246,f246),(247,f247),(261,f261),(262,f262),(263,f263),(264,f264),(265,f265),(266,f266),(267,f267),(268,f268),(269,f269),(270,f270),(277,f277),(299,f299),(300,f300),(301,f301),(302,f302),(303,f303),(306,f306),(307,f307),(308,f308),(311,f311),(312,f312),(313,f313),(314,f314),(315,f315)]
def find:List (Nat×fh)→Nat→Option fh
 |[],_=>none
 |(i,f)::r,k=>if i=k then some f else find r k
def A:bb:=find mY
end Ab.AP
