/- Part K1. -/
import Derived.Test.YtlnpoabdcheleaaGreatDoorProg
import Derived.KernelRfl
import Derived.Test.YtlnpoabdcheleaaGreatDoorAP
namespace Ab.Ln
open Go Go.Proofs Ab
def Mq:List (Nat×Nat)→Nat→Option Nat
 |[],_=>none
 |(i,f)::r,k=>if i=k then some f else Mq r k
def yD (L:Lk) (fn:Func) (af:gG):Option (aK×List RV):=fn.body.bind fun c=>(comp L fn.ntmps c af.body).bind fun x=>(dw L fn.results.toList).bind fun r=>some (x,r)
def mfT:List (Nat×Nat):=[(5,195),(8,177),(10,181),(12,178),(14,106),(15,9),(16,182),(17,179),(23,176),(24,180),(25,203),(28,183),(29,91),(30,93),(31,205),(34,184),(35,185),(36,118),(38,115),(39,101),(41,173),(42,208),(43,209),(44,154),(45,210),(46,211),(48,186),(49,187),(50,188),(51,96),(52,102),(53,103),(54,104),(55,105),(56,212),(57,213),(58,157),(62,189),(63,111),(65,214),(66,163),(67,215),(68,190),(69,191),(70,107),(71,112),(72,167),(73,164),(74,169),(75,172),(76,12),(77,170),(78,171),(79,13),(80,165),(81,113),(82,192),(83,114),(84,117),(85,119),(86,120),(87,8),(88,26),(89,33),(90,174),(91,37),(92,27),(93,34),(94,22),(95,23),(96,36),(97,28),(98,29),(99,30),(100,31),(101,32),(102,35),(103,121),(104,122),(105,7),(106,83),(107,123),(108,18),(109,19),(110,20),(111,21),(112,24),(113,25),(114,57),(115,55),(116,52),(117,50),(118,51),(119,56),(120,124),(121,14),(122,15),(123,16),(124,17),(125,84),(126,46),(127,47),(128,48),(129,49),(130,53),(131,54),(132,69),(133,67),(134,68),(135,70),(136,71),(137,125),(138,126),(139,127),(140,128),(141,129),(142,130),(143,131),(144,38),(145,39),(146,40),(147,41),(148,42),(149,43),(150,44),(151,45),(152,132),(153,133),(154,134),(155,135),(156,58),(157,59),(158,60),(159,61),(160,62),(161,63),(162,64),(163,65),(164,66),(167,138),(168,72),(169,73),(170,74),(171,75),(172,76),(173,77),(174,78),(175,79),(176,80),(177,81),(178,139),(179,140),(180,141),(182,82),(165,136),(166,137),(183,143)]
def mtT:List (Nat×Nat):=[(9,0)]
def mf (k:Nat):Option Nat:=Mq mfT k
def mt (k:Nat):Nat:=(Mq mtT k).getD (k+100000)
def iv (_:String):Option (Nat×Nat×Bool):=none
noncomputable def L:Lk:=⟨Tryz.prog,mf,mt,iv⟩
def Fits (p : Nat × Nat) : Prop := ∃ fn c, L.P.funcs[p.1]? = some fn ∧ fn.body = some c ∧ (fn.name == "runtime.NumGoroutine") = false ∧
    ∀af,AP.A p.2=some af→(∃x0,comp L fn.ntmps c x0=some af.body)∧dw L fn.results.toList=some af.res
theorem yC {k a : Nat} {fn : Func} {af : gG} (h1 : L.P.funcs[k]? = some fn) (h2 : yD L fn af = some (af.body, af.res)) (h3 : (fn.name == "runtime.NumGoroutine") = false) (h4 : AP.A a = some af) : Fits (k, a) := by
 unfold yD at h2
 simp only[xE]at h2
 obtain⟨c,g1,x,g2,r,g3,g4⟩:=h2
 obtain⟨rfl,rfl⟩:=xH (xF g4)
 refine⟨fn,c,h1,g1,h3,fun af2 g5=> ?_⟩
 rw[h4]at g5
 obtain rfl:=xF g5
 exact⟨⟨_,g2⟩,g3⟩
theorem JX:∀{l:List (Nat×Nat)} {k f:Nat},Mq l k=some f→(k,f)∈l
 |[],_,_,h=>by cases h
 | (i, g) :: r, k, f, h => by
   unfold Mq at h
   split at h
   · rename_i e;subst e;obtain rfl:=xF h;exact List.mem_cons_self
   · exact List.mem_cons_of_mem _ (JX h)
theorem QR:∀p∈([]:List (Nat×Nat)),Fits p:=fun p h=>by cases h
theorem yA {p:Nat×Nat} {l:List (Nat×Nat)} (h1:Fits p) (h2:∀q∈l,Fits q):∀q∈p::l,Fits q:=fun q h=>by
 rcases yu.1 h with rfl|h
 · exact h1
 · exact h2 q h
theorem Wj:yD L Tryz.f5 AP.f195=some (AP.f195.body,AP.f195.res):=by kernel_rfl
theorem XY:Fits (5,195):=yC Tryz.func5 Wj (by kernel_rfl) (by kernel_rfl)
theorem V3:yD L Tryz.f8 AP.f177=some (AP.f177.body,AP.f177.res):=by kernel_rfl
theorem XI:Fits (8,177):=yC Tryz.func8 V3 (by kernel_rfl) (by kernel_rfl)
theorem V7:yD L Tryz.f10 AP.f181=some (AP.f181.body,AP.f181.res):=by kernel_rfl
theorem XM:Fits (10,181):=yC Tryz.func10 V7 (by kernel_rfl) (by kernel_rfl)
theorem V4:yD L Tryz.f12 AP.f178=some (AP.f178.body,AP.f178.res):=by kernel_rfl
theorem XJ:Fits (12,178):=yC Tryz.func12 V4 (by kernel_rfl) (by kernel_rfl)
theorem Vi:yD L Tryz.f14 AP.f106=some (AP.f106.body,AP.f106.res):=by kernel_rfl
theorem WM:Fits (14,106):=yC Tryz.func14 Vi (by kernel_rfl) (by kernel_rfl)
theorem abR:yD L Tryz.f15 AP.f9=some (AP.f9.body,AP.f9.res):=by kernel_rfl
theorem acg:Fits (15,9):=yC Tryz.func15 abR (by kernel_rfl) (by kernel_rfl)
theorem V8:yD L Tryz.f16 AP.f182=some (AP.f182.body,AP.f182.res):=by kernel_rfl
theorem XN:Fits (16,182):=yC Tryz.func16 V8 (by kernel_rfl) (by kernel_rfl)
theorem V5:yD L Tryz.f17 AP.f179=some (AP.f179.body,AP.f179.res):=by kernel_rfl
theorem XK:Fits (17,179):=yC Tryz.func17 V5 (by kernel_rfl) (by kernel_rfl)
theorem V1:yD L Tryz.f23 AP.f176=some (AP.f176.body,AP.f176.res):=by kernel_rfl
theorem XH:Fits (23,176):=yC Tryz.func23 V1 (by kernel_rfl) (by kernel_rfl)
theorem V6:yD L Tryz.f24 AP.f180=some (AP.f180.body,AP.f180.res):=by kernel_rfl
theorem XL:Fits (24,180):=yC Tryz.func24 V6 (by kernel_rfl) (by kernel_rfl)
theorem Wk:yD L Tryz.f25 AP.f203=some (AP.f203.body,AP.f203.res):=by kernel_rfl
theorem XZ:Fits (25,203):=yC Tryz.func25 Wk (by kernel_rfl) (by kernel_rfl)
theorem V9:yD L Tryz.f28 AP.f183=some (AP.f183.body,AP.f183.res):=by kernel_rfl
theorem XO:Fits (28,183):=yC Tryz.func28 V9 (by kernel_rfl) (by kernel_rfl)
theorem aad:yD L Tryz.f29 AP.f91=some (AP.f91.body,AP.f91.res):=by kernel_rfl
theorem abr:Fits (29,91):=yC Tryz.func29 aad (by kernel_rfl) (by kernel_rfl)
theorem aae:yD L Tryz.f30 AP.f93=some (AP.f93.body,AP.f93.res):=by kernel_rfl
theorem abt:Fits (30,93):=yC Tryz.func30 aae (by kernel_rfl) (by kernel_rfl)
theorem Wl:yD L Tryz.f31 AP.f205=some (AP.f205.body,AP.f205.res):=by kernel_rfl
theorem X6:Fits (31,205):=yC Tryz.func31 Wl (by kernel_rfl) (by kernel_rfl)
theorem Wa:yD L Tryz.f34 AP.f184=some (AP.f184.body,AP.f184.res):=by kernel_rfl
theorem XP:Fits (34,184):=yC Tryz.func34 Wa (by kernel_rfl) (by kernel_rfl)
theorem Wb:yD L Tryz.f35 AP.f185=some (AP.f185.body,AP.f185.res):=by kernel_rfl
theorem XQ:Fits (35,185):=yC Tryz.func35 Wb (by kernel_rfl) (by kernel_rfl)
theorem Vq:yD L Tryz.f36 AP.f118=some (AP.f118.body,AP.f118.res):=by kernel_rfl
theorem WV:Fits (36,118):=yC Tryz.func36 Vq (by kernel_rfl) (by kernel_rfl)
theorem Vo:yD L Tryz.f38 AP.f115=some (AP.f115.body,AP.f115.res):=by kernel_rfl
theorem WT:Fits (38,115):=yC Tryz.func38 Vo (by kernel_rfl) (by kernel_rfl)
theorem Vd:yD L Tryz.f39 AP.f101=some (AP.f101.body,AP.f101.res):=by kernel_rfl
theorem WH:Fits (39,101):=yC Tryz.func39 Vd (by kernel_rfl) (by kernel_rfl)
theorem VZ:yD L Tryz.f41 AP.f173=some (AP.f173.body,AP.f173.res):=by kernel_rfl
theorem XF:Fits (41,173):=yC Tryz.func41 VZ (by kernel_rfl) (by kernel_rfl)
theorem Wm:yD L Tryz.f42 AP.f208=some (AP.f208.body,AP.f208.res):=by kernel_rfl
theorem X7:Fits (42,208):=yC Tryz.func42 Wm (by kernel_rfl) (by kernel_rfl)
theorem Wn:yD L Tryz.f43 AP.f209=some (AP.f209.body,AP.f209.res):=by kernel_rfl
theorem X8:Fits (43,209):=yC Tryz.func43 Wn (by kernel_rfl) (by kernel_rfl)
theorem VN:yD L Tryz.f44 AP.f154=some (AP.f154.body,AP.f154.res):=by kernel_rfl
theorem Xs:Fits (44,154):=yC Tryz.func44 VN (by kernel_rfl) (by kernel_rfl)
theorem Wo:yD L Tryz.f45 AP.f210=some (AP.f210.body,AP.f210.res):=by kernel_rfl
theorem X9:Fits (45,210):=yC Tryz.func45 Wo (by kernel_rfl) (by kernel_rfl)
theorem Wp:yD L Tryz.f46 AP.f211=some (AP.f211.body,AP.f211.res):=by kernel_rfl
theorem Ya:Fits (46,211):=yC Tryz.func46 Wp (by kernel_rfl) (by kernel_rfl)
theorem Wc:yD L Tryz.f48 AP.f186=some (AP.f186.body,AP.f186.res):=by kernel_rfl
theorem XR:Fits (48,186):=yC Tryz.func48 Wc (by kernel_rfl) (by kernel_rfl)
theorem Wd:yD L Tryz.f49 AP.f187=some (AP.f187.body,AP.f187.res):=by kernel_rfl
theorem XS:Fits (49,187):=yC Tryz.func49 Wd (by kernel_rfl) (by kernel_rfl)
theorem We:yD L Tryz.f50 AP.f188=some (AP.f188.body,AP.f188.res):=by kernel_rfl
theorem XT:Fits (50,188):=yC Tryz.func50 We (by kernel_rfl) (by kernel_rfl)
theorem aaf:yD L Tryz.f51 AP.f96=some (AP.f96.body,AP.f96.res):=by kernel_rfl
theorem abu:Fits (51,96):=yC Tryz.func51 aaf (by kernel_rfl) (by kernel_rfl)
theorem Ve:yD L Tryz.f52 AP.f102=some (AP.f102.body,AP.f102.res):=by kernel_rfl
theorem WI:Fits (52,102):=yC Tryz.func52 Ve (by kernel_rfl) (by kernel_rfl)
theorem Vf:yD L Tryz.f53 AP.f103=some (AP.f103.body,AP.f103.res):=by kernel_rfl
theorem WJ:Fits (53,103):=yC Tryz.func53 Vf (by kernel_rfl) (by kernel_rfl)
theorem Vg:yD L Tryz.f54 AP.f104=some (AP.f104.body,AP.f104.res):=by kernel_rfl
theorem WK:Fits (54,104):=yC Tryz.func54 Vg (by kernel_rfl) (by kernel_rfl)
theorem Vh:yD L Tryz.f55 AP.f105=some (AP.f105.body,AP.f105.res):=by kernel_rfl
theorem WL:Fits (55,105):=yC Tryz.func55 Vh (by kernel_rfl) (by kernel_rfl)
theorem Wq:yD L Tryz.f56 AP.f212=some (AP.f212.body,AP.f212.res):=by kernel_rfl
theorem Yb:Fits (56,212):=yC Tryz.func56 Wq (by kernel_rfl) (by kernel_rfl)
theorem Wt:yD L Tryz.f57 AP.f213=some (AP.f213.body,AP.f213.res):=by kernel_rfl
theorem Yc:Fits (57,213):=yC Tryz.func57 Wt (by kernel_rfl) (by kernel_rfl)
theorem VO:yD L Tryz.f58 AP.f157=some (AP.f157.body,AP.f157.res):=by kernel_rfl
theorem Xt:Fits (58,157):=yC Tryz.func58 VO (by kernel_rfl) (by kernel_rfl)
theorem Wf:yD L Tryz.f62 AP.f189=some (AP.f189.body,AP.f189.res):=by kernel_rfl
theorem XU:Fits (62,189):=yC Tryz.func62 Wf (by kernel_rfl) (by kernel_rfl)
theorem Vk:yD L Tryz.f63 AP.f111=some (AP.f111.body,AP.f111.res):=by kernel_rfl
theorem WO:Fits (63,111):=yC Tryz.func63 Vk (by kernel_rfl) (by kernel_rfl)
theorem Wu:yD L Tryz.f65 AP.f214=some (AP.f214.body,AP.f214.res):=by kernel_rfl
theorem Yd:Fits (65,214):=yC Tryz.func65 Wu (by kernel_rfl) (by kernel_rfl)
theorem VP:yD L Tryz.f66 AP.f163=some (AP.f163.body,AP.f163.res):=by kernel_rfl
theorem Xu:Fits (66,163):=yC Tryz.func66 VP (by kernel_rfl) (by kernel_rfl)
theorem Wv:yD L Tryz.f67 AP.f215=some (AP.f215.body,AP.f215.res):=by kernel_rfl
theorem Ye:Fits (67,215):=yC Tryz.func67 Wv (by kernel_rfl) (by kernel_rfl)
theorem Wg:yD L Tryz.f68 AP.f190=some (AP.f190.body,AP.f190.res):=by kernel_rfl
theorem XV:Fits (68,190):=yC Tryz.func68 Wg (by kernel_rfl) (by kernel_rfl)
theorem Wh:yD L Tryz.f69 AP.f191=some (AP.f191.body,AP.f191.res):=by kernel_rfl
theorem XW:Fits (69,191):=yC Tryz.func69 Wh (by kernel_rfl) (by kernel_rfl)
theorem Vj:yD L Tryz.f70 AP.f107=some (AP.f107.body,AP.f107.res):=by kernel_rfl
theorem WN:Fits (70,107):=yC Tryz.func70 Vj (by kernel_rfl) (by kernel_rfl)
theorem Vl:yD L Tryz.f71 AP.f112=some (AP.f112.body,AP.f112.res):=by kernel_rfl
theorem WQ:Fits (71,112):=yC Tryz.func71 Vl (by kernel_rfl) (by kernel_rfl)
theorem VS:yD L Tryz.f72 AP.f167=some (AP.f167.body,AP.f167.res):=by kernel_rfl
theorem Xx:Fits (72,167):=yC Tryz.func72 VS (by kernel_rfl) (by kernel_rfl)
theorem VQ:yD L Tryz.f73 AP.f164=some (AP.f164.body,AP.f164.res):=by kernel_rfl
theorem Xv:Fits (73,164):=yC Tryz.func73 VQ (by kernel_rfl) (by kernel_rfl)
theorem VT:yD L Tryz.f74 AP.f169=some (AP.f169.body,AP.f169.res):=by kernel_rfl
theorem Xy:Fits (74,169):=yC Tryz.func74 VT (by kernel_rfl) (by kernel_rfl)
theorem VY:yD L Tryz.f75 AP.f172=some (AP.f172.body,AP.f172.res):=by kernel_rfl
theorem XE:Fits (75,172):=yC Tryz.func75 VY (by kernel_rfl) (by kernel_rfl)
theorem YY:yD L Tryz.f76 AP.f12=some (AP.f12.body,AP.f12.res):=by kernel_rfl
theorem aag:Fits (76,12):=yC Tryz.func76 YY (by kernel_rfl) (by kernel_rfl)
theorem VU:yD L Tryz.f77 AP.f170=some (AP.f170.body,AP.f170.res):=by kernel_rfl
theorem Xz:Fits (77,170):=yC Tryz.func77 VU (by kernel_rfl) (by kernel_rfl)
theorem VW:yD L Tryz.f78 AP.f171=some (AP.f171.body,AP.f171.res):=by kernel_rfl
theorem XD:Fits (78,171):=yC Tryz.func78 VW (by kernel_rfl) (by kernel_rfl)
theorem YZ:yD L Tryz.f79 AP.f13=some (AP.f13.body,AP.f13.res):=by kernel_rfl
theorem aah:Fits (79,13):=yC Tryz.func79 YZ (by kernel_rfl) (by kernel_rfl)
theorem VR:yD L Tryz.f80 AP.f165=some (AP.f165.body,AP.f165.res):=by kernel_rfl
theorem Xw:Fits (80,165):=yC Tryz.func80 VR (by kernel_rfl) (by kernel_rfl)
theorem Vm:yD L Tryz.f81 AP.f113=some (AP.f113.body,AP.f113.res):=by kernel_rfl
theorem WR:Fits (81,113):=yC Tryz.func81 Vm (by kernel_rfl) (by kernel_rfl)
theorem Wi:yD L Tryz.f82 AP.f192=some (AP.f192.body,AP.f192.res):=by kernel_rfl
theorem XX:Fits (82,192):=yC Tryz.func82 Wi (by kernel_rfl) (by kernel_rfl)
theorem Vn:yD L Tryz.f83 AP.f114=some (AP.f114.body,AP.f114.res):=by kernel_rfl
theorem WS:Fits (83,114):=yC Tryz.func83 Vn (by kernel_rfl) (by kernel_rfl)
theorem Vp:yD L Tryz.f84 AP.f117=some (AP.f117.body,AP.f117.res):=by kernel_rfl
theorem WU:Fits (84,117):=yC Tryz.func84 Vp (by kernel_rfl) (by kernel_rfl)
theorem Vr:yD L Tryz.f85 AP.f119=some (AP.f119.body,AP.f119.res):=by kernel_rfl
theorem WW:Fits (85,119):=yC Tryz.func85 Vr (by kernel_rfl) (by kernel_rfl)
theorem Vs:yD L Tryz.f86 AP.f120=some (AP.f120.body,AP.f120.res):=by kernel_rfl
theorem WY:Fits (86,120):=yC Tryz.func86 Vs (by kernel_rfl) (by kernel_rfl)
theorem abQ:yD L Tryz.f87 AP.f8=some (AP.f8.body,AP.f8.res):=by kernel_rfl
theorem acf:Fits (87,8):=yC Tryz.func87 abQ (by kernel_rfl) (by kernel_rfl)
theorem Zf:yD L Tryz.f88 AP.f26=some (AP.f26.body,AP.f26.res):=by kernel_rfl
theorem aau:Fits (88,26):=yC Tryz.func88 Zf (by kernel_rfl) (by kernel_rfl)
theorem Zm:yD L Tryz.f89 AP.f33=some (AP.f33.body,AP.f33.res):=by kernel_rfl
theorem aaB:Fits (89,33):=yC Tryz.func89 Zm (by kernel_rfl) (by kernel_rfl)
theorem V0:yD L Tryz.f90 AP.f174=some (AP.f174.body,AP.f174.res):=by kernel_rfl
theorem XG:Fits (90,174):=yC Tryz.func90 V0 (by kernel_rfl) (by kernel_rfl)
theorem Zq:yD L Tryz.f91 AP.f37=some (AP.f37.body,AP.f37.res):=by kernel_rfl
theorem aaF:Fits (91,37):=yC Tryz.func91 Zq (by kernel_rfl) (by kernel_rfl)
theorem Zg:yD L Tryz.f92 AP.f27=some (AP.f27.body,AP.f27.res):=by kernel_rfl
theorem aav:Fits (92,27):=yC Tryz.func92 Zg (by kernel_rfl) (by kernel_rfl)
theorem Zn:yD L Tryz.f93 AP.f34=some (AP.f34.body,AP.f34.res):=by kernel_rfl
theorem aaC:Fits (93,34):=yC Tryz.func93 Zn (by kernel_rfl) (by kernel_rfl)
theorem Zb:yD L Tryz.f94 AP.f22=some (AP.f22.body,AP.f22.res):=by kernel_rfl
theorem aaq:Fits (94,22):=yC Tryz.func94 Zb (by kernel_rfl) (by kernel_rfl)
theorem Zc:yD L Tryz.f95 AP.f23=some (AP.f23.body,AP.f23.res):=by kernel_rfl
theorem aar:Fits (95,23):=yC Tryz.func95 Zc (by kernel_rfl) (by kernel_rfl)
theorem Zp:yD L Tryz.f96 AP.f36=some (AP.f36.body,AP.f36.res):=by kernel_rfl
theorem aaE:Fits (96,36):=yC Tryz.func96 Zp (by kernel_rfl) (by kernel_rfl)
theorem Zh:yD L Tryz.f97 AP.f28=some (AP.f28.body,AP.f28.res):=by kernel_rfl
theorem aaw:Fits (97,28):=yC Tryz.func97 Zh (by kernel_rfl) (by kernel_rfl)
theorem Zi:yD L Tryz.f98 AP.f29=some (AP.f29.body,AP.f29.res):=by kernel_rfl
theorem aax:Fits (98,29):=yC Tryz.func98 Zi (by kernel_rfl) (by kernel_rfl)
theorem Zj:yD L Tryz.f99 AP.f30=some (AP.f30.body,AP.f30.res):=by kernel_rfl
theorem aay:Fits (99,30):=yC Tryz.func99 Zj (by kernel_rfl) (by kernel_rfl)
theorem Zk:yD L Tryz.f100 AP.f31=some (AP.f31.body,AP.f31.res):=by kernel_rfl
theorem aaz:Fits (100,31):=yC Tryz.func100 Zk (by kernel_rfl) (by kernel_rfl)
theorem Zl:yD L Tryz.f101 AP.f32=some (AP.f32.body,AP.f32.res):=by kernel_rfl
theorem aaA:Fits (101,32):=yC Tryz.func101 Zl (by kernel_rfl) (by kernel_rfl)
theorem Zo:yD L Tryz.f102 AP.f35=some (AP.f35.body,AP.f35.res):=by kernel_rfl
theorem aaD:Fits (102,35):=yC Tryz.func102 Zo (by kernel_rfl) (by kernel_rfl)
theorem Vt:yD L Tryz.f103 AP.f121=some (AP.f121.body,AP.f121.res):=by kernel_rfl
theorem WZ:Fits (103,121):=yC Tryz.func103 Vt (by kernel_rfl) (by kernel_rfl)
theorem Vu:yD L Tryz.f104 AP.f122=some (AP.f122.body,AP.f122.res):=by kernel_rfl
theorem W5:Fits (104,122):=yC Tryz.func104 Vu (by kernel_rfl) (by kernel_rfl)
theorem abP:yD L Tryz.f105 AP.f7=some (AP.f7.body,AP.f7.res):=by kernel_rfl
theorem ace:Fits (105,7):=yC Tryz.func105 abP (by kernel_rfl) (by kernel_rfl)
theorem aab:yD L Tryz.f106 AP.f83=some (AP.f83.body,AP.f83.res):=by kernel_rfl
theorem abp:Fits (106,83):=yC Tryz.func106 aab (by kernel_rfl) (by kernel_rfl)
theorem Vv:yD L Tryz.f107 AP.f123=some (AP.f123.body,AP.f123.res):=by kernel_rfl
theorem W6:Fits (107,123):=yC Tryz.func107 Vv (by kernel_rfl) (by kernel_rfl)
theorem Y7:yD L Tryz.f108 AP.f18=some (AP.f18.body,AP.f18.res):=by kernel_rfl
theorem aam:Fits (108,18):=yC Tryz.func108 Y7 (by kernel_rfl) (by kernel_rfl)
theorem Y8:yD L Tryz.f109 AP.f19=some (AP.f19.body,AP.f19.res):=by kernel_rfl
theorem aan:Fits (109,19):=yC Tryz.func109 Y8 (by kernel_rfl) (by kernel_rfl)
theorem Y9:yD L Tryz.f110 AP.f20=some (AP.f20.body,AP.f20.res):=by kernel_rfl
theorem aao:Fits (110,20):=yC Tryz.func110 Y9 (by kernel_rfl) (by kernel_rfl)
theorem Za:yD L Tryz.f111 AP.f21=some (AP.f21.body,AP.f21.res):=by kernel_rfl
theorem aap:Fits (111,21):=yC Tryz.func111 Za (by kernel_rfl) (by kernel_rfl)
theorem Zd:yD L Tryz.f112 AP.f24=some (AP.f24.body,AP.f24.res):=by kernel_rfl
theorem aas:Fits (112,24):=yC Tryz.func112 Zd (by kernel_rfl) (by kernel_rfl)
theorem Ze:yD L Tryz.f113 AP.f25=some (AP.f25.body,AP.f25.res):=by kernel_rfl
theorem aat:Fits (113,25):=yC Tryz.func113 Ze (by kernel_rfl) (by kernel_rfl)
theorem ZK:yD L Tryz.f114 AP.f57=some (AP.f57.body,AP.f57.res):=by kernel_rfl
theorem aaZ:Fits (114,57):=yC Tryz.func114 ZK (by kernel_rfl) (by kernel_rfl)
theorem ZI:yD L Tryz.f115 AP.f55=some (AP.f55.body,AP.f55.res):=by kernel_rfl
theorem aaX:Fits (115,55):=yC Tryz.func115 ZI (by kernel_rfl) (by kernel_rfl)
theorem ZF:yD L Tryz.f116 AP.f52=some (AP.f52.body,AP.f52.res):=by kernel_rfl
theorem aaU:Fits (116,52):=yC Tryz.func116 ZF (by kernel_rfl) (by kernel_rfl)
theorem ZD:yD L Tryz.f117 AP.f50=some (AP.f50.body,AP.f50.res):=by kernel_rfl
theorem aaS:Fits (117,50):=yC Tryz.func117 ZD (by kernel_rfl) (by kernel_rfl)
theorem ZE:yD L Tryz.f118 AP.f51=some (AP.f51.body,AP.f51.res):=by kernel_rfl
theorem aaT:Fits (118,51):=yC Tryz.func118 ZE (by kernel_rfl) (by kernel_rfl)
theorem ZJ:yD L Tryz.f119 AP.f56=some (AP.f56.body,AP.f56.res):=by kernel_rfl
theorem aaY:Fits (119,56):=yC Tryz.func119 ZJ (by kernel_rfl) (by kernel_rfl)
theorem Vw:yD L Tryz.f120 AP.f124=some (AP.f124.body,AP.f124.res):=by kernel_rfl
theorem W7:Fits (120,124):=yC Tryz.func120 Vw (by kernel_rfl) (by kernel_rfl)
theorem Y0:yD L Tryz.f121 AP.f14=some (AP.f14.body,AP.f14.res):=by kernel_rfl
theorem aai:Fits (121,14):=yC Tryz.func121 Y0 (by kernel_rfl) (by kernel_rfl)
theorem Y1:yD L Tryz.f122 AP.f15=some (AP.f15.body,AP.f15.res):=by kernel_rfl
theorem aaj:Fits (122,15):=yC Tryz.func122 Y1 (by kernel_rfl) (by kernel_rfl)
theorem Y5:yD L Tryz.f123 AP.f16=some (AP.f16.body,AP.f16.res):=by kernel_rfl
theorem aak:Fits (123,16):=yC Tryz.func123 Y5 (by kernel_rfl) (by kernel_rfl)
theorem Y6:yD L Tryz.f124 AP.f17=some (AP.f17.body,AP.f17.res):=by kernel_rfl
theorem aal:Fits (124,17):=yC Tryz.func124 Y6 (by kernel_rfl) (by kernel_rfl)
theorem aac:yD L Tryz.f125 AP.f84=some (AP.f84.body,AP.f84.res):=by kernel_rfl
theorem abq:Fits (125,84):=yC Tryz.func125 aac (by kernel_rfl) (by kernel_rfl)
theorem Zz:yD L Tryz.f126 AP.f46=some (AP.f46.body,AP.f46.res):=by kernel_rfl
theorem aaO:Fits (126,46):=yC Tryz.func126 Zz (by kernel_rfl) (by kernel_rfl)
theorem ZA:yD L Tryz.f127 AP.f47=some (AP.f47.body,AP.f47.res):=by kernel_rfl
theorem aaP:Fits (127,47):=yC Tryz.func127 ZA (by kernel_rfl) (by kernel_rfl)
theorem ZB:yD L Tryz.f128 AP.f48=some (AP.f48.body,AP.f48.res):=by kernel_rfl
theorem aaQ:Fits (128,48):=yC Tryz.func128 ZB (by kernel_rfl) (by kernel_rfl)
theorem ZC:yD L Tryz.f129 AP.f49=some (AP.f49.body,AP.f49.res):=by kernel_rfl
theorem aaR:Fits (129,49):=yC Tryz.func129 ZC (by kernel_rfl) (by kernel_rfl)
theorem ZG:yD L Tryz.f130 AP.f53=some (AP.f53.body,AP.f53.res):=by kernel_rfl
theorem aaV:Fits (130,53):=yC Tryz.func130 ZG (by kernel_rfl) (by kernel_rfl)
theorem ZH:yD L Tryz.f131 AP.f54=some (AP.f54.body,AP.f54.res):=by kernel_rfl
theorem aaW:Fits (131,54):=yC Tryz.func131 ZH (by kernel_rfl) (by kernel_rfl)
theorem ZW:yD L Tryz.f132 AP.f69=some (AP.f69.body,AP.f69.res):=by kernel_rfl
theorem abb:Fits (132,69):=yC Tryz.func132 ZW (by kernel_rfl) (by kernel_rfl)
theorem ZU:yD L Tryz.f133 AP.f67=some (AP.f67.body,AP.f67.res):=by kernel_rfl
theorem aa9:Fits (133,67):=yC Tryz.func133 ZU (by kernel_rfl) (by kernel_rfl)
theorem ZV:yD L Tryz.f134 AP.f68=some (AP.f68.body,AP.f68.res):=by kernel_rfl
theorem aba:Fits (134,68):=yC Tryz.func134 ZV (by kernel_rfl) (by kernel_rfl)
theorem ZX:yD L Tryz.f135 AP.f70=some (AP.f70.body,AP.f70.res):=by kernel_rfl
theorem abc:Fits (135,70):=yC Tryz.func135 ZX (by kernel_rfl) (by kernel_rfl)
theorem ZY:yD L Tryz.f136 AP.f71=some (AP.f71.body,AP.f71.res):=by kernel_rfl
theorem abd:Fits (136,71):=yC Tryz.func136 ZY (by kernel_rfl) (by kernel_rfl)
theorem Vx:yD L Tryz.f137 AP.f125=some (AP.f125.body,AP.f125.res):=by kernel_rfl
theorem W8:Fits (137,125):=yC Tryz.func137 Vx (by kernel_rfl) (by kernel_rfl)
theorem Vy:yD L Tryz.f138 AP.f126=some (AP.f126.body,AP.f126.res):=by kernel_rfl
theorem W9:Fits (138,126):=yC Tryz.func138 Vy (by kernel_rfl) (by kernel_rfl)
theorem Vz:yD L Tryz.f139 AP.f127=some (AP.f127.body,AP.f127.res):=by kernel_rfl
theorem Xa:Fits (139,127):=yC Tryz.func139 Vz (by kernel_rfl) (by kernel_rfl)
theorem VA:yD L Tryz.f140 AP.f128=some (AP.f128.body,AP.f128.res):=by kernel_rfl
theorem Xb:Fits (140,128):=yC Tryz.func140 VA (by kernel_rfl) (by kernel_rfl)
theorem VB:yD L Tryz.f141 AP.f129=some (AP.f129.body,AP.f129.res):=by kernel_rfl
theorem Xc:Fits (141,129):=yC Tryz.func141 VB (by kernel_rfl) (by kernel_rfl)
theorem VC:yD L Tryz.f142 AP.f130=some (AP.f130.body,AP.f130.res):=by kernel_rfl
theorem Xd:Fits (142,130):=yC Tryz.func142 VC (by kernel_rfl) (by kernel_rfl)
theorem VD:yD L Tryz.f143 AP.f131=some (AP.f131.body,AP.f131.res):=by kernel_rfl
theorem Xf:Fits (143,131):=yC Tryz.func143 VD (by kernel_rfl) (by kernel_rfl)
theorem Zr:yD L Tryz.f144 AP.f38=some (AP.f38.body,AP.f38.res):=by kernel_rfl
theorem aaG:Fits (144,38):=yC Tryz.func144 Zr (by kernel_rfl) (by kernel_rfl)
theorem Zs:yD L Tryz.f145 AP.f39=some (AP.f39.body,AP.f39.res):=by kernel_rfl
theorem aaH:Fits (145,39):=yC Tryz.func145 Zs (by kernel_rfl) (by kernel_rfl)
theorem Zt:yD L Tryz.f146 AP.f40=some (AP.f40.body,AP.f40.res):=by kernel_rfl
theorem aaI:Fits (146,40):=yC Tryz.func146 Zt (by kernel_rfl) (by kernel_rfl)
theorem Zu:yD L Tryz.f147 AP.f41=some (AP.f41.body,AP.f41.res):=by kernel_rfl
theorem aaJ:Fits (147,41):=yC Tryz.func147 Zu (by kernel_rfl) (by kernel_rfl)
theorem Zv:yD L Tryz.f148 AP.f42=some (AP.f42.body,AP.f42.res):=by kernel_rfl
theorem aaK:Fits (148,42):=yC Tryz.func148 Zv (by kernel_rfl) (by kernel_rfl)
theorem Zw:yD L Tryz.f149 AP.f43=some (AP.f43.body,AP.f43.res):=by kernel_rfl
theorem aaL:Fits (149,43):=yC Tryz.func149 Zw (by kernel_rfl) (by kernel_rfl)
theorem Zx:yD L Tryz.f150 AP.f44=some (AP.f44.body,AP.f44.res):=by kernel_rfl
theorem aaM:Fits (150,44):=yC Tryz.func150 Zx (by kernel_rfl) (by kernel_rfl)
theorem Zy:yD L Tryz.f151 AP.f45=some (AP.f45.body,AP.f45.res):=by kernel_rfl
theorem aaN:Fits (151,45):=yC Tryz.func151 Zy (by kernel_rfl) (by kernel_rfl)
theorem VE:yD L Tryz.f152 AP.f132=some (AP.f132.body,AP.f132.res):=by kernel_rfl
theorem Xg:Fits (152,132):=yC Tryz.func152 VE (by kernel_rfl) (by kernel_rfl)
theorem VF:yD L Tryz.f153 AP.f133=some (AP.f133.body,AP.f133.res):=by kernel_rfl
theorem Xh:Fits (153,133):=yC Tryz.func153 VF (by kernel_rfl) (by kernel_rfl)
theorem VG:yD L Tryz.f154 AP.f134=some (AP.f134.body,AP.f134.res):=by kernel_rfl
theorem Xi:Fits (154,134):=yC Tryz.func154 VG (by kernel_rfl) (by kernel_rfl)
theorem VH:yD L Tryz.f155 AP.f135=some (AP.f135.body,AP.f135.res):=by kernel_rfl
theorem Xj:Fits (155,135):=yC Tryz.func155 VH (by kernel_rfl) (by kernel_rfl)
theorem ZL:yD L Tryz.f156 AP.f58=some (AP.f58.body,AP.f58.res):=by kernel_rfl
theorem aa0:Fits (156,58):=yC Tryz.func156 ZL (by kernel_rfl) (by kernel_rfl)
theorem ZM:yD L Tryz.f157 AP.f59=some (AP.f59.body,AP.f59.res):=by kernel_rfl
theorem aa1:Fits (157,59):=yC Tryz.func157 ZM (by kernel_rfl) (by kernel_rfl)
theorem ZN:yD L Tryz.f158 AP.f60=some (AP.f60.body,AP.f60.res):=by kernel_rfl
theorem aa2:Fits (158,60):=yC Tryz.func158 ZN (by kernel_rfl) (by kernel_rfl)
theorem ZO:yD L Tryz.f159 AP.f61=some (AP.f61.body,AP.f61.res):=by kernel_rfl
theorem aa3:Fits (159,61):=yC Tryz.func159 ZO (by kernel_rfl) (by kernel_rfl)
theorem ZP:yD L Tryz.f160 AP.f62=some (AP.f62.body,AP.f62.res):=by kernel_rfl
theorem aa4:Fits (160,62):=yC Tryz.func160 ZP (by kernel_rfl) (by kernel_rfl)
theorem ZQ:yD L Tryz.f161 AP.f63=some (AP.f63.body,AP.f63.res):=by kernel_rfl
theorem aa5:Fits (161,63):=yC Tryz.func161 ZQ (by kernel_rfl) (by kernel_rfl)
theorem ZR:yD L Tryz.f162 AP.f64=some (AP.f64.body,AP.f64.res):=by kernel_rfl
theorem aa6:Fits (162,64):=yC Tryz.func162 ZR (by kernel_rfl) (by kernel_rfl)
theorem ZS:yD L Tryz.f163 AP.f65=some (AP.f65.body,AP.f65.res):=by kernel_rfl
theorem aa7:Fits (163,65):=yC Tryz.func163 ZS (by kernel_rfl) (by kernel_rfl)
theorem ZT:yD L Tryz.f164 AP.f66=some (AP.f66.body,AP.f66.res):=by kernel_rfl
theorem aa8:Fits (164,66):=yC Tryz.func164 ZT (by kernel_rfl) (by kernel_rfl)
theorem VJ:yD L Tryz.f167 AP.f138=some (AP.f138.body,AP.f138.res):=by kernel_rfl
theorem Xm:Fits (167,138):=yC Tryz.func167 VJ (by kernel_rfl) (by kernel_rfl)
theorem ZZ:yD L Tryz.f168 AP.f72=some (AP.f72.body,AP.f72.res):=by kernel_rfl
theorem abe:Fits (168,72):=yC Tryz.func168 ZZ (by kernel_rfl) (by kernel_rfl)
theorem Z0:yD L Tryz.f169 AP.f73=some (AP.f73.body,AP.f73.res):=by kernel_rfl
theorem abf:Fits (169,73):=yC Tryz.func169 Z0 (by kernel_rfl) (by kernel_rfl)
theorem Z1:yD L Tryz.f170 AP.f74=some (AP.f74.body,AP.f74.res):=by kernel_rfl
theorem abg:Fits (170,74):=yC Tryz.func170 Z1 (by kernel_rfl) (by kernel_rfl)
theorem Z2:yD L Tryz.f171 AP.f75=some (AP.f75.body,AP.f75.res):=by kernel_rfl
theorem abh:Fits (171,75):=yC Tryz.func171 Z2 (by kernel_rfl) (by kernel_rfl)
theorem Z3:yD L Tryz.f172 AP.f76=some (AP.f76.body,AP.f76.res):=by kernel_rfl
theorem abi:Fits (172,76):=yC Tryz.func172 Z3 (by kernel_rfl) (by kernel_rfl)
theorem Z4:yD L Tryz.f173 AP.f77=some (AP.f77.body,AP.f77.res):=by kernel_rfl
theorem abj:Fits (173,77):=yC Tryz.func173 Z4 (by kernel_rfl) (by kernel_rfl)
theorem Z5:yD L Tryz.f174 AP.f78=some (AP.f78.body,AP.f78.res):=by kernel_rfl
theorem abk:Fits (174,78):=yC Tryz.func174 Z5 (by kernel_rfl) (by kernel_rfl)
theorem Z6:yD L Tryz.f175 AP.f79=some (AP.f79.body,AP.f79.res):=by kernel_rfl
theorem abl:Fits (175,79):=yC Tryz.func175 Z6 (by kernel_rfl) (by kernel_rfl)
theorem Z7:yD L Tryz.f176 AP.f80=some (AP.f80.body,AP.f80.res):=by kernel_rfl
theorem abm:Fits (176,80):=yC Tryz.func176 Z7 (by kernel_rfl) (by kernel_rfl)
theorem Z8:yD L Tryz.f177 AP.f81=some (AP.f81.body,AP.f81.res):=by kernel_rfl
theorem abn:Fits (177,81):=yC Tryz.func177 Z8 (by kernel_rfl) (by kernel_rfl)
theorem VK:yD L Tryz.f178 AP.f139=some (AP.f139.body,AP.f139.res):=by kernel_rfl
theorem Xn:Fits (178,139):=yC Tryz.func178 VK (by kernel_rfl) (by kernel_rfl)
theorem VL:yD L Tryz.f179 AP.f140=some (AP.f140.body,AP.f140.res):=by kernel_rfl
theorem Xo:Fits (179,140):=yC Tryz.func179 VL (by kernel_rfl) (by kernel_rfl)
theorem VM:yD L Tryz.f180 AP.f141=some (AP.f141.body,AP.f141.res):=by kernel_rfl
theorem Xq:Fits (180,141):=yC Tryz.func180 VM (by kernel_rfl) (by kernel_rfl)
theorem aaa:yD L Tryz.f182 AP.f82=some (AP.f82.body,AP.f82.res):=by kernel_rfl
theorem abo:Fits (182,82):=yC Tryz.func182 aaa (by kernel_rfl) (by kernel_rfl)
theorem Xk:Fits (165,136):=⟨Tryz.f165,_,Tryz.func165,rfl,by kernel_rfl,fun af h=>by cases h⟩
theorem Xl:Fits (166,137):=⟨Tryz.f166,_,Tryz.func166,rfl,by kernel_rfl,fun af h=>by cases h⟩
theorem Xr:Fits (183,143):=⟨Tryz.f183,_,Tryz.func183,rfl,by kernel_rfl,fun af h=>by cases h⟩
theorem abJ:∀p∈mfT,Fits p:=yA XY (yA XI (yA XM (yA XJ (yA WM (yA acg (yA XN (yA XK (yA XH (yA XL (yA XZ (yA XO (yA abr (yA abt (yA X6 (yA XP (yA XQ (yA WV (yA WT (yA WH (yA XF (yA X7 (yA X8 (yA Xs (yA X9 (yA Ya (yA XR (yA XS (yA XT (yA abu (yA WI (yA WJ (yA WK (yA WL (yA Yb (yA Yc (yA Xt (yA XU (yA WO (yA Yd (yA Xu (yA Ye (yA XV (yA XW (yA WN (yA WQ (yA Xx (yA Xv (yA Xy (yA XE (yA aag (yA Xz (yA XD (yA aah (yA Xw (yA WR (yA XX (yA WS (yA WU (yA WW (yA WY (yA acf (yA aau (yA aaB (yA XG (yA aaF (yA aav (yA aaC (yA aaq (yA aar (yA aaE (yA aaw (yA aax (yA aay (yA aaz (yA aaA (yA aaD (yA WZ (yA W5 (yA ace (yA abp (yA W6 (yA aam (yA aan (yA aao (yA aap (yA aas (yA aat (yA aaZ (yA aaX (yA aaU (yA aaS (yA aaT (yA aaY (yA W7 (yA aai (yA aaj (yA aak (yA aal (yA abq (yA aaO (yA aaP (yA aaQ (yA aaR (yA aaV (yA aaW (yA abb (yA aa9 (yA aba (yA abc (yA abd (yA W8 (yA W9 (yA Xa (yA Xb (yA Xc (yA Xd (yA Xf (yA aaG (yA aaH (yA aaI (yA aaJ (yA aaK (yA aaL (yA aaM (yA aaN (yA Xg (yA Xh (yA Xi (yA Xj (yA aa0 (yA aa1 (yA aa2 (yA aa3 (yA aa4 (yA aa5 (yA aa6 (yA aa7 (yA aa8 (yA Xm (yA abe (yA abf (yA abg (yA abh (yA abi (yA abj (yA abk (yA abl (yA abm (yA abn (yA Xn (yA Xo (yA Xq (yA abo (yA Xk (yA Xl (yA Xr (QR)))))))))))))))))))))))))))))))))))))))))))))))))))))))))))))))))))))))))))))))))))))))))))))))))))))))))))))))))))))))))))))))))))))))))))))))))))))))))))))
theorem lk:fy L AP.A:=⟨by kernel_rfl,fun fid f h=>abJ (fid,f) (JX h),fun _ _ _ _ h=>by cases h⟩
end Ab.Ln
