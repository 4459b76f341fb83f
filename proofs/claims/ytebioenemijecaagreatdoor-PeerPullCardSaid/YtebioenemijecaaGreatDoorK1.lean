/- Part K1. -/
import Derived.Test.YtebioenemijecaaGreatDoorProg
import Derived.KernelRfl
import Derived.Test.YtebioenemijecaaGreatDoorAP
set_option maxRecDepth 100000
namespace Ab.Ln
open Go Go.Proofs Ab
def xD (L:Lk) (fn:Func) (af:fY):Option (aI×List RV):=fn.body.bind fun c=>(comp L fn.ntmps c af.body).bind fun x=>(dk L fn.results.toList).bind fun r=>some (x,r)
def Fits (p : Nat × Nat) : Prop := ∃ fn c, L.P.funcs[p.1]? = some fn ∧ fn.body = some c ∧ (fn.name == "runtime.NumGoroutine") = false ∧
    ∀af,AP.A p.2=some af→(∃x0,comp L fn.ntmps c x0=some af.body)∧dk L fn.results.toList=some af.res
theorem xx {k a : Nat} {fn : Func} {af : fY} (h1 : L.P.funcs[k]? = some fn) (h2 : xD L fn af = some (af.body, af.res)) (h3 : (fn.name == "runtime.NumGoroutine") = false) (h4 : AP.A a = some af) : Fits (k, a) := by
 unfold xD at h2
 simp only[wG]at h2
 obtain⟨c,g1,x,g2,r,g3,g4⟩:=h2
 obtain⟨rfl,rfl⟩:=wJ (wH g4)
 refine⟨fn,c,h1,g1,h3,fun af2 g5=> ?_⟩
 rw[h4]at g5
 obtain rfl:=wH g5
 exact⟨⟨_,g2⟩,g3⟩
theorem Gx:∀{l:List (Nat×Nat)} {k f:Nat},Gv l k=some f→(k,f)∈l
 |[],_,_,h=>by cases h
 | (i, g) :: r, k, f, h => by
   unfold Gv at h
   split at h
   · rename_i e;subst e;obtain rfl:=wH h;exact List.mem_cons_self
   · exact List.mem_cons_of_mem _ (Gx h)
theorem Mc:∀p∈([]:List (Nat×Nat)),Fits p:=fun p h=>by cases h
theorem xw {p:Nat×Nat} {l:List (Nat×Nat)} (h1:Fits p) (h2:∀q∈l,Fits q):∀q∈p::l,Fits q:=fun q h=>by
 rcases xn.1 h with rfl|h
 · exact h1
 · exact h2 q h
theorem RM:xD L Tryz.f3 AP.f223=some (AP.f223.body,AP.f223.res):=by kernel_rfl
theorem Uf:Fits (3,223):=xx Tryz.func3 RM (by kernel_rfl) (by kernel_rfl)
theorem RR:xD L Tryz.f5 AP.f242=some (AP.f242.body,AP.f242.res):=by kernel_rfl
theorem Uj:Fits (5,242):=xx Tryz.func5 RR (by kernel_rfl) (by kernel_rfl)
theorem RE:xD L Tryz.f6 AP.f205=some (AP.f205.body,AP.f205.res):=by kernel_rfl
theorem T7:Fits (6,205):=xx Tryz.func6 RE (by kernel_rfl) (by kernel_rfl)
theorem RS:xD L Tryz.f7 AP.f243=some (AP.f243.body,AP.f243.res):=by kernel_rfl
theorem Uk:Fits (7,243):=xx Tryz.func7 RS (by kernel_rfl) (by kernel_rfl)
theorem RT:xD L Tryz.f8 AP.f244=some (AP.f244.body,AP.f244.res):=by kernel_rfl
theorem Un:Fits (8,244):=xx Tryz.func8 RT (by kernel_rfl) (by kernel_rfl)
theorem RP:xD L Tryz.f9 AP.f238=some (AP.f238.body,AP.f238.res):=by kernel_rfl
theorem Uh:Fits (9,238):=xx Tryz.func9 RP (by kernel_rfl) (by kernel_rfl)
theorem YU:xD L Tryz.f10 AP.f9=some (AP.f9.body,AP.f9.res):=by kernel_rfl
theorem Y0:Fits (10,9):=xx Tryz.func10 YU (by kernel_rfl) (by kernel_rfl)
theorem RU:xD L Tryz.f11 AP.f245=some (AP.f245.body,AP.f245.res):=by kernel_rfl
theorem Uo:Fits (11,245):=xx Tryz.func11 RU (by kernel_rfl) (by kernel_rfl)
theorem RQ:xD L Tryz.f12 AP.f240=some (AP.f240.body,AP.f240.res):=by kernel_rfl
theorem Ui:Fits (12,240):=xx Tryz.func12 RQ (by kernel_rfl) (by kernel_rfl)
theorem RD:xD L Tryz.f13 AP.f202=some (AP.f202.body,AP.f202.res):=by kernel_rfl
theorem TZ:Fits (13,202):=xx Tryz.func13 RD (by kernel_rfl) (by kernel_rfl)
theorem RG:xD L Tryz.f15 AP.f208=some (AP.f208.body,AP.f208.res):=by kernel_rfl
theorem T9:Fits (15,208):=xx Tryz.func15 RG (by kernel_rfl) (by kernel_rfl)
theorem Rf:xD L Tryz.f16 AP.f166=some (AP.f166.body,AP.f166.res):=by kernel_rfl
theorem TD:Fits (16,166):=xx Tryz.func16 Rf (by kernel_rfl) (by kernel_rfl)
theorem Qz:xD L Tryz.f17 AP.f106=some (AP.f106.body,AP.f106.res):=by kernel_rfl
theorem SL:Fits (17,106):=xx Tryz.func17 Qz (by kernel_rfl) (by kernel_rfl)
theorem RX:xD L Tryz.f18 AP.f247=some (AP.f247.body,AP.f247.res):=by kernel_rfl
theorem Uq:Fits (18,247):=xx Tryz.func18 RX (by kernel_rfl) (by kernel_rfl)
theorem W7:xD L Tryz.f20 AP.f98=some (AP.f98.body,AP.f98.res):=by kernel_rfl
theorem Yb:Fits (20,98):=xx Tryz.func20 W7 (by kernel_rfl) (by kernel_rfl)
theorem RW:xD L Tryz.f21 AP.f246=some (AP.f246.body,AP.f246.res):=by kernel_rfl
theorem Up:Fits (21,246):=xx Tryz.func21 RW (by kernel_rfl) (by kernel_rfl)
theorem RF:xD L Tryz.f22 AP.f207=some (AP.f207.body,AP.f207.res):=by kernel_rfl
theorem T8:Fits (22,207):=xx Tryz.func22 RF (by kernel_rfl) (by kernel_rfl)
theorem RJ:xD L Tryz.f23 AP.f212=some (AP.f212.body,AP.f212.res):=by kernel_rfl
theorem Uc:Fits (23,212):=xx Tryz.func23 RJ (by kernel_rfl) (by kernel_rfl)
theorem RK:xD L Tryz.f24 AP.f213=some (AP.f213.body,AP.f213.res):=by kernel_rfl
theorem Ud:Fits (24,213):=xx Tryz.func24 RK (by kernel_rfl) (by kernel_rfl)
theorem Q8:xD L Tryz.f25 AP.f157=some (AP.f157.body,AP.f157.res):=by kernel_rfl
theorem Tw:Fits (25,157):=xx Tryz.func25 Q8 (by kernel_rfl) (by kernel_rfl)
theorem R9:xD L Tryz.f26 AP.f279=some (AP.f279.body,AP.f279.res):=by kernel_rfl
theorem UD:Fits (26,279):=xx Tryz.func26 R9 (by kernel_rfl) (by kernel_rfl)
theorem Sa:xD L Tryz.f27 AP.f280=some (AP.f280.body,AP.f280.res):=by kernel_rfl
theorem UE:Fits (27,280):=xx Tryz.func27 Sa (by kernel_rfl) (by kernel_rfl)
theorem RL:xD L Tryz.f28 AP.f215=some (AP.f215.body,AP.f215.res):=by kernel_rfl
theorem Ue:Fits (28,215):=xx Tryz.func28 RL (by kernel_rfl) (by kernel_rfl)
theorem Re:xD L Tryz.f29 AP.f165=some (AP.f165.body,AP.f165.res):=by kernel_rfl
theorem TC:Fits (29,165):=xx Tryz.func29 Re (by kernel_rfl) (by kernel_rfl)
theorem Q7:xD L Tryz.f30 AP.f156=some (AP.f156.body,AP.f156.res):=by kernel_rfl
theorem Tv:Fits (30,156):=xx Tryz.func30 Q7 (by kernel_rfl) (by kernel_rfl)
theorem RH:xD L Tryz.f31 AP.f210=some (AP.f210.body,AP.f210.res):=by kernel_rfl
theorem Ua:Fits (31,210):=xx Tryz.func31 RH (by kernel_rfl) (by kernel_rfl)
theorem RI:xD L Tryz.f32 AP.f211=some (AP.f211.body,AP.f211.res):=by kernel_rfl
theorem Ub:Fits (32,211):=xx Tryz.func32 RI (by kernel_rfl) (by kernel_rfl)
theorem Rk:xD L Tryz.f33 AP.f177=some (AP.f177.body,AP.f177.res):=by kernel_rfl
theorem TI:Fits (33,177):=xx Tryz.func33 Rk (by kernel_rfl) (by kernel_rfl)
theorem QK:xD L Tryz.f34 AP.f120=some (AP.f120.body,AP.f120.res):=by kernel_rfl
theorem SY:Fits (34,120):=xx Tryz.func34 QK (by kernel_rfl) (by kernel_rfl)
theorem Rn:xD L Tryz.f35 AP.f181=some (AP.f181.body,AP.f181.res):=by kernel_rfl
theorem TL:Fits (35,181):=xx Tryz.func35 Rn (by kernel_rfl) (by kernel_rfl)
theorem RA:xD L Tryz.f36 AP.f197=some (AP.f197.body,AP.f197.res):=by kernel_rfl
theorem TW:Fits (36,197):=xx Tryz.func36 RA (by kernel_rfl) (by kernel_rfl)
theorem RB:xD L Tryz.f37 AP.f198=some (AP.f198.body,AP.f198.res):=by kernel_rfl
theorem TX:Fits (37,198):=xx Tryz.func37 RB (by kernel_rfl) (by kernel_rfl)
theorem Sb:xD L Tryz.f38 AP.f281=some (AP.f281.body,AP.f281.res):=by kernel_rfl
theorem UF:Fits (38,281):=xx Tryz.func38 Sb (by kernel_rfl) (by kernel_rfl)
theorem RN:xD L Tryz.f39 AP.f233=some (AP.f233.body,AP.f233.res):=by kernel_rfl
theorem Ug:Fits (39,233):=xx Tryz.func39 RN (by kernel_rfl) (by kernel_rfl)
theorem R8:xD L Tryz.f40 AP.f277=some (AP.f277.body,AP.f277.res):=by kernel_rfl
theorem UC:Fits (40,277):=xx Tryz.func40 R8 (by kernel_rfl) (by kernel_rfl)
theorem RC:xD L Tryz.f42 AP.f200=some (AP.f200.body,AP.f200.res):=by kernel_rfl
theorem TY:Fits (42,200):=xx Tryz.func42 RC (by kernel_rfl) (by kernel_rfl)
theorem Ri:xD L Tryz.f43 AP.f172=some (AP.f172.body,AP.f172.res):=by kernel_rfl
theorem TG:Fits (43,172):=xx Tryz.func43 Ri (by kernel_rfl) (by kernel_rfl)
theorem Qu:xD L Tryz.f45 AP.f101=some (AP.f101.body,AP.f101.res):=by kernel_rfl
theorem SG:Fits (45,101):=xx Tryz.func45 Qu (by kernel_rfl) (by kernel_rfl)
theorem Rg:xD L Tryz.f46 AP.f167=some (AP.f167.body,AP.f167.res):=by kernel_rfl
theorem TE:Fits (46,167):=xx Tryz.func46 Rg (by kernel_rfl) (by kernel_rfl)
theorem Rc:xD L Tryz.f47 AP.f164=some (AP.f164.body,AP.f164.res):=by kernel_rfl
theorem TB:Fits (47,164):=xx Tryz.func47 Rc (by kernel_rfl) (by kernel_rfl)
theorem Rp:xD L Tryz.f48 AP.f183=some (AP.f183.body,AP.f183.res):=by kernel_rfl
theorem TM:Fits (48,183):=xx Tryz.func48 Rp (by kernel_rfl) (by kernel_rfl)
theorem W4:xD L Tryz.f49 AP.f91=some (AP.f91.body,AP.f91.res):=by kernel_rfl
theorem X8:Fits (49,91):=xx Tryz.func49 W4 (by kernel_rfl) (by kernel_rfl)
theorem Rm:xD L Tryz.f50 AP.f179=some (AP.f179.body,AP.f179.res):=by kernel_rfl
theorem TK:Fits (50,179):=xx Tryz.func50 Rm (by kernel_rfl) (by kernel_rfl)
theorem W5:xD L Tryz.f51 AP.f93=some (AP.f93.body,AP.f93.res):=by kernel_rfl
theorem X9:Fits (51,93):=xx Tryz.func51 W5 (by kernel_rfl) (by kernel_rfl)
theorem Q5:xD L Tryz.f52 AP.f151=some (AP.f151.body,AP.f151.res):=by kernel_rfl
theorem Tt:Fits (52,151):=xx Tryz.func52 Q5 (by kernel_rfl) (by kernel_rfl)
theorem Q6:xD L Tryz.f53 AP.f152=some (AP.f152.body,AP.f152.res):=by kernel_rfl
theorem Tu:Fits (53,152):=xx Tryz.func53 Q6 (by kernel_rfl) (by kernel_rfl)
theorem Qy:xD L Tryz.f54 AP.f105=some (AP.f105.body,AP.f105.res):=by kernel_rfl
theorem SK:Fits (54,105):=xx Tryz.func54 Qy (by kernel_rfl) (by kernel_rfl)
theorem W1:xD L Tryz.f55 AP.f83=some (AP.f83.body,AP.f83.res):=by kernel_rfl
theorem X6:Fits (55,83):=xx Tryz.func55 W1 (by kernel_rfl) (by kernel_rfl)
theorem RY:xD L Tryz.f56 AP.f261=some (AP.f261.body,AP.f261.res):=by kernel_rfl
theorem Ur:Fits (56,261):=xx Tryz.func56 RY (by kernel_rfl) (by kernel_rfl)
theorem RZ:xD L Tryz.f57 AP.f262=some (AP.f262.body,AP.f262.res):=by kernel_rfl
theorem Ut:Fits (57,262):=xx Tryz.func57 RZ (by kernel_rfl) (by kernel_rfl)
theorem QH:xD L Tryz.f58 AP.f117=some (AP.f117.body,AP.f117.res):=by kernel_rfl
theorem SV:Fits (58,117):=xx Tryz.func58 QH (by kernel_rfl) (by kernel_rfl)
theorem Rq:xD L Tryz.f59 AP.f184=some (AP.f184.body,AP.f184.res):=by kernel_rfl
theorem TN:Fits (59,184):=xx Tryz.func59 Rq (by kernel_rfl) (by kernel_rfl)
theorem R0:xD L Tryz.f60 AP.f263=some (AP.f263.body,AP.f263.res):=by kernel_rfl
theorem Uu:Fits (60,263):=xx Tryz.func60 R0 (by kernel_rfl) (by kernel_rfl)
theorem R1:xD L Tryz.f61 AP.f264=some (AP.f264.body,AP.f264.res):=by kernel_rfl
theorem Uv:Fits (61,264):=xx Tryz.func61 R1 (by kernel_rfl) (by kernel_rfl)
theorem R2:xD L Tryz.f62 AP.f265=some (AP.f265.body,AP.f265.res):=by kernel_rfl
theorem Uw:Fits (62,265):=xx Tryz.func62 R2 (by kernel_rfl) (by kernel_rfl)
theorem R3:xD L Tryz.f63 AP.f266=some (AP.f266.body,AP.f266.res):=by kernel_rfl
theorem Ux:Fits (63,266):=xx Tryz.func63 R3 (by kernel_rfl) (by kernel_rfl)
theorem R4:xD L Tryz.f64 AP.f267=some (AP.f267.body,AP.f267.res):=by kernel_rfl
theorem Uy:Fits (64,267):=xx Tryz.func64 R4 (by kernel_rfl) (by kernel_rfl)
theorem R5:xD L Tryz.f65 AP.f268=some (AP.f268.body,AP.f268.res):=by kernel_rfl
theorem Uz:Fits (65,268):=xx Tryz.func65 R5 (by kernel_rfl) (by kernel_rfl)
theorem W6:xD L Tryz.f66 AP.f96=some (AP.f96.body,AP.f96.res):=by kernel_rfl
theorem Ya:Fits (66,96):=xx Tryz.func66 W6 (by kernel_rfl) (by kernel_rfl)
theorem R6:xD L Tryz.f67 AP.f269=some (AP.f269.body,AP.f269.res):=by kernel_rfl
theorem UA:Fits (67,269):=xx Tryz.func67 R6 (by kernel_rfl) (by kernel_rfl)
theorem R7:xD L Tryz.f68 AP.f270=some (AP.f270.body,AP.f270.res):=by kernel_rfl
theorem UB:Fits (68,270):=xx Tryz.func68 R7 (by kernel_rfl) (by kernel_rfl)
theorem Ru:xD L Tryz.f69 AP.f187=some (AP.f187.body,AP.f187.res):=by kernel_rfl
theorem TQ:Fits (69,187):=xx Tryz.func69 Ru (by kernel_rfl) (by kernel_rfl)
theorem Se:xD L Tryz.f70 AP.f300=some (AP.f300.body,AP.f300.res):=by kernel_rfl
theorem UH:Fits (70,300):=xx Tryz.func70 Se (by kernel_rfl) (by kernel_rfl)
theorem Sf:xD L Tryz.f71 AP.f301=some (AP.f301.body,AP.f301.res):=by kernel_rfl
theorem UI:Fits (71,301):=xx Tryz.func71 Sf (by kernel_rfl) (by kernel_rfl)
theorem Sg:xD L Tryz.f72 AP.f302=some (AP.f302.body,AP.f302.res):=by kernel_rfl
theorem UJ:Fits (72,302):=xx Tryz.func72 Sg (by kernel_rfl) (by kernel_rfl)
theorem Si:xD L Tryz.f73 AP.f303=some (AP.f303.body,AP.f303.res):=by kernel_rfl
theorem UK:Fits (73,303):=xx Tryz.func73 Si (by kernel_rfl) (by kernel_rfl)
theorem QC:xD L Tryz.f74 AP.f111=some (AP.f111.body,AP.f111.res):=by kernel_rfl
theorem SO:Fits (74,111):=xx Tryz.func74 QC (by kernel_rfl) (by kernel_rfl)
theorem Rj:xD L Tryz.f75 AP.f173=some (AP.f173.body,AP.f173.res):=by kernel_rfl
theorem TH:Fits (75,173):=xx Tryz.func75 Rj (by kernel_rfl) (by kernel_rfl)
theorem Rh:xD L Tryz.f76 AP.f169=some (AP.f169.body,AP.f169.res):=by kernel_rfl
theorem TF:Fits (76,169):=xx Tryz.func76 Rh (by kernel_rfl) (by kernel_rfl)
theorem YT:xD L Tryz.f77 AP.f8=some (AP.f8.body,AP.f8.res):=by kernel_rfl
theorem YZ:Fits (77,8):=xx Tryz.func77 YT (by kernel_rfl) (by kernel_rfl)
theorem Rt:xD L Tryz.f78 AP.f186=some (AP.f186.body,AP.f186.res):=by kernel_rfl
theorem TP:Fits (78,186):=xx Tryz.func78 Rt (by kernel_rfl) (by kernel_rfl)
theorem Rv:xD L Tryz.f79 AP.f188=some (AP.f188.body,AP.f188.res):=by kernel_rfl
theorem TR:Fits (79,188):=xx Tryz.func79 Rv (by kernel_rfl) (by kernel_rfl)
theorem Qv:xD L Tryz.f80 AP.f102=some (AP.f102.body,AP.f102.res):=by kernel_rfl
theorem SH:Fits (80,102):=xx Tryz.func80 Qv (by kernel_rfl) (by kernel_rfl)
theorem Qw:xD L Tryz.f81 AP.f103=some (AP.f103.body,AP.f103.res):=by kernel_rfl
theorem SI:Fits (81,103):=xx Tryz.func81 Qw (by kernel_rfl) (by kernel_rfl)
theorem Qx:xD L Tryz.f82 AP.f104=some (AP.f104.body,AP.f104.res):=by kernel_rfl
theorem SJ:Fits (82,104):=xx Tryz.func82 Qx (by kernel_rfl) (by kernel_rfl)
theorem QG:xD L Tryz.f83 AP.f115=some (AP.f115.body,AP.f115.res):=by kernel_rfl
theorem SU:Fits (83,115):=xx Tryz.func83 QG (by kernel_rfl) (by kernel_rfl)
theorem Q9:xD L Tryz.f84 AP.f160=some (AP.f160.body,AP.f160.res):=by kernel_rfl
theorem Tx:Fits (84,160):=xx Tryz.func84 Q9 (by kernel_rfl) (by kernel_rfl)
theorem Ra:xD L Tryz.f85 AP.f161=some (AP.f161.body,AP.f161.res):=by kernel_rfl
theorem Tz:Fits (85,161):=xx Tryz.func85 Ra (by kernel_rfl) (by kernel_rfl)
theorem Rb:xD L Tryz.f86 AP.f162=some (AP.f162.body,AP.f162.res):=by kernel_rfl
theorem TA:Fits (86,162):=xx Tryz.func86 Rb (by kernel_rfl) (by kernel_rfl)
theorem W3:xD L Tryz.f87 AP.f84=some (AP.f84.body,AP.f84.res):=by kernel_rfl
theorem X7:Fits (87,84):=xx Tryz.func87 W3 (by kernel_rfl) (by kernel_rfl)
theorem QN:xD L Tryz.f88 AP.f123=some (AP.f123.body,AP.f123.res):=by kernel_rfl
theorem S8:Fits (88,123):=xx Tryz.func88 QN (by kernel_rfl) (by kernel_rfl)
theorem QJ:xD L Tryz.f89 AP.f119=some (AP.f119.body,AP.f119.res):=by kernel_rfl
theorem SX:Fits (89,119):=xx Tryz.func89 QJ (by kernel_rfl) (by kernel_rfl)
theorem QL:xD L Tryz.f90 AP.f121=some (AP.f121.body,AP.f121.res):=by kernel_rfl
theorem SZ:Fits (90,121):=xx Tryz.func90 QL (by kernel_rfl) (by kernel_rfl)
theorem Sc:xD L Tryz.f91 AP.f299=some (AP.f299.body,AP.f299.res):=by kernel_rfl
theorem UG:Fits (91,299):=xx Tryz.func91 Sc (by kernel_rfl) (by kernel_rfl)
theorem QA:xD L Tryz.f92 AP.f107=some (AP.f107.body,AP.f107.res):=by kernel_rfl
theorem SM:Fits (92,107):=xx Tryz.func92 QA (by kernel_rfl) (by kernel_rfl)
theorem Ry:xD L Tryz.f93 AP.f191=some (AP.f191.body,AP.f191.res):=by kernel_rfl
theorem TU:Fits (93,191):=xx Tryz.func93 Ry (by kernel_rfl) (by kernel_rfl)
theorem Rl:xD L Tryz.f94 AP.f178=some (AP.f178.body,AP.f178.res):=by kernel_rfl
theorem TJ:Fits (94,178):=xx Tryz.func94 Rl (by kernel_rfl) (by kernel_rfl)
theorem Sj:xD L Tryz.f95 AP.f306=some (AP.f306.body,AP.f306.res):=by kernel_rfl
theorem UL:Fits (95,306):=xx Tryz.func95 Sj (by kernel_rfl) (by kernel_rfl)
theorem Sk:xD L Tryz.f96 AP.f307=some (AP.f307.body,AP.f307.res):=by kernel_rfl
theorem UM:Fits (96,307):=xx Tryz.func96 Sk (by kernel_rfl) (by kernel_rfl)
theorem Sl:xD L Tryz.f97 AP.f308=some (AP.f308.body,AP.f308.res):=by kernel_rfl
theorem UN:Fits (97,308):=xx Tryz.func97 Sl (by kernel_rfl) (by kernel_rfl)
theorem V5:xD L Tryz.f98 AP.f18=some (AP.f18.body,AP.f18.res):=by kernel_rfl
theorem Xk:Fits (98,18):=xx Tryz.func98 V5 (by kernel_rfl) (by kernel_rfl)
theorem V6:xD L Tryz.f99 AP.f19=some (AP.f19.body,AP.f19.res):=by kernel_rfl
theorem Xl:Fits (99,19):=xx Tryz.func99 V6 (by kernel_rfl) (by kernel_rfl)
theorem V7:xD L Tryz.f100 AP.f20=some (AP.f20.body,AP.f20.res):=by kernel_rfl
theorem Xm:Fits (100,20):=xx Tryz.func100 V7 (by kernel_rfl) (by kernel_rfl)
theorem V8:xD L Tryz.f101 AP.f21=some (AP.f21.body,AP.f21.res):=by kernel_rfl
theorem Xn:Fits (101,21):=xx Tryz.func101 V8 (by kernel_rfl) (by kernel_rfl)
theorem V9:xD L Tryz.f102 AP.f22=some (AP.f22.body,AP.f22.res):=by kernel_rfl
theorem Xo:Fits (102,22):=xx Tryz.func102 V9 (by kernel_rfl) (by kernel_rfl)
theorem Wa:xD L Tryz.f103 AP.f23=some (AP.f23.body,AP.f23.res):=by kernel_rfl
theorem Xp:Fits (103,23):=xx Tryz.func103 Wa (by kernel_rfl) (by kernel_rfl)
theorem Wb:xD L Tryz.f104 AP.f24=some (AP.f24.body,AP.f24.res):=by kernel_rfl
theorem Xq:Fits (104,24):=xx Tryz.func104 Wb (by kernel_rfl) (by kernel_rfl)
theorem Wc:xD L Tryz.f105 AP.f25=some (AP.f25.body,AP.f25.res):=by kernel_rfl
theorem Xr:Fits (105,25):=xx Tryz.func105 Wc (by kernel_rfl) (by kernel_rfl)
theorem Rx:xD L Tryz.f106 AP.f190=some (AP.f190.body,AP.f190.res):=by kernel_rfl
theorem TT:Fits (106,190):=xx Tryz.func106 Rx (by kernel_rfl) (by kernel_rfl)
theorem QD:xD L Tryz.f107 AP.f112=some (AP.f112.body,AP.f112.res):=by kernel_rfl
theorem SP:Fits (107,112):=xx Tryz.func107 QD (by kernel_rfl) (by kernel_rfl)
theorem QO:xD L Tryz.f108 AP.f124=some (AP.f124.body,AP.f124.res):=by kernel_rfl
theorem S9:Fits (108,124):=xx Tryz.func108 QO (by kernel_rfl) (by kernel_rfl)
theorem QE:xD L Tryz.f109 AP.f113=some (AP.f113.body,AP.f113.res):=by kernel_rfl
theorem SQ:Fits (109,113):=xx Tryz.func109 QE (by kernel_rfl) (by kernel_rfl)
theorem QF:xD L Tryz.f110 AP.f114=some (AP.f114.body,AP.f114.res):=by kernel_rfl
theorem SR:Fits (110,114):=xx Tryz.func110 QF (by kernel_rfl) (by kernel_rfl)
theorem Rr:xD L Tryz.f111 AP.f185=some (AP.f185.body,AP.f185.res):=by kernel_rfl
theorem TO:Fits (111,185):=xx Tryz.func111 Rr (by kernel_rfl) (by kernel_rfl)
theorem QI:xD L Tryz.f112 AP.f118=some (AP.f118.body,AP.f118.res):=by kernel_rfl
theorem SW:Fits (112,118):=xx Tryz.func112 QI (by kernel_rfl) (by kernel_rfl)
theorem QB:xD L Tryz.f113 AP.f110=some (AP.f110.body,AP.f110.res):=by kernel_rfl
theorem SN:Fits (113,110):=xx Tryz.func113 QB (by kernel_rfl) (by kernel_rfl)
theorem Sm:xD L Tryz.f114 AP.f311=some (AP.f311.body,AP.f311.res):=by kernel_rfl
theorem UO:Fits (114,311):=xx Tryz.func114 Sm (by kernel_rfl) (by kernel_rfl)
theorem Sn:xD L Tryz.f115 AP.f312=some (AP.f312.body,AP.f312.res):=by kernel_rfl
theorem UP:Fits (115,312):=xx Tryz.func115 Sn (by kernel_rfl) (by kernel_rfl)
theorem So:xD L Tryz.f116 AP.f313=some (AP.f313.body,AP.f313.res):=by kernel_rfl
theorem UQ:Fits (116,313):=xx Tryz.func116 So (by kernel_rfl) (by kernel_rfl)
theorem Sp:xD L Tryz.f117 AP.f314=some (AP.f314.body,AP.f314.res):=by kernel_rfl
theorem UR:Fits (117,314):=xx Tryz.func117 Sp (by kernel_rfl) (by kernel_rfl)
theorem Wm:xD L Tryz.f118 AP.f46=some (AP.f46.body,AP.f46.res):=by kernel_rfl
theorem XB:Fits (118,46):=xx Tryz.func118 Wm (by kernel_rfl) (by kernel_rfl)
theorem Wn:xD L Tryz.f119 AP.f47=some (AP.f47.body,AP.f47.res):=by kernel_rfl
theorem XC:Fits (119,47):=xx Tryz.func119 Wn (by kernel_rfl) (by kernel_rfl)
theorem Wo:xD L Tryz.f120 AP.f48=some (AP.f48.body,AP.f48.res):=by kernel_rfl
theorem XD:Fits (120,48):=xx Tryz.func120 Wo (by kernel_rfl) (by kernel_rfl)
theorem Wp:xD L Tryz.f121 AP.f49=some (AP.f49.body,AP.f49.res):=by kernel_rfl
theorem XE:Fits (121,49):=xx Tryz.func121 Wp (by kernel_rfl) (by kernel_rfl)
theorem Wq:xD L Tryz.f122 AP.f50=some (AP.f50.body,AP.f50.res):=by kernel_rfl
theorem XF:Fits (122,50):=xx Tryz.func122 Wq (by kernel_rfl) (by kernel_rfl)
theorem Ws:xD L Tryz.f123 AP.f51=some (AP.f51.body,AP.f51.res):=by kernel_rfl
theorem XG:Fits (123,51):=xx Tryz.func123 Ws (by kernel_rfl) (by kernel_rfl)
theorem Wd:xD L Tryz.f124 AP.f32=some (AP.f32.body,AP.f32.res):=by kernel_rfl
theorem Xs:Fits (124,32):=xx Tryz.func124 Wd (by kernel_rfl) (by kernel_rfl)
theorem Wt:xD L Tryz.f125 AP.f52=some (AP.f52.body,AP.f52.res):=by kernel_rfl
theorem XH:Fits (125,52):=xx Tryz.func125 Wt (by kernel_rfl) (by kernel_rfl)
theorem Wu:xD L Tryz.f126 AP.f53=some (AP.f53.body,AP.f53.res):=by kernel_rfl
theorem XI:Fits (126,53):=xx Tryz.func126 Wu (by kernel_rfl) (by kernel_rfl)
theorem Wv:xD L Tryz.f127 AP.f54=some (AP.f54.body,AP.f54.res):=by kernel_rfl
theorem XJ:Fits (127,54):=xx Tryz.func127 Wv (by kernel_rfl) (by kernel_rfl)
theorem Rz:xD L Tryz.f128 AP.f192=some (AP.f192.body,AP.f192.res):=by kernel_rfl
theorem TV:Fits (128,192):=xx Tryz.func128 Rz (by kernel_rfl) (by kernel_rfl)
theorem QP:xD L Tryz.f129 AP.f125=some (AP.f125.body,AP.f125.res):=by kernel_rfl
theorem Ta:Fits (129,125):=xx Tryz.func129 QP (by kernel_rfl) (by kernel_rfl)
theorem QQ:xD L Tryz.f130 AP.f126=some (AP.f126.body,AP.f126.res):=by kernel_rfl
theorem Tb:Fits (130,126):=xx Tryz.func130 QQ (by kernel_rfl) (by kernel_rfl)
theorem QR:xD L Tryz.f131 AP.f127=some (AP.f127.body,AP.f127.res):=by kernel_rfl
theorem Tc:Fits (131,127):=xx Tryz.func131 QR (by kernel_rfl) (by kernel_rfl)
theorem QS:xD L Tryz.f132 AP.f128=some (AP.f128.body,AP.f128.res):=by kernel_rfl
theorem Td:Fits (132,128):=xx Tryz.func132 QS (by kernel_rfl) (by kernel_rfl)
theorem QT:xD L Tryz.f133 AP.f129=some (AP.f129.body,AP.f129.res):=by kernel_rfl
theorem Te:Fits (133,129):=xx Tryz.func133 QT (by kernel_rfl) (by kernel_rfl)
theorem QU:xD L Tryz.f134 AP.f130=some (AP.f130.body,AP.f130.res):=by kernel_rfl
theorem Tf:Fits (134,130):=xx Tryz.func134 QU (by kernel_rfl) (by kernel_rfl)
theorem QV:xD L Tryz.f135 AP.f131=some (AP.f131.body,AP.f131.res):=by kernel_rfl
theorem Tg:Fits (135,131):=xx Tryz.func135 QV (by kernel_rfl) (by kernel_rfl)
theorem QM:xD L Tryz.f136 AP.f122=some (AP.f122.body,AP.f122.res):=by kernel_rfl
theorem S7:Fits (136,122):=xx Tryz.func136 QM (by kernel_rfl) (by kernel_rfl)
theorem YS:xD L Tryz.f137 AP.f7=some (AP.f7.body,AP.f7.res):=by kernel_rfl
theorem YY:Fits (137,7):=xx Tryz.func137 YS (by kernel_rfl) (by kernel_rfl)
theorem Rw:xD L Tryz.f138 AP.f189=some (AP.f189.body,AP.f189.res):=by kernel_rfl
theorem TS:Fits (138,189):=xx Tryz.func138 Rw (by kernel_rfl) (by kernel_rfl)
theorem Sq:xD L Tryz.f139 AP.f315=some (AP.f315.body,AP.f315.res):=by kernel_rfl
theorem US:Fits (139,315):=xx Tryz.func139 Sq (by kernel_rfl) (by kernel_rfl)
theorem WJ:xD L Tryz.f140 AP.f67=some (AP.f67.body,AP.f67.res):=by kernel_rfl
theorem XT:Fits (140,67):=xx Tryz.func140 WJ (by kernel_rfl) (by kernel_rfl)
theorem WK:xD L Tryz.f141 AP.f68=some (AP.f68.body,AP.f68.res):=by kernel_rfl
theorem XU:Fits (141,68):=xx Tryz.func141 WK (by kernel_rfl) (by kernel_rfl)
theorem QW:xD L Tryz.f142 AP.f132=some (AP.f132.body,AP.f132.res):=by kernel_rfl
theorem Th:Fits (142,132):=xx Tryz.func142 QW (by kernel_rfl) (by kernel_rfl)
theorem QX:xD L Tryz.f143 AP.f133=some (AP.f133.body,AP.f133.res):=by kernel_rfl
theorem Ti:Fits (143,133):=xx Tryz.func143 QX (by kernel_rfl) (by kernel_rfl)
theorem QY:xD L Tryz.f144 AP.f134=some (AP.f134.body,AP.f134.res):=by kernel_rfl
theorem Tj:Fits (144,134):=xx Tryz.func144 QY (by kernel_rfl) (by kernel_rfl)
theorem QZ:xD L Tryz.f145 AP.f135=some (AP.f135.body,AP.f135.res):=by kernel_rfl
theorem Tk:Fits (145,135):=xx Tryz.func145 QZ (by kernel_rfl) (by kernel_rfl)
theorem V0:xD L Tryz.f146 AP.f14=some (AP.f14.body,AP.f14.res):=by kernel_rfl
theorem Xg:Fits (146,14):=xx Tryz.func146 V0 (by kernel_rfl) (by kernel_rfl)
theorem V1:xD L Tryz.f147 AP.f15=some (AP.f15.body,AP.f15.res):=by kernel_rfl
theorem Xh:Fits (147,15):=xx Tryz.func147 V1 (by kernel_rfl) (by kernel_rfl)
theorem V3:xD L Tryz.f148 AP.f16=some (AP.f16.body,AP.f16.res):=by kernel_rfl
theorem Xi:Fits (148,16):=xx Tryz.func148 V3 (by kernel_rfl) (by kernel_rfl)
theorem V4:xD L Tryz.f149 AP.f17=some (AP.f17.body,AP.f17.res):=by kernel_rfl
theorem Xj:Fits (149,17):=xx Tryz.func149 V4 (by kernel_rfl) (by kernel_rfl)
theorem Q0:xD L Tryz.f152 AP.f138=some (AP.f138.body,AP.f138.res):=by kernel_rfl
theorem Tn:Fits (152,138):=xx Tryz.func152 Q0 (by kernel_rfl) (by kernel_rfl)
theorem We:xD L Tryz.f153 AP.f38=some (AP.f38.body,AP.f38.res):=by kernel_rfl
theorem Xt:Fits (153,38):=xx Tryz.func153 We (by kernel_rfl) (by kernel_rfl)
theorem Wf:xD L Tryz.f154 AP.f39=some (AP.f39.body,AP.f39.res):=by kernel_rfl
theorem Xu:Fits (154,39):=xx Tryz.func154 Wf (by kernel_rfl) (by kernel_rfl)
theorem Wg:xD L Tryz.f155 AP.f40=some (AP.f40.body,AP.f40.res):=by kernel_rfl
theorem Xv:Fits (155,40):=xx Tryz.func155 Wg (by kernel_rfl) (by kernel_rfl)
theorem Wh:xD L Tryz.f156 AP.f41=some (AP.f41.body,AP.f41.res):=by kernel_rfl
theorem Xw:Fits (156,41):=xx Tryz.func156 Wh (by kernel_rfl) (by kernel_rfl)
theorem Wi:xD L Tryz.f157 AP.f42=some (AP.f42.body,AP.f42.res):=by kernel_rfl
theorem Xx:Fits (157,42):=xx Tryz.func157 Wi (by kernel_rfl) (by kernel_rfl)
theorem Wj:xD L Tryz.f158 AP.f43=some (AP.f43.body,AP.f43.res):=by kernel_rfl
theorem Xy:Fits (158,43):=xx Tryz.func158 Wj (by kernel_rfl) (by kernel_rfl)
theorem Wk:xD L Tryz.f159 AP.f44=some (AP.f44.body,AP.f44.res):=by kernel_rfl
theorem Xz:Fits (159,44):=xx Tryz.func159 Wk (by kernel_rfl) (by kernel_rfl)
theorem Wl:xD L Tryz.f160 AP.f45=some (AP.f45.body,AP.f45.res):=by kernel_rfl
theorem XA:Fits (160,45):=xx Tryz.func160 Wl (by kernel_rfl) (by kernel_rfl)
theorem Q1:xD L Tryz.f161 AP.f139=some (AP.f139.body,AP.f139.res):=by kernel_rfl
theorem To:Fits (161,139):=xx Tryz.func161 Q1 (by kernel_rfl) (by kernel_rfl)
theorem Q2:xD L Tryz.f162 AP.f140=some (AP.f140.body,AP.f140.res):=by kernel_rfl
theorem Tp:Fits (162,140):=xx Tryz.func162 Q2 (by kernel_rfl) (by kernel_rfl)
theorem Q3:xD L Tryz.f163 AP.f141=some (AP.f141.body,AP.f141.res):=by kernel_rfl
theorem Tq:Fits (163,141):=xx Tryz.func163 Q3 (by kernel_rfl) (by kernel_rfl)
theorem Ww:xD L Tryz.f165 AP.f58=some (AP.f58.body,AP.f58.res):=by kernel_rfl
theorem XK:Fits (165,58):=xx Tryz.func165 Ww (by kernel_rfl) (by kernel_rfl)
theorem Wx:xD L Tryz.f166 AP.f59=some (AP.f59.body,AP.f59.res):=by kernel_rfl
theorem XL:Fits (166,59):=xx Tryz.func166 Wx (by kernel_rfl) (by kernel_rfl)
theorem Wy:xD L Tryz.f167 AP.f60=some (AP.f60.body,AP.f60.res):=by kernel_rfl
theorem XM:Fits (167,60):=xx Tryz.func167 Wy (by kernel_rfl) (by kernel_rfl)
theorem Wz:xD L Tryz.f168 AP.f61=some (AP.f61.body,AP.f61.res):=by kernel_rfl
theorem XN:Fits (168,61):=xx Tryz.func168 Wz (by kernel_rfl) (by kernel_rfl)
theorem WA:xD L Tryz.f169 AP.f62=some (AP.f62.body,AP.f62.res):=by kernel_rfl
theorem XO:Fits (169,62):=xx Tryz.func169 WA (by kernel_rfl) (by kernel_rfl)
theorem WC:xD L Tryz.f170 AP.f63=some (AP.f63.body,AP.f63.res):=by kernel_rfl
theorem XP:Fits (170,63):=xx Tryz.func170 WC (by kernel_rfl) (by kernel_rfl)
theorem WD:xD L Tryz.f171 AP.f64=some (AP.f64.body,AP.f64.res):=by kernel_rfl
theorem XQ:Fits (171,64):=xx Tryz.func171 WD (by kernel_rfl) (by kernel_rfl)
theorem WG:xD L Tryz.f172 AP.f65=some (AP.f65.body,AP.f65.res):=by kernel_rfl
theorem XR:Fits (172,65):=xx Tryz.func172 WG (by kernel_rfl) (by kernel_rfl)
theorem WH:xD L Tryz.f173 AP.f66=some (AP.f66.body,AP.f66.res):=by kernel_rfl
theorem XS:Fits (173,66):=xx Tryz.func173 WH (by kernel_rfl) (by kernel_rfl)
theorem WL:xD L Tryz.f175 AP.f72=some (AP.f72.body,AP.f72.res):=by kernel_rfl
theorem XV:Fits (175,72):=xx Tryz.func175 WL (by kernel_rfl) (by kernel_rfl)
theorem WN:xD L Tryz.f176 AP.f73=some (AP.f73.body,AP.f73.res):=by kernel_rfl
theorem XW:Fits (176,73):=xx Tryz.func176 WN (by kernel_rfl) (by kernel_rfl)
theorem WO:xD L Tryz.f177 AP.f74=some (AP.f74.body,AP.f74.res):=by kernel_rfl
theorem XX:Fits (177,74):=xx Tryz.func177 WO (by kernel_rfl) (by kernel_rfl)
theorem WQ:xD L Tryz.f178 AP.f75=some (AP.f75.body,AP.f75.res):=by kernel_rfl
theorem XY:Fits (178,75):=xx Tryz.func178 WQ (by kernel_rfl) (by kernel_rfl)
theorem WR:xD L Tryz.f179 AP.f76=some (AP.f76.body,AP.f76.res):=by kernel_rfl
theorem XZ:Fits (179,76):=xx Tryz.func179 WR (by kernel_rfl) (by kernel_rfl)
theorem WT:xD L Tryz.f180 AP.f77=some (AP.f77.body,AP.f77.res):=by kernel_rfl
theorem X0:Fits (180,77):=xx Tryz.func180 WT (by kernel_rfl) (by kernel_rfl)
theorem WU:xD L Tryz.f181 AP.f78=some (AP.f78.body,AP.f78.res):=by kernel_rfl
theorem X1:Fits (181,78):=xx Tryz.func181 WU (by kernel_rfl) (by kernel_rfl)
theorem WV:xD L Tryz.f182 AP.f79=some (AP.f79.body,AP.f79.res):=by kernel_rfl
theorem X2:Fits (182,79):=xx Tryz.func182 WV (by kernel_rfl) (by kernel_rfl)
theorem WY:xD L Tryz.f183 AP.f80=some (AP.f80.body,AP.f80.res):=by kernel_rfl
theorem X3:Fits (183,80):=xx Tryz.func183 WY (by kernel_rfl) (by kernel_rfl)
theorem WZ:xD L Tryz.f184 AP.f81=some (AP.f81.body,AP.f81.res):=by kernel_rfl
theorem X4:Fits (184,81):=xx Tryz.func184 WZ (by kernel_rfl) (by kernel_rfl)
theorem W0:xD L Tryz.f186 AP.f82=some (AP.f82.body,AP.f82.res):=by kernel_rfl
theorem X5:Fits (186,82):=xx Tryz.func186 W0 (by kernel_rfl) (by kernel_rfl)
theorem Tl:Fits (150,136):=⟨Tryz.f150,_,Tryz.func150,rfl,by kernel_rfl,fun af h=>by rw[show AP.A 136=none by kernel_rfl]at h;cases h⟩
theorem Tm:Fits (151,137):=⟨Tryz.f151,_,Tryz.func151,rfl,by kernel_rfl,fun af h=>by rw[show AP.A 137=none by kernel_rfl]at h;cases h⟩
theorem Ts:Fits (174,143):=⟨Tryz.f174,_,Tryz.func174,rfl,by kernel_rfl,fun af h=>by rw[show AP.A 143=none by kernel_rfl]at h;cases h⟩
theorem YO:∀p∈Zp,Fits p:=xw Uf (xw Uj (xw T7 (xw Uk (xw Un (xw Uh (xw Y0 (xw Uo (xw Ui (xw TZ (xw T9 (xw TD (xw SL (xw Uq (xw Yb (xw Up (xw T8 (xw Uc (xw Ud (xw Tw (xw UD (xw UE (xw Ue (xw TC (xw Tv (xw Ua (xw Ub (xw TI (xw SY (xw TL (xw TW (xw TX (xw UF (xw Ug (xw UC (xw TY (xw TG (xw SG (xw TE (xw TB (xw TM (xw X8 (xw TK (xw X9 (xw Tt (xw Tu (xw SK (xw X6 (xw Ur (xw Ut (xw SV (xw TN (xw Uu (xw Uv (xw Uw (xw Ux (xw Uy (xw Uz (xw Ya (xw UA (xw UB (xw TQ (xw UH (xw UI (xw UJ (xw UK (xw SO (xw TH (xw TF (xw YZ (xw TP (xw TR (xw SH (xw SI (xw SJ (xw SU (xw Tx (xw Tz (xw TA (xw X7 (xw S8 (xw SX (xw SZ (xw UG (xw SM (xw TU (xw TJ (xw UL (xw UM (xw UN (xw Xk (xw Xl (xw Xm (xw Xn (xw Xo (xw Xp (xw Xq (xw Xr (xw TT (xw SP (xw S9 (xw SQ (xw SR (xw TO (xw SW (xw SN (xw UO (xw UP (xw UQ (xw UR (xw XB (xw XC (xw XD (xw XE (xw XF (xw XG (xw Xs (xw XH (xw XI (xw XJ (xw TV (xw Ta (xw Tb (xw Tc (xw Td (xw Te (xw Tf (xw Tg (xw S7 (xw YY (xw TS (xw US (xw XT (xw XU (xw Th (xw Ti (xw Tj (xw Tk (xw Xg (xw Xh (xw Xi (xw Xj (xw Tn (xw Xt (xw Xu (xw Xv (xw Xw (xw Xx (xw Xy (xw Xz (xw XA (xw To (xw Tp (xw Tq (xw XK (xw XL (xw XM (xw XN (xw XO (xw XP (xw XQ (xw XR (xw XS (xw XV (xw XW (xw XX (xw XY (xw XZ (xw X0 (xw X1 (xw X2 (xw X3 (xw X4 (xw X5 (xw Tl (xw Tm (xw Ts (Mc)))))))))))))))))))))))))))))))))))))))))))))))))))))))))))))))))))))))))))))))))))))))))))))))))))))))))))))))))))))))))))))))))))))))))))))))))))))))))))))))))))))))))))))))))
theorem YB:∀t k,L.ta t=some k→tY L.P t∧∀T,L.mt T=k→T=t:=fun _ k h=>by cases (show(none:Option Nat)=some k from h)
theorem Xe:∀t,L.sq t=true→L.P.stoodInHeld t=false:=fun _ h=>by cases h
theorem lk:fk L AP.A:=⟨by kernel_rfl,fun fid f h=>YO (fid,f) (Gx h),(fun _ _ _ _ h=>by cases h),YB,Xe⟩
end Ab.Ln
