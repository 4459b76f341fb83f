/- Part K1. -/
import Derived.Test.YtcapkjggnnakfaaGreatDoorProg
import Derived.KernelRfl
import Derived.Test.YtcapkjggnnakfaaGreatDoorAP
set_option maxRecDepth 100000
namespace Ab.Ln
open Go Go.Proofs Ab
def vM (L:Lk) (fn:Func) (af:fi):Option (aH×List RV):=fn.body.bind fun c=>(comp L fn.ntmps c af.body).bind fun x=>(cU L fn.results.toList).bind fun r=>some (x,r)
def Fits (p : Nat × Nat) : Prop := ∃ fn c, L.P.funcs[p.1]? = some fn ∧ fn.body = some c ∧ (fn.name == "runtime.NumGoroutine") = false ∧
    ∀af,AP.A p.2=some af→(∃x0,comp L fn.ntmps c x0=some af.body)∧cU L fn.results.toList=some af.res
theorem vJ {k a : Nat} {fn : Func} {af : fi} (h1 : L.P.funcs[k]? = some fn) (h2 : vM L fn af = some (af.body, af.res)) (h3 : (fn.name == "runtime.NumGoroutine") = false) (h4 : AP.A a = some af) : Fits (k, a) := by
 unfold vM at h2
 simp only[uR]at h2
 obtain⟨c,g1,x,g2,r,g3,g4⟩:=h2
 obtain⟨rfl,rfl⟩:=uU (uS g4)
 refine⟨fn,c,h1,g1,h3,fun af2 g5=> ?_⟩
 rw[h4]at g5
 obtain rfl:=uS g5
 exact⟨⟨_,g2⟩,g3⟩
theorem Ed:∀{l:List (Nat×Nat)} {k f:Nat},FZ l k=some f→(k,f)∈l
 |[],_,_,h=>by cases h
 | (i, g) :: r, k, f, h => by
   unfold FZ at h
   split at h
   · rename_i e;subst e;obtain rfl:=uS h;exact List.mem_cons_self
   · exact List.mem_cons_of_mem _ (Ed h)
theorem Jn:∀p∈([]:List (Nat×Nat)),Fits p:=fun p h=>by cases h
theorem vI {p:Nat×Nat} {l:List (Nat×Nat)} (h1:Fits p) (h2:∀q∈l,Fits q):∀q∈p::l,Fits q:=fun q h=>by
 rcases vC.1 h with rfl|h
 · exact h1
 · exact h2 q h
theorem Oq:vM L Tryz.f8 AP.f222=some (AP.f222.body,AP.f222.res):=by kernel_rfl
theorem QS:Fits (8,222):=vJ Tryz.func8 Oq (by kernel_rfl) (by kernel_rfl)
theorem Ot:vM L Tryz.f14 AP.f227=some (AP.f227.body,AP.f227.res):=by kernel_rfl
theorem QT:Fits (14,227):=vJ Tryz.func14 Ot (by kernel_rfl) (by kernel_rfl)
theorem Vn:vM L Tryz.f19 AP.f9=some (AP.f9.body,AP.f9.res):=by kernel_rfl
theorem Vq:Fits (19,9):=vJ Tryz.func19 Vn (by kernel_rfl) (by kernel_rfl)
theorem Ou:vM L Tryz.f20 AP.f232=some (AP.f232.body,AP.f232.res):=by kernel_rfl
theorem QU:Fits (20,232):=vJ Tryz.func20 Ou (by kernel_rfl) (by kernel_rfl)
theorem Ov:vM L Tryz.f21 AP.f233=some (AP.f233.body,AP.f233.res):=by kernel_rfl
theorem QV:Fits (21,233):=vJ Tryz.func21 Ov (by kernel_rfl) (by kernel_rfl)
theorem Ow:vM L Tryz.f22 AP.f234=some (AP.f234.body,AP.f234.res):=by kernel_rfl
theorem QW:Fits (22,234):=vJ Tryz.func22 Ow (by kernel_rfl) (by kernel_rfl)
theorem Ox:vM L Tryz.f23 AP.f235=some (AP.f235.body,AP.f235.res):=by kernel_rfl
theorem QX:Fits (23,235):=vJ Tryz.func23 Ox (by kernel_rfl) (by kernel_rfl)
theorem M5:vM L Tryz.f26 AP.f101=some (AP.f101.body,AP.f101.res):=by kernel_rfl
theorem Pt:Fits (26,101):=vJ Tryz.func26 M5 (by kernel_rfl) (by kernel_rfl)
theorem Ob:vM L Tryz.f27 AP.f196=some (AP.f196.body,AP.f196.res):=by kernel_rfl
theorem QE:Fits (27,196):=vJ Tryz.func27 Ob (by kernel_rfl) (by kernel_rfl)
theorem Oy:vM L Tryz.f28 AP.f238=some (AP.f238.body,AP.f238.res):=by kernel_rfl
theorem QY:Fits (28,238):=vJ Tryz.func28 Oy (by kernel_rfl) (by kernel_rfl)
theorem Oz:vM L Tryz.f29 AP.f239=some (AP.f239.body,AP.f239.res):=by kernel_rfl
theorem QZ:Fits (29,239):=vJ Tryz.func29 Oz (by kernel_rfl) (by kernel_rfl)
theorem OA:vM L Tryz.f30 AP.f240=some (AP.f240.body,AP.f240.res):=by kernel_rfl
theorem Q0:Fits (30,240):=vJ Tryz.func30 OA (by kernel_rfl) (by kernel_rfl)
theorem OB:vM L Tryz.f31 AP.f241=some (AP.f241.body,AP.f241.res):=by kernel_rfl
theorem Q1:Fits (31,241):=vJ Tryz.func31 OB (by kernel_rfl) (by kernel_rfl)
theorem Oh:vM L Tryz.f32 AP.f202=some (AP.f202.body,AP.f202.res):=by kernel_rfl
theorem QK:Fits (32,202):=vJ Tryz.func32 Oh (by kernel_rfl) (by kernel_rfl)
theorem OC:vM L Tryz.f33 AP.f242=some (AP.f242.body,AP.f242.res):=by kernel_rfl
theorem Q2:Fits (33,242):=vJ Tryz.func33 OC (by kernel_rfl) (by kernel_rfl)
theorem Oj:vM L Tryz.f34 AP.f205=some (AP.f205.body,AP.f205.res):=by kernel_rfl
theorem QM:Fits (34,205):=vJ Tryz.func34 Oj (by kernel_rfl) (by kernel_rfl)
theorem OD:vM L Tryz.f38 AP.f246=some (AP.f246.body,AP.f246.res):=by kernel_rfl
theorem Q3:Fits (38,246):=vJ Tryz.func38 OD (by kernel_rfl) (by kernel_rfl)
theorem Oc:vM L Tryz.f39 AP.f197=some (AP.f197.body,AP.f197.res):=by kernel_rfl
theorem QF:Fits (39,197):=vJ Tryz.func39 Oc (by kernel_rfl) (by kernel_rfl)
theorem Oe:vM L Tryz.f40 AP.f199=some (AP.f199.body,AP.f199.res):=by kernel_rfl
theorem QH:Fits (40,199):=vJ Tryz.func40 Oe (by kernel_rfl) (by kernel_rfl)
theorem Om:vM L Tryz.f41 AP.f208=some (AP.f208.body,AP.f208.res):=by kernel_rfl
theorem QP:Fits (41,208):=vJ Tryz.func41 Om (by kernel_rfl) (by kernel_rfl)
theorem Na:vM L Tryz.f43 AP.f106=some (AP.f106.body,AP.f106.res):=by kernel_rfl
theorem Py:Fits (43,106):=vJ Tryz.func43 Na (by kernel_rfl) (by kernel_rfl)
theorem OE:vM L Tryz.f44 AP.f247=some (AP.f247.body,AP.f247.res):=by kernel_rfl
theorem Q4:Fits (44,247):=vJ Tryz.func44 OE (by kernel_rfl) (by kernel_rfl)
theorem TS:vM L Tryz.f45 AP.f98=some (AP.f98.body,AP.f98.res):=by kernel_rfl
theorem U2:Fits (45,98):=vJ Tryz.func45 TS (by kernel_rfl) (by kernel_rfl)
theorem Oi:vM L Tryz.f49 AP.f204=some (AP.f204.body,AP.f204.res):=by kernel_rfl
theorem QL:Fits (49,204):=vJ Tryz.func49 Oi (by kernel_rfl) (by kernel_rfl)
theorem Ni:vM L Tryz.f55 AP.f115=some (AP.f115.body,AP.f115.res):=by kernel_rfl
theorem PG:Fits (55,115):=vJ Tryz.func55 Ni (by kernel_rfl) (by kernel_rfl)
theorem NM:vM L Tryz.f57 AP.f161=some (AP.f161.body,AP.f161.res):=by kernel_rfl
theorem Qg:Fits (57,161):=vJ Tryz.func57 NM (by kernel_rfl) (by kernel_rfl)
theorem N0:vM L Tryz.f65 AP.f182=some (AP.f182.body,AP.f182.res):=by kernel_rfl
theorem Qt:Fits (65,182):=vJ Tryz.func65 N0 (by kernel_rfl) (by kernel_rfl)
theorem Ol:vM L Tryz.f66 AP.f207=some (AP.f207.body,AP.f207.res):=by kernel_rfl
theorem QO:Fits (66,207):=vJ Tryz.func66 Ol (by kernel_rfl) (by kernel_rfl)
theorem Nm:vM L Tryz.f67 AP.f120=some (AP.f120.body,AP.f120.res):=by kernel_rfl
theorem PK:Fits (67,120):=vJ Tryz.func67 Nm (by kernel_rfl) (by kernel_rfl)
theorem M9:vM L Tryz.f68 AP.f105=some (AP.f105.body,AP.f105.res):=by kernel_rfl
theorem Px:Fits (68,105):=vJ Tryz.func68 M9 (by kernel_rfl) (by kernel_rfl)
theorem TM:vM L Tryz.f69 AP.f83=some (AP.f83.body,AP.f83.res):=by kernel_rfl
theorem UU:Fits (69,83):=vJ Tryz.func69 TM (by kernel_rfl) (by kernel_rfl)
theorem OG:vM L Tryz.f70 AP.f261=some (AP.f261.body,AP.f261.res):=by kernel_rfl
theorem Q5:Fits (70,261):=vJ Tryz.func70 OG (by kernel_rfl) (by kernel_rfl)
theorem OH:vM L Tryz.f71 AP.f262=some (AP.f262.body,AP.f262.res):=by kernel_rfl
theorem Q6:Fits (71,262):=vJ Tryz.func71 OH (by kernel_rfl) (by kernel_rfl)
theorem Nj:vM L Tryz.f72 AP.f117=some (AP.f117.body,AP.f117.res):=by kernel_rfl
theorem PH:Fits (72,117):=vJ Tryz.func72 Nj (by kernel_rfl) (by kernel_rfl)
theorem N2:vM L Tryz.f73 AP.f184=some (AP.f184.body,AP.f184.res):=by kernel_rfl
theorem Qv:Fits (73,184):=vJ Tryz.func73 N2 (by kernel_rfl) (by kernel_rfl)
theorem OI:vM L Tryz.f74 AP.f263=some (AP.f263.body,AP.f263.res):=by kernel_rfl
theorem Q7:Fits (74,263):=vJ Tryz.func74 OI (by kernel_rfl) (by kernel_rfl)
theorem OJ:vM L Tryz.f75 AP.f264=some (AP.f264.body,AP.f264.res):=by kernel_rfl
theorem Q8:Fits (75,264):=vJ Tryz.func75 OJ (by kernel_rfl) (by kernel_rfl)
theorem OK:vM L Tryz.f76 AP.f265=some (AP.f265.body,AP.f265.res):=by kernel_rfl
theorem Q9:Fits (76,265):=vJ Tryz.func76 OK (by kernel_rfl) (by kernel_rfl)
theorem OL:vM L Tryz.f77 AP.f266=some (AP.f266.body,AP.f266.res):=by kernel_rfl
theorem Ra:Fits (77,266):=vJ Tryz.func77 OL (by kernel_rfl) (by kernel_rfl)
theorem OM:vM L Tryz.f78 AP.f267=some (AP.f267.body,AP.f267.res):=by kernel_rfl
theorem Rb:Fits (78,267):=vJ Tryz.func78 OM (by kernel_rfl) (by kernel_rfl)
theorem OP:vM L Tryz.f79 AP.f268=some (AP.f268.body,AP.f268.res):=by kernel_rfl
theorem Rc:Fits (79,268):=vJ Tryz.func79 OP (by kernel_rfl) (by kernel_rfl)
theorem TR:vM L Tryz.f80 AP.f96=some (AP.f96.body,AP.f96.res):=by kernel_rfl
theorem U1:Fits (80,96):=vJ Tryz.func80 TR (by kernel_rfl) (by kernel_rfl)
theorem OQ:vM L Tryz.f81 AP.f269=some (AP.f269.body,AP.f269.res):=by kernel_rfl
theorem Re:Fits (81,269):=vJ Tryz.func81 OQ (by kernel_rfl) (by kernel_rfl)
theorem OR:vM L Tryz.f82 AP.f270=some (AP.f270.body,AP.f270.res):=by kernel_rfl
theorem Rf:Fits (82,270):=vJ Tryz.func82 OR (by kernel_rfl) (by kernel_rfl)
theorem N5:vM L Tryz.f83 AP.f187=some (AP.f187.body,AP.f187.res):=by kernel_rfl
theorem Qy:Fits (83,187):=vJ Tryz.func83 N5 (by kernel_rfl) (by kernel_rfl)
theorem OS:vM L Tryz.f84 AP.f271=some (AP.f271.body,AP.f271.res):=by kernel_rfl
theorem Rg:Fits (84,271):=vJ Tryz.func84 OS (by kernel_rfl) (by kernel_rfl)
theorem NN:vM L Tryz.f85 AP.f162=some (AP.f162.body,AP.f162.res):=by kernel_rfl
theorem Qh:Fits (85,162):=vJ Tryz.func85 NN (by kernel_rfl) (by kernel_rfl)
theorem Ok:vM L Tryz.f86 AP.f206=some (AP.f206.body,AP.f206.res):=by kernel_rfl
theorem QN:Fits (86,206):=vJ Tryz.func86 Ok (by kernel_rfl) (by kernel_rfl)
theorem OT:vM L Tryz.f87 AP.f272=some (AP.f272.body,AP.f272.res):=by kernel_rfl
theorem Rh:Fits (87,272):=vJ Tryz.func87 OT (by kernel_rfl) (by kernel_rfl)
theorem OU:vM L Tryz.f88 AP.f273=some (AP.f273.body,AP.f273.res):=by kernel_rfl
theorem Ri:Fits (88,273):=vJ Tryz.func88 OU (by kernel_rfl) (by kernel_rfl)
theorem NR:vM L Tryz.f89 AP.f168=some (AP.f168.body,AP.f168.res):=by kernel_rfl
theorem Ql:Fits (89,168):=vJ Tryz.func89 NR (by kernel_rfl) (by kernel_rfl)
theorem OW:vM L Tryz.f90 AP.f274=some (AP.f274.body,AP.f274.res):=by kernel_rfl
theorem Rj:Fits (90,274):=vJ Tryz.func90 OW (by kernel_rfl) (by kernel_rfl)
theorem Og:vM L Tryz.f91 AP.f201=some (AP.f201.body,AP.f201.res):=by kernel_rfl
theorem QJ:Fits (91,201):=vJ Tryz.func91 Og (by kernel_rfl) (by kernel_rfl)
theorem OX:vM L Tryz.f92 AP.f275=some (AP.f275.body,AP.f275.res):=by kernel_rfl
theorem Rk:Fits (92,275):=vJ Tryz.func92 OX (by kernel_rfl) (by kernel_rfl)
theorem Nd:vM L Tryz.f93 AP.f111=some (AP.f111.body,AP.f111.res):=by kernel_rfl
theorem PB:Fits (93,111):=vJ Tryz.func93 Nd (by kernel_rfl) (by kernel_rfl)
theorem NW:vM L Tryz.f94 AP.f177=some (AP.f177.body,AP.f177.res):=by kernel_rfl
theorem Qp:Fits (94,177):=vJ Tryz.func94 NW (by kernel_rfl) (by kernel_rfl)
theorem NZ:vM L Tryz.f95 AP.f181=some (AP.f181.body,AP.f181.res):=by kernel_rfl
theorem Qs:Fits (95,181):=vJ Tryz.func95 NZ (by kernel_rfl) (by kernel_rfl)
theorem OY:vM L Tryz.f96 AP.f276=some (AP.f276.body,AP.f276.res):=by kernel_rfl
theorem Rl:Fits (96,276):=vJ Tryz.func96 OY (by kernel_rfl) (by kernel_rfl)
theorem OZ:vM L Tryz.f97 AP.f277=some (AP.f277.body,AP.f277.res):=by kernel_rfl
theorem Rm:Fits (97,277):=vJ Tryz.func97 OZ (by kernel_rfl) (by kernel_rfl)
theorem O0:vM L Tryz.f98 AP.f278=some (AP.f278.body,AP.f278.res):=by kernel_rfl
theorem Rn:Fits (98,278):=vJ Tryz.func98 O0 (by kernel_rfl) (by kernel_rfl)
theorem NP:vM L Tryz.f99 AP.f165=some (AP.f165.body,AP.f165.res):=by kernel_rfl
theorem Qj:Fits (99,165):=vJ Tryz.func99 NP (by kernel_rfl) (by kernel_rfl)
theorem On:vM L Tryz.f100 AP.f212=some (AP.f212.body,AP.f212.res):=by kernel_rfl
theorem QQ:Fits (100,212):=vJ Tryz.func100 On (by kernel_rfl) (by kernel_rfl)
theorem Oo:vM L Tryz.f101 AP.f213=some (AP.f213.body,AP.f213.res):=by kernel_rfl
theorem QR:Fits (101,213):=vJ Tryz.func101 Oo (by kernel_rfl) (by kernel_rfl)
theorem NK:vM L Tryz.f102 AP.f157=some (AP.f157.body,AP.f157.res):=by kernel_rfl
theorem Qe:Fits (102,157):=vJ Tryz.func102 NK (by kernel_rfl) (by kernel_rfl)
theorem O1:vM L Tryz.f103 AP.f279=some (AP.f279.body,AP.f279.res):=by kernel_rfl
theorem Ro:Fits (103,279):=vJ Tryz.func103 O1 (by kernel_rfl) (by kernel_rfl)
theorem Od:vM L Tryz.f109 AP.f198=some (AP.f198.body,AP.f198.res):=by kernel_rfl
theorem QG:Fits (109,198):=vJ Tryz.func109 Od (by kernel_rfl) (by kernel_rfl)
theorem Of:vM L Tryz.f111 AP.f200=some (AP.f200.body,AP.f200.res):=by kernel_rfl
theorem QI:Fits (111,200):=vJ Tryz.func111 Of (by kernel_rfl) (by kernel_rfl)
theorem NI:vM L Tryz.f112 AP.f151=some (AP.f151.body,AP.f151.res):=by kernel_rfl
theorem Qc:Fits (112,151):=vJ Tryz.func112 NI (by kernel_rfl) (by kernel_rfl)
theorem NJ:vM L Tryz.f113 AP.f152=some (AP.f152.body,AP.f152.res):=by kernel_rfl
theorem Qd:Fits (113,152):=vJ Tryz.func113 NJ (by kernel_rfl) (by kernel_rfl)
theorem NT:vM L Tryz.f114 AP.f172=some (AP.f172.body,AP.f172.res):=by kernel_rfl
theorem Qn:Fits (114,172):=vJ Tryz.func114 NT (by kernel_rfl) (by kernel_rfl)
theorem NU:vM L Tryz.f115 AP.f173=some (AP.f173.body,AP.f173.res):=by kernel_rfl
theorem Qo:Fits (115,173):=vJ Tryz.func115 NU (by kernel_rfl) (by kernel_rfl)
theorem TP:vM L Tryz.f118 AP.f92=some (AP.f92.body,AP.f92.res):=by kernel_rfl
theorem UY:Fits (118,92):=vJ Tryz.func118 TP (by kernel_rfl) (by kernel_rfl)
theorem M8:vM L Tryz.f120 AP.f104=some (AP.f104.body,AP.f104.res):=by kernel_rfl
theorem Pw:Fits (120,104):=vJ Tryz.func120 M8 (by kernel_rfl) (by kernel_rfl)
theorem Ng:vM L Tryz.f121 AP.f113=some (AP.f113.body,AP.f113.res):=by kernel_rfl
theorem PD:Fits (121,113):=vJ Tryz.func121 Ng (by kernel_rfl) (by kernel_rfl)
theorem Oa:vM L Tryz.f122 AP.f192=some (AP.f192.body,AP.f192.res):=by kernel_rfl
theorem QD:Fits (122,192):=vJ Tryz.func122 Oa (by kernel_rfl) (by kernel_rfl)
theorem M7:vM L Tryz.f128 AP.f103=some (AP.f103.body,AP.f103.res):=by kernel_rfl
theorem Pv:Fits (128,103):=vJ Tryz.func128 M7 (by kernel_rfl) (by kernel_rfl)
theorem NL:vM L Tryz.f129 AP.f160=some (AP.f160.body,AP.f160.res):=by kernel_rfl
theorem Qf:Fits (129,160):=vJ Tryz.func129 NL (by kernel_rfl) (by kernel_rfl)
theorem TN:vM L Tryz.f141 AP.f84=some (AP.f84.body,AP.f84.res):=by kernel_rfl
theorem UW:Fits (141,84):=vJ Tryz.func141 TN (by kernel_rfl) (by kernel_rfl)
theorem Nq:vM L Tryz.f142 AP.f123=some (AP.f123.body,AP.f123.res):=by kernel_rfl
theorem PN:Fits (142,123):=vJ Tryz.func142 Nq (by kernel_rfl) (by kernel_rfl)
theorem Nl:vM L Tryz.f143 AP.f119=some (AP.f119.body,AP.f119.res):=by kernel_rfl
theorem PJ:Fits (143,119):=vJ Tryz.func143 Nl (by kernel_rfl) (by kernel_rfl)
theorem Nn:vM L Tryz.f144 AP.f121=some (AP.f121.body,AP.f121.res):=by kernel_rfl
theorem PL:Fits (144,121):=vJ Tryz.func144 Nn (by kernel_rfl) (by kernel_rfl)
theorem O3:vM L Tryz.f145 AP.f299=some (AP.f299.body,AP.f299.res):=by kernel_rfl
theorem Rp:Fits (145,299):=vJ Tryz.func145 O3 (by kernel_rfl) (by kernel_rfl)
theorem Nb:vM L Tryz.f146 AP.f107=some (AP.f107.body,AP.f107.res):=by kernel_rfl
theorem Pz:Fits (146,107):=vJ Tryz.func146 Nb (by kernel_rfl) (by kernel_rfl)
theorem N9:vM L Tryz.f147 AP.f191=some (AP.f191.body,AP.f191.res):=by kernel_rfl
theorem QC:Fits (147,191):=vJ Tryz.func147 N9 (by kernel_rfl) (by kernel_rfl)
theorem N1:vM L Tryz.f148 AP.f183=some (AP.f183.body,AP.f183.res):=by kernel_rfl
theorem Qu:Fits (148,183):=vJ Tryz.func148 N1 (by kernel_rfl) (by kernel_rfl)
theorem TO:vM L Tryz.f149 AP.f91=some (AP.f91.body,AP.f91.res):=by kernel_rfl
theorem UX:Fits (149,91):=vJ Tryz.func149 TO (by kernel_rfl) (by kernel_rfl)
theorem NY:vM L Tryz.f150 AP.f179=some (AP.f179.body,AP.f179.res):=by kernel_rfl
theorem Qr:Fits (150,179):=vJ Tryz.func150 NY (by kernel_rfl) (by kernel_rfl)
theorem TQ:vM L Tryz.f151 AP.f93=some (AP.f93.body,AP.f93.res):=by kernel_rfl
theorem UZ:Fits (151,93):=vJ Tryz.func151 TQ (by kernel_rfl) (by kernel_rfl)
theorem O5:vM L Tryz.f152 AP.f300=some (AP.f300.body,AP.f300.res):=by kernel_rfl
theorem Rq:Fits (152,300):=vJ Tryz.func152 O5 (by kernel_rfl) (by kernel_rfl)
theorem O6:vM L Tryz.f153 AP.f301=some (AP.f301.body,AP.f301.res):=by kernel_rfl
theorem Rr:Fits (153,301):=vJ Tryz.func153 O6 (by kernel_rfl) (by kernel_rfl)
theorem O8:vM L Tryz.f154 AP.f302=some (AP.f302.body,AP.f302.res):=by kernel_rfl
theorem Rt:Fits (154,302):=vJ Tryz.func154 O8 (by kernel_rfl) (by kernel_rfl)
theorem O9:vM L Tryz.f155 AP.f303=some (AP.f303.body,AP.f303.res):=by kernel_rfl
theorem Ru:Fits (155,303):=vJ Tryz.func155 O9 (by kernel_rfl) (by kernel_rfl)
theorem NQ:vM L Tryz.f156 AP.f167=some (AP.f167.body,AP.f167.res):=by kernel_rfl
theorem Qk:Fits (156,167):=vJ Tryz.func156 NQ (by kernel_rfl) (by kernel_rfl)
theorem NO:vM L Tryz.f157 AP.f164=some (AP.f164.body,AP.f164.res):=by kernel_rfl
theorem Qi:Fits (157,164):=vJ Tryz.func157 NO (by kernel_rfl) (by kernel_rfl)
theorem Nf:vM L Tryz.f160 AP.f112=some (AP.f112.body,AP.f112.res):=by kernel_rfl
theorem PC:Fits (160,112):=vJ Tryz.func160 Nf (by kernel_rfl) (by kernel_rfl)
theorem Np:vM L Tryz.f161 AP.f122=some (AP.f122.body,AP.f122.res):=by kernel_rfl
theorem PM:Fits (161,122):=vJ Tryz.func161 Np (by kernel_rfl) (by kernel_rfl)
theorem M6:vM L Tryz.f162 AP.f102=some (AP.f102.body,AP.f102.res):=by kernel_rfl
theorem Pu:Fits (162,102):=vJ Tryz.func162 M6 (by kernel_rfl) (by kernel_rfl)
theorem NS:vM L Tryz.f164 AP.f169=some (AP.f169.body,AP.f169.res):=by kernel_rfl
theorem Qm:Fits (164,169):=vJ Tryz.func164 NS (by kernel_rfl) (by kernel_rfl)
theorem Nr:vM L Tryz.f167 AP.f124=some (AP.f124.body,AP.f124.res):=by kernel_rfl
theorem PO:Fits (167,124):=vJ Tryz.func167 Nr (by kernel_rfl) (by kernel_rfl)
theorem Nh:vM L Tryz.f168 AP.f114=some (AP.f114.body,AP.f114.res):=by kernel_rfl
theorem PF:Fits (168,114):=vJ Tryz.func168 Nh (by kernel_rfl) (by kernel_rfl)
theorem N4:vM L Tryz.f169 AP.f186=some (AP.f186.body,AP.f186.res):=by kernel_rfl
theorem Qx:Fits (169,186):=vJ Tryz.func169 N4 (by kernel_rfl) (by kernel_rfl)
theorem N6:vM L Tryz.f170 AP.f188=some (AP.f188.body,AP.f188.res):=by kernel_rfl
theorem Qz:Fits (170,188):=vJ Tryz.func170 N6 (by kernel_rfl) (by kernel_rfl)
theorem NX:vM L Tryz.f171 AP.f178=some (AP.f178.body,AP.f178.res):=by kernel_rfl
theorem Qq:Fits (171,178):=vJ Tryz.func171 NX (by kernel_rfl) (by kernel_rfl)
theorem Pa:vM L Tryz.f172 AP.f306=some (AP.f306.body,AP.f306.res):=by kernel_rfl
theorem Rv:Fits (172,306):=vJ Tryz.func172 Pa (by kernel_rfl) (by kernel_rfl)
theorem Pb:vM L Tryz.f173 AP.f307=some (AP.f307.body,AP.f307.res):=by kernel_rfl
theorem Rw:Fits (173,307):=vJ Tryz.func173 Pb (by kernel_rfl) (by kernel_rfl)
theorem Pc:vM L Tryz.f174 AP.f308=some (AP.f308.body,AP.f308.res):=by kernel_rfl
theorem Rx:Fits (174,308):=vJ Tryz.func174 Pc (by kernel_rfl) (by kernel_rfl)
theorem Vm:vM L Tryz.f175 AP.f8=some (AP.f8.body,AP.f8.res):=by kernel_rfl
theorem Vp:Fits (175,8):=vJ Tryz.func175 Vm (by kernel_rfl) (by kernel_rfl)
theorem Ns:vM L Tryz.f182 AP.f125=some (AP.f125.body,AP.f125.res):=by kernel_rfl
theorem PQ:Fits (182,125):=vJ Tryz.func182 Ns (by kernel_rfl) (by kernel_rfl)
theorem Nt:vM L Tryz.f183 AP.f126=some (AP.f126.body,AP.f126.res):=by kernel_rfl
theorem PR:Fits (183,126):=vJ Tryz.func183 Nt (by kernel_rfl) (by kernel_rfl)
theorem Nu:vM L Tryz.f184 AP.f127=some (AP.f127.body,AP.f127.res):=by kernel_rfl
theorem PS:Fits (184,127):=vJ Tryz.func184 Nu (by kernel_rfl) (by kernel_rfl)
theorem Nv:vM L Tryz.f185 AP.f128=some (AP.f128.body,AP.f128.res):=by kernel_rfl
theorem PT:Fits (185,128):=vJ Tryz.func185 Nv (by kernel_rfl) (by kernel_rfl)
theorem Nw:vM L Tryz.f186 AP.f129=some (AP.f129.body,AP.f129.res):=by kernel_rfl
theorem PU:Fits (186,129):=vJ Tryz.func186 Nw (by kernel_rfl) (by kernel_rfl)
theorem Nx:vM L Tryz.f187 AP.f130=some (AP.f130.body,AP.f130.res):=by kernel_rfl
theorem PV:Fits (187,130):=vJ Tryz.func187 Nx (by kernel_rfl) (by kernel_rfl)
theorem Ny:vM L Tryz.f188 AP.f131=some (AP.f131.body,AP.f131.res):=by kernel_rfl
theorem PX:Fits (188,131):=vJ Tryz.func188 Ny (by kernel_rfl) (by kernel_rfl)
theorem Vl:vM L Tryz.f189 AP.f7=some (AP.f7.body,AP.f7.res):=by kernel_rfl
theorem Vo:Fits (189,7):=vJ Tryz.func189 Vl (by kernel_rfl) (by kernel_rfl)
theorem N8:vM L Tryz.f190 AP.f190=some (AP.f190.body,AP.f190.res):=by kernel_rfl
theorem QB:Fits (190,190):=vJ Tryz.func190 N8 (by kernel_rfl) (by kernel_rfl)
theorem N3:vM L Tryz.f191 AP.f185=some (AP.f185.body,AP.f185.res):=by kernel_rfl
theorem Qw:Fits (191,185):=vJ Tryz.func191 N3 (by kernel_rfl) (by kernel_rfl)
theorem Nk:vM L Tryz.f192 AP.f118=some (AP.f118.body,AP.f118.res):=by kernel_rfl
theorem PI:Fits (192,118):=vJ Tryz.func192 Nk (by kernel_rfl) (by kernel_rfl)
theorem Nc:vM L Tryz.f193 AP.f110=some (AP.f110.body,AP.f110.res):=by kernel_rfl
theorem PA:Fits (193,110):=vJ Tryz.func193 Nc (by kernel_rfl) (by kernel_rfl)
theorem Pd:vM L Tryz.f194 AP.f311=some (AP.f311.body,AP.f311.res):=by kernel_rfl
theorem Ry:Fits (194,311):=vJ Tryz.func194 Pd (by kernel_rfl) (by kernel_rfl)
theorem Pe:vM L Tryz.f195 AP.f312=some (AP.f312.body,AP.f312.res):=by kernel_rfl
theorem Rz:Fits (195,312):=vJ Tryz.func195 Pe (by kernel_rfl) (by kernel_rfl)
theorem Pf:vM L Tryz.f196 AP.f313=some (AP.f313.body,AP.f313.res):=by kernel_rfl
theorem RA:Fits (196,313):=vJ Tryz.func196 Pf (by kernel_rfl) (by kernel_rfl)
theorem Pg:vM L Tryz.f197 AP.f314=some (AP.f314.body,AP.f314.res):=by kernel_rfl
theorem RB:Fits (197,314):=vJ Tryz.func197 Pg (by kernel_rfl) (by kernel_rfl)
theorem SQ:vM L Tryz.f198 AP.f18=some (AP.f18.body,AP.f18.res):=by kernel_rfl
theorem TY:Fits (198,18):=vJ Tryz.func198 SQ (by kernel_rfl) (by kernel_rfl)
theorem SR:vM L Tryz.f199 AP.f19=some (AP.f19.body,AP.f19.res):=by kernel_rfl
theorem TZ:Fits (199,19):=vJ Tryz.func199 SR (by kernel_rfl) (by kernel_rfl)
theorem SU:vM L Tryz.f200 AP.f20=some (AP.f20.body,AP.f20.res):=by kernel_rfl
theorem T7:Fits (200,20):=vJ Tryz.func200 SU (by kernel_rfl) (by kernel_rfl)
theorem SV:vM L Tryz.f201 AP.f21=some (AP.f21.body,AP.f21.res):=by kernel_rfl
theorem T8:Fits (201,21):=vJ Tryz.func201 SV (by kernel_rfl) (by kernel_rfl)
theorem SW:vM L Tryz.f202 AP.f22=some (AP.f22.body,AP.f22.res):=by kernel_rfl
theorem T9:Fits (202,22):=vJ Tryz.func202 SW (by kernel_rfl) (by kernel_rfl)
theorem SX:vM L Tryz.f203 AP.f23=some (AP.f23.body,AP.f23.res):=by kernel_rfl
theorem Ua:Fits (203,23):=vJ Tryz.func203 SX (by kernel_rfl) (by kernel_rfl)
theorem SY:vM L Tryz.f204 AP.f24=some (AP.f24.body,AP.f24.res):=by kernel_rfl
theorem Ub:Fits (204,24):=vJ Tryz.func204 SY (by kernel_rfl) (by kernel_rfl)
theorem SZ:vM L Tryz.f205 AP.f25=some (AP.f25.body,AP.f25.res):=by kernel_rfl
theorem Uc:Fits (205,25):=vJ Tryz.func205 SZ (by kernel_rfl) (by kernel_rfl)
theorem S7:vM L Tryz.f217 AP.f32=some (AP.f32.body,AP.f32.res):=by kernel_rfl
theorem Ud:Fits (217,32):=vJ Tryz.func217 S7 (by kernel_rfl) (by kernel_rfl)
theorem Nz:vM L Tryz.f219 AP.f132=some (AP.f132.body,AP.f132.res):=by kernel_rfl
theorem PY:Fits (219,132):=vJ Tryz.func219 Nz (by kernel_rfl) (by kernel_rfl)
theorem NA:vM L Tryz.f220 AP.f133=some (AP.f133.body,AP.f133.res):=by kernel_rfl
theorem PZ:Fits (220,133):=vJ Tryz.func220 NA (by kernel_rfl) (by kernel_rfl)
theorem NB:vM L Tryz.f221 AP.f134=some (AP.f134.body,AP.f134.res):=by kernel_rfl
theorem P1:Fits (221,134):=vJ Tryz.func221 NB (by kernel_rfl) (by kernel_rfl)
theorem NC:vM L Tryz.f222 AP.f135=some (AP.f135.body,AP.f135.res):=by kernel_rfl
theorem P2:Fits (222,135):=vJ Tryz.func222 NC (by kernel_rfl) (by kernel_rfl)
theorem SM:vM L Tryz.f223 AP.f14=some (AP.f14.body,AP.f14.res):=by kernel_rfl
theorem TU:Fits (223,14):=vJ Tryz.func223 SM (by kernel_rfl) (by kernel_rfl)
theorem SN:vM L Tryz.f224 AP.f15=some (AP.f15.body,AP.f15.res):=by kernel_rfl
theorem TV:Fits (224,15):=vJ Tryz.func224 SN (by kernel_rfl) (by kernel_rfl)
theorem SO:vM L Tryz.f225 AP.f16=some (AP.f16.body,AP.f16.res):=by kernel_rfl
theorem TW:Fits (225,16):=vJ Tryz.func225 SO (by kernel_rfl) (by kernel_rfl)
theorem SP:vM L Tryz.f226 AP.f17=some (AP.f17.body,AP.f17.res):=by kernel_rfl
theorem TX:Fits (226,17):=vJ Tryz.func226 SP (by kernel_rfl) (by kernel_rfl)
theorem N7:vM L Tryz.f227 AP.f189=some (AP.f189.body,AP.f189.res):=by kernel_rfl
theorem QA:Fits (227,189):=vJ Tryz.func227 N7 (by kernel_rfl) (by kernel_rfl)
theorem Ph:vM L Tryz.f228 AP.f315=some (AP.f315.body,AP.f315.res):=by kernel_rfl
theorem RC:Fits (228,315):=vJ Tryz.func228 Ph (by kernel_rfl) (by kernel_rfl)
theorem Tg:vM L Tryz.f229 AP.f46=some (AP.f46.body,AP.f46.res):=by kernel_rfl
theorem Uo:Fits (229,46):=vJ Tryz.func229 Tg (by kernel_rfl) (by kernel_rfl)
theorem Th:vM L Tryz.f230 AP.f47=some (AP.f47.body,AP.f47.res):=by kernel_rfl
theorem Up:Fits (230,47):=vJ Tryz.func230 Th (by kernel_rfl) (by kernel_rfl)
theorem Ti:vM L Tryz.f231 AP.f48=some (AP.f48.body,AP.f48.res):=by kernel_rfl
theorem Uq:Fits (231,48):=vJ Tryz.func231 Ti (by kernel_rfl) (by kernel_rfl)
theorem Tj:vM L Tryz.f232 AP.f49=some (AP.f49.body,AP.f49.res):=by kernel_rfl
theorem Ur:Fits (232,49):=vJ Tryz.func232 Tj (by kernel_rfl) (by kernel_rfl)
theorem Tk:vM L Tryz.f233 AP.f50=some (AP.f50.body,AP.f50.res):=by kernel_rfl
theorem Ut:Fits (233,50):=vJ Tryz.func233 Tk (by kernel_rfl) (by kernel_rfl)
theorem Tl:vM L Tryz.f234 AP.f51=some (AP.f51.body,AP.f51.res):=by kernel_rfl
theorem Uu:Fits (234,51):=vJ Tryz.func234 Tl (by kernel_rfl) (by kernel_rfl)
theorem Tm:vM L Tryz.f235 AP.f52=some (AP.f52.body,AP.f52.res):=by kernel_rfl
theorem Uv:Fits (235,52):=vJ Tryz.func235 Tm (by kernel_rfl) (by kernel_rfl)
theorem Tn:vM L Tryz.f236 AP.f53=some (AP.f53.body,AP.f53.res):=by kernel_rfl
theorem Uw:Fits (236,53):=vJ Tryz.func236 Tn (by kernel_rfl) (by kernel_rfl)
theorem To:vM L Tryz.f237 AP.f54=some (AP.f54.body,AP.f54.res):=by kernel_rfl
theorem Ux:Fits (237,54):=vJ Tryz.func237 To (by kernel_rfl) (by kernel_rfl)
theorem ND:vM L Tryz.f243 AP.f138=some (AP.f138.body,AP.f138.res):=by kernel_rfl
theorem P5:Fits (243,138):=vJ Tryz.func243 ND (by kernel_rfl) (by kernel_rfl)
theorem S8:vM L Tryz.f244 AP.f38=some (AP.f38.body,AP.f38.res):=by kernel_rfl
theorem Ue:Fits (244,38):=vJ Tryz.func244 S8 (by kernel_rfl) (by kernel_rfl)
theorem S9:vM L Tryz.f245 AP.f39=some (AP.f39.body,AP.f39.res):=by kernel_rfl
theorem Uf:Fits (245,39):=vJ Tryz.func245 S9 (by kernel_rfl) (by kernel_rfl)
theorem Ta:vM L Tryz.f246 AP.f40=some (AP.f40.body,AP.f40.res):=by kernel_rfl
theorem Ug:Fits (246,40):=vJ Tryz.func246 Ta (by kernel_rfl) (by kernel_rfl)
theorem Tb:vM L Tryz.f247 AP.f41=some (AP.f41.body,AP.f41.res):=by kernel_rfl
theorem Uh:Fits (247,41):=vJ Tryz.func247 Tb (by kernel_rfl) (by kernel_rfl)
theorem Tc:vM L Tryz.f248 AP.f42=some (AP.f42.body,AP.f42.res):=by kernel_rfl
theorem Ui:Fits (248,42):=vJ Tryz.func248 Tc (by kernel_rfl) (by kernel_rfl)
theorem Td:vM L Tryz.f249 AP.f43=some (AP.f43.body,AP.f43.res):=by kernel_rfl
theorem Uj:Fits (249,43):=vJ Tryz.func249 Td (by kernel_rfl) (by kernel_rfl)
theorem Te:vM L Tryz.f250 AP.f44=some (AP.f44.body,AP.f44.res):=by kernel_rfl
theorem Uk:Fits (250,44):=vJ Tryz.func250 Te (by kernel_rfl) (by kernel_rfl)
theorem Tf:vM L Tryz.f251 AP.f45=some (AP.f45.body,AP.f45.res):=by kernel_rfl
theorem Un:Fits (251,45):=vJ Tryz.func251 Tf (by kernel_rfl) (by kernel_rfl)
theorem Tz:vM L Tryz.f252 AP.f67=some (AP.f67.body,AP.f67.res):=by kernel_rfl
theorem UH:Fits (252,67):=vJ Tryz.func252 Tz (by kernel_rfl) (by kernel_rfl)
theorem TA:vM L Tryz.f253 AP.f68=some (AP.f68.body,AP.f68.res):=by kernel_rfl
theorem UI:Fits (253,68):=vJ Tryz.func253 TA (by kernel_rfl) (by kernel_rfl)
theorem NF:vM L Tryz.f257 AP.f139=some (AP.f139.body,AP.f139.res):=by kernel_rfl
theorem P6:Fits (257,139):=vJ Tryz.func257 NF (by kernel_rfl) (by kernel_rfl)
theorem NG:vM L Tryz.f258 AP.f140=some (AP.f140.body,AP.f140.res):=by kernel_rfl
theorem P9:Fits (258,140):=vJ Tryz.func258 NG (by kernel_rfl) (by kernel_rfl)
theorem NH:vM L Tryz.f259 AP.f141=some (AP.f141.body,AP.f141.res):=by kernel_rfl
theorem Qa:Fits (259,141):=vJ Tryz.func259 NH (by kernel_rfl) (by kernel_rfl)
theorem Tp:vM L Tryz.f261 AP.f58=some (AP.f58.body,AP.f58.res):=by kernel_rfl
theorem Uy:Fits (261,58):=vJ Tryz.func261 Tp (by kernel_rfl) (by kernel_rfl)
theorem Tq:vM L Tryz.f262 AP.f59=some (AP.f59.body,AP.f59.res):=by kernel_rfl
theorem Uz:Fits (262,59):=vJ Tryz.func262 Tq (by kernel_rfl) (by kernel_rfl)
theorem Tr:vM L Tryz.f263 AP.f60=some (AP.f60.body,AP.f60.res):=by kernel_rfl
theorem UA:Fits (263,60):=vJ Tryz.func263 Tr (by kernel_rfl) (by kernel_rfl)
theorem Ts:vM L Tryz.f264 AP.f61=some (AP.f61.body,AP.f61.res):=by kernel_rfl
theorem UB:Fits (264,61):=vJ Tryz.func264 Ts (by kernel_rfl) (by kernel_rfl)
theorem Tt:vM L Tryz.f265 AP.f62=some (AP.f62.body,AP.f62.res):=by kernel_rfl
theorem UC:Fits (265,62):=vJ Tryz.func265 Tt (by kernel_rfl) (by kernel_rfl)
theorem Tu:vM L Tryz.f266 AP.f63=some (AP.f63.body,AP.f63.res):=by kernel_rfl
theorem UD:Fits (266,63):=vJ Tryz.func266 Tu (by kernel_rfl) (by kernel_rfl)
theorem Tv:vM L Tryz.f267 AP.f64=some (AP.f64.body,AP.f64.res):=by kernel_rfl
theorem UE:Fits (267,64):=vJ Tryz.func267 Tv (by kernel_rfl) (by kernel_rfl)
theorem Tw:vM L Tryz.f268 AP.f65=some (AP.f65.body,AP.f65.res):=by kernel_rfl
theorem UF:Fits (268,65):=vJ Tryz.func268 Tw (by kernel_rfl) (by kernel_rfl)
theorem Tx:vM L Tryz.f269 AP.f66=some (AP.f66.body,AP.f66.res):=by kernel_rfl
theorem UG:Fits (269,66):=vJ Tryz.func269 Tx (by kernel_rfl) (by kernel_rfl)
theorem TB:vM L Tryz.f271 AP.f72=some (AP.f72.body,AP.f72.res):=by kernel_rfl
theorem UJ:Fits (271,72):=vJ Tryz.func271 TB (by kernel_rfl) (by kernel_rfl)
theorem TC:vM L Tryz.f272 AP.f73=some (AP.f73.body,AP.f73.res):=by kernel_rfl
theorem UK:Fits (272,73):=vJ Tryz.func272 TC (by kernel_rfl) (by kernel_rfl)
theorem TD:vM L Tryz.f273 AP.f74=some (AP.f74.body,AP.f74.res):=by kernel_rfl
theorem UL:Fits (273,74):=vJ Tryz.func273 TD (by kernel_rfl) (by kernel_rfl)
theorem TE:vM L Tryz.f274 AP.f75=some (AP.f75.body,AP.f75.res):=by kernel_rfl
theorem UM:Fits (274,75):=vJ Tryz.func274 TE (by kernel_rfl) (by kernel_rfl)
theorem TF:vM L Tryz.f275 AP.f76=some (AP.f76.body,AP.f76.res):=by kernel_rfl
theorem UN:Fits (275,76):=vJ Tryz.func275 TF (by kernel_rfl) (by kernel_rfl)
theorem TG:vM L Tryz.f276 AP.f77=some (AP.f77.body,AP.f77.res):=by kernel_rfl
theorem UO:Fits (276,77):=vJ Tryz.func276 TG (by kernel_rfl) (by kernel_rfl)
theorem TH:vM L Tryz.f277 AP.f78=some (AP.f78.body,AP.f78.res):=by kernel_rfl
theorem UP:Fits (277,78):=vJ Tryz.func277 TH (by kernel_rfl) (by kernel_rfl)
theorem TI:vM L Tryz.f278 AP.f79=some (AP.f79.body,AP.f79.res):=by kernel_rfl
theorem UQ:Fits (278,79):=vJ Tryz.func278 TI (by kernel_rfl) (by kernel_rfl)
theorem TJ:vM L Tryz.f279 AP.f80=some (AP.f80.body,AP.f80.res):=by kernel_rfl
theorem UR:Fits (279,80):=vJ Tryz.func279 TJ (by kernel_rfl) (by kernel_rfl)
theorem TK:vM L Tryz.f280 AP.f81=some (AP.f81.body,AP.f81.res):=by kernel_rfl
theorem US:Fits (280,81):=vJ Tryz.func280 TK (by kernel_rfl) (by kernel_rfl)
theorem TL:vM L Tryz.f282 AP.f82=some (AP.f82.body,AP.f82.res):=by kernel_rfl
theorem UT:Fits (282,82):=vJ Tryz.func282 TL (by kernel_rfl) (by kernel_rfl)
theorem P3:Fits (241,136):=⟨Tryz.f241,_,Tryz.func241,rfl,by kernel_rfl,fun af h=>by rw[show AP.A 136=none by kernel_rfl]at h;cases h⟩
theorem P4:Fits (242,137):=⟨Tryz.f242,_,Tryz.func242,rfl,by kernel_rfl,fun af h=>by rw[show AP.A 137=none by kernel_rfl]at h;cases h⟩
theorem Qb:Fits (270,143):=⟨Tryz.f270,_,Tryz.func270,rfl,by kernel_rfl,fun af h=>by rw[show AP.A 143=none by kernel_rfl]at h;cases h⟩
theorem Vh:∀p∈VG,Fits p:=vI QS (vI QT (vI Vq (vI QU (vI QV (vI QW (vI QX (vI Pt (vI QE (vI QY (vI QZ (vI Q0 (vI Q1 (vI QK (vI Q2 (vI QM (vI Q3 (vI QF (vI QH (vI QP (vI Py (vI Q4 (vI U2 (vI QL (vI PG (vI Qg (vI Qt (vI QO (vI PK (vI Px (vI UU (vI Q5 (vI Q6 (vI PH (vI Qv (vI Q7 (vI Q8 (vI Q9 (vI Ra (vI Rb (vI Rc (vI U1 (vI Re (vI Rf (vI Qy (vI Rg (vI Qh (vI QN (vI Rh (vI Ri (vI Ql (vI Rj (vI QJ (vI Rk (vI PB (vI Qp (vI Qs (vI Rl (vI Rm (vI Rn (vI Qj (vI QQ (vI QR (vI Qe (vI Ro (vI QG (vI QI (vI Qc (vI Qd (vI Qn (vI Qo (vI UY (vI Pw (vI PD (vI QD (vI Pv (vI Qf (vI UW (vI PN (vI PJ (vI PL (vI Rp (vI Pz (vI QC (vI Qu (vI UX (vI Qr (vI UZ (vI Rq (vI Rr (vI Rt (vI Ru (vI Qk (vI Qi (vI PC (vI PM (vI Pu (vI Qm (vI PO (vI PF (vI Qx (vI Qz (vI Qq (vI Rv (vI Rw (vI Rx (vI Vp (vI PQ (vI PR (vI PS (vI PT (vI PU (vI PV (vI PX (vI Vo (vI QB (vI Qw (vI PI (vI PA (vI Ry (vI Rz (vI RA (vI RB (vI TY (vI TZ (vI T7 (vI T8 (vI T9 (vI Ua (vI Ub (vI Uc (vI Ud (vI PY (vI PZ (vI P1 (vI P2 (vI TU (vI TV (vI TW (vI TX (vI QA (vI RC (vI Uo (vI Up (vI Uq (vI Ur (vI Ut (vI Uu (vI Uv (vI Uw (vI Ux (vI P5 (vI Ue (vI Uf (vI Ug (vI Uh (vI Ui (vI Uj (vI Uk (vI Un (vI UH (vI UI (vI P6 (vI P9 (vI Qa (vI Uy (vI Uz (vI UA (vI UB (vI UC (vI UD (vI UE (vI UF (vI UG (vI UJ (vI UK (vI UL (vI UM (vI UN (vI UO (vI UP (vI UQ (vI UR (vI US (vI UT (vI P3 (vI P4 (vI Qb (Jn))))))))))))))))))))))))))))))))))))))))))))))))))))))))))))))))))))))))))))))))))))))))))))))))))))))))))))))))))))))))))))))))))))))))))))))))))))))))))))))))))))))))))))))))))))))))))))
theorem lk:eI L AP.A:=⟨by kernel_rfl,fun fid f h=>Vh (fid,f) (Ed h),fun _ _ _ _ h=>by cases h⟩
end Ab.Ln
