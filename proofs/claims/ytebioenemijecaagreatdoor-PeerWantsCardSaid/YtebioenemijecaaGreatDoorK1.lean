/- Part K1. -/
import Derived.Test.YtebioenemijecaaGreatDoorProg
import Derived.KernelRfl
import Derived.Test.YtebioenemijecaaGreatDoorAP
set_option maxRecDepth 100000
namespace Ab.Ln
open Go Go.Proofs Ab
def vp (L:Lk) (fn:Func) (af:fq):Option (aH×List RV):=fn.body.bind fun c=>(comp L fn.ntmps c af.body).bind fun x=>(cZ L fn.results.toList).bind fun r=>some (x,r)
def Fits (p : Nat × Nat) : Prop := ∃ fn c, L.P.funcs[p.1]? = some fn ∧ fn.body = some c ∧ (fn.name == "runtime.NumGoroutine") = false ∧
    ∀af,AP.A p.2=some af→(∃x0,comp L fn.ntmps c x0=some af.body)∧cZ L fn.results.toList=some af.res
theorem vm {k a : Nat} {fn : Func} {af : fq} (h1 : L.P.funcs[k]? = some fn) (h2 : vp L fn af = some (af.body, af.res)) (h3 : (fn.name == "runtime.NumGoroutine") = false) (h4 : AP.A a = some af) : Fits (k, a) := by
 unfold vp at h2
 simp only[uy]at h2
 obtain⟨c,g1,x,g2,r,g3,g4⟩:=h2
 obtain⟨rfl,rfl⟩:=uB (uz g4)
 refine⟨fn,c,h1,g1,h3,fun af2 g5=> ?_⟩
 rw[h4]at g5
 obtain rfl:=uz g5
 exact⟨⟨_,g2⟩,g3⟩
theorem C7:∀{l:List (Nat×Nat)} {k f:Nat},C6 l k=some f→(k,f)∈l
 |[],_,_,h=>by cases h
 | (i, g) :: r, k, f, h => by
   unfold C6 at h
   split at h
   · rename_i e;subst e;obtain rfl:=uz h;exact List.mem_cons_self
   · exact List.mem_cons_of_mem _ (C7 h)
theorem HN:∀p∈([]:List (Nat×Nat)),Fits p:=fun p h=>by cases h
theorem vi {p:Nat×Nat} {l:List (Nat×Nat)} (h1:Fits p) (h2:∀q∈l,Fits q):∀q∈p::l,Fits q:=fun q h=>by
 rcases u5.1 h with rfl|h
 · exact h1
 · exact h2 q h
theorem MC:vp L Tryz.f4 AP.f226=some (AP.f226.body,AP.f226.res):=by kernel_rfl
theorem OA:Fits (4,226):=vm Tryz.func4 MC (by kernel_rfl) (by kernel_rfl)
theorem MH:vp L Tryz.f5 AP.f242=some (AP.f242.body,AP.f242.res):=by kernel_rfl
theorem OG:Fits (5,242):=vm Tryz.func5 MH (by kernel_rfl) (by kernel_rfl)
theorem Mw:vp L Tryz.f6 AP.f205=some (AP.f205.body,AP.f205.res):=by kernel_rfl
theorem Ou:Fits (6,205):=vm Tryz.func6 Mw (by kernel_rfl) (by kernel_rfl)
theorem MF:vp L Tryz.f9 AP.f238=some (AP.f238.body,AP.f238.res):=by kernel_rfl
theorem OD:Fits (9,238):=vm Tryz.func9 MF (by kernel_rfl) (by kernel_rfl)
theorem SM:vp L Tryz.f10 AP.f9=some (AP.f9.body,AP.f9.res):=by kernel_rfl
theorem SP:Fits (10,9):=vm Tryz.func10 SM (by kernel_rfl) (by kernel_rfl)
theorem MG:vp L Tryz.f12 AP.f240=some (AP.f240.body,AP.f240.res):=by kernel_rfl
theorem OE:Fits (12,240):=vm Tryz.func12 MG (by kernel_rfl) (by kernel_rfl)
theorem Mu:vp L Tryz.f14 AP.f199=some (AP.f199.body,AP.f199.res):=by kernel_rfl
theorem Oq:Fits (14,199):=vm Tryz.func14 Mu (by kernel_rfl) (by kernel_rfl)
theorem Mz:vp L Tryz.f15 AP.f208=some (AP.f208.body,AP.f208.res):=by kernel_rfl
theorem Ox:Fits (15,208):=vm Tryz.func15 Mz (by kernel_rfl) (by kernel_rfl)
theorem L9:vp L Tryz.f16 AP.f166=some (AP.f166.body,AP.f166.res):=by kernel_rfl
theorem N5:Fits (16,166):=vm Tryz.func16 L9 (by kernel_rfl) (by kernel_rfl)
theorem Lv:vp L Tryz.f17 AP.f106=some (AP.f106.body,AP.f106.res):=by kernel_rfl
theorem Nu:Fits (17,106):=vm Tryz.func17 Lv (by kernel_rfl) (by kernel_rfl)
theorem MJ:vp L Tryz.f18 AP.f247=some (AP.f247.body,AP.f247.res):=by kernel_rfl
theorem OI:Fits (18,247):=vm Tryz.func18 MJ (by kernel_rfl) (by kernel_rfl)
theorem MD:vp L Tryz.f19 AP.f232=some (AP.f232.body,AP.f232.res):=by kernel_rfl
theorem OB:Fits (19,232):=vm Tryz.func19 MD (by kernel_rfl) (by kernel_rfl)
theorem Rc:vp L Tryz.f20 AP.f98=some (AP.f98.body,AP.f98.res):=by kernel_rfl
theorem Sg:Fits (20,98):=vm Tryz.func20 Rc (by kernel_rfl) (by kernel_rfl)
theorem MI:vp L Tryz.f21 AP.f246=some (AP.f246.body,AP.f246.res):=by kernel_rfl
theorem OH:Fits (21,246):=vm Tryz.func21 MI (by kernel_rfl) (by kernel_rfl)
theorem My:vp L Tryz.f22 AP.f207=some (AP.f207.body,AP.f207.res):=by kernel_rfl
theorem Ow:Fits (22,207):=vm Tryz.func22 My (by kernel_rfl) (by kernel_rfl)
theorem MA:vp L Tryz.f23 AP.f212=some (AP.f212.body,AP.f212.res):=by kernel_rfl
theorem Oy:Fits (23,212):=vm Tryz.func23 MA (by kernel_rfl) (by kernel_rfl)
theorem MB:vp L Tryz.f24 AP.f213=some (AP.f213.body,AP.f213.res):=by kernel_rfl
theorem Oz:Fits (24,213):=vm Tryz.func24 MB (by kernel_rfl) (by kernel_rfl)
theorem L7:vp L Tryz.f25 AP.f157=some (AP.f157.body,AP.f157.res):=by kernel_rfl
theorem N3:Fits (25,157):=vm Tryz.func25 L7 (by kernel_rfl) (by kernel_rfl)
theorem Me:vp L Tryz.f33 AP.f177=some (AP.f177.body,AP.f177.res):=by kernel_rfl
theorem Oa:Fits (33,177):=vm Tryz.func33 Me (by kernel_rfl) (by kernel_rfl)
theorem LJ:vp L Tryz.f34 AP.f120=some (AP.f120.body,AP.f120.res):=by kernel_rfl
theorem NG:Fits (34,120):=vm Tryz.func34 LJ (by kernel_rfl) (by kernel_rfl)
theorem Mh:vp L Tryz.f35 AP.f181=some (AP.f181.body,AP.f181.res):=by kernel_rfl
theorem Od:Fits (35,181):=vm Tryz.func35 Mh (by kernel_rfl) (by kernel_rfl)
theorem ME:vp L Tryz.f39 AP.f233=some (AP.f233.body,AP.f233.res):=by kernel_rfl
theorem OC:Fits (39,233):=vm Tryz.func39 ME (by kernel_rfl) (by kernel_rfl)
theorem MU:vp L Tryz.f40 AP.f277=some (AP.f277.body,AP.f277.res):=by kernel_rfl
theorem OW:Fits (40,277):=vm Tryz.func40 MU (by kernel_rfl) (by kernel_rfl)
theorem Mx:vp L Tryz.f41 AP.f206=some (AP.f206.body,AP.f206.res):=by kernel_rfl
theorem Ov:Fits (41,206):=vm Tryz.func41 Mx (by kernel_rfl) (by kernel_rfl)
theorem Mv:vp L Tryz.f42 AP.f200=some (AP.f200.body,AP.f200.res):=by kernel_rfl
theorem Ot:Fits (42,200):=vm Tryz.func42 Mv (by kernel_rfl) (by kernel_rfl)
theorem Mc:vp L Tryz.f43 AP.f172=some (AP.f172.body,AP.f172.res):=by kernel_rfl
theorem N8:Fits (43,172):=vm Tryz.func43 Mc (by kernel_rfl) (by kernel_rfl)
theorem Mi:vp L Tryz.f44 AP.f182=some (AP.f182.body,AP.f182.res):=by kernel_rfl
theorem Oe:Fits (44,182):=vm Tryz.func44 Mi (by kernel_rfl) (by kernel_rfl)
theorem Lq:vp L Tryz.f45 AP.f101=some (AP.f101.body,AP.f101.res):=by kernel_rfl
theorem Np:Fits (45,101):=vm Tryz.func45 Lq (by kernel_rfl) (by kernel_rfl)
theorem Ma:vp L Tryz.f46 AP.f167=some (AP.f167.body,AP.f167.res):=by kernel_rfl
theorem N6:Fits (46,167):=vm Tryz.func46 Ma (by kernel_rfl) (by kernel_rfl)
theorem L8:vp L Tryz.f47 AP.f164=some (AP.f164.body,AP.f164.res):=by kernel_rfl
theorem N4:Fits (47,164):=vm Tryz.func47 L8 (by kernel_rfl) (by kernel_rfl)
theorem Mj:vp L Tryz.f48 AP.f183=some (AP.f183.body,AP.f183.res):=by kernel_rfl
theorem Of:Fits (48,183):=vm Tryz.func48 Mj (by kernel_rfl) (by kernel_rfl)
theorem Q9:vp L Tryz.f49 AP.f91=some (AP.f91.body,AP.f91.res):=by kernel_rfl
theorem Sc:Fits (49,91):=vm Tryz.func49 Q9 (by kernel_rfl) (by kernel_rfl)
theorem Mg:vp L Tryz.f50 AP.f179=some (AP.f179.body,AP.f179.res):=by kernel_rfl
theorem Oc:Fits (50,179):=vm Tryz.func50 Mg (by kernel_rfl) (by kernel_rfl)
theorem Ra:vp L Tryz.f51 AP.f93=some (AP.f93.body,AP.f93.res):=by kernel_rfl
theorem Se:Fits (51,93):=vm Tryz.func51 Ra (by kernel_rfl) (by kernel_rfl)
theorem Lu:vp L Tryz.f54 AP.f105=some (AP.f105.body,AP.f105.res):=by kernel_rfl
theorem Nt:Fits (54,105):=vm Tryz.func54 Lu (by kernel_rfl) (by kernel_rfl)
theorem Q7:vp L Tryz.f55 AP.f83=some (AP.f83.body,AP.f83.res):=by kernel_rfl
theorem Sa:Fits (55,83):=vm Tryz.func55 Q7 (by kernel_rfl) (by kernel_rfl)
theorem MK:vp L Tryz.f56 AP.f261=some (AP.f261.body,AP.f261.res):=by kernel_rfl
theorem OJ:Fits (56,261):=vm Tryz.func56 MK (by kernel_rfl) (by kernel_rfl)
theorem ML:vp L Tryz.f57 AP.f262=some (AP.f262.body,AP.f262.res):=by kernel_rfl
theorem OK:Fits (57,262):=vm Tryz.func57 ML (by kernel_rfl) (by kernel_rfl)
theorem LG:vp L Tryz.f58 AP.f117=some (AP.f117.body,AP.f117.res):=by kernel_rfl
theorem NC:Fits (58,117):=vm Tryz.func58 LG (by kernel_rfl) (by kernel_rfl)
theorem Mk:vp L Tryz.f59 AP.f184=some (AP.f184.body,AP.f184.res):=by kernel_rfl
theorem Og:Fits (59,184):=vm Tryz.func59 Mk (by kernel_rfl) (by kernel_rfl)
theorem MM:vp L Tryz.f60 AP.f263=some (AP.f263.body,AP.f263.res):=by kernel_rfl
theorem OL:Fits (60,263):=vm Tryz.func60 MM (by kernel_rfl) (by kernel_rfl)
theorem MN:vp L Tryz.f61 AP.f264=some (AP.f264.body,AP.f264.res):=by kernel_rfl
theorem OM:Fits (61,264):=vm Tryz.func61 MN (by kernel_rfl) (by kernel_rfl)
theorem MO:vp L Tryz.f62 AP.f265=some (AP.f265.body,AP.f265.res):=by kernel_rfl
theorem OP:Fits (62,265):=vm Tryz.func62 MO (by kernel_rfl) (by kernel_rfl)
theorem MP:vp L Tryz.f63 AP.f266=some (AP.f266.body,AP.f266.res):=by kernel_rfl
theorem OQ:Fits (63,266):=vm Tryz.func63 MP (by kernel_rfl) (by kernel_rfl)
theorem MQ:vp L Tryz.f64 AP.f267=some (AP.f267.body,AP.f267.res):=by kernel_rfl
theorem OR:Fits (64,267):=vm Tryz.func64 MQ (by kernel_rfl) (by kernel_rfl)
theorem MR:vp L Tryz.f65 AP.f268=some (AP.f268.body,AP.f268.res):=by kernel_rfl
theorem OS:Fits (65,268):=vm Tryz.func65 MR (by kernel_rfl) (by kernel_rfl)
theorem Rb:vp L Tryz.f66 AP.f96=some (AP.f96.body,AP.f96.res):=by kernel_rfl
theorem Sf:Fits (66,96):=vm Tryz.func66 Rb (by kernel_rfl) (by kernel_rfl)
theorem MS:vp L Tryz.f67 AP.f269=some (AP.f269.body,AP.f269.res):=by kernel_rfl
theorem OT:Fits (67,269):=vm Tryz.func67 MS (by kernel_rfl) (by kernel_rfl)
theorem MT:vp L Tryz.f68 AP.f270=some (AP.f270.body,AP.f270.res):=by kernel_rfl
theorem OU:Fits (68,270):=vm Tryz.func68 MT (by kernel_rfl) (by kernel_rfl)
theorem Mo:vp L Tryz.f69 AP.f187=some (AP.f187.body,AP.f187.res):=by kernel_rfl
theorem Oj:Fits (69,187):=vm Tryz.func69 Mo (by kernel_rfl) (by kernel_rfl)
theorem MW:vp L Tryz.f70 AP.f300=some (AP.f300.body,AP.f300.res):=by kernel_rfl
theorem OY:Fits (70,300):=vm Tryz.func70 MW (by kernel_rfl) (by kernel_rfl)
theorem MX:vp L Tryz.f71 AP.f301=some (AP.f301.body,AP.f301.res):=by kernel_rfl
theorem OZ:Fits (71,301):=vm Tryz.func71 MX (by kernel_rfl) (by kernel_rfl)
theorem MY:vp L Tryz.f72 AP.f302=some (AP.f302.body,AP.f302.res):=by kernel_rfl
theorem O0:Fits (72,302):=vm Tryz.func72 MY (by kernel_rfl) (by kernel_rfl)
theorem MZ:vp L Tryz.f73 AP.f303=some (AP.f303.body,AP.f303.res):=by kernel_rfl
theorem O1:Fits (73,303):=vm Tryz.func73 MZ (by kernel_rfl) (by kernel_rfl)
theorem Ly:vp L Tryz.f74 AP.f111=some (AP.f111.body,AP.f111.res):=by kernel_rfl
theorem Nx:Fits (74,111):=vm Tryz.func74 Ly (by kernel_rfl) (by kernel_rfl)
theorem Md:vp L Tryz.f75 AP.f173=some (AP.f173.body,AP.f173.res):=by kernel_rfl
theorem N9:Fits (75,173):=vm Tryz.func75 Md (by kernel_rfl) (by kernel_rfl)
theorem Mb:vp L Tryz.f76 AP.f169=some (AP.f169.body,AP.f169.res):=by kernel_rfl
theorem N7:Fits (76,169):=vm Tryz.func76 Mb (by kernel_rfl) (by kernel_rfl)
theorem SL:vp L Tryz.f77 AP.f8=some (AP.f8.body,AP.f8.res):=by kernel_rfl
theorem SO:Fits (77,8):=vm Tryz.func77 SL (by kernel_rfl) (by kernel_rfl)
theorem Mn:vp L Tryz.f78 AP.f186=some (AP.f186.body,AP.f186.res):=by kernel_rfl
theorem Oi:Fits (78,186):=vm Tryz.func78 Mn (by kernel_rfl) (by kernel_rfl)
theorem Mp:vp L Tryz.f79 AP.f188=some (AP.f188.body,AP.f188.res):=by kernel_rfl
theorem Ok:Fits (79,188):=vm Tryz.func79 Mp (by kernel_rfl) (by kernel_rfl)
theorem Lr:vp L Tryz.f80 AP.f102=some (AP.f102.body,AP.f102.res):=by kernel_rfl
theorem Nq:Fits (80,102):=vm Tryz.func80 Lr (by kernel_rfl) (by kernel_rfl)
theorem Ls:vp L Tryz.f81 AP.f103=some (AP.f103.body,AP.f103.res):=by kernel_rfl
theorem Nr:Fits (81,103):=vm Tryz.func81 Ls (by kernel_rfl) (by kernel_rfl)
theorem Lt:vp L Tryz.f82 AP.f104=some (AP.f104.body,AP.f104.res):=by kernel_rfl
theorem Ns:Fits (82,104):=vm Tryz.func82 Lt (by kernel_rfl) (by kernel_rfl)
theorem LF:vp L Tryz.f83 AP.f115=some (AP.f115.body,AP.f115.res):=by kernel_rfl
theorem NB:Fits (83,115):=vm Tryz.func83 LF (by kernel_rfl) (by kernel_rfl)
theorem Q8:vp L Tryz.f87 AP.f84=some (AP.f84.body,AP.f84.res):=by kernel_rfl
theorem Sb:Fits (87,84):=vm Tryz.func87 Q8 (by kernel_rfl) (by kernel_rfl)
theorem LM:vp L Tryz.f88 AP.f123=some (AP.f123.body,AP.f123.res):=by kernel_rfl
theorem NJ:Fits (88,123):=vm Tryz.func88 LM (by kernel_rfl) (by kernel_rfl)
theorem LI:vp L Tryz.f89 AP.f119=some (AP.f119.body,AP.f119.res):=by kernel_rfl
theorem NF:Fits (89,119):=vm Tryz.func89 LI (by kernel_rfl) (by kernel_rfl)
theorem LK:vp L Tryz.f90 AP.f121=some (AP.f121.body,AP.f121.res):=by kernel_rfl
theorem NH:Fits (90,121):=vm Tryz.func90 LK (by kernel_rfl) (by kernel_rfl)
theorem MV:vp L Tryz.f91 AP.f299=some (AP.f299.body,AP.f299.res):=by kernel_rfl
theorem OX:Fits (91,299):=vm Tryz.func91 MV (by kernel_rfl) (by kernel_rfl)
theorem Lw:vp L Tryz.f92 AP.f107=some (AP.f107.body,AP.f107.res):=by kernel_rfl
theorem Nv:Fits (92,107):=vm Tryz.func92 Lw (by kernel_rfl) (by kernel_rfl)
theorem Ms:vp L Tryz.f93 AP.f191=some (AP.f191.body,AP.f191.res):=by kernel_rfl
theorem On:Fits (93,191):=vm Tryz.func93 Ms (by kernel_rfl) (by kernel_rfl)
theorem Mf:vp L Tryz.f94 AP.f178=some (AP.f178.body,AP.f178.res):=by kernel_rfl
theorem Ob:Fits (94,178):=vm Tryz.func94 Mf (by kernel_rfl) (by kernel_rfl)
theorem M4:vp L Tryz.f95 AP.f306=some (AP.f306.body,AP.f306.res):=by kernel_rfl
theorem O3:Fits (95,306):=vm Tryz.func95 M4 (by kernel_rfl) (by kernel_rfl)
theorem M5:vp L Tryz.f96 AP.f307=some (AP.f307.body,AP.f307.res):=by kernel_rfl
theorem O5:Fits (96,307):=vm Tryz.func96 M5 (by kernel_rfl) (by kernel_rfl)
theorem M6:vp L Tryz.f97 AP.f308=some (AP.f308.body,AP.f308.res):=by kernel_rfl
theorem O6:Fits (97,308):=vm Tryz.func97 M6 (by kernel_rfl) (by kernel_rfl)
theorem Ql:vp L Tryz.f98 AP.f18=some (AP.f18.body,AP.f18.res):=by kernel_rfl
theorem Rj:Fits (98,18):=vm Tryz.func98 Ql (by kernel_rfl) (by kernel_rfl)
theorem Qm:vp L Tryz.f99 AP.f19=some (AP.f19.body,AP.f19.res):=by kernel_rfl
theorem Rk:Fits (99,19):=vm Tryz.func99 Qm (by kernel_rfl) (by kernel_rfl)
theorem Qn:vp L Tryz.f100 AP.f20=some (AP.f20.body,AP.f20.res):=by kernel_rfl
theorem Rl:Fits (100,20):=vm Tryz.func100 Qn (by kernel_rfl) (by kernel_rfl)
theorem Qo:vp L Tryz.f101 AP.f21=some (AP.f21.body,AP.f21.res):=by kernel_rfl
theorem Rm:Fits (101,21):=vm Tryz.func101 Qo (by kernel_rfl) (by kernel_rfl)
theorem Qp:vp L Tryz.f102 AP.f22=some (AP.f22.body,AP.f22.res):=by kernel_rfl
theorem Rn:Fits (102,22):=vm Tryz.func102 Qp (by kernel_rfl) (by kernel_rfl)
theorem Qq:vp L Tryz.f103 AP.f23=some (AP.f23.body,AP.f23.res):=by kernel_rfl
theorem Ro:Fits (103,23):=vm Tryz.func103 Qq (by kernel_rfl) (by kernel_rfl)
theorem Qr:vp L Tryz.f104 AP.f24=some (AP.f24.body,AP.f24.res):=by kernel_rfl
theorem Rp:Fits (104,24):=vm Tryz.func104 Qr (by kernel_rfl) (by kernel_rfl)
theorem Qs:vp L Tryz.f105 AP.f25=some (AP.f25.body,AP.f25.res):=by kernel_rfl
theorem Rq:Fits (105,25):=vm Tryz.func105 Qs (by kernel_rfl) (by kernel_rfl)
theorem Mr:vp L Tryz.f106 AP.f190=some (AP.f190.body,AP.f190.res):=by kernel_rfl
theorem Om:Fits (106,190):=vm Tryz.func106 Mr (by kernel_rfl) (by kernel_rfl)
theorem Lz:vp L Tryz.f107 AP.f112=some (AP.f112.body,AP.f112.res):=by kernel_rfl
theorem Ny:Fits (107,112):=vm Tryz.func107 Lz (by kernel_rfl) (by kernel_rfl)
theorem LN:vp L Tryz.f108 AP.f124=some (AP.f124.body,AP.f124.res):=by kernel_rfl
theorem NK:Fits (108,124):=vm Tryz.func108 LN (by kernel_rfl) (by kernel_rfl)
theorem LC:vp L Tryz.f109 AP.f113=some (AP.f113.body,AP.f113.res):=by kernel_rfl
theorem Nz:Fits (109,113):=vm Tryz.func109 LC (by kernel_rfl) (by kernel_rfl)
theorem LD:vp L Tryz.f110 AP.f114=some (AP.f114.body,AP.f114.res):=by kernel_rfl
theorem NA:Fits (110,114):=vm Tryz.func110 LD (by kernel_rfl) (by kernel_rfl)
theorem Ml:vp L Tryz.f111 AP.f185=some (AP.f185.body,AP.f185.res):=by kernel_rfl
theorem Oh:Fits (111,185):=vm Tryz.func111 Ml (by kernel_rfl) (by kernel_rfl)
theorem LH:vp L Tryz.f112 AP.f118=some (AP.f118.body,AP.f118.res):=by kernel_rfl
theorem ND:Fits (112,118):=vm Tryz.func112 LH (by kernel_rfl) (by kernel_rfl)
theorem Lx:vp L Tryz.f113 AP.f110=some (AP.f110.body,AP.f110.res):=by kernel_rfl
theorem Nw:Fits (113,110):=vm Tryz.func113 Lx (by kernel_rfl) (by kernel_rfl)
theorem M7:vp L Tryz.f114 AP.f311=some (AP.f311.body,AP.f311.res):=by kernel_rfl
theorem O8:Fits (114,311):=vm Tryz.func114 M7 (by kernel_rfl) (by kernel_rfl)
theorem M8:vp L Tryz.f115 AP.f312=some (AP.f312.body,AP.f312.res):=by kernel_rfl
theorem O9:Fits (115,312):=vm Tryz.func115 M8 (by kernel_rfl) (by kernel_rfl)
theorem M9:vp L Tryz.f116 AP.f313=some (AP.f313.body,AP.f313.res):=by kernel_rfl
theorem Pa:Fits (116,313):=vm Tryz.func116 M9 (by kernel_rfl) (by kernel_rfl)
theorem Na:vp L Tryz.f117 AP.f314=some (AP.f314.body,AP.f314.res):=by kernel_rfl
theorem Pb:Fits (117,314):=vm Tryz.func117 Na (by kernel_rfl) (by kernel_rfl)
theorem QC:vp L Tryz.f118 AP.f46=some (AP.f46.body,AP.f46.res):=by kernel_rfl
theorem RC:Fits (118,46):=vm Tryz.func118 QC (by kernel_rfl) (by kernel_rfl)
theorem QD:vp L Tryz.f119 AP.f47=some (AP.f47.body,AP.f47.res):=by kernel_rfl
theorem RD:Fits (119,47):=vm Tryz.func119 QD (by kernel_rfl) (by kernel_rfl)
theorem QE:vp L Tryz.f120 AP.f48=some (AP.f48.body,AP.f48.res):=by kernel_rfl
theorem RF:Fits (120,48):=vm Tryz.func120 QE (by kernel_rfl) (by kernel_rfl)
theorem QF:vp L Tryz.f121 AP.f49=some (AP.f49.body,AP.f49.res):=by kernel_rfl
theorem RG:Fits (121,49):=vm Tryz.func121 QF (by kernel_rfl) (by kernel_rfl)
theorem QG:vp L Tryz.f122 AP.f50=some (AP.f50.body,AP.f50.res):=by kernel_rfl
theorem RH:Fits (122,50):=vm Tryz.func122 QG (by kernel_rfl) (by kernel_rfl)
theorem QH:vp L Tryz.f123 AP.f51=some (AP.f51.body,AP.f51.res):=by kernel_rfl
theorem RI:Fits (123,51):=vm Tryz.func123 QH (by kernel_rfl) (by kernel_rfl)
theorem Qt:vp L Tryz.f124 AP.f32=some (AP.f32.body,AP.f32.res):=by kernel_rfl
theorem Rr:Fits (124,32):=vm Tryz.func124 Qt (by kernel_rfl) (by kernel_rfl)
theorem QI:vp L Tryz.f125 AP.f52=some (AP.f52.body,AP.f52.res):=by kernel_rfl
theorem RJ:Fits (125,52):=vm Tryz.func125 QI (by kernel_rfl) (by kernel_rfl)
theorem QJ:vp L Tryz.f126 AP.f53=some (AP.f53.body,AP.f53.res):=by kernel_rfl
theorem RK:Fits (126,53):=vm Tryz.func126 QJ (by kernel_rfl) (by kernel_rfl)
theorem QK:vp L Tryz.f127 AP.f54=some (AP.f54.body,AP.f54.res):=by kernel_rfl
theorem RL:Fits (127,54):=vm Tryz.func127 QK (by kernel_rfl) (by kernel_rfl)
theorem Mt:vp L Tryz.f128 AP.f192=some (AP.f192.body,AP.f192.res):=by kernel_rfl
theorem Oo:Fits (128,192):=vm Tryz.func128 Mt (by kernel_rfl) (by kernel_rfl)
theorem LO:vp L Tryz.f129 AP.f125=some (AP.f125.body,AP.f125.res):=by kernel_rfl
theorem NL:Fits (129,125):=vm Tryz.func129 LO (by kernel_rfl) (by kernel_rfl)
theorem LP:vp L Tryz.f130 AP.f126=some (AP.f126.body,AP.f126.res):=by kernel_rfl
theorem NM:Fits (130,126):=vm Tryz.func130 LP (by kernel_rfl) (by kernel_rfl)
theorem LQ:vp L Tryz.f131 AP.f127=some (AP.f127.body,AP.f127.res):=by kernel_rfl
theorem NN:Fits (131,127):=vm Tryz.func131 LQ (by kernel_rfl) (by kernel_rfl)
theorem LR:vp L Tryz.f132 AP.f128=some (AP.f128.body,AP.f128.res):=by kernel_rfl
theorem NO:Fits (132,128):=vm Tryz.func132 LR (by kernel_rfl) (by kernel_rfl)
theorem LS:vp L Tryz.f133 AP.f129=some (AP.f129.body,AP.f129.res):=by kernel_rfl
theorem NP:Fits (133,129):=vm Tryz.func133 LS (by kernel_rfl) (by kernel_rfl)
theorem LU:vp L Tryz.f134 AP.f130=some (AP.f130.body,AP.f130.res):=by kernel_rfl
theorem NQ:Fits (134,130):=vm Tryz.func134 LU (by kernel_rfl) (by kernel_rfl)
theorem LV:vp L Tryz.f135 AP.f131=some (AP.f131.body,AP.f131.res):=by kernel_rfl
theorem NR:Fits (135,131):=vm Tryz.func135 LV (by kernel_rfl) (by kernel_rfl)
theorem LL:vp L Tryz.f136 AP.f122=some (AP.f122.body,AP.f122.res):=by kernel_rfl
theorem NI:Fits (136,122):=vm Tryz.func136 LL (by kernel_rfl) (by kernel_rfl)
theorem SK:vp L Tryz.f137 AP.f7=some (AP.f7.body,AP.f7.res):=by kernel_rfl
theorem SN:Fits (137,7):=vm Tryz.func137 SK (by kernel_rfl) (by kernel_rfl)
theorem Mq:vp L Tryz.f138 AP.f189=some (AP.f189.body,AP.f189.res):=by kernel_rfl
theorem Ol:Fits (138,189):=vm Tryz.func138 Mq (by kernel_rfl) (by kernel_rfl)
theorem Nb:vp L Tryz.f139 AP.f315=some (AP.f315.body,AP.f315.res):=by kernel_rfl
theorem Pc:Fits (139,315):=vm Tryz.func139 Nb (by kernel_rfl) (by kernel_rfl)
theorem QU:vp L Tryz.f140 AP.f67=some (AP.f67.body,AP.f67.res):=by kernel_rfl
theorem RX:Fits (140,67):=vm Tryz.func140 QU (by kernel_rfl) (by kernel_rfl)
theorem QV:vp L Tryz.f141 AP.f68=some (AP.f68.body,AP.f68.res):=by kernel_rfl
theorem RY:Fits (141,68):=vm Tryz.func141 QV (by kernel_rfl) (by kernel_rfl)
theorem LW:vp L Tryz.f142 AP.f132=some (AP.f132.body,AP.f132.res):=by kernel_rfl
theorem NS:Fits (142,132):=vm Tryz.func142 LW (by kernel_rfl) (by kernel_rfl)
theorem LX:vp L Tryz.f143 AP.f133=some (AP.f133.body,AP.f133.res):=by kernel_rfl
theorem NT:Fits (143,133):=vm Tryz.func143 LX (by kernel_rfl) (by kernel_rfl)
theorem LY:vp L Tryz.f144 AP.f134=some (AP.f134.body,AP.f134.res):=by kernel_rfl
theorem NU:Fits (144,134):=vm Tryz.func144 LY (by kernel_rfl) (by kernel_rfl)
theorem LZ:vp L Tryz.f145 AP.f135=some (AP.f135.body,AP.f135.res):=by kernel_rfl
theorem NV:Fits (145,135):=vm Tryz.func145 LZ (by kernel_rfl) (by kernel_rfl)
theorem Qh:vp L Tryz.f146 AP.f14=some (AP.f14.body,AP.f14.res):=by kernel_rfl
theorem Rf:Fits (146,14):=vm Tryz.func146 Qh (by kernel_rfl) (by kernel_rfl)
theorem Qi:vp L Tryz.f147 AP.f15=some (AP.f15.body,AP.f15.res):=by kernel_rfl
theorem Rg:Fits (147,15):=vm Tryz.func147 Qi (by kernel_rfl) (by kernel_rfl)
theorem Qj:vp L Tryz.f148 AP.f16=some (AP.f16.body,AP.f16.res):=by kernel_rfl
theorem Rh:Fits (148,16):=vm Tryz.func148 Qj (by kernel_rfl) (by kernel_rfl)
theorem Qk:vp L Tryz.f149 AP.f17=some (AP.f17.body,AP.f17.res):=by kernel_rfl
theorem Ri:Fits (149,17):=vm Tryz.func149 Qk (by kernel_rfl) (by kernel_rfl)
theorem L3:vp L Tryz.f152 AP.f138=some (AP.f138.body,AP.f138.res):=by kernel_rfl
theorem NY:Fits (152,138):=vm Tryz.func152 L3 (by kernel_rfl) (by kernel_rfl)
theorem Qu:vp L Tryz.f153 AP.f38=some (AP.f38.body,AP.f38.res):=by kernel_rfl
theorem Rt:Fits (153,38):=vm Tryz.func153 Qu (by kernel_rfl) (by kernel_rfl)
theorem Qv:vp L Tryz.f154 AP.f39=some (AP.f39.body,AP.f39.res):=by kernel_rfl
theorem Ru:Fits (154,39):=vm Tryz.func154 Qv (by kernel_rfl) (by kernel_rfl)
theorem Qw:vp L Tryz.f155 AP.f40=some (AP.f40.body,AP.f40.res):=by kernel_rfl
theorem Rv:Fits (155,40):=vm Tryz.func155 Qw (by kernel_rfl) (by kernel_rfl)
theorem Qx:vp L Tryz.f156 AP.f41=some (AP.f41.body,AP.f41.res):=by kernel_rfl
theorem Rw:Fits (156,41):=vm Tryz.func156 Qx (by kernel_rfl) (by kernel_rfl)
theorem Qy:vp L Tryz.f157 AP.f42=some (AP.f42.body,AP.f42.res):=by kernel_rfl
theorem Rx:Fits (157,42):=vm Tryz.func157 Qy (by kernel_rfl) (by kernel_rfl)
theorem Qz:vp L Tryz.f158 AP.f43=some (AP.f43.body,AP.f43.res):=by kernel_rfl
theorem Ry:Fits (158,43):=vm Tryz.func158 Qz (by kernel_rfl) (by kernel_rfl)
theorem QA:vp L Tryz.f159 AP.f44=some (AP.f44.body,AP.f44.res):=by kernel_rfl
theorem Rz:Fits (159,44):=vm Tryz.func159 QA (by kernel_rfl) (by kernel_rfl)
theorem QB:vp L Tryz.f160 AP.f45=some (AP.f45.body,AP.f45.res):=by kernel_rfl
theorem RA:Fits (160,45):=vm Tryz.func160 QB (by kernel_rfl) (by kernel_rfl)
theorem L4:vp L Tryz.f161 AP.f139=some (AP.f139.body,AP.f139.res):=by kernel_rfl
theorem NZ:Fits (161,139):=vm Tryz.func161 L4 (by kernel_rfl) (by kernel_rfl)
theorem L5:vp L Tryz.f162 AP.f140=some (AP.f140.body,AP.f140.res):=by kernel_rfl
theorem N0:Fits (162,140):=vm Tryz.func162 L5 (by kernel_rfl) (by kernel_rfl)
theorem L6:vp L Tryz.f163 AP.f141=some (AP.f141.body,AP.f141.res):=by kernel_rfl
theorem N1:Fits (163,141):=vm Tryz.func163 L6 (by kernel_rfl) (by kernel_rfl)
theorem QL:vp L Tryz.f165 AP.f58=some (AP.f58.body,AP.f58.res):=by kernel_rfl
theorem RM:Fits (165,58):=vm Tryz.func165 QL (by kernel_rfl) (by kernel_rfl)
theorem QM:vp L Tryz.f166 AP.f59=some (AP.f59.body,AP.f59.res):=by kernel_rfl
theorem RN:Fits (166,59):=vm Tryz.func166 QM (by kernel_rfl) (by kernel_rfl)
theorem QN:vp L Tryz.f167 AP.f60=some (AP.f60.body,AP.f60.res):=by kernel_rfl
theorem RP:Fits (167,60):=vm Tryz.func167 QN (by kernel_rfl) (by kernel_rfl)
theorem QO:vp L Tryz.f168 AP.f61=some (AP.f61.body,AP.f61.res):=by kernel_rfl
theorem RQ:Fits (168,61):=vm Tryz.func168 QO (by kernel_rfl) (by kernel_rfl)
theorem QP:vp L Tryz.f169 AP.f62=some (AP.f62.body,AP.f62.res):=by kernel_rfl
theorem RR:Fits (169,62):=vm Tryz.func169 QP (by kernel_rfl) (by kernel_rfl)
theorem QQ:vp L Tryz.f170 AP.f63=some (AP.f63.body,AP.f63.res):=by kernel_rfl
theorem RS:Fits (170,63):=vm Tryz.func170 QQ (by kernel_rfl) (by kernel_rfl)
theorem QR:vp L Tryz.f171 AP.f64=some (AP.f64.body,AP.f64.res):=by kernel_rfl
theorem RT:Fits (171,64):=vm Tryz.func171 QR (by kernel_rfl) (by kernel_rfl)
theorem QS:vp L Tryz.f172 AP.f65=some (AP.f65.body,AP.f65.res):=by kernel_rfl
theorem RU:Fits (172,65):=vm Tryz.func172 QS (by kernel_rfl) (by kernel_rfl)
theorem QT:vp L Tryz.f173 AP.f66=some (AP.f66.body,AP.f66.res):=by kernel_rfl
theorem RW:Fits (173,66):=vm Tryz.func173 QT (by kernel_rfl) (by kernel_rfl)
theorem QW:vp L Tryz.f175 AP.f72=some (AP.f72.body,AP.f72.res):=by kernel_rfl
theorem RZ:Fits (175,72):=vm Tryz.func175 QW (by kernel_rfl) (by kernel_rfl)
theorem QX:vp L Tryz.f176 AP.f73=some (AP.f73.body,AP.f73.res):=by kernel_rfl
theorem R0:Fits (176,73):=vm Tryz.func176 QX (by kernel_rfl) (by kernel_rfl)
theorem QY:vp L Tryz.f177 AP.f74=some (AP.f74.body,AP.f74.res):=by kernel_rfl
theorem R1:Fits (177,74):=vm Tryz.func177 QY (by kernel_rfl) (by kernel_rfl)
theorem QZ:vp L Tryz.f178 AP.f75=some (AP.f75.body,AP.f75.res):=by kernel_rfl
theorem R2:Fits (178,75):=vm Tryz.func178 QZ (by kernel_rfl) (by kernel_rfl)
theorem Q0:vp L Tryz.f179 AP.f76=some (AP.f76.body,AP.f76.res):=by kernel_rfl
theorem R3:Fits (179,76):=vm Tryz.func179 Q0 (by kernel_rfl) (by kernel_rfl)
theorem Q1:vp L Tryz.f180 AP.f77=some (AP.f77.body,AP.f77.res):=by kernel_rfl
theorem R4:Fits (180,77):=vm Tryz.func180 Q1 (by kernel_rfl) (by kernel_rfl)
theorem Q2:vp L Tryz.f181 AP.f78=some (AP.f78.body,AP.f78.res):=by kernel_rfl
theorem R5:Fits (181,78):=vm Tryz.func181 Q2 (by kernel_rfl) (by kernel_rfl)
theorem Q3:vp L Tryz.f182 AP.f79=some (AP.f79.body,AP.f79.res):=by kernel_rfl
theorem R6:Fits (182,79):=vm Tryz.func182 Q3 (by kernel_rfl) (by kernel_rfl)
theorem Q4:vp L Tryz.f183 AP.f80=some (AP.f80.body,AP.f80.res):=by kernel_rfl
theorem R7:Fits (183,80):=vm Tryz.func183 Q4 (by kernel_rfl) (by kernel_rfl)
theorem Q5:vp L Tryz.f184 AP.f81=some (AP.f81.body,AP.f81.res):=by kernel_rfl
theorem R8:Fits (184,81):=vm Tryz.func184 Q5 (by kernel_rfl) (by kernel_rfl)
theorem Q6:vp L Tryz.f186 AP.f82=some (AP.f82.body,AP.f82.res):=by kernel_rfl
theorem R9:Fits (186,82):=vm Tryz.func186 Q6 (by kernel_rfl) (by kernel_rfl)
theorem NW:Fits (150,136):=⟨Tryz.f150,_,Tryz.func150,rfl,by kernel_rfl,fun af h=>by rw[show AP.A 136=none by kernel_rfl]at h;cases h⟩
theorem NX:Fits (151,137):=⟨Tryz.f151,_,Tryz.func151,rfl,by kernel_rfl,fun af h=>by rw[show AP.A 137=none by kernel_rfl]at h;cases h⟩
theorem N2:Fits (174,143):=⟨Tryz.f174,_,Tryz.func174,rfl,by kernel_rfl,fun af h=>by rw[show AP.A 143=none by kernel_rfl]at h;cases h⟩
theorem SG:∀p∈Tb,Fits p:=vi OA (vi OG (vi Ou (vi OD (vi SP (vi OE (vi Oq (vi Ox (vi N5 (vi Nu (vi OI (vi OB (vi Sg (vi OH (vi Ow (vi Oy (vi Oz (vi N3 (vi Oa (vi NG (vi Od (vi OC (vi OW (vi Ov (vi Ot (vi N8 (vi Oe (vi Np (vi N6 (vi N4 (vi Of (vi Sc (vi Oc (vi Se (vi Nt (vi Sa (vi OJ (vi OK (vi NC (vi Og (vi OL (vi OM (vi OP (vi OQ (vi OR (vi OS (vi Sf (vi OT (vi OU (vi Oj (vi OY (vi OZ (vi O0 (vi O1 (vi Nx (vi N9 (vi N7 (vi SO (vi Oi (vi Ok (vi Nq (vi Nr (vi Ns (vi NB (vi Sb (vi NJ (vi NF (vi NH (vi OX (vi Nv (vi On (vi Ob (vi O3 (vi O5 (vi O6 (vi Rj (vi Rk (vi Rl (vi Rm (vi Rn (vi Ro (vi Rp (vi Rq (vi Om (vi Ny (vi NK (vi Nz (vi NA (vi Oh (vi ND (vi Nw (vi O8 (vi O9 (vi Pa (vi Pb (vi RC (vi RD (vi RF (vi RG (vi RH (vi RI (vi Rr (vi RJ (vi RK (vi RL (vi Oo (vi NL (vi NM (vi NN (vi NO (vi NP (vi NQ (vi NR (vi NI (vi SN (vi Ol (vi Pc (vi RX (vi RY (vi NS (vi NT (vi NU (vi NV (vi Rf (vi Rg (vi Rh (vi Ri (vi NY (vi Rt (vi Ru (vi Rv (vi Rw (vi Rx (vi Ry (vi Rz (vi RA (vi NZ (vi N0 (vi N1 (vi RM (vi RN (vi RP (vi RQ (vi RR (vi RS (vi RT (vi RU (vi RW (vi RZ (vi R0 (vi R1 (vi R2 (vi R3 (vi R4 (vi R5 (vi R6 (vi R7 (vi R8 (vi R9 (vi NW (vi NX (vi N2 (HN))))))))))))))))))))))))))))))))))))))))))))))))))))))))))))))))))))))))))))))))))))))))))))))))))))))))))))))))))))))))))))))))))))))))))))))))))))))))))))))))))
theorem Su:∀t k,L.ta t=some k→rG L.P t∧∀T,L.mt T=k→T=t:=fun _ k h=>by cases (show(none:Option Nat)=some k from h)
theorem lk:eL L AP.A:=⟨by kernel_rfl,fun fid f h=>SG (fid,f) (C7 h),(fun _ _ _ _ h=>by cases h),Su⟩
end Ab.Ln
