/- Part K1. -/
import Derived.Test.YtcapkjggnnakfaaGreatDoorProg
import Derived.KernelRfl
import Derived.Test.YtcapkjggnnakfaaGreatDoorAP
set_option maxRecDepth 100000
namespace Ab.Ln
open Go Go.Proofs Ab
def vg (L:Lk) (fn:Func) (af:fh):Option (aF×List RV):=fn.body.bind fun c=>(comp L fn.ntmps c af.body).bind fun x=>(cT L fn.results.toList).bind fun r=>some (x,r)
def Fits (p : Nat × Nat) : Prop := ∃ fn c, L.P.funcs[p.1]? = some fn ∧ fn.body = some c ∧ (fn.name == "runtime.NumGoroutine") = false ∧
    ∀af,AP.A p.2=some af→(∃x0,comp L fn.ntmps c x0=some af.body)∧cT L fn.results.toList=some af.res
theorem u6 {k a : Nat} {fn : Func} {af : fh} (h1 : L.P.funcs[k]? = some fn) (h2 : vg L fn af = some (af.body, af.res)) (h3 : (fn.name == "runtime.NumGoroutine") = false) (h4 : AP.A a = some af) : Fits (k, a) := by
 unfold vg at h2
 simp only[uu]at h2
 obtain⟨c,g1,x,g2,r,g3,g4⟩:=h2
 obtain⟨rfl,rfl⟩:=ux (uv g4)
 refine⟨fn,c,h1,g1,h3,fun af2 g5=> ?_⟩
 rw[h4]at g5
 obtain rfl:=uv g5
 exact⟨⟨_,g2⟩,g3⟩
theorem Dt:∀{l:List (Nat×Nat)} {k f:Nat},Ds l k=some f→(k,f)∈l
 |[],_,_,h=>by cases h
 | (i, g) :: r, k, f, h => by
   unfold Ds at h
   split at h
   · rename_i e;subst e;obtain rfl:=uv h;exact List.mem_cons_self
   · exact List.mem_cons_of_mem _ (Dt h)
theorem HY:∀p∈([]:List (Nat×Nat)),Fits p:=fun p h=>by cases h
theorem u3 {p:Nat×Nat} {l:List (Nat×Nat)} (h1:Fits p) (h2:∀q∈l,Fits q):∀q∈p::l,Fits q:=fun q h=>by
 rcases uW.1 h with rfl|h
 · exact h1
 · exact h2 q h
theorem ML:vg L Tryz.f11 AP.f225=some (AP.f225.body,AP.f225.res):=by kernel_rfl
theorem OP:Fits (11,225):=u6 Tryz.func11 ML (by kernel_rfl) (by kernel_rfl)
theorem S8:vg L Tryz.f19 AP.f9=some (AP.f9.body,AP.f9.res):=by kernel_rfl
theorem Tb:Fits (19,9):=u6 Tryz.func19 S8 (by kernel_rfl) (by kernel_rfl)
theorem MM:vg L Tryz.f20 AP.f232=some (AP.f232.body,AP.f232.res):=by kernel_rfl
theorem OQ:Fits (20,232):=u6 Tryz.func20 MM (by kernel_rfl) (by kernel_rfl)
theorem MN:vg L Tryz.f21 AP.f233=some (AP.f233.body,AP.f233.res):=by kernel_rfl
theorem OR:Fits (21,233):=u6 Tryz.func21 MN (by kernel_rfl) (by kernel_rfl)
theorem Lx:vg L Tryz.f26 AP.f101=some (AP.f101.body,AP.f101.res):=by kernel_rfl
theorem Nx:Fits (26,101):=u6 Tryz.func26 Lx (by kernel_rfl) (by kernel_rfl)
theorem MO:vg L Tryz.f28 AP.f238=some (AP.f238.body,AP.f238.res):=by kernel_rfl
theorem OS:Fits (28,238):=u6 Tryz.func28 MO (by kernel_rfl) (by kernel_rfl)
theorem MP:vg L Tryz.f30 AP.f240=some (AP.f240.body,AP.f240.res):=by kernel_rfl
theorem OT:Fits (30,240):=u6 Tryz.func30 MP (by kernel_rfl) (by kernel_rfl)
theorem MQ:vg L Tryz.f33 AP.f242=some (AP.f242.body,AP.f242.res):=by kernel_rfl
theorem OU:Fits (33,242):=u6 Tryz.func33 MQ (by kernel_rfl) (by kernel_rfl)
theorem MG:vg L Tryz.f34 AP.f205=some (AP.f205.body,AP.f205.res):=by kernel_rfl
theorem OI:Fits (34,205):=u6 Tryz.func34 MG (by kernel_rfl) (by kernel_rfl)
theorem MR:vg L Tryz.f38 AP.f246=some (AP.f246.body,AP.f246.res):=by kernel_rfl
theorem OW:Fits (38,246):=u6 Tryz.func38 MR (by kernel_rfl) (by kernel_rfl)
theorem MD:vg L Tryz.f39 AP.f197=some (AP.f197.body,AP.f197.res):=by kernel_rfl
theorem OE:Fits (39,197):=u6 Tryz.func39 MD (by kernel_rfl) (by kernel_rfl)
theorem ME:vg L Tryz.f40 AP.f199=some (AP.f199.body,AP.f199.res):=by kernel_rfl
theorem OG:Fits (40,199):=u6 Tryz.func40 ME (by kernel_rfl) (by kernel_rfl)
theorem LC:vg L Tryz.f43 AP.f106=some (AP.f106.body,AP.f106.res):=by kernel_rfl
theorem NC:Fits (43,106):=u6 Tryz.func43 LC (by kernel_rfl) (by kernel_rfl)
theorem MS:vg L Tryz.f44 AP.f247=some (AP.f247.body,AP.f247.res):=by kernel_rfl
theorem OX:Fits (44,247):=u6 Tryz.func44 MS (by kernel_rfl) (by kernel_rfl)
theorem Rp:vg L Tryz.f45 AP.f98=some (AP.f98.body,AP.f98.res):=by kernel_rfl
theorem Sr:Fits (45,98):=u6 Tryz.func45 Rp (by kernel_rfl) (by kernel_rfl)
theorem LK:vg L Tryz.f55 AP.f115=some (AP.f115.body,AP.f115.res):=by kernel_rfl
theorem NK:Fits (55,115):=u6 Tryz.func55 LK (by kernel_rfl) (by kernel_rfl)
theorem Mg:vg L Tryz.f57 AP.f161=some (AP.f161.body,AP.f161.res):=by kernel_rfl
theorem Of:Fits (57,161):=u6 Tryz.func57 Mg (by kernel_rfl) (by kernel_rfl)
theorem Ms:vg L Tryz.f65 AP.f182=some (AP.f182.body,AP.f182.res):=by kernel_rfl
theorem Ot:Fits (65,182):=u6 Tryz.func65 Ms (by kernel_rfl) (by kernel_rfl)
theorem MI:vg L Tryz.f66 AP.f207=some (AP.f207.body,AP.f207.res):=by kernel_rfl
theorem OK:Fits (66,207):=u6 Tryz.func66 MI (by kernel_rfl) (by kernel_rfl)
theorem LO:vg L Tryz.f67 AP.f120=some (AP.f120.body,AP.f120.res):=by kernel_rfl
theorem NO:Fits (67,120):=u6 Tryz.func67 LO (by kernel_rfl) (by kernel_rfl)
theorem LB:vg L Tryz.f68 AP.f105=some (AP.f105.body,AP.f105.res):=by kernel_rfl
theorem NB:Fits (68,105):=u6 Tryz.func68 LB (by kernel_rfl) (by kernel_rfl)
theorem Rk:vg L Tryz.f69 AP.f83=some (AP.f83.body,AP.f83.res):=by kernel_rfl
theorem Sm:Fits (69,83):=u6 Tryz.func69 Rk (by kernel_rfl) (by kernel_rfl)
theorem MT:vg L Tryz.f70 AP.f261=some (AP.f261.body,AP.f261.res):=by kernel_rfl
theorem OY:Fits (70,261):=u6 Tryz.func70 MT (by kernel_rfl) (by kernel_rfl)
theorem MU:vg L Tryz.f71 AP.f262=some (AP.f262.body,AP.f262.res):=by kernel_rfl
theorem OZ:Fits (71,262):=u6 Tryz.func71 MU (by kernel_rfl) (by kernel_rfl)
theorem LL:vg L Tryz.f72 AP.f117=some (AP.f117.body,AP.f117.res):=by kernel_rfl
theorem NL:Fits (72,117):=u6 Tryz.func72 LL (by kernel_rfl) (by kernel_rfl)
theorem Mu:vg L Tryz.f73 AP.f184=some (AP.f184.body,AP.f184.res):=by kernel_rfl
theorem Ov:Fits (73,184):=u6 Tryz.func73 Mu (by kernel_rfl) (by kernel_rfl)
theorem MV:vg L Tryz.f74 AP.f263=some (AP.f263.body,AP.f263.res):=by kernel_rfl
theorem O0:Fits (74,263):=u6 Tryz.func74 MV (by kernel_rfl) (by kernel_rfl)
theorem MW:vg L Tryz.f75 AP.f264=some (AP.f264.body,AP.f264.res):=by kernel_rfl
theorem O1:Fits (75,264):=u6 Tryz.func75 MW (by kernel_rfl) (by kernel_rfl)
theorem MX:vg L Tryz.f76 AP.f265=some (AP.f265.body,AP.f265.res):=by kernel_rfl
theorem O3:Fits (76,265):=u6 Tryz.func76 MX (by kernel_rfl) (by kernel_rfl)
theorem MY:vg L Tryz.f77 AP.f266=some (AP.f266.body,AP.f266.res):=by kernel_rfl
theorem O6:Fits (77,266):=u6 Tryz.func77 MY (by kernel_rfl) (by kernel_rfl)
theorem MZ:vg L Tryz.f78 AP.f267=some (AP.f267.body,AP.f267.res):=by kernel_rfl
theorem O8:Fits (78,267):=u6 Tryz.func78 MZ (by kernel_rfl) (by kernel_rfl)
theorem M4:vg L Tryz.f79 AP.f268=some (AP.f268.body,AP.f268.res):=by kernel_rfl
theorem O9:Fits (79,268):=u6 Tryz.func79 M4 (by kernel_rfl) (by kernel_rfl)
theorem Ro:vg L Tryz.f80 AP.f96=some (AP.f96.body,AP.f96.res):=by kernel_rfl
theorem Sq:Fits (80,96):=u6 Tryz.func80 Ro (by kernel_rfl) (by kernel_rfl)
theorem M5:vg L Tryz.f81 AP.f269=some (AP.f269.body,AP.f269.res):=by kernel_rfl
theorem Pa:Fits (81,269):=u6 Tryz.func81 M5 (by kernel_rfl) (by kernel_rfl)
theorem M6:vg L Tryz.f82 AP.f270=some (AP.f270.body,AP.f270.res):=by kernel_rfl
theorem Pb:Fits (82,270):=u6 Tryz.func82 M6 (by kernel_rfl) (by kernel_rfl)
theorem Mx:vg L Tryz.f83 AP.f187=some (AP.f187.body,AP.f187.res):=by kernel_rfl
theorem Oy:Fits (83,187):=u6 Tryz.func83 Mx (by kernel_rfl) (by kernel_rfl)
theorem Mh:vg L Tryz.f85 AP.f162=some (AP.f162.body,AP.f162.res):=by kernel_rfl
theorem Og:Fits (85,162):=u6 Tryz.func85 Mh (by kernel_rfl) (by kernel_rfl)
theorem MH:vg L Tryz.f86 AP.f206=some (AP.f206.body,AP.f206.res):=by kernel_rfl
theorem OJ:Fits (86,206):=u6 Tryz.func86 MH (by kernel_rfl) (by kernel_rfl)
theorem LG:vg L Tryz.f93 AP.f111=some (AP.f111.body,AP.f111.res):=by kernel_rfl
theorem NG:Fits (93,111):=u6 Tryz.func93 LG (by kernel_rfl) (by kernel_rfl)
theorem Mo:vg L Tryz.f94 AP.f177=some (AP.f177.body,AP.f177.res):=by kernel_rfl
theorem Om:Fits (94,177):=u6 Tryz.func94 Mo (by kernel_rfl) (by kernel_rfl)
theorem Mr:vg L Tryz.f95 AP.f181=some (AP.f181.body,AP.f181.res):=by kernel_rfl
theorem Oq:Fits (95,181):=u6 Tryz.func95 Mr (by kernel_rfl) (by kernel_rfl)
theorem M7:vg L Tryz.f97 AP.f277=some (AP.f277.body,AP.f277.res):=by kernel_rfl
theorem Pc:Fits (97,277):=u6 Tryz.func97 M7 (by kernel_rfl) (by kernel_rfl)
theorem MJ:vg L Tryz.f100 AP.f212=some (AP.f212.body,AP.f212.res):=by kernel_rfl
theorem OL:Fits (100,212):=u6 Tryz.func100 MJ (by kernel_rfl) (by kernel_rfl)
theorem MK:vg L Tryz.f101 AP.f213=some (AP.f213.body,AP.f213.res):=by kernel_rfl
theorem OM:Fits (101,213):=u6 Tryz.func101 MK (by kernel_rfl) (by kernel_rfl)
theorem Me:vg L Tryz.f102 AP.f157=some (AP.f157.body,AP.f157.res):=by kernel_rfl
theorem Od:Fits (102,157):=u6 Tryz.func102 Me (by kernel_rfl) (by kernel_rfl)
theorem MF:vg L Tryz.f111 AP.f200=some (AP.f200.body,AP.f200.res):=by kernel_rfl
theorem OH:Fits (111,200):=u6 Tryz.func111 MF (by kernel_rfl) (by kernel_rfl)
theorem Mc:vg L Tryz.f112 AP.f151=some (AP.f151.body,AP.f151.res):=by kernel_rfl
theorem Ob:Fits (112,151):=u6 Tryz.func112 Mc (by kernel_rfl) (by kernel_rfl)
theorem Md:vg L Tryz.f113 AP.f152=some (AP.f152.body,AP.f152.res):=by kernel_rfl
theorem Oc:Fits (113,152):=u6 Tryz.func113 Md (by kernel_rfl) (by kernel_rfl)
theorem Ml:vg L Tryz.f114 AP.f172=some (AP.f172.body,AP.f172.res):=by kernel_rfl
theorem Ok:Fits (114,172):=u6 Tryz.func114 Ml (by kernel_rfl) (by kernel_rfl)
theorem Mn:vg L Tryz.f115 AP.f173=some (AP.f173.body,AP.f173.res):=by kernel_rfl
theorem Ol:Fits (115,173):=u6 Tryz.func115 Mn (by kernel_rfl) (by kernel_rfl)
theorem LA:vg L Tryz.f120 AP.f104=some (AP.f104.body,AP.f104.res):=by kernel_rfl
theorem NA:Fits (120,104):=u6 Tryz.func120 LA (by kernel_rfl) (by kernel_rfl)
theorem LI:vg L Tryz.f121 AP.f113=some (AP.f113.body,AP.f113.res):=by kernel_rfl
theorem NI:Fits (121,113):=u6 Tryz.func121 LI (by kernel_rfl) (by kernel_rfl)
theorem MC:vg L Tryz.f122 AP.f192=some (AP.f192.body,AP.f192.res):=by kernel_rfl
theorem OD:Fits (122,192):=u6 Tryz.func122 MC (by kernel_rfl) (by kernel_rfl)
theorem Lz:vg L Tryz.f128 AP.f103=some (AP.f103.body,AP.f103.res):=by kernel_rfl
theorem Nz:Fits (128,103):=u6 Tryz.func128 Lz (by kernel_rfl) (by kernel_rfl)
theorem Mf:vg L Tryz.f129 AP.f160=some (AP.f160.body,AP.f160.res):=by kernel_rfl
theorem Oe:Fits (129,160):=u6 Tryz.func129 Mf (by kernel_rfl) (by kernel_rfl)
theorem Rl:vg L Tryz.f141 AP.f84=some (AP.f84.body,AP.f84.res):=by kernel_rfl
theorem Sn:Fits (141,84):=u6 Tryz.func141 Rl (by kernel_rfl) (by kernel_rfl)
theorem LR:vg L Tryz.f142 AP.f123=some (AP.f123.body,AP.f123.res):=by kernel_rfl
theorem NR:Fits (142,123):=u6 Tryz.func142 LR (by kernel_rfl) (by kernel_rfl)
theorem LN:vg L Tryz.f143 AP.f119=some (AP.f119.body,AP.f119.res):=by kernel_rfl
theorem NN:Fits (143,119):=u6 Tryz.func143 LN (by kernel_rfl) (by kernel_rfl)
theorem LP:vg L Tryz.f144 AP.f121=some (AP.f121.body,AP.f121.res):=by kernel_rfl
theorem NP:Fits (144,121):=u6 Tryz.func144 LP (by kernel_rfl) (by kernel_rfl)
theorem M8:vg L Tryz.f145 AP.f299=some (AP.f299.body,AP.f299.res):=by kernel_rfl
theorem Pd:Fits (145,299):=u6 Tryz.func145 M8 (by kernel_rfl) (by kernel_rfl)
theorem LD:vg L Tryz.f146 AP.f107=some (AP.f107.body,AP.f107.res):=by kernel_rfl
theorem ND:Fits (146,107):=u6 Tryz.func146 LD (by kernel_rfl) (by kernel_rfl)
theorem MB:vg L Tryz.f147 AP.f191=some (AP.f191.body,AP.f191.res):=by kernel_rfl
theorem OC:Fits (147,191):=u6 Tryz.func147 MB (by kernel_rfl) (by kernel_rfl)
theorem Mt:vg L Tryz.f148 AP.f183=some (AP.f183.body,AP.f183.res):=by kernel_rfl
theorem Ou:Fits (148,183):=u6 Tryz.func148 Mt (by kernel_rfl) (by kernel_rfl)
theorem Rm:vg L Tryz.f149 AP.f91=some (AP.f91.body,AP.f91.res):=by kernel_rfl
theorem So:Fits (149,91):=u6 Tryz.func149 Rm (by kernel_rfl) (by kernel_rfl)
theorem Mq:vg L Tryz.f150 AP.f179=some (AP.f179.body,AP.f179.res):=by kernel_rfl
theorem Oo:Fits (150,179):=u6 Tryz.func150 Mq (by kernel_rfl) (by kernel_rfl)
theorem Rn:vg L Tryz.f151 AP.f93=some (AP.f93.body,AP.f93.res):=by kernel_rfl
theorem Sp:Fits (151,93):=u6 Tryz.func151 Rn (by kernel_rfl) (by kernel_rfl)
theorem M9:vg L Tryz.f152 AP.f300=some (AP.f300.body,AP.f300.res):=by kernel_rfl
theorem Pe:Fits (152,300):=u6 Tryz.func152 M9 (by kernel_rfl) (by kernel_rfl)
theorem Na:vg L Tryz.f153 AP.f301=some (AP.f301.body,AP.f301.res):=by kernel_rfl
theorem Pf:Fits (153,301):=u6 Tryz.func153 Na (by kernel_rfl) (by kernel_rfl)
theorem Nb:vg L Tryz.f154 AP.f302=some (AP.f302.body,AP.f302.res):=by kernel_rfl
theorem Pg:Fits (154,302):=u6 Tryz.func154 Nb (by kernel_rfl) (by kernel_rfl)
theorem Nc:vg L Tryz.f155 AP.f303=some (AP.f303.body,AP.f303.res):=by kernel_rfl
theorem Ph:Fits (155,303):=u6 Tryz.func155 Nc (by kernel_rfl) (by kernel_rfl)
theorem Mj:vg L Tryz.f156 AP.f167=some (AP.f167.body,AP.f167.res):=by kernel_rfl
theorem Oi:Fits (156,167):=u6 Tryz.func156 Mj (by kernel_rfl) (by kernel_rfl)
theorem Mi:vg L Tryz.f157 AP.f164=some (AP.f164.body,AP.f164.res):=by kernel_rfl
theorem Oh:Fits (157,164):=u6 Tryz.func157 Mi (by kernel_rfl) (by kernel_rfl)
theorem LH:vg L Tryz.f160 AP.f112=some (AP.f112.body,AP.f112.res):=by kernel_rfl
theorem NH:Fits (160,112):=u6 Tryz.func160 LH (by kernel_rfl) (by kernel_rfl)
theorem LQ:vg L Tryz.f161 AP.f122=some (AP.f122.body,AP.f122.res):=by kernel_rfl
theorem NQ:Fits (161,122):=u6 Tryz.func161 LQ (by kernel_rfl) (by kernel_rfl)
theorem Ly:vg L Tryz.f162 AP.f102=some (AP.f102.body,AP.f102.res):=by kernel_rfl
theorem Ny:Fits (162,102):=u6 Tryz.func162 Ly (by kernel_rfl) (by kernel_rfl)
theorem Mk:vg L Tryz.f164 AP.f169=some (AP.f169.body,AP.f169.res):=by kernel_rfl
theorem Oj:Fits (164,169):=u6 Tryz.func164 Mk (by kernel_rfl) (by kernel_rfl)
theorem LS:vg L Tryz.f167 AP.f124=some (AP.f124.body,AP.f124.res):=by kernel_rfl
theorem NS:Fits (167,124):=u6 Tryz.func167 LS (by kernel_rfl) (by kernel_rfl)
theorem LJ:vg L Tryz.f168 AP.f114=some (AP.f114.body,AP.f114.res):=by kernel_rfl
theorem NJ:Fits (168,114):=u6 Tryz.func168 LJ (by kernel_rfl) (by kernel_rfl)
theorem Mw:vg L Tryz.f169 AP.f186=some (AP.f186.body,AP.f186.res):=by kernel_rfl
theorem Ox:Fits (169,186):=u6 Tryz.func169 Mw (by kernel_rfl) (by kernel_rfl)
theorem My:vg L Tryz.f170 AP.f188=some (AP.f188.body,AP.f188.res):=by kernel_rfl
theorem Oz:Fits (170,188):=u6 Tryz.func170 My (by kernel_rfl) (by kernel_rfl)
theorem Mp:vg L Tryz.f171 AP.f178=some (AP.f178.body,AP.f178.res):=by kernel_rfl
theorem On:Fits (171,178):=u6 Tryz.func171 Mp (by kernel_rfl) (by kernel_rfl)
theorem Nd:vg L Tryz.f172 AP.f306=some (AP.f306.body,AP.f306.res):=by kernel_rfl
theorem Pj:Fits (172,306):=u6 Tryz.func172 Nd (by kernel_rfl) (by kernel_rfl)
theorem Nf:vg L Tryz.f173 AP.f307=some (AP.f307.body,AP.f307.res):=by kernel_rfl
theorem Pk:Fits (173,307):=u6 Tryz.func173 Nf (by kernel_rfl) (by kernel_rfl)
theorem Ng:vg L Tryz.f174 AP.f308=some (AP.f308.body,AP.f308.res):=by kernel_rfl
theorem Pl:Fits (174,308):=u6 Tryz.func174 Ng (by kernel_rfl) (by kernel_rfl)
theorem S7:vg L Tryz.f175 AP.f8=some (AP.f8.body,AP.f8.res):=by kernel_rfl
theorem Ta:Fits (175,8):=u6 Tryz.func175 S7 (by kernel_rfl) (by kernel_rfl)
theorem LU:vg L Tryz.f182 AP.f125=some (AP.f125.body,AP.f125.res):=by kernel_rfl
theorem NT:Fits (182,125):=u6 Tryz.func182 LU (by kernel_rfl) (by kernel_rfl)
theorem LV:vg L Tryz.f183 AP.f126=some (AP.f126.body,AP.f126.res):=by kernel_rfl
theorem NU:Fits (183,126):=u6 Tryz.func183 LV (by kernel_rfl) (by kernel_rfl)
theorem LW:vg L Tryz.f184 AP.f127=some (AP.f127.body,AP.f127.res):=by kernel_rfl
theorem NV:Fits (184,127):=u6 Tryz.func184 LW (by kernel_rfl) (by kernel_rfl)
theorem LX:vg L Tryz.f185 AP.f128=some (AP.f128.body,AP.f128.res):=by kernel_rfl
theorem NW:Fits (185,128):=u6 Tryz.func185 LX (by kernel_rfl) (by kernel_rfl)
theorem LY:vg L Tryz.f186 AP.f129=some (AP.f129.body,AP.f129.res):=by kernel_rfl
theorem NX:Fits (186,129):=u6 Tryz.func186 LY (by kernel_rfl) (by kernel_rfl)
theorem LZ:vg L Tryz.f187 AP.f130=some (AP.f130.body,AP.f130.res):=by kernel_rfl
theorem NY:Fits (187,130):=u6 Tryz.func187 LZ (by kernel_rfl) (by kernel_rfl)
theorem L3:vg L Tryz.f188 AP.f131=some (AP.f131.body,AP.f131.res):=by kernel_rfl
theorem NZ:Fits (188,131):=u6 Tryz.func188 L3 (by kernel_rfl) (by kernel_rfl)
theorem SZ:vg L Tryz.f189 AP.f7=some (AP.f7.body,AP.f7.res):=by kernel_rfl
theorem S9:Fits (189,7):=u6 Tryz.func189 SZ (by kernel_rfl) (by kernel_rfl)
theorem MA:vg L Tryz.f190 AP.f190=some (AP.f190.body,AP.f190.res):=by kernel_rfl
theorem OB:Fits (190,190):=u6 Tryz.func190 MA (by kernel_rfl) (by kernel_rfl)
theorem Mv:vg L Tryz.f191 AP.f185=some (AP.f185.body,AP.f185.res):=by kernel_rfl
theorem Ow:Fits (191,185):=u6 Tryz.func191 Mv (by kernel_rfl) (by kernel_rfl)
theorem LM:vg L Tryz.f192 AP.f118=some (AP.f118.body,AP.f118.res):=by kernel_rfl
theorem NM:Fits (192,118):=u6 Tryz.func192 LM (by kernel_rfl) (by kernel_rfl)
theorem LF:vg L Tryz.f193 AP.f110=some (AP.f110.body,AP.f110.res):=by kernel_rfl
theorem NF:Fits (193,110):=u6 Tryz.func193 LF (by kernel_rfl) (by kernel_rfl)
theorem Nh:vg L Tryz.f194 AP.f311=some (AP.f311.body,AP.f311.res):=by kernel_rfl
theorem Pm:Fits (194,311):=u6 Tryz.func194 Nh (by kernel_rfl) (by kernel_rfl)
theorem Ni:vg L Tryz.f195 AP.f312=some (AP.f312.body,AP.f312.res):=by kernel_rfl
theorem Pn:Fits (195,312):=u6 Tryz.func195 Ni (by kernel_rfl) (by kernel_rfl)
theorem Nj:vg L Tryz.f196 AP.f313=some (AP.f313.body,AP.f313.res):=by kernel_rfl
theorem Po:Fits (196,313):=u6 Tryz.func196 Nj (by kernel_rfl) (by kernel_rfl)
theorem Nk:vg L Tryz.f197 AP.f314=some (AP.f314.body,AP.f314.res):=by kernel_rfl
theorem Pp:Fits (197,314):=u6 Tryz.func197 Nk (by kernel_rfl) (by kernel_rfl)
theorem Qx:vg L Tryz.f198 AP.f18=some (AP.f18.body,AP.f18.res):=by kernel_rfl
theorem Rw:Fits (198,18):=u6 Tryz.func198 Qx (by kernel_rfl) (by kernel_rfl)
theorem Qy:vg L Tryz.f199 AP.f19=some (AP.f19.body,AP.f19.res):=by kernel_rfl
theorem Rx:Fits (199,19):=u6 Tryz.func199 Qy (by kernel_rfl) (by kernel_rfl)
theorem Qz:vg L Tryz.f200 AP.f20=some (AP.f20.body,AP.f20.res):=by kernel_rfl
theorem Ry:Fits (200,20):=u6 Tryz.func200 Qz (by kernel_rfl) (by kernel_rfl)
theorem QA:vg L Tryz.f201 AP.f21=some (AP.f21.body,AP.f21.res):=by kernel_rfl
theorem Rz:Fits (201,21):=u6 Tryz.func201 QA (by kernel_rfl) (by kernel_rfl)
theorem QB:vg L Tryz.f202 AP.f22=some (AP.f22.body,AP.f22.res):=by kernel_rfl
theorem RA:Fits (202,22):=u6 Tryz.func202 QB (by kernel_rfl) (by kernel_rfl)
theorem QC:vg L Tryz.f203 AP.f23=some (AP.f23.body,AP.f23.res):=by kernel_rfl
theorem RB:Fits (203,23):=u6 Tryz.func203 QC (by kernel_rfl) (by kernel_rfl)
theorem QD:vg L Tryz.f204 AP.f24=some (AP.f24.body,AP.f24.res):=by kernel_rfl
theorem RC:Fits (204,24):=u6 Tryz.func204 QD (by kernel_rfl) (by kernel_rfl)
theorem QE:vg L Tryz.f205 AP.f25=some (AP.f25.body,AP.f25.res):=by kernel_rfl
theorem RD:Fits (205,25):=u6 Tryz.func205 QE (by kernel_rfl) (by kernel_rfl)
theorem QF:vg L Tryz.f217 AP.f32=some (AP.f32.body,AP.f32.res):=by kernel_rfl
theorem RE:Fits (217,32):=u6 Tryz.func217 QF (by kernel_rfl) (by kernel_rfl)
theorem L4:vg L Tryz.f219 AP.f132=some (AP.f132.body,AP.f132.res):=by kernel_rfl
theorem N0:Fits (219,132):=u6 Tryz.func219 L4 (by kernel_rfl) (by kernel_rfl)
theorem L5:vg L Tryz.f220 AP.f133=some (AP.f133.body,AP.f133.res):=by kernel_rfl
theorem N1:Fits (220,133):=u6 Tryz.func220 L5 (by kernel_rfl) (by kernel_rfl)
theorem L6:vg L Tryz.f221 AP.f134=some (AP.f134.body,AP.f134.res):=by kernel_rfl
theorem N2:Fits (221,134):=u6 Tryz.func221 L6 (by kernel_rfl) (by kernel_rfl)
theorem L7:vg L Tryz.f222 AP.f135=some (AP.f135.body,AP.f135.res):=by kernel_rfl
theorem N3:Fits (222,135):=u6 Tryz.func222 L7 (by kernel_rfl) (by kernel_rfl)
theorem Qt:vg L Tryz.f223 AP.f14=some (AP.f14.body,AP.f14.res):=by kernel_rfl
theorem Rr:Fits (223,14):=u6 Tryz.func223 Qt (by kernel_rfl) (by kernel_rfl)
theorem Qu:vg L Tryz.f224 AP.f15=some (AP.f15.body,AP.f15.res):=by kernel_rfl
theorem Rt:Fits (224,15):=u6 Tryz.func224 Qu (by kernel_rfl) (by kernel_rfl)
theorem Qv:vg L Tryz.f225 AP.f16=some (AP.f16.body,AP.f16.res):=by kernel_rfl
theorem Ru:Fits (225,16):=u6 Tryz.func225 Qv (by kernel_rfl) (by kernel_rfl)
theorem Qw:vg L Tryz.f226 AP.f17=some (AP.f17.body,AP.f17.res):=by kernel_rfl
theorem Rv:Fits (226,17):=u6 Tryz.func226 Qw (by kernel_rfl) (by kernel_rfl)
theorem Mz:vg L Tryz.f227 AP.f189=some (AP.f189.body,AP.f189.res):=by kernel_rfl
theorem OA:Fits (227,189):=u6 Tryz.func227 Mz (by kernel_rfl) (by kernel_rfl)
theorem Nl:vg L Tryz.f228 AP.f315=some (AP.f315.body,AP.f315.res):=by kernel_rfl
theorem Pq:Fits (228,315):=u6 Tryz.func228 Nl (by kernel_rfl) (by kernel_rfl)
theorem QO:vg L Tryz.f229 AP.f46=some (AP.f46.body,AP.f46.res):=by kernel_rfl
theorem RN:Fits (229,46):=u6 Tryz.func229 QO (by kernel_rfl) (by kernel_rfl)
theorem QP:vg L Tryz.f230 AP.f47=some (AP.f47.body,AP.f47.res):=by kernel_rfl
theorem RP:Fits (230,47):=u6 Tryz.func230 QP (by kernel_rfl) (by kernel_rfl)
theorem QQ:vg L Tryz.f231 AP.f48=some (AP.f48.body,AP.f48.res):=by kernel_rfl
theorem RQ:Fits (231,48):=u6 Tryz.func231 QQ (by kernel_rfl) (by kernel_rfl)
theorem QR:vg L Tryz.f232 AP.f49=some (AP.f49.body,AP.f49.res):=by kernel_rfl
theorem RR:Fits (232,49):=u6 Tryz.func232 QR (by kernel_rfl) (by kernel_rfl)
theorem QS:vg L Tryz.f233 AP.f50=some (AP.f50.body,AP.f50.res):=by kernel_rfl
theorem RS:Fits (233,50):=u6 Tryz.func233 QS (by kernel_rfl) (by kernel_rfl)
theorem QT:vg L Tryz.f234 AP.f51=some (AP.f51.body,AP.f51.res):=by kernel_rfl
theorem RT:Fits (234,51):=u6 Tryz.func234 QT (by kernel_rfl) (by kernel_rfl)
theorem QU:vg L Tryz.f235 AP.f52=some (AP.f52.body,AP.f52.res):=by kernel_rfl
theorem RU:Fits (235,52):=u6 Tryz.func235 QU (by kernel_rfl) (by kernel_rfl)
theorem QV:vg L Tryz.f236 AP.f53=some (AP.f53.body,AP.f53.res):=by kernel_rfl
theorem RW:Fits (236,53):=u6 Tryz.func236 QV (by kernel_rfl) (by kernel_rfl)
theorem QW:vg L Tryz.f237 AP.f54=some (AP.f54.body,AP.f54.res):=by kernel_rfl
theorem RX:Fits (237,54):=u6 Tryz.func237 QW (by kernel_rfl) (by kernel_rfl)
theorem L8:vg L Tryz.f243 AP.f138=some (AP.f138.body,AP.f138.res):=by kernel_rfl
theorem N6:Fits (243,138):=u6 Tryz.func243 L8 (by kernel_rfl) (by kernel_rfl)
theorem QG:vg L Tryz.f244 AP.f38=some (AP.f38.body,AP.f38.res):=by kernel_rfl
theorem RF:Fits (244,38):=u6 Tryz.func244 QG (by kernel_rfl) (by kernel_rfl)
theorem QH:vg L Tryz.f245 AP.f39=some (AP.f39.body,AP.f39.res):=by kernel_rfl
theorem RG:Fits (245,39):=u6 Tryz.func245 QH (by kernel_rfl) (by kernel_rfl)
theorem QI:vg L Tryz.f246 AP.f40=some (AP.f40.body,AP.f40.res):=by kernel_rfl
theorem RH:Fits (246,40):=u6 Tryz.func246 QI (by kernel_rfl) (by kernel_rfl)
theorem QJ:vg L Tryz.f247 AP.f41=some (AP.f41.body,AP.f41.res):=by kernel_rfl
theorem RI:Fits (247,41):=u6 Tryz.func247 QJ (by kernel_rfl) (by kernel_rfl)
theorem QK:vg L Tryz.f248 AP.f42=some (AP.f42.body,AP.f42.res):=by kernel_rfl
theorem RJ:Fits (248,42):=u6 Tryz.func248 QK (by kernel_rfl) (by kernel_rfl)
theorem QL:vg L Tryz.f249 AP.f43=some (AP.f43.body,AP.f43.res):=by kernel_rfl
theorem RK:Fits (249,43):=u6 Tryz.func249 QL (by kernel_rfl) (by kernel_rfl)
theorem QM:vg L Tryz.f250 AP.f44=some (AP.f44.body,AP.f44.res):=by kernel_rfl
theorem RL:Fits (250,44):=u6 Tryz.func250 QM (by kernel_rfl) (by kernel_rfl)
theorem QN:vg L Tryz.f251 AP.f45=some (AP.f45.body,AP.f45.res):=by kernel_rfl
theorem RM:Fits (251,45):=u6 Tryz.func251 QN (by kernel_rfl) (by kernel_rfl)
theorem Q6:vg L Tryz.f252 AP.f67=some (AP.f67.body,AP.f67.res):=by kernel_rfl
theorem R7:Fits (252,67):=u6 Tryz.func252 Q6 (by kernel_rfl) (by kernel_rfl)
theorem Q7:vg L Tryz.f253 AP.f68=some (AP.f68.body,AP.f68.res):=by kernel_rfl
theorem R8:Fits (253,68):=u6 Tryz.func253 Q7 (by kernel_rfl) (by kernel_rfl)
theorem L9:vg L Tryz.f257 AP.f139=some (AP.f139.body,AP.f139.res):=by kernel_rfl
theorem N7:Fits (257,139):=u6 Tryz.func257 L9 (by kernel_rfl) (by kernel_rfl)
theorem Ma:vg L Tryz.f258 AP.f140=some (AP.f140.body,AP.f140.res):=by kernel_rfl
theorem N8:Fits (258,140):=u6 Tryz.func258 Ma (by kernel_rfl) (by kernel_rfl)
theorem Mb:vg L Tryz.f259 AP.f141=some (AP.f141.body,AP.f141.res):=by kernel_rfl
theorem N9:Fits (259,141):=u6 Tryz.func259 Mb (by kernel_rfl) (by kernel_rfl)
theorem QX:vg L Tryz.f261 AP.f58=some (AP.f58.body,AP.f58.res):=by kernel_rfl
theorem RY:Fits (261,58):=u6 Tryz.func261 QX (by kernel_rfl) (by kernel_rfl)
theorem QY:vg L Tryz.f262 AP.f59=some (AP.f59.body,AP.f59.res):=by kernel_rfl
theorem RZ:Fits (262,59):=u6 Tryz.func262 QY (by kernel_rfl) (by kernel_rfl)
theorem QZ:vg L Tryz.f263 AP.f60=some (AP.f60.body,AP.f60.res):=by kernel_rfl
theorem R0:Fits (263,60):=u6 Tryz.func263 QZ (by kernel_rfl) (by kernel_rfl)
theorem Q0:vg L Tryz.f264 AP.f61=some (AP.f61.body,AP.f61.res):=by kernel_rfl
theorem R1:Fits (264,61):=u6 Tryz.func264 Q0 (by kernel_rfl) (by kernel_rfl)
theorem Q1:vg L Tryz.f265 AP.f62=some (AP.f62.body,AP.f62.res):=by kernel_rfl
theorem R2:Fits (265,62):=u6 Tryz.func265 Q1 (by kernel_rfl) (by kernel_rfl)
theorem Q2:vg L Tryz.f266 AP.f63=some (AP.f63.body,AP.f63.res):=by kernel_rfl
theorem R3:Fits (266,63):=u6 Tryz.func266 Q2 (by kernel_rfl) (by kernel_rfl)
theorem Q3:vg L Tryz.f267 AP.f64=some (AP.f64.body,AP.f64.res):=by kernel_rfl
theorem R4:Fits (267,64):=u6 Tryz.func267 Q3 (by kernel_rfl) (by kernel_rfl)
theorem Q4:vg L Tryz.f268 AP.f65=some (AP.f65.body,AP.f65.res):=by kernel_rfl
theorem R5:Fits (268,65):=u6 Tryz.func268 Q4 (by kernel_rfl) (by kernel_rfl)
theorem Q5:vg L Tryz.f269 AP.f66=some (AP.f66.body,AP.f66.res):=by kernel_rfl
theorem R6:Fits (269,66):=u6 Tryz.func269 Q5 (by kernel_rfl) (by kernel_rfl)
theorem Q8:vg L Tryz.f271 AP.f72=some (AP.f72.body,AP.f72.res):=by kernel_rfl
theorem R9:Fits (271,72):=u6 Tryz.func271 Q8 (by kernel_rfl) (by kernel_rfl)
theorem Q9:vg L Tryz.f272 AP.f73=some (AP.f73.body,AP.f73.res):=by kernel_rfl
theorem Sa:Fits (272,73):=u6 Tryz.func272 Q9 (by kernel_rfl) (by kernel_rfl)
theorem Ra:vg L Tryz.f273 AP.f74=some (AP.f74.body,AP.f74.res):=by kernel_rfl
theorem Sb:Fits (273,74):=u6 Tryz.func273 Ra (by kernel_rfl) (by kernel_rfl)
theorem Rb:vg L Tryz.f274 AP.f75=some (AP.f75.body,AP.f75.res):=by kernel_rfl
theorem Sc:Fits (274,75):=u6 Tryz.func274 Rb (by kernel_rfl) (by kernel_rfl)
theorem Rc:vg L Tryz.f275 AP.f76=some (AP.f76.body,AP.f76.res):=by kernel_rfl
theorem Se:Fits (275,76):=u6 Tryz.func275 Rc (by kernel_rfl) (by kernel_rfl)
theorem Re:vg L Tryz.f276 AP.f77=some (AP.f77.body,AP.f77.res):=by kernel_rfl
theorem Sf:Fits (276,77):=u6 Tryz.func276 Re (by kernel_rfl) (by kernel_rfl)
theorem Rf:vg L Tryz.f277 AP.f78=some (AP.f78.body,AP.f78.res):=by kernel_rfl
theorem Sg:Fits (277,78):=u6 Tryz.func277 Rf (by kernel_rfl) (by kernel_rfl)
theorem Rg:vg L Tryz.f278 AP.f79=some (AP.f79.body,AP.f79.res):=by kernel_rfl
theorem Si:Fits (278,79):=u6 Tryz.func278 Rg (by kernel_rfl) (by kernel_rfl)
theorem Rh:vg L Tryz.f279 AP.f80=some (AP.f80.body,AP.f80.res):=by kernel_rfl
theorem Sj:Fits (279,80):=u6 Tryz.func279 Rh (by kernel_rfl) (by kernel_rfl)
theorem Ri:vg L Tryz.f280 AP.f81=some (AP.f81.body,AP.f81.res):=by kernel_rfl
theorem Sk:Fits (280,81):=u6 Tryz.func280 Ri (by kernel_rfl) (by kernel_rfl)
theorem Rj:vg L Tryz.f282 AP.f82=some (AP.f82.body,AP.f82.res):=by kernel_rfl
theorem Sl:Fits (282,82):=u6 Tryz.func282 Rj (by kernel_rfl) (by kernel_rfl)
theorem N4:Fits (241,136):=⟨Tryz.f241,_,Tryz.func241,rfl,by kernel_rfl,fun af h=>by rw[show AP.A 136=none by kernel_rfl]at h;cases h⟩
theorem N5:Fits (242,137):=⟨Tryz.f242,_,Tryz.func242,rfl,by kernel_rfl,fun af h=>by rw[show AP.A 137=none by kernel_rfl]at h;cases h⟩
theorem Oa:Fits (270,143):=⟨Tryz.f270,_,Tryz.func270,rfl,by kernel_rfl,fun af h=>by rw[show AP.A 143=none by kernel_rfl]at h;cases h⟩
theorem SV:∀p∈Tn,Fits p:=u3 OP (u3 Tb (u3 OQ (u3 OR (u3 Nx (u3 OS (u3 OT (u3 OU (u3 OI (u3 OW (u3 OE (u3 OG (u3 NC (u3 OX (u3 Sr (u3 NK (u3 Of (u3 Ot (u3 OK (u3 NO (u3 NB (u3 Sm (u3 OY (u3 OZ (u3 NL (u3 Ov (u3 O0 (u3 O1 (u3 O3 (u3 O6 (u3 O8 (u3 O9 (u3 Sq (u3 Pa (u3 Pb (u3 Oy (u3 Og (u3 OJ (u3 NG (u3 Om (u3 Oq (u3 Pc (u3 OL (u3 OM (u3 Od (u3 OH (u3 Ob (u3 Oc (u3 Ok (u3 Ol (u3 NA (u3 NI (u3 OD (u3 Nz (u3 Oe (u3 Sn (u3 NR (u3 NN (u3 NP (u3 Pd (u3 ND (u3 OC (u3 Ou (u3 So (u3 Oo (u3 Sp (u3 Pe (u3 Pf (u3 Pg (u3 Ph (u3 Oi (u3 Oh (u3 NH (u3 NQ (u3 Ny (u3 Oj (u3 NS (u3 NJ (u3 Ox (u3 Oz (u3 On (u3 Pj (u3 Pk (u3 Pl (u3 Ta (u3 NT (u3 NU (u3 NV (u3 NW (u3 NX (u3 NY (u3 NZ (u3 S9 (u3 OB (u3 Ow (u3 NM (u3 NF (u3 Pm (u3 Pn (u3 Po (u3 Pp (u3 Rw (u3 Rx (u3 Ry (u3 Rz (u3 RA (u3 RB (u3 RC (u3 RD (u3 RE (u3 N0 (u3 N1 (u3 N2 (u3 N3 (u3 Rr (u3 Rt (u3 Ru (u3 Rv (u3 OA (u3 Pq (u3 RN (u3 RP (u3 RQ (u3 RR (u3 RS (u3 RT (u3 RU (u3 RW (u3 RX (u3 N6 (u3 RF (u3 RG (u3 RH (u3 RI (u3 RJ (u3 RK (u3 RL (u3 RM (u3 R7 (u3 R8 (u3 N7 (u3 N8 (u3 N9 (u3 RY (u3 RZ (u3 R0 (u3 R1 (u3 R2 (u3 R3 (u3 R4 (u3 R5 (u3 R6 (u3 R9 (u3 Sa (u3 Sb (u3 Sc (u3 Se (u3 Sf (u3 Sg (u3 Si (u3 Sj (u3 Sk (u3 Sl (u3 N4 (u3 N5 (u3 Oa (HY))))))))))))))))))))))))))))))))))))))))))))))))))))))))))))))))))))))))))))))))))))))))))))))))))))))))))))))))))))))))))))))))))))))))))))))))))))))))))))))))))))))
theorem SJ:∀t k,L.ta t=some k→rC L.P t∧∀T,L.mt T=k→T=t:=fun _ k h=>by cases (show (none:Option Nat)=some k from h)
theorem lk:eF L AP.A:=⟨by kernel_rfl,fun fid f h=>SV (fid,f) (Dt h),(fun _ _ _ _ h=>by cases h),SJ⟩
end Ab.Ln
