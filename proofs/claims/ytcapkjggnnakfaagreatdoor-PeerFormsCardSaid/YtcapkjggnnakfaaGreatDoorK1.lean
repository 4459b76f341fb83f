/- Part K1. -/
import Derived.Test.YtcapkjggnnakfaaGreatDoorProg
import Derived.KernelRfl
import Derived.Test.YtcapkjggnnakfaaGreatDoorAP
set_option maxRecDepth 100000
namespace Ab.Ln
open Go Go.Proofs Ab
def uT (L:Lk) (fn:Func) (af:eW):Option (aF×List RV):=fn.body.bind fun c=>(comp L fn.ntmps c af.body).bind fun x=>(cQ L fn.results.toList).bind fun r=>some (x,r)
def Fits (p : Nat × Nat) : Prop := ∃ fn c, L.P.funcs[p.1]? = some fn ∧ fn.body = some c ∧ (fn.name == "runtime.NumGoroutine") = false ∧
    ∀af,AP.A p.2=some af→(∃x0,comp L fn.ntmps c x0=some af.body)∧cQ L fn.results.toList=some af.res
theorem uR {k a : Nat} {fn : Func} {af : eW} (h1 : L.P.funcs[k]? = some fn) (h2 : uT L fn af = some (af.body, af.res)) (h3 : (fn.name == "runtime.NumGoroutine") = false) (h4 : AP.A a = some af) : Fits (k, a) := by
 unfold uT at h2
 simp only[ud]at h2
 obtain⟨c,g1,x,g2,r,g3,g4⟩:=h2
 obtain⟨rfl,rfl⟩:=ug (ue g4)
 refine⟨fn,c,h1,g1,h3,fun af2 g5=> ?_⟩
 rw[h4]at g5
 obtain rfl:=ue g5
 exact⟨⟨_,g2⟩,g3⟩
theorem Bj:∀{l:List (Nat×Nat)} {k f:Nat},CO l k=some f→(k,f)∈l
 |[],_,_,h=>by cases h
 | (i, g) :: r, k, f, h => by
   unfold CO at h
   split at h
   · rename_i e;subst e;obtain rfl:=ue h;exact List.mem_cons_self
   · exact List.mem_cons_of_mem _ (Bj h)
theorem Fb:∀p∈([]:List (Nat×Nat)),Fits p:=fun p h=>by cases h
theorem uP {p:Nat×Nat} {l:List (Nat×Nat)} (h1:Fits p) (h2:∀q∈l,Fits q):∀q∈p::l,Fits q:=fun q h=>by
 rcases uK.1 h with rfl|h
 · exact h1
 · exact h2 q h
theorem JM:uT L Tryz.f10 AP.f224=some (AP.f224.body,AP.f224.res):=by kernel_rfl
theorem Lt:Fits (10,224):=uR Tryz.func10 JM (by kernel_rfl) (by kernel_rfl)
theorem OK:uT L Tryz.f19 AP.f9=some (AP.f9.body,AP.f9.res):=by kernel_rfl
theorem OM:Fits (19,9):=uR Tryz.func19 OK (by kernel_rfl) (by kernel_rfl)
theorem JN:uT L Tryz.f21 AP.f233=some (AP.f233.body,AP.f233.res):=by kernel_rfl
theorem Lu:Fits (21,233):=uR Tryz.func21 JN (by kernel_rfl) (by kernel_rfl)
theorem IV:uT L Tryz.f26 AP.f101=some (AP.f101.body,AP.f101.res):=by kernel_rfl
theorem Kv:Fits (26,101):=uR Tryz.func26 IV (by kernel_rfl) (by kernel_rfl)
theorem JJ:uT L Tryz.f27 AP.f196=some (AP.f196.body,AP.f196.res):=by kernel_rfl
theorem Lq:Fits (27,196):=uR Tryz.func27 JJ (by kernel_rfl) (by kernel_rfl)
theorem JO:uT L Tryz.f28 AP.f238=some (AP.f238.body,AP.f238.res):=by kernel_rfl
theorem Lv:Fits (28,238):=uR Tryz.func28 JO (by kernel_rfl) (by kernel_rfl)
theorem JP:uT L Tryz.f30 AP.f240=some (AP.f240.body,AP.f240.res):=by kernel_rfl
theorem Lw:Fits (30,240):=uR Tryz.func30 JP (by kernel_rfl) (by kernel_rfl)
theorem JQ:uT L Tryz.f33 AP.f242=some (AP.f242.body,AP.f242.res):=by kernel_rfl
theorem Lx:Fits (33,242):=uR Tryz.func33 JQ (by kernel_rfl) (by kernel_rfl)
theorem JR:uT L Tryz.f38 AP.f246=some (AP.f246.body,AP.f246.res):=by kernel_rfl
theorem Ly:Fits (38,246):=uR Tryz.func38 JR (by kernel_rfl) (by kernel_rfl)
theorem I0:uT L Tryz.f43 AP.f106=some (AP.f106.body,AP.f106.res):=by kernel_rfl
theorem KA:Fits (43,106):=uR Tryz.func43 I0 (by kernel_rfl) (by kernel_rfl)
theorem JS:uT L Tryz.f44 AP.f247=some (AP.f247.body,AP.f247.res):=by kernel_rfl
theorem Lz:Fits (44,247):=uR Tryz.func44 JS (by kernel_rfl) (by kernel_rfl)
theorem NI:uT L Tryz.f45 AP.f98=some (AP.f98.body,AP.f98.res):=by kernel_rfl
theorem Om:Fits (45,98):=uR Tryz.func45 NI (by kernel_rfl) (by kernel_rfl)
theorem JK:uT L Tryz.f49 AP.f204=some (AP.f204.body,AP.f204.res):=by kernel_rfl
theorem Lr:Fits (49,204):=uR Tryz.func49 JK (by kernel_rfl) (by kernel_rfl)
theorem I7:uT L Tryz.f55 AP.f115=some (AP.f115.body,AP.f115.res):=by kernel_rfl
theorem KH:Fits (55,115):=uR Tryz.func55 I7 (by kernel_rfl) (by kernel_rfl)
theorem JL:uT L Tryz.f66 AP.f207=some (AP.f207.body,AP.f207.res):=by kernel_rfl
theorem Ls:Fits (66,207):=uR Tryz.func66 JL (by kernel_rfl) (by kernel_rfl)
theorem Jb:uT L Tryz.f67 AP.f120=some (AP.f120.body,AP.f120.res):=by kernel_rfl
theorem KL:Fits (67,120):=uR Tryz.func67 Jb (by kernel_rfl) (by kernel_rfl)
theorem IZ:uT L Tryz.f68 AP.f105=some (AP.f105.body,AP.f105.res):=by kernel_rfl
theorem Kz:Fits (68,105):=uR Tryz.func68 IZ (by kernel_rfl) (by kernel_rfl)
theorem NB:uT L Tryz.f69 AP.f83=some (AP.f83.body,AP.f83.res):=by kernel_rfl
theorem Og:Fits (69,83):=uR Tryz.func69 NB (by kernel_rfl) (by kernel_rfl)
theorem JT:uT L Tryz.f70 AP.f261=some (AP.f261.body,AP.f261.res):=by kernel_rfl
theorem LA:Fits (70,261):=uR Tryz.func70 JT (by kernel_rfl) (by kernel_rfl)
theorem JU:uT L Tryz.f71 AP.f262=some (AP.f262.body,AP.f262.res):=by kernel_rfl
theorem LB:Fits (71,262):=uR Tryz.func71 JU (by kernel_rfl) (by kernel_rfl)
theorem I8:uT L Tryz.f72 AP.f117=some (AP.f117.body,AP.f117.res):=by kernel_rfl
theorem KI:Fits (72,117):=uR Tryz.func72 I8 (by kernel_rfl) (by kernel_rfl)
theorem JA:uT L Tryz.f73 AP.f184=some (AP.f184.body,AP.f184.res):=by kernel_rfl
theorem Le:Fits (73,184):=uR Tryz.func73 JA (by kernel_rfl) (by kernel_rfl)
theorem JV:uT L Tryz.f74 AP.f263=some (AP.f263.body,AP.f263.res):=by kernel_rfl
theorem LC:Fits (74,263):=uR Tryz.func74 JV (by kernel_rfl) (by kernel_rfl)
theorem JW:uT L Tryz.f75 AP.f264=some (AP.f264.body,AP.f264.res):=by kernel_rfl
theorem LD:Fits (75,264):=uR Tryz.func75 JW (by kernel_rfl) (by kernel_rfl)
theorem JX:uT L Tryz.f76 AP.f265=some (AP.f265.body,AP.f265.res):=by kernel_rfl
theorem LF:Fits (76,265):=uR Tryz.func76 JX (by kernel_rfl) (by kernel_rfl)
theorem JY:uT L Tryz.f77 AP.f266=some (AP.f266.body,AP.f266.res):=by kernel_rfl
theorem LG:Fits (77,266):=uR Tryz.func77 JY (by kernel_rfl) (by kernel_rfl)
theorem JZ:uT L Tryz.f78 AP.f267=some (AP.f267.body,AP.f267.res):=by kernel_rfl
theorem LH:Fits (78,267):=uR Tryz.func78 JZ (by kernel_rfl) (by kernel_rfl)
theorem J0:uT L Tryz.f79 AP.f268=some (AP.f268.body,AP.f268.res):=by kernel_rfl
theorem LI:Fits (79,268):=uR Tryz.func79 J0 (by kernel_rfl) (by kernel_rfl)
theorem NH:uT L Tryz.f80 AP.f96=some (AP.f96.body,AP.f96.res):=by kernel_rfl
theorem Ol:Fits (80,96):=uR Tryz.func80 NH (by kernel_rfl) (by kernel_rfl)
theorem J1:uT L Tryz.f81 AP.f269=some (AP.f269.body,AP.f269.res):=by kernel_rfl
theorem LJ:Fits (81,269):=uR Tryz.func81 J1 (by kernel_rfl) (by kernel_rfl)
theorem J2:uT L Tryz.f82 AP.f270=some (AP.f270.body,AP.f270.res):=by kernel_rfl
theorem LK:Fits (82,270):=uR Tryz.func82 J2 (by kernel_rfl) (by kernel_rfl)
theorem JD:uT L Tryz.f83 AP.f187=some (AP.f187.body,AP.f187.res):=by kernel_rfl
theorem Lh:Fits (83,187):=uR Tryz.func83 JD (by kernel_rfl) (by kernel_rfl)
theorem I3:uT L Tryz.f93 AP.f111=some (AP.f111.body,AP.f111.res):=by kernel_rfl
theorem KD:Fits (93,111):=uR Tryz.func93 I3 (by kernel_rfl) (by kernel_rfl)
theorem Jv:uT L Tryz.f94 AP.f177=some (AP.f177.body,AP.f177.res):=by kernel_rfl
theorem K9:Fits (94,177):=uR Tryz.func94 Jv (by kernel_rfl) (by kernel_rfl)
theorem Jy:uT L Tryz.f95 AP.f181=some (AP.f181.body,AP.f181.res):=by kernel_rfl
theorem Lc:Fits (95,181):=uR Tryz.func95 Jy (by kernel_rfl) (by kernel_rfl)
theorem J3:uT L Tryz.f97 AP.f277=some (AP.f277.body,AP.f277.res):=by kernel_rfl
theorem LL:Fits (97,277):=uR Tryz.func97 J3 (by kernel_rfl) (by kernel_rfl)
theorem NF:uT L Tryz.f118 AP.f92=some (AP.f92.body,AP.f92.res):=by kernel_rfl
theorem Oj:Fits (118,92):=uR Tryz.func118 NF (by kernel_rfl) (by kernel_rfl)
theorem IY:uT L Tryz.f120 AP.f104=some (AP.f104.body,AP.f104.res):=by kernel_rfl
theorem Ky:Fits (120,104):=uR Tryz.func120 IY (by kernel_rfl) (by kernel_rfl)
theorem I5:uT L Tryz.f121 AP.f113=some (AP.f113.body,AP.f113.res):=by kernel_rfl
theorem KF:Fits (121,113):=uR Tryz.func121 I5 (by kernel_rfl) (by kernel_rfl)
theorem JI:uT L Tryz.f122 AP.f192=some (AP.f192.body,AP.f192.res):=by kernel_rfl
theorem Lo:Fits (122,192):=uR Tryz.func122 JI (by kernel_rfl) (by kernel_rfl)
theorem IX:uT L Tryz.f128 AP.f103=some (AP.f103.body,AP.f103.res):=by kernel_rfl
theorem Kx:Fits (128,103):=uR Tryz.func128 IX (by kernel_rfl) (by kernel_rfl)
theorem NC:uT L Tryz.f141 AP.f84=some (AP.f84.body,AP.f84.res):=by kernel_rfl
theorem Oh:Fits (141,84):=uR Tryz.func141 NC (by kernel_rfl) (by kernel_rfl)
theorem Je:uT L Tryz.f142 AP.f123=some (AP.f123.body,AP.f123.res):=by kernel_rfl
theorem KO:Fits (142,123):=uR Tryz.func142 Je (by kernel_rfl) (by kernel_rfl)
theorem Ja:uT L Tryz.f143 AP.f119=some (AP.f119.body,AP.f119.res):=by kernel_rfl
theorem KK:Fits (143,119):=uR Tryz.func143 Ja (by kernel_rfl) (by kernel_rfl)
theorem Jc:uT L Tryz.f144 AP.f121=some (AP.f121.body,AP.f121.res):=by kernel_rfl
theorem KM:Fits (144,121):=uR Tryz.func144 Jc (by kernel_rfl) (by kernel_rfl)
theorem J4:uT L Tryz.f145 AP.f299=some (AP.f299.body,AP.f299.res):=by kernel_rfl
theorem LM:Fits (145,299):=uR Tryz.func145 J4 (by kernel_rfl) (by kernel_rfl)
theorem I1:uT L Tryz.f146 AP.f107=some (AP.f107.body,AP.f107.res):=by kernel_rfl
theorem KB:Fits (146,107):=uR Tryz.func146 I1 (by kernel_rfl) (by kernel_rfl)
theorem JH:uT L Tryz.f147 AP.f191=some (AP.f191.body,AP.f191.res):=by kernel_rfl
theorem Lm:Fits (147,191):=uR Tryz.func147 JH (by kernel_rfl) (by kernel_rfl)
theorem Jz:uT L Tryz.f148 AP.f183=some (AP.f183.body,AP.f183.res):=by kernel_rfl
theorem Ld:Fits (148,183):=uR Tryz.func148 Jz (by kernel_rfl) (by kernel_rfl)
theorem ND:uT L Tryz.f149 AP.f91=some (AP.f91.body,AP.f91.res):=by kernel_rfl
theorem Oi:Fits (149,91):=uR Tryz.func149 ND (by kernel_rfl) (by kernel_rfl)
theorem Jx:uT L Tryz.f150 AP.f179=some (AP.f179.body,AP.f179.res):=by kernel_rfl
theorem Lb:Fits (150,179):=uR Tryz.func150 Jx (by kernel_rfl) (by kernel_rfl)
theorem NG:uT L Tryz.f151 AP.f93=some (AP.f93.body,AP.f93.res):=by kernel_rfl
theorem Ok:Fits (151,93):=uR Tryz.func151 NG (by kernel_rfl) (by kernel_rfl)
theorem J5:uT L Tryz.f152 AP.f300=some (AP.f300.body,AP.f300.res):=by kernel_rfl
theorem LN:Fits (152,300):=uR Tryz.func152 J5 (by kernel_rfl) (by kernel_rfl)
theorem J6:uT L Tryz.f153 AP.f301=some (AP.f301.body,AP.f301.res):=by kernel_rfl
theorem LO:Fits (153,301):=uR Tryz.func153 J6 (by kernel_rfl) (by kernel_rfl)
theorem J7:uT L Tryz.f154 AP.f302=some (AP.f302.body,AP.f302.res):=by kernel_rfl
theorem LP:Fits (154,302):=uR Tryz.func154 J7 (by kernel_rfl) (by kernel_rfl)
theorem J8:uT L Tryz.f155 AP.f303=some (AP.f303.body,AP.f303.res):=by kernel_rfl
theorem LQ:Fits (155,303):=uR Tryz.func155 J8 (by kernel_rfl) (by kernel_rfl)
theorem I4:uT L Tryz.f160 AP.f112=some (AP.f112.body,AP.f112.res):=by kernel_rfl
theorem KE:Fits (160,112):=uR Tryz.func160 I4 (by kernel_rfl) (by kernel_rfl)
theorem Jd:uT L Tryz.f161 AP.f122=some (AP.f122.body,AP.f122.res):=by kernel_rfl
theorem KN:Fits (161,122):=uR Tryz.func161 Jd (by kernel_rfl) (by kernel_rfl)
theorem IW:uT L Tryz.f162 AP.f102=some (AP.f102.body,AP.f102.res):=by kernel_rfl
theorem Kw:Fits (162,102):=uR Tryz.func162 IW (by kernel_rfl) (by kernel_rfl)
theorem Jf:uT L Tryz.f167 AP.f124=some (AP.f124.body,AP.f124.res):=by kernel_rfl
theorem KP:Fits (167,124):=uR Tryz.func167 Jf (by kernel_rfl) (by kernel_rfl)
theorem I6:uT L Tryz.f168 AP.f114=some (AP.f114.body,AP.f114.res):=by kernel_rfl
theorem KG:Fits (168,114):=uR Tryz.func168 I6 (by kernel_rfl) (by kernel_rfl)
theorem JC:uT L Tryz.f169 AP.f186=some (AP.f186.body,AP.f186.res):=by kernel_rfl
theorem Lg:Fits (169,186):=uR Tryz.func169 JC (by kernel_rfl) (by kernel_rfl)
theorem JE:uT L Tryz.f170 AP.f188=some (AP.f188.body,AP.f188.res):=by kernel_rfl
theorem Li:Fits (170,188):=uR Tryz.func170 JE (by kernel_rfl) (by kernel_rfl)
theorem Jw:uT L Tryz.f171 AP.f178=some (AP.f178.body,AP.f178.res):=by kernel_rfl
theorem La:Fits (171,178):=uR Tryz.func171 Jw (by kernel_rfl) (by kernel_rfl)
theorem J9:uT L Tryz.f172 AP.f306=some (AP.f306.body,AP.f306.res):=by kernel_rfl
theorem LR:Fits (172,306):=uR Tryz.func172 J9 (by kernel_rfl) (by kernel_rfl)
theorem Ka:uT L Tryz.f173 AP.f307=some (AP.f307.body,AP.f307.res):=by kernel_rfl
theorem LS:Fits (173,307):=uR Tryz.func173 Ka (by kernel_rfl) (by kernel_rfl)
theorem Kb:uT L Tryz.f174 AP.f308=some (AP.f308.body,AP.f308.res):=by kernel_rfl
theorem LU:Fits (174,308):=uR Tryz.func174 Kb (by kernel_rfl) (by kernel_rfl)
theorem Jg:uT L Tryz.f182 AP.f125=some (AP.f125.body,AP.f125.res):=by kernel_rfl
theorem KQ:Fits (182,125):=uR Tryz.func182 Jg (by kernel_rfl) (by kernel_rfl)
theorem Jh:uT L Tryz.f183 AP.f126=some (AP.f126.body,AP.f126.res):=by kernel_rfl
theorem KR:Fits (183,126):=uR Tryz.func183 Jh (by kernel_rfl) (by kernel_rfl)
theorem Ji:uT L Tryz.f184 AP.f127=some (AP.f127.body,AP.f127.res):=by kernel_rfl
theorem KS:Fits (184,127):=uR Tryz.func184 Ji (by kernel_rfl) (by kernel_rfl)
theorem Jj:uT L Tryz.f185 AP.f128=some (AP.f128.body,AP.f128.res):=by kernel_rfl
theorem KT:Fits (185,128):=uR Tryz.func185 Jj (by kernel_rfl) (by kernel_rfl)
theorem Jk:uT L Tryz.f186 AP.f129=some (AP.f129.body,AP.f129.res):=by kernel_rfl
theorem KU:Fits (186,129):=uR Tryz.func186 Jk (by kernel_rfl) (by kernel_rfl)
theorem Jl:uT L Tryz.f187 AP.f130=some (AP.f130.body,AP.f130.res):=by kernel_rfl
theorem KV:Fits (187,130):=uR Tryz.func187 Jl (by kernel_rfl) (by kernel_rfl)
theorem Jm:uT L Tryz.f188 AP.f131=some (AP.f131.body,AP.f131.res):=by kernel_rfl
theorem KW:Fits (188,131):=uR Tryz.func188 Jm (by kernel_rfl) (by kernel_rfl)
theorem OJ:uT L Tryz.f189 AP.f7=some (AP.f7.body,AP.f7.res):=by kernel_rfl
theorem OL:Fits (189,7):=uR Tryz.func189 OJ (by kernel_rfl) (by kernel_rfl)
theorem JG:uT L Tryz.f190 AP.f190=some (AP.f190.body,AP.f190.res):=by kernel_rfl
theorem Ll:Fits (190,190):=uR Tryz.func190 JG (by kernel_rfl) (by kernel_rfl)
theorem JB:uT L Tryz.f191 AP.f185=some (AP.f185.body,AP.f185.res):=by kernel_rfl
theorem Lf:Fits (191,185):=uR Tryz.func191 JB (by kernel_rfl) (by kernel_rfl)
theorem I9:uT L Tryz.f192 AP.f118=some (AP.f118.body,AP.f118.res):=by kernel_rfl
theorem KJ:Fits (192,118):=uR Tryz.func192 I9 (by kernel_rfl) (by kernel_rfl)
theorem I2:uT L Tryz.f193 AP.f110=some (AP.f110.body,AP.f110.res):=by kernel_rfl
theorem KC:Fits (193,110):=uR Tryz.func193 I2 (by kernel_rfl) (by kernel_rfl)
theorem Kc:uT L Tryz.f194 AP.f311=some (AP.f311.body,AP.f311.res):=by kernel_rfl
theorem LV:Fits (194,311):=uR Tryz.func194 Kc (by kernel_rfl) (by kernel_rfl)
theorem Kd:uT L Tryz.f195 AP.f312=some (AP.f312.body,AP.f312.res):=by kernel_rfl
theorem LW:Fits (195,312):=uR Tryz.func195 Kd (by kernel_rfl) (by kernel_rfl)
theorem Ke:uT L Tryz.f196 AP.f313=some (AP.f313.body,AP.f313.res):=by kernel_rfl
theorem LX:Fits (196,313):=uR Tryz.func196 Ke (by kernel_rfl) (by kernel_rfl)
theorem Kf:uT L Tryz.f197 AP.f314=some (AP.f314.body,AP.f314.res):=by kernel_rfl
theorem LY:Fits (197,314):=uR Tryz.func197 Kf (by kernel_rfl) (by kernel_rfl)
theorem Jn:uT L Tryz.f219 AP.f132=some (AP.f132.body,AP.f132.res):=by kernel_rfl
theorem KX:Fits (219,132):=uR Tryz.func219 Jn (by kernel_rfl) (by kernel_rfl)
theorem Jo:uT L Tryz.f220 AP.f133=some (AP.f133.body,AP.f133.res):=by kernel_rfl
theorem KY:Fits (220,133):=uR Tryz.func220 Jo (by kernel_rfl) (by kernel_rfl)
theorem Jp:uT L Tryz.f221 AP.f134=some (AP.f134.body,AP.f134.res):=by kernel_rfl
theorem KZ:Fits (221,134):=uR Tryz.func221 Jp (by kernel_rfl) (by kernel_rfl)
theorem Jq:uT L Tryz.f222 AP.f135=some (AP.f135.body,AP.f135.res):=by kernel_rfl
theorem K0:Fits (222,135):=uR Tryz.func222 Jq (by kernel_rfl) (by kernel_rfl)
theorem MZ:uT L Tryz.f223 AP.f14=some (AP.f14.body,AP.f14.res):=by kernel_rfl
theorem NK:Fits (223,14):=uR Tryz.func223 MZ (by kernel_rfl) (by kernel_rfl)
theorem M4:uT L Tryz.f224 AP.f15=some (AP.f15.body,AP.f15.res):=by kernel_rfl
theorem NL:Fits (224,15):=uR Tryz.func224 M4 (by kernel_rfl) (by kernel_rfl)
theorem M5:uT L Tryz.f225 AP.f16=some (AP.f16.body,AP.f16.res):=by kernel_rfl
theorem NM:Fits (225,16):=uR Tryz.func225 M5 (by kernel_rfl) (by kernel_rfl)
theorem M6:uT L Tryz.f226 AP.f17=some (AP.f17.body,AP.f17.res):=by kernel_rfl
theorem NN:Fits (226,17):=uR Tryz.func226 M6 (by kernel_rfl) (by kernel_rfl)
theorem JF:uT L Tryz.f227 AP.f189=some (AP.f189.body,AP.f189.res):=by kernel_rfl
theorem Lj:Fits (227,189):=uR Tryz.func227 JF (by kernel_rfl) (by kernel_rfl)
theorem Kg:uT L Tryz.f228 AP.f315=some (AP.f315.body,AP.f315.res):=by kernel_rfl
theorem LZ:Fits (228,315):=uR Tryz.func228 Kg (by kernel_rfl) (by kernel_rfl)
theorem Jr:uT L Tryz.f243 AP.f138=some (AP.f138.body,AP.f138.res):=by kernel_rfl
theorem K4:Fits (243,138):=uR Tryz.func243 Jr (by kernel_rfl) (by kernel_rfl)
theorem M7:uT L Tryz.f244 AP.f38=some (AP.f38.body,AP.f38.res):=by kernel_rfl
theorem NO:Fits (244,38):=uR Tryz.func244 M7 (by kernel_rfl) (by kernel_rfl)
theorem M8:uT L Tryz.f245 AP.f39=some (AP.f39.body,AP.f39.res):=by kernel_rfl
theorem NP:Fits (245,39):=uR Tryz.func245 M8 (by kernel_rfl) (by kernel_rfl)
theorem M9:uT L Tryz.f246 AP.f40=some (AP.f40.body,AP.f40.res):=by kernel_rfl
theorem NQ:Fits (246,40):=uR Tryz.func246 M9 (by kernel_rfl) (by kernel_rfl)
theorem Na:uT L Tryz.f247 AP.f41=some (AP.f41.body,AP.f41.res):=by kernel_rfl
theorem NR:Fits (247,41):=uR Tryz.func247 Na (by kernel_rfl) (by kernel_rfl)
theorem Nb:uT L Tryz.f248 AP.f42=some (AP.f42.body,AP.f42.res):=by kernel_rfl
theorem NS:Fits (248,42):=uR Tryz.func248 Nb (by kernel_rfl) (by kernel_rfl)
theorem Nc:uT L Tryz.f249 AP.f43=some (AP.f43.body,AP.f43.res):=by kernel_rfl
theorem NT:Fits (249,43):=uR Tryz.func249 Nc (by kernel_rfl) (by kernel_rfl)
theorem Nd:uT L Tryz.f250 AP.f44=some (AP.f44.body,AP.f44.res):=by kernel_rfl
theorem NU:Fits (250,44):=uR Tryz.func250 Nd (by kernel_rfl) (by kernel_rfl)
theorem Nf:uT L Tryz.f251 AP.f45=some (AP.f45.body,AP.f45.res):=by kernel_rfl
theorem NV:Fits (251,45):=uR Tryz.func251 Nf (by kernel_rfl) (by kernel_rfl)
theorem Js:uT L Tryz.f257 AP.f139=some (AP.f139.body,AP.f139.res):=by kernel_rfl
theorem K5:Fits (257,139):=uR Tryz.func257 Js (by kernel_rfl) (by kernel_rfl)
theorem Jt:uT L Tryz.f258 AP.f140=some (AP.f140.body,AP.f140.res):=by kernel_rfl
theorem K6:Fits (258,140):=uR Tryz.func258 Jt (by kernel_rfl) (by kernel_rfl)
theorem Ju:uT L Tryz.f259 AP.f141=some (AP.f141.body,AP.f141.res):=by kernel_rfl
theorem K7:Fits (259,141):=uR Tryz.func259 Ju (by kernel_rfl) (by kernel_rfl)
theorem Ng:uT L Tryz.f261 AP.f58=some (AP.f58.body,AP.f58.res):=by kernel_rfl
theorem NW:Fits (261,58):=uR Tryz.func261 Ng (by kernel_rfl) (by kernel_rfl)
theorem Nh:uT L Tryz.f262 AP.f59=some (AP.f59.body,AP.f59.res):=by kernel_rfl
theorem NX:Fits (262,59):=uR Tryz.func262 Nh (by kernel_rfl) (by kernel_rfl)
theorem Ni:uT L Tryz.f263 AP.f60=some (AP.f60.body,AP.f60.res):=by kernel_rfl
theorem NY:Fits (263,60):=uR Tryz.func263 Ni (by kernel_rfl) (by kernel_rfl)
theorem Nj:uT L Tryz.f264 AP.f61=some (AP.f61.body,AP.f61.res):=by kernel_rfl
theorem NZ:Fits (264,61):=uR Tryz.func264 Nj (by kernel_rfl) (by kernel_rfl)
theorem Nk:uT L Tryz.f265 AP.f62=some (AP.f62.body,AP.f62.res):=by kernel_rfl
theorem N0:Fits (265,62):=uR Tryz.func265 Nk (by kernel_rfl) (by kernel_rfl)
theorem Nl:uT L Tryz.f266 AP.f63=some (AP.f63.body,AP.f63.res):=by kernel_rfl
theorem N1:Fits (266,63):=uR Tryz.func266 Nl (by kernel_rfl) (by kernel_rfl)
theorem Nm:uT L Tryz.f267 AP.f64=some (AP.f64.body,AP.f64.res):=by kernel_rfl
theorem N2:Fits (267,64):=uR Tryz.func267 Nm (by kernel_rfl) (by kernel_rfl)
theorem Nn:uT L Tryz.f268 AP.f65=some (AP.f65.body,AP.f65.res):=by kernel_rfl
theorem N3:Fits (268,65):=uR Tryz.func268 Nn (by kernel_rfl) (by kernel_rfl)
theorem Np:uT L Tryz.f269 AP.f66=some (AP.f66.body,AP.f66.res):=by kernel_rfl
theorem N4:Fits (269,66):=uR Tryz.func269 Np (by kernel_rfl) (by kernel_rfl)
theorem Nq:uT L Tryz.f271 AP.f72=some (AP.f72.body,AP.f72.res):=by kernel_rfl
theorem N5:Fits (271,72):=uR Tryz.func271 Nq (by kernel_rfl) (by kernel_rfl)
theorem Nr:uT L Tryz.f272 AP.f73=some (AP.f73.body,AP.f73.res):=by kernel_rfl
theorem N6:Fits (272,73):=uR Tryz.func272 Nr (by kernel_rfl) (by kernel_rfl)
theorem Ns:uT L Tryz.f273 AP.f74=some (AP.f74.body,AP.f74.res):=by kernel_rfl
theorem N7:Fits (273,74):=uR Tryz.func273 Ns (by kernel_rfl) (by kernel_rfl)
theorem Nt:uT L Tryz.f274 AP.f75=some (AP.f75.body,AP.f75.res):=by kernel_rfl
theorem N8:Fits (274,75):=uR Tryz.func274 Nt (by kernel_rfl) (by kernel_rfl)
theorem Nu:uT L Tryz.f275 AP.f76=some (AP.f76.body,AP.f76.res):=by kernel_rfl
theorem N9:Fits (275,76):=uR Tryz.func275 Nu (by kernel_rfl) (by kernel_rfl)
theorem Nv:uT L Tryz.f276 AP.f77=some (AP.f77.body,AP.f77.res):=by kernel_rfl
theorem Oa:Fits (276,77):=uR Tryz.func276 Nv (by kernel_rfl) (by kernel_rfl)
theorem Nw:uT L Tryz.f277 AP.f78=some (AP.f78.body,AP.f78.res):=by kernel_rfl
theorem Ob:Fits (277,78):=uR Tryz.func277 Nw (by kernel_rfl) (by kernel_rfl)
theorem Nx:uT L Tryz.f278 AP.f79=some (AP.f79.body,AP.f79.res):=by kernel_rfl
theorem Oc:Fits (278,79):=uR Tryz.func278 Nx (by kernel_rfl) (by kernel_rfl)
theorem Ny:uT L Tryz.f279 AP.f80=some (AP.f80.body,AP.f80.res):=by kernel_rfl
theorem Od:Fits (279,80):=uR Tryz.func279 Ny (by kernel_rfl) (by kernel_rfl)
theorem Nz:uT L Tryz.f280 AP.f81=some (AP.f81.body,AP.f81.res):=by kernel_rfl
theorem Oe:Fits (280,81):=uR Tryz.func280 Nz (by kernel_rfl) (by kernel_rfl)
theorem NA:uT L Tryz.f282 AP.f82=some (AP.f82.body,AP.f82.res):=by kernel_rfl
theorem Of:Fits (282,82):=uR Tryz.func282 NA (by kernel_rfl) (by kernel_rfl)
theorem K2:Fits (241,136):=⟨Tryz.f241,_,Tryz.func241,rfl,by kernel_rfl,fun af h=>by rw[show AP.A 136=none by kernel_rfl]at h;cases h⟩
theorem K3:Fits (242,137):=⟨Tryz.f242,_,Tryz.func242,rfl,by kernel_rfl,fun af h=>by rw[show AP.A 137=none by kernel_rfl]at h;cases h⟩
theorem K8:Fits (270,143):=⟨Tryz.f270,_,Tryz.func270,rfl,by kernel_rfl,fun af h=>by rw[show AP.A 143=none by kernel_rfl]at h;cases h⟩
theorem OE:∀p∈O5,Fits p:=uP Lt (uP OM (uP Lu (uP Kv (uP Lq (uP Lv (uP Lw (uP Lx (uP Ly (uP KA (uP Lz (uP Om (uP Lr (uP KH (uP Ls (uP KL (uP Kz (uP Og (uP LA (uP LB (uP KI (uP Le (uP LC (uP LD (uP LF (uP LG (uP LH (uP LI (uP Ol (uP LJ (uP LK (uP Lh (uP KD (uP K9 (uP Lc (uP LL (uP Oj (uP Ky (uP KF (uP Lo (uP Kx (uP Oh (uP KO (uP KK (uP KM (uP LM (uP KB (uP Lm (uP Ld (uP Oi (uP Lb (uP Ok (uP LN (uP LO (uP LP (uP LQ (uP KE (uP KN (uP Kw (uP KP (uP KG (uP Lg (uP Li (uP La (uP LR (uP LS (uP LU (uP KQ (uP KR (uP KS (uP KT (uP KU (uP KV (uP KW (uP OL (uP Ll (uP Lf (uP KJ (uP KC (uP LV (uP LW (uP LX (uP LY (uP KX (uP KY (uP KZ (uP K0 (uP NK (uP NL (uP NM (uP NN (uP Lj (uP LZ (uP K4 (uP NO (uP NP (uP NQ (uP NR (uP NS (uP NT (uP NU (uP NV (uP K5 (uP K6 (uP K7 (uP NW (uP NX (uP NY (uP NZ (uP N0 (uP N1 (uP N2 (uP N3 (uP N4 (uP N5 (uP N6 (uP N7 (uP N8 (uP N9 (uP Oa (uP Ob (uP Oc (uP Od (uP Oe (uP Of (uP K2 (uP K3 (uP K8 (Fb))))))))))))))))))))))))))))))))))))))))))))))))))))))))))))))))))))))))))))))))))))))))))))))))))))))))))))))))))))))))))))))))
theorem lk:et L AP.A:=⟨by kernel_rfl,fun fid f h=>OE (fid,f) (Bj h),fun _ _ _ _ h=>by cases h⟩
end Ab.Ln
