/- Part K1. -/
import Derived.Test.YtbihdlhgfnoejaaGreatDoorProg
import Derived.KernelRfl
import Derived.Test.YtbihdlhgfnoejaaGreatDoorAP
namespace Ab.Ln
open Go Go.Proofs Ab
def FG:List (Nat×Nat)→Nat→Option Nat
 |[],_=>none
 |(i,f)::r,k=>if i=k then some f else FG r k
def yO (L:Lk) (fn:Func) (af:gI):Option (aK×List RV):=fn.body.bind fun c=>(comp L fn.ntmps c af.body).bind fun x=>(dx L fn.results.toList).bind fun r=>some (x,r)
def Qt:List (Nat×Nat):=[(5,147),(8,92),(14,9),(15,98),(20,100),(21,155),(22,97),(23,156),(24,96),(25,157),(26,158),(27,95),(28,101),(31,103),(35,105),(37,106),(39,107),(40,164),(41,108),(42,109),(43,110),(44,165),(45,166),(46,167),(47,168),(48,99),(49,111),(50,112),(51,169),(56,113),(57,114),(58,115),(59,8),(60,116),(61,117),(62,118),(63,172),(64,173),(65,119),(66,120),(73,22),(74,23),(80,32),(82,121),(83,122),(84,7),(85,18),(86,19),(87,20),(88,21),(89,24),(90,25),(91,83),(92,123),(95,52),(96,50),(97,51),(99,124),(100,14),(101,15),(102,16),(103,17),(104,46),(105,47),(106,48),(107,49),(108,53),(109,54),(110,84),(112,67),(113,68),(116,125),(117,126),(118,127),(119,128),(120,129),(121,130),(122,131),(123,38),(124,39),(125,40),(126,41),(127,42),(128,43),(129,44),(130,45),(131,132),(132,133),(133,134),(134,135),(135,58),(136,59),(137,60),(138,61),(139,62),(140,63),(141,64),(142,65),(143,66),(146,138),(147,72),(148,73),(149,74),(150,75),(151,76),(152,77),(153,78),(154,79),(155,80),(156,81),(157,139),(158,140),(159,141),(161,82),(144,136),(145,137),(162,143)]
def QC:List (Nat×Nat):=[(9,0)]
def mf (k:Nat):Option Nat:=FG Qt k
def mt (k:Nat):Nat:=(FG QC k).getD (k+100000)
def iv (_:String):Option (Nat×Nat×Bool):=none
noncomputable def L:Lk:=⟨Tryz.prog,mf,mt,iv⟩
def Fits (p : Nat × Nat) : Prop := ∃ fn c, L.P.funcs[p.1]? = some fn ∧ fn.body = some c ∧ (fn.name == "runtime.NumGoroutine") = false ∧
    ∀af,AP.A p.2=some af→(∃x0,comp L fn.ntmps c x0=some af.body)∧dx L fn.results.toList=some af.res
theorem yM {k a : Nat} {fn : Func} {af : gI} (h1 : L.P.funcs[k]? = some fn) (h2 : yO L fn af = some (af.body, af.res)) (h3 : (fn.name == "runtime.NumGoroutine") = false) (h4 : AP.A a = some af) : Fits (k, a) := by
 unfold yO at h2
 simp only[xN]at h2
 obtain⟨c,g1,x,g2,r,g3,g4⟩:=h2
 obtain⟨rfl,rfl⟩:=xR (xO g4)
 refine⟨fn,c,h1,g1,h3,fun af2 g5=> ?_⟩
 rw[h4]at g5
 obtain rfl:=xO g5
 exact⟨⟨_,g2⟩,g3⟩
theorem Em:∀{l:List (Nat×Nat)} {k f:Nat},FG l k=some f→(k,f)∈l
 |[],_,_,h=>by cases h
 | (i, g) :: r, k, f, h => by
   unfold FG at h
   split at h
   · rename_i e;subst e;obtain rfl:=xO h;exact List.mem_cons_self
   · exact List.mem_cons_of_mem _ (Em h)
theorem HI:∀p∈([]:List (Nat×Nat)),Fits p:=fun p h=>by cases h
theorem yK {p:Nat×Nat} {l:List (Nat×Nat)} (h1:Fits p) (h2:∀q∈l,Fits q):∀q∈p::l,Fits q:=fun q h=>by
 rcases yE.1 h with rfl|h
 · exact h1
 · exact h2 q h
theorem Ld:yO L Tryz.f5 AP.f147=some (AP.f147.body,AP.f147.res):=by kernel_rfl
theorem Mt:Fits (5,147):=yM Tryz.func5 Ld (by kernel_rfl) (by kernel_rfl)
theorem Ot:yO L Tryz.f8 AP.f92=some (AP.f92.body,AP.f92.res):=by kernel_rfl
theorem PH:Fits (8,92):=yM Tryz.func8 Ot (by kernel_rfl) (by kernel_rfl)
theorem Qd:yO L Tryz.f14 AP.f9=some (AP.f9.body,AP.f9.res):=by kernel_rfl
theorem Qh:Fits (14,9):=yM Tryz.func14 Qd (by kernel_rfl) (by kernel_rfl)
theorem Ox:yO L Tryz.f15 AP.f98=some (AP.f98.body,AP.f98.res):=by kernel_rfl
theorem PL:Fits (15,98):=yM Tryz.func15 Ox (by kernel_rfl) (by kernel_rfl)
theorem Kv:yO L Tryz.f20 AP.f100=some (AP.f100.body,AP.f100.res):=by kernel_rfl
theorem Lz:Fits (20,100):=yM Tryz.func20 Kv (by kernel_rfl) (by kernel_rfl)
theorem Le:yO L Tryz.f21 AP.f155=some (AP.f155.body,AP.f155.res):=by kernel_rfl
theorem Mu:Fits (21,155):=yM Tryz.func21 Le (by kernel_rfl) (by kernel_rfl)
theorem Ow:yO L Tryz.f22 AP.f97=some (AP.f97.body,AP.f97.res):=by kernel_rfl
theorem PK:Fits (22,97):=yM Tryz.func22 Ow (by kernel_rfl) (by kernel_rfl)
theorem Lf:yO L Tryz.f23 AP.f156=some (AP.f156.body,AP.f156.res):=by kernel_rfl
theorem Mv:Fits (23,156):=yM Tryz.func23 Lf (by kernel_rfl) (by kernel_rfl)
theorem Ov:yO L Tryz.f24 AP.f96=some (AP.f96.body,AP.f96.res):=by kernel_rfl
theorem PJ:Fits (24,96):=yM Tryz.func24 Ov (by kernel_rfl) (by kernel_rfl)
theorem Lh:yO L Tryz.f25 AP.f157=some (AP.f157.body,AP.f157.res):=by kernel_rfl
theorem Mw:Fits (25,157):=yM Tryz.func25 Lh (by kernel_rfl) (by kernel_rfl)
theorem Li:yO L Tryz.f26 AP.f158=some (AP.f158.body,AP.f158.res):=by kernel_rfl
theorem Mx:Fits (26,158):=yM Tryz.func26 Li (by kernel_rfl) (by kernel_rfl)
theorem Ou:yO L Tryz.f27 AP.f95=some (AP.f95.body,AP.f95.res):=by kernel_rfl
theorem PI:Fits (27,95):=yM Tryz.func27 Ou (by kernel_rfl) (by kernel_rfl)
theorem Kw:yO L Tryz.f28 AP.f101=some (AP.f101.body,AP.f101.res):=by kernel_rfl
theorem LC:Fits (28,101):=yM Tryz.func28 Kw (by kernel_rfl) (by kernel_rfl)
theorem Kx:yO L Tryz.f31 AP.f103=some (AP.f103.body,AP.f103.res):=by kernel_rfl
theorem LD:Fits (31,103):=yM Tryz.func31 Kx (by kernel_rfl) (by kernel_rfl)
theorem Ky:yO L Tryz.f35 AP.f105=some (AP.f105.body,AP.f105.res):=by kernel_rfl
theorem LF:Fits (35,105):=yM Tryz.func35 Ky (by kernel_rfl) (by kernel_rfl)
theorem Kz:yO L Tryz.f37 AP.f106=some (AP.f106.body,AP.f106.res):=by kernel_rfl
theorem LG:Fits (37,106):=yM Tryz.func37 Kz (by kernel_rfl) (by kernel_rfl)
theorem KD:yO L Tryz.f39 AP.f107=some (AP.f107.body,AP.f107.res):=by kernel_rfl
theorem LH:Fits (39,107):=yM Tryz.func39 KD (by kernel_rfl) (by kernel_rfl)
theorem Lj:yO L Tryz.f40 AP.f164=some (AP.f164.body,AP.f164.res):=by kernel_rfl
theorem My:Fits (40,164):=yM Tryz.func40 Lj (by kernel_rfl) (by kernel_rfl)
theorem KE:yO L Tryz.f41 AP.f108=some (AP.f108.body,AP.f108.res):=by kernel_rfl
theorem LI:Fits (41,108):=yM Tryz.func41 KE (by kernel_rfl) (by kernel_rfl)
theorem KF:yO L Tryz.f42 AP.f109=some (AP.f109.body,AP.f109.res):=by kernel_rfl
theorem LJ:Fits (42,109):=yM Tryz.func42 KF (by kernel_rfl) (by kernel_rfl)
theorem KG:yO L Tryz.f43 AP.f110=some (AP.f110.body,AP.f110.res):=by kernel_rfl
theorem LK:Fits (43,110):=yM Tryz.func43 KG (by kernel_rfl) (by kernel_rfl)
theorem Ll:yO L Tryz.f44 AP.f165=some (AP.f165.body,AP.f165.res):=by kernel_rfl
theorem Mz:Fits (44,165):=yM Tryz.func44 Ll (by kernel_rfl) (by kernel_rfl)
theorem Lm:yO L Tryz.f45 AP.f166=some (AP.f166.body,AP.f166.res):=by kernel_rfl
theorem MA:Fits (45,166):=yM Tryz.func45 Lm (by kernel_rfl) (by kernel_rfl)
theorem Lq:yO L Tryz.f46 AP.f167=some (AP.f167.body,AP.f167.res):=by kernel_rfl
theorem MB:Fits (46,167):=yM Tryz.func46 Lq (by kernel_rfl) (by kernel_rfl)
theorem Lr:yO L Tryz.f47 AP.f168=some (AP.f168.body,AP.f168.res):=by kernel_rfl
theorem MC:Fits (47,168):=yM Tryz.func47 Lr (by kernel_rfl) (by kernel_rfl)
theorem Oy:yO L Tryz.f48 AP.f99=some (AP.f99.body,AP.f99.res):=by kernel_rfl
theorem PM:Fits (48,99):=yM Tryz.func48 Oy (by kernel_rfl) (by kernel_rfl)
theorem KH:yO L Tryz.f49 AP.f111=some (AP.f111.body,AP.f111.res):=by kernel_rfl
theorem LL:Fits (49,111):=yM Tryz.func49 KH (by kernel_rfl) (by kernel_rfl)
theorem KI:yO L Tryz.f50 AP.f112=some (AP.f112.body,AP.f112.res):=by kernel_rfl
theorem LM:Fits (50,112):=yM Tryz.func50 KI (by kernel_rfl) (by kernel_rfl)
theorem Ls:yO L Tryz.f51 AP.f169=some (AP.f169.body,AP.f169.res):=by kernel_rfl
theorem MD:Fits (51,169):=yM Tryz.func51 Ls (by kernel_rfl) (by kernel_rfl)
theorem KJ:yO L Tryz.f56 AP.f113=some (AP.f113.body,AP.f113.res):=by kernel_rfl
theorem LN:Fits (56,113):=yM Tryz.func56 KJ (by kernel_rfl) (by kernel_rfl)
theorem KK:yO L Tryz.f57 AP.f114=some (AP.f114.body,AP.f114.res):=by kernel_rfl
theorem LO:Fits (57,114):=yM Tryz.func57 KK (by kernel_rfl) (by kernel_rfl)
theorem KL:yO L Tryz.f58 AP.f115=some (AP.f115.body,AP.f115.res):=by kernel_rfl
theorem LP:Fits (58,115):=yM Tryz.func58 KL (by kernel_rfl) (by kernel_rfl)
theorem Qc:yO L Tryz.f59 AP.f8=some (AP.f8.body,AP.f8.res):=by kernel_rfl
theorem Qg:Fits (59,8):=yM Tryz.func59 Qc (by kernel_rfl) (by kernel_rfl)
theorem KM:yO L Tryz.f60 AP.f116=some (AP.f116.body,AP.f116.res):=by kernel_rfl
theorem LQ:Fits (60,116):=yM Tryz.func60 KM (by kernel_rfl) (by kernel_rfl)
theorem KN:yO L Tryz.f61 AP.f117=some (AP.f117.body,AP.f117.res):=by kernel_rfl
theorem LR:Fits (61,117):=yM Tryz.func61 KN (by kernel_rfl) (by kernel_rfl)
theorem KO:yO L Tryz.f62 AP.f118=some (AP.f118.body,AP.f118.res):=by kernel_rfl
theorem LS:Fits (62,118):=yM Tryz.func62 KO (by kernel_rfl) (by kernel_rfl)
theorem Lu:yO L Tryz.f63 AP.f172=some (AP.f172.body,AP.f172.res):=by kernel_rfl
theorem ME:Fits (63,172):=yM Tryz.func63 Lu (by kernel_rfl) (by kernel_rfl)
theorem Lv:yO L Tryz.f64 AP.f173=some (AP.f173.body,AP.f173.res):=by kernel_rfl
theorem MF:Fits (64,173):=yM Tryz.func64 Lv (by kernel_rfl) (by kernel_rfl)
theorem KP:yO L Tryz.f65 AP.f119=some (AP.f119.body,AP.f119.res):=by kernel_rfl
theorem LU:Fits (65,119):=yM Tryz.func65 KP (by kernel_rfl) (by kernel_rfl)
theorem KQ:yO L Tryz.f66 AP.f120=some (AP.f120.body,AP.f120.res):=by kernel_rfl
theorem LV:Fits (66,120):=yM Tryz.func66 KQ (by kernel_rfl) (by kernel_rfl)
theorem NB:yO L Tryz.f73 AP.f22=some (AP.f22.body,AP.f22.res):=by kernel_rfl
theorem OJ:Fits (73,22):=yM Tryz.func73 NB (by kernel_rfl) (by kernel_rfl)
theorem NC:yO L Tryz.f74 AP.f23=some (AP.f23.body,AP.f23.res):=by kernel_rfl
theorem OK:Fits (74,23):=yM Tryz.func74 NC (by kernel_rfl) (by kernel_rfl)
theorem NG:yO L Tryz.f80 AP.f32=some (AP.f32.body,AP.f32.res):=by kernel_rfl
theorem OP:Fits (80,32):=yM Tryz.func80 NG (by kernel_rfl) (by kernel_rfl)
theorem KR:yO L Tryz.f82 AP.f121=some (AP.f121.body,AP.f121.res):=by kernel_rfl
theorem LW:Fits (82,121):=yM Tryz.func82 KR (by kernel_rfl) (by kernel_rfl)
theorem KS:yO L Tryz.f83 AP.f122=some (AP.f122.body,AP.f122.res):=by kernel_rfl
theorem LX:Fits (83,122):=yM Tryz.func83 KS (by kernel_rfl) (by kernel_rfl)
theorem Qb:yO L Tryz.f84 AP.f7=some (AP.f7.body,AP.f7.res):=by kernel_rfl
theorem Qf:Fits (84,7):=yM Tryz.func84 Qb (by kernel_rfl) (by kernel_rfl)
theorem Nx:yO L Tryz.f85 AP.f18=some (AP.f18.body,AP.f18.res):=by kernel_rfl
theorem OE:Fits (85,18):=yM Tryz.func85 Nx (by kernel_rfl) (by kernel_rfl)
theorem Ny:yO L Tryz.f86 AP.f19=some (AP.f19.body,AP.f19.res):=by kernel_rfl
theorem OG:Fits (86,19):=yM Tryz.func86 Ny (by kernel_rfl) (by kernel_rfl)
theorem Nz:yO L Tryz.f87 AP.f20=some (AP.f20.body,AP.f20.res):=by kernel_rfl
theorem OH:Fits (87,20):=yM Tryz.func87 Nz (by kernel_rfl) (by kernel_rfl)
theorem NA:yO L Tryz.f88 AP.f21=some (AP.f21.body,AP.f21.res):=by kernel_rfl
theorem OI:Fits (88,21):=yM Tryz.func88 NA (by kernel_rfl) (by kernel_rfl)
theorem ND:yO L Tryz.f89 AP.f24=some (AP.f24.body,AP.f24.res):=by kernel_rfl
theorem OM:Fits (89,24):=yM Tryz.func89 ND (by kernel_rfl) (by kernel_rfl)
theorem NF:yO L Tryz.f90 AP.f25=some (AP.f25.body,AP.f25.res):=by kernel_rfl
theorem ON:Fits (90,25):=yM Tryz.func90 NF (by kernel_rfl) (by kernel_rfl)
theorem Oo:yO L Tryz.f91 AP.f83=some (AP.f83.body,AP.f83.res):=by kernel_rfl
theorem PF:Fits (91,83):=yM Tryz.func91 Oo (by kernel_rfl) (by kernel_rfl)
theorem KT:yO L Tryz.f92 AP.f123=some (AP.f123.body,AP.f123.res):=by kernel_rfl
theorem LY:Fits (92,123):=yM Tryz.func92 KT (by kernel_rfl) (by kernel_rfl)
theorem NX:yO L Tryz.f95 AP.f52=some (AP.f52.body,AP.f52.res):=by kernel_rfl
theorem O8:Fits (95,52):=yM Tryz.func95 NX (by kernel_rfl) (by kernel_rfl)
theorem NV:yO L Tryz.f96 AP.f50=some (AP.f50.body,AP.f50.res):=by kernel_rfl
theorem O6:Fits (96,50):=yM Tryz.func96 NV (by kernel_rfl) (by kernel_rfl)
theorem NW:yO L Tryz.f97 AP.f51=some (AP.f51.body,AP.f51.res):=by kernel_rfl
theorem O7:Fits (97,51):=yM Tryz.func97 NW (by kernel_rfl) (by kernel_rfl)
theorem KU:yO L Tryz.f99 AP.f124=some (AP.f124.body,AP.f124.res):=by kernel_rfl
theorem LZ:Fits (99,124):=yM Tryz.func99 KU (by kernel_rfl) (by kernel_rfl)
theorem Nt:yO L Tryz.f100 AP.f14=some (AP.f14.body,AP.f14.res):=by kernel_rfl
theorem Oz:Fits (100,14):=yM Tryz.func100 Nt (by kernel_rfl) (by kernel_rfl)
theorem Nu:yO L Tryz.f101 AP.f15=some (AP.f15.body,AP.f15.res):=by kernel_rfl
theorem OA:Fits (101,15):=yM Tryz.func101 Nu (by kernel_rfl) (by kernel_rfl)
theorem Nv:yO L Tryz.f102 AP.f16=some (AP.f16.body,AP.f16.res):=by kernel_rfl
theorem OC:Fits (102,16):=yM Tryz.func102 Nv (by kernel_rfl) (by kernel_rfl)
theorem Nw:yO L Tryz.f103 AP.f17=some (AP.f17.body,AP.f17.res):=by kernel_rfl
theorem OD:Fits (103,17):=yM Tryz.func103 Nw (by kernel_rfl) (by kernel_rfl)
theorem NQ:yO L Tryz.f104 AP.f46=some (AP.f46.body,AP.f46.res):=by kernel_rfl
theorem O0:Fits (104,46):=yM Tryz.func104 NQ (by kernel_rfl) (by kernel_rfl)
theorem NR:yO L Tryz.f105 AP.f47=some (AP.f47.body,AP.f47.res):=by kernel_rfl
theorem O3:Fits (105,47):=yM Tryz.func105 NR (by kernel_rfl) (by kernel_rfl)
theorem NT:yO L Tryz.f106 AP.f48=some (AP.f48.body,AP.f48.res):=by kernel_rfl
theorem O4:Fits (106,48):=yM Tryz.func106 NT (by kernel_rfl) (by kernel_rfl)
theorem NU:yO L Tryz.f107 AP.f49=some (AP.f49.body,AP.f49.res):=by kernel_rfl
theorem O5:Fits (107,49):=yM Tryz.func107 NU (by kernel_rfl) (by kernel_rfl)
theorem NY:yO L Tryz.f108 AP.f53=some (AP.f53.body,AP.f53.res):=by kernel_rfl
theorem O9:Fits (108,53):=yM Tryz.func108 NY (by kernel_rfl) (by kernel_rfl)
theorem NZ:yO L Tryz.f109 AP.f54=some (AP.f54.body,AP.f54.res):=by kernel_rfl
theorem Pa:Fits (109,54):=yM Tryz.func109 NZ (by kernel_rfl) (by kernel_rfl)
theorem Oq:yO L Tryz.f110 AP.f84=some (AP.f84.body,AP.f84.res):=by kernel_rfl
theorem PG:Fits (110,84):=yM Tryz.func110 Oq (by kernel_rfl) (by kernel_rfl)
theorem N9:yO L Tryz.f112 AP.f67=some (AP.f67.body,AP.f67.res):=by kernel_rfl
theorem Pm:Fits (112,67):=yM Tryz.func112 N9 (by kernel_rfl) (by kernel_rfl)
theorem Oa:yO L Tryz.f113 AP.f68=some (AP.f68.body,AP.f68.res):=by kernel_rfl
theorem Pn:Fits (113,68):=yM Tryz.func113 Oa (by kernel_rfl) (by kernel_rfl)
theorem KV:yO L Tryz.f116 AP.f125=some (AP.f125.body,AP.f125.res):=by kernel_rfl
theorem L6:Fits (116,125):=yM Tryz.func116 KV (by kernel_rfl) (by kernel_rfl)
theorem KW:yO L Tryz.f117 AP.f126=some (AP.f126.body,AP.f126.res):=by kernel_rfl
theorem L7:Fits (117,126):=yM Tryz.func117 KW (by kernel_rfl) (by kernel_rfl)
theorem KX:yO L Tryz.f118 AP.f127=some (AP.f127.body,AP.f127.res):=by kernel_rfl
theorem L9:Fits (118,127):=yM Tryz.func118 KX (by kernel_rfl) (by kernel_rfl)
theorem KY:yO L Tryz.f119 AP.f128=some (AP.f128.body,AP.f128.res):=by kernel_rfl
theorem Ma:Fits (119,128):=yM Tryz.func119 KY (by kernel_rfl) (by kernel_rfl)
theorem KZ:yO L Tryz.f120 AP.f129=some (AP.f129.body,AP.f129.res):=by kernel_rfl
theorem Mb:Fits (120,129):=yM Tryz.func120 KZ (by kernel_rfl) (by kernel_rfl)
theorem K0:yO L Tryz.f121 AP.f130=some (AP.f130.body,AP.f130.res):=by kernel_rfl
theorem Mc:Fits (121,130):=yM Tryz.func121 K0 (by kernel_rfl) (by kernel_rfl)
theorem K3:yO L Tryz.f122 AP.f131=some (AP.f131.body,AP.f131.res):=by kernel_rfl
theorem Md:Fits (122,131):=yM Tryz.func122 K3 (by kernel_rfl) (by kernel_rfl)
theorem NI:yO L Tryz.f123 AP.f38=some (AP.f38.body,AP.f38.res):=by kernel_rfl
theorem OQ:Fits (123,38):=yM Tryz.func123 NI (by kernel_rfl) (by kernel_rfl)
theorem NJ:yO L Tryz.f124 AP.f39=some (AP.f39.body,AP.f39.res):=by kernel_rfl
theorem OS:Fits (124,39):=yM Tryz.func124 NJ (by kernel_rfl) (by kernel_rfl)
theorem NK:yO L Tryz.f125 AP.f40=some (AP.f40.body,AP.f40.res):=by kernel_rfl
theorem OT:Fits (125,40):=yM Tryz.func125 NK (by kernel_rfl) (by kernel_rfl)
theorem NL:yO L Tryz.f126 AP.f41=some (AP.f41.body,AP.f41.res):=by kernel_rfl
theorem OU:Fits (126,41):=yM Tryz.func126 NL (by kernel_rfl) (by kernel_rfl)
theorem NM:yO L Tryz.f127 AP.f42=some (AP.f42.body,AP.f42.res):=by kernel_rfl
theorem OW:Fits (127,42):=yM Tryz.func127 NM (by kernel_rfl) (by kernel_rfl)
theorem NN:yO L Tryz.f128 AP.f43=some (AP.f43.body,AP.f43.res):=by kernel_rfl
theorem OX:Fits (128,43):=yM Tryz.func128 NN (by kernel_rfl) (by kernel_rfl)
theorem NO:yO L Tryz.f129 AP.f44=some (AP.f44.body,AP.f44.res):=by kernel_rfl
theorem OY:Fits (129,44):=yM Tryz.func129 NO (by kernel_rfl) (by kernel_rfl)
theorem NP:yO L Tryz.f130 AP.f45=some (AP.f45.body,AP.f45.res):=by kernel_rfl
theorem OZ:Fits (130,45):=yM Tryz.func130 NP (by kernel_rfl) (by kernel_rfl)
theorem K4:yO L Tryz.f131 AP.f132=some (AP.f132.body,AP.f132.res):=by kernel_rfl
theorem Me:Fits (131,132):=yM Tryz.func131 K4 (by kernel_rfl) (by kernel_rfl)
theorem K5:yO L Tryz.f132 AP.f133=some (AP.f133.body,AP.f133.res):=by kernel_rfl
theorem Mf:Fits (132,133):=yM Tryz.func132 K5 (by kernel_rfl) (by kernel_rfl)
theorem K6:yO L Tryz.f133 AP.f134=some (AP.f134.body,AP.f134.res):=by kernel_rfl
theorem Mh:Fits (133,134):=yM Tryz.func133 K6 (by kernel_rfl) (by kernel_rfl)
theorem K7:yO L Tryz.f134 AP.f135=some (AP.f135.body,AP.f135.res):=by kernel_rfl
theorem Mi:Fits (134,135):=yM Tryz.func134 K7 (by kernel_rfl) (by kernel_rfl)
theorem N0:yO L Tryz.f135 AP.f58=some (AP.f58.body,AP.f58.res):=by kernel_rfl
theorem Pb:Fits (135,58):=yM Tryz.func135 N0 (by kernel_rfl) (by kernel_rfl)
theorem N1:yO L Tryz.f136 AP.f59=some (AP.f59.body,AP.f59.res):=by kernel_rfl
theorem Pc:Fits (136,59):=yM Tryz.func136 N1 (by kernel_rfl) (by kernel_rfl)
theorem N2:yO L Tryz.f137 AP.f60=some (AP.f60.body,AP.f60.res):=by kernel_rfl
theorem Pd:Fits (137,60):=yM Tryz.func137 N2 (by kernel_rfl) (by kernel_rfl)
theorem N3:yO L Tryz.f138 AP.f61=some (AP.f61.body,AP.f61.res):=by kernel_rfl
theorem Pe:Fits (138,61):=yM Tryz.func138 N3 (by kernel_rfl) (by kernel_rfl)
theorem N4:yO L Tryz.f139 AP.f62=some (AP.f62.body,AP.f62.res):=by kernel_rfl
theorem Pf:Fits (139,62):=yM Tryz.func139 N4 (by kernel_rfl) (by kernel_rfl)
theorem N5:yO L Tryz.f140 AP.f63=some (AP.f63.body,AP.f63.res):=by kernel_rfl
theorem Pg:Fits (140,63):=yM Tryz.func140 N5 (by kernel_rfl) (by kernel_rfl)
theorem N6:yO L Tryz.f141 AP.f64=some (AP.f64.body,AP.f64.res):=by kernel_rfl
theorem Ph:Fits (141,64):=yM Tryz.func141 N6 (by kernel_rfl) (by kernel_rfl)
theorem N7:yO L Tryz.f142 AP.f65=some (AP.f65.body,AP.f65.res):=by kernel_rfl
theorem Pj:Fits (142,65):=yM Tryz.func142 N7 (by kernel_rfl) (by kernel_rfl)
theorem N8:yO L Tryz.f143 AP.f66=some (AP.f66.body,AP.f66.res):=by kernel_rfl
theorem Pl:Fits (143,66):=yM Tryz.func143 N8 (by kernel_rfl) (by kernel_rfl)
theorem K8:yO L Tryz.f146 AP.f138=some (AP.f138.body,AP.f138.res):=by kernel_rfl
theorem Mo:Fits (146,138):=yM Tryz.func146 K8 (by kernel_rfl) (by kernel_rfl)
theorem Ob:yO L Tryz.f147 AP.f72=some (AP.f72.body,AP.f72.res):=by kernel_rfl
theorem Po:Fits (147,72):=yM Tryz.func147 Ob (by kernel_rfl) (by kernel_rfl)
theorem Oc:yO L Tryz.f148 AP.f73=some (AP.f73.body,AP.f73.res):=by kernel_rfl
theorem Pp:Fits (148,73):=yM Tryz.func148 Oc (by kernel_rfl) (by kernel_rfl)
theorem Od:yO L Tryz.f149 AP.f74=some (AP.f74.body,AP.f74.res):=by kernel_rfl
theorem Pr:Fits (149,74):=yM Tryz.func149 Od (by kernel_rfl) (by kernel_rfl)
theorem Oe:yO L Tryz.f150 AP.f75=some (AP.f75.body,AP.f75.res):=by kernel_rfl
theorem Ps:Fits (150,75):=yM Tryz.func150 Oe (by kernel_rfl) (by kernel_rfl)
theorem Og:yO L Tryz.f151 AP.f76=some (AP.f76.body,AP.f76.res):=by kernel_rfl
theorem Pt:Fits (151,76):=yM Tryz.func151 Og (by kernel_rfl) (by kernel_rfl)
theorem Oh:yO L Tryz.f152 AP.f77=some (AP.f77.body,AP.f77.res):=by kernel_rfl
theorem Pu:Fits (152,77):=yM Tryz.func152 Oh (by kernel_rfl) (by kernel_rfl)
theorem Oi:yO L Tryz.f153 AP.f78=some (AP.f78.body,AP.f78.res):=by kernel_rfl
theorem Pv:Fits (153,78):=yM Tryz.func153 Oi (by kernel_rfl) (by kernel_rfl)
theorem Oj:yO L Tryz.f154 AP.f79=some (AP.f79.body,AP.f79.res):=by kernel_rfl
theorem Px:Fits (154,79):=yM Tryz.func154 Oj (by kernel_rfl) (by kernel_rfl)
theorem Ok:yO L Tryz.f155 AP.f80=some (AP.f80.body,AP.f80.res):=by kernel_rfl
theorem Py:Fits (155,80):=yM Tryz.func155 Ok (by kernel_rfl) (by kernel_rfl)
theorem Ol:yO L Tryz.f156 AP.f81=some (AP.f81.body,AP.f81.res):=by kernel_rfl
theorem Pz:Fits (156,81):=yM Tryz.func156 Ol (by kernel_rfl) (by kernel_rfl)
theorem K9:yO L Tryz.f157 AP.f139=some (AP.f139.body,AP.f139.res):=by kernel_rfl
theorem Mp:Fits (157,139):=yM Tryz.func157 K9 (by kernel_rfl) (by kernel_rfl)
theorem La:yO L Tryz.f158 AP.f140=some (AP.f140.body,AP.f140.res):=by kernel_rfl
theorem Mq:Fits (158,140):=yM Tryz.func158 La (by kernel_rfl) (by kernel_rfl)
theorem Lb:yO L Tryz.f159 AP.f141=some (AP.f141.body,AP.f141.res):=by kernel_rfl
theorem Mr:Fits (159,141):=yM Tryz.func159 Lb (by kernel_rfl) (by kernel_rfl)
theorem Om:yO L Tryz.f161 AP.f82=some (AP.f82.body,AP.f82.res):=by kernel_rfl
theorem PD:Fits (161,82):=yM Tryz.func161 Om (by kernel_rfl) (by kernel_rfl)
theorem Mj:Fits (144,136):=⟨Tryz.f144,_,Tryz.func144,rfl,by kernel_rfl,fun af h=>by cases h⟩
theorem Ml:Fits (145,137):=⟨Tryz.f145,_,Tryz.func145,rfl,by kernel_rfl,fun af h=>by cases h⟩
theorem Ms:Fits (162,143):=⟨Tryz.f162,_,Tryz.func162,rfl,by kernel_rfl,fun af h=>by cases h⟩
theorem P4:∀p∈Qt,Fits p:=yK Mt (yK PH (yK Qh (yK PL (yK Lz (yK Mu (yK PK (yK Mv (yK PJ (yK Mw (yK Mx (yK PI (yK LC (yK LD (yK LF (yK LG (yK LH (yK My (yK LI (yK LJ (yK LK (yK Mz (yK MA (yK MB (yK MC (yK PM (yK LL (yK LM (yK MD (yK LN (yK LO (yK LP (yK Qg (yK LQ (yK LR (yK LS (yK ME (yK MF (yK LU (yK LV (yK OJ (yK OK (yK OP (yK LW (yK LX (yK Qf (yK OE (yK OG (yK OH (yK OI (yK OM (yK ON (yK PF (yK LY (yK O8 (yK O6 (yK O7 (yK LZ (yK Oz (yK OA (yK OC (yK OD (yK O0 (yK O3 (yK O4 (yK O5 (yK O9 (yK Pa (yK PG (yK Pm (yK Pn (yK L6 (yK L7 (yK L9 (yK Ma (yK Mb (yK Mc (yK Md (yK OQ (yK OS (yK OT (yK OU (yK OW (yK OX (yK OY (yK OZ (yK Me (yK Mf (yK Mh (yK Mi (yK Pb (yK Pc (yK Pd (yK Pe (yK Pf (yK Pg (yK Ph (yK Pj (yK Pl (yK Mo (yK Po (yK Pp (yK Pr (yK Ps (yK Pt (yK Pu (yK Pv (yK Px (yK Py (yK Pz (yK Mp (yK Mq (yK Mr (yK PD (yK Mj (yK Ml (yK Ms (HI)))))))))))))))))))))))))))))))))))))))))))))))))))))))))))))))))))))))))))))))))))))))))))))))))))))))))))))))))))))
theorem lk:fH L AP.A:=⟨by kernel_rfl,fun fid f h=>P4 (fid,f) (Em h),fun _ _ _ _ h=>by cases h⟩
end Ab.Ln
