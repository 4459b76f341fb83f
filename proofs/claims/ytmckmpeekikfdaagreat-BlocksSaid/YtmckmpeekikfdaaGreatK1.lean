/- Part K1. -/
import Derived.Test.YtmckmpeekikfdaaGreatProg
import Derived.KernelRfl
import Derived.Test.YtmckmpeekikfdaaGreatAP
set_option maxRecDepth 100000
namespace Ab.Ln
open Go Go.Proofs Ab
def v9 (L:Lk) (fn:Func) (af:fh):Option (aG×List RV):=fn.body.bind fun c=>(comp L fn.ntmps c af.body).bind fun x=>(cD L fn.results.toList).bind fun r=>some (x,r)
def Fits (p : Nat × Nat) : Prop := ∃ fn c, L.P.funcs[p.1]? = some fn ∧ fn.body = some c ∧ (fn.name == "runtime.NumGoroutine") = false ∧
    ∀af,AP.A p.2=some af→(∃x0,comp L fn.ntmps c x0=some af.body)∧cD L fn.results.toList=some af.res
theorem vY {k a : Nat} {fn : Func} {af : fh} (h1 : L.P.funcs[k]? = some fn) (h2 : v9 L fn af = some (af.body, af.res)) (h3 : (fn.name == "runtime.NumGoroutine") = false) (h4 : AP.A a = some af) : Fits (k, a) := by
 unfold v9 at h2
 simp only[vk]at h2
 obtain⟨c,g1,x,g2,r,g3,g4⟩:=h2
 obtain⟨rfl,rfl⟩:=vo (vm g4)
 refine⟨fn,c,h1,g1,h3,fun af2 g5=> ?_⟩
 rw[h4]at g5
 obtain rfl:=vm g5
 exact⟨⟨_,g2⟩,g3⟩
theorem Ao:∀{l:List (Nat×Nat)} {k f:Nat},Cw l k=some f→(k,f)∈l
 |[],_,_,h=>by cases h
 | (i, g) :: r, k, f, h => by
   unfold Cw at h
   split at h
   · rename_i e;subst e;obtain rfl:=vm h;exact List.mem_cons_self
   · exact List.mem_cons_of_mem _ (Ao h)
theorem KV:∀p∈([]:List (Nat×Nat)),Fits p:=fun p h=>by cases h
theorem vW {p:Nat×Nat} {l:List (Nat×Nat)} (h1:Fits p) (h2:∀q∈l,Fits q):∀q∈p::l,Fits q:=fun q h=>by
 rcases vR.1 h with rfl|h
 · exact h1
 · exact h2 q h
theorem O4:v9 L Tryz.f3 AP.f375=some (AP.f375.body,AP.f375.res):=by kernel_rfl
theorem Qb:Fits (3,375):=vY Tryz.func3 O4 (by kernel_rfl) (by kernel_rfl)
theorem O5:v9 L Tryz.f4 AP.f377=some (AP.f377.body,AP.f377.res):=by kernel_rfl
theorem Qc:Fits (4,377):=vY Tryz.func4 O5 (by kernel_rfl) (by kernel_rfl)
theorem Oe:v9 L Tryz.f5 AP.f325=some (AP.f325.body,AP.f325.res):=by kernel_rfl
theorem Pm:Fits (5,325):=vY Tryz.func5 Oe (by kernel_rfl) (by kernel_rfl)
theorem N9:v9 L Tryz.f6 AP.f170=some (AP.f170.body,AP.f170.res):=by kernel_rfl
theorem Pg:Fits (6,170):=vY Tryz.func6 N9 (by kernel_rfl) (by kernel_rfl)
theorem Of:v9 L Tryz.f7 AP.f326=some (AP.f326.body,AP.f326.res):=by kernel_rfl
theorem Pn:Fits (7,326):=vY Tryz.func7 Of (by kernel_rfl) (by kernel_rfl)
theorem Oa:v9 L Tryz.f8 AP.f171=some (AP.f171.body,AP.f171.res):=by kernel_rfl
theorem Ph:Fits (8,171):=vY Tryz.func8 Oa (by kernel_rfl) (by kernel_rfl)
theorem Og:v9 L Tryz.f9 AP.f327=some (AP.f327.body,AP.f327.res):=by kernel_rfl
theorem Po:Fits (9,327):=vY Tryz.func9 Og (by kernel_rfl) (by kernel_rfl)
theorem QV:v9 L Tryz.f10 AP.f13=some (AP.f13.body,AP.f13.res):=by kernel_rfl
theorem RY:Fits (10,13):=vY Tryz.func10 QV (by kernel_rfl) (by kernel_rfl)
theorem Tv:v9 L Tryz.f11 AP.f9=some (AP.f9.body,AP.f9.res):=by kernel_rfl
theorem T3:Fits (11,9):=vY Tryz.func11 Tv (by kernel_rfl) (by kernel_rfl)
theorem O6:v9 L Tryz.f12 AP.f378=some (AP.f378.body,AP.f378.res):=by kernel_rfl
theorem Qd:Fits (12,378):=vY Tryz.func12 O6 (by kernel_rfl) (by kernel_rfl)
theorem Od:v9 L Tryz.f13 AP.f324=some (AP.f324.body,AP.f324.res):=by kernel_rfl
theorem Pl:Fits (13,324):=vY Tryz.func13 Od (by kernel_rfl) (by kernel_rfl)
theorem O7:v9 L Tryz.f14 AP.f379=some (AP.f379.body,AP.f379.res):=by kernel_rfl
theorem Qe:Fits (14,379):=vY Tryz.func14 O7 (by kernel_rfl) (by kernel_rfl)
theorem Oj:v9 L Tryz.f15 AP.f333=some (AP.f333.body,AP.f333.res):=by kernel_rfl
theorem Pr:Fits (15,333):=vY Tryz.func15 Oj (by kernel_rfl) (by kernel_rfl)
theorem Ok:v9 L Tryz.f16 AP.f334=some (AP.f334.body,AP.f334.res):=by kernel_rfl
theorem Ps:Fits (16,334):=vY Tryz.func16 Ok (by kernel_rfl) (by kernel_rfl)
theorem Ol:v9 L Tryz.f17 AP.f335=some (AP.f335.body,AP.f335.res):=by kernel_rfl
theorem Pt:Fits (17,335):=vY Tryz.func17 Ol (by kernel_rfl) (by kernel_rfl)
theorem Om:v9 L Tryz.f18 AP.f336=some (AP.f336.body,AP.f336.res):=by kernel_rfl
theorem Pu:Fits (18,336):=vY Tryz.func18 Om (by kernel_rfl) (by kernel_rfl)
theorem Q8:v9 L Tryz.f19 AP.f33=some (AP.f33.body,AP.f33.res):=by kernel_rfl
theorem Sd:Fits (19,33):=vY Tryz.func19 Q8 (by kernel_rfl) (by kernel_rfl)
theorem Ob:v9 L Tryz.f20 AP.f174=some (AP.f174.body,AP.f174.res):=by kernel_rfl
theorem Pj:Fits (20,174):=vY Tryz.func20 Ob (by kernel_rfl) (by kernel_rfl)
theorem Rc:v9 L Tryz.f21 AP.f37=some (AP.f37.body,AP.f37.res):=by kernel_rfl
theorem Si:Fits (21,37):=vY Tryz.func21 Rc (by kernel_rfl) (by kernel_rfl)
theorem On:v9 L Tryz.f22 AP.f337=some (AP.f337.body,AP.f337.res):=by kernel_rfl
theorem Pv:Fits (22,337):=vY Tryz.func22 On (by kernel_rfl) (by kernel_rfl)
theorem Oo:v9 L Tryz.f23 AP.f338=some (AP.f338.body,AP.f338.res):=by kernel_rfl
theorem Pw:Fits (23,338):=vY Tryz.func23 Oo (by kernel_rfl) (by kernel_rfl)
theorem Ri:v9 L Tryz.f24 AP.f42=some (AP.f42.body,AP.f42.res):=by kernel_rfl
theorem Sn:Fits (24,42):=vY Tryz.func24 Ri (by kernel_rfl) (by kernel_rfl)
theorem Rj:v9 L Tryz.f25 AP.f43=some (AP.f43.body,AP.f43.res):=by kernel_rfl
theorem So:Fits (25,43):=vY Tryz.func25 Rj (by kernel_rfl) (by kernel_rfl)
theorem Oq:v9 L Tryz.f26 AP.f339=some (AP.f339.body,AP.f339.res):=by kernel_rfl
theorem Px:Fits (26,339):=vY Tryz.func26 Oq (by kernel_rfl) (by kernel_rfl)
theorem Q2:v9 L Tryz.f27 AP.f27=some (AP.f27.body,AP.f27.res):=by kernel_rfl
theorem R7:Fits (27,27):=vY Tryz.func27 Q2 (by kernel_rfl) (by kernel_rfl)
theorem Q9:v9 L Tryz.f28 AP.f34=some (AP.f34.body,AP.f34.res):=by kernel_rfl
theorem Se:Fits (28,34):=vY Tryz.func28 Q9 (by kernel_rfl) (by kernel_rfl)
theorem Q0:v9 L Tryz.f29 AP.f22=some (AP.f22.body,AP.f22.res):=by kernel_rfl
theorem R5:Fits (29,22):=vY Tryz.func29 Q0 (by kernel_rfl) (by kernel_rfl)
theorem Q1:v9 L Tryz.f30 AP.f23=some (AP.f23.body,AP.f23.res):=by kernel_rfl
theorem R6:Fits (30,23):=vY Tryz.func30 Q1 (by kernel_rfl) (by kernel_rfl)
theorem Rb:v9 L Tryz.f31 AP.f36=some (AP.f36.body,AP.f36.res):=by kernel_rfl
theorem Sg:Fits (31,36):=vY Tryz.func31 Rb (by kernel_rfl) (by kernel_rfl)
theorem Ot:v9 L Tryz.f32 AP.f340=some (AP.f340.body,AP.f340.res):=by kernel_rfl
theorem Py:Fits (32,340):=vY Tryz.func32 Ot (by kernel_rfl) (by kernel_rfl)
theorem Ou:v9 L Tryz.f33 AP.f341=some (AP.f341.body,AP.f341.res):=by kernel_rfl
theorem Pz:Fits (33,341):=vY Tryz.func33 Ou (by kernel_rfl) (by kernel_rfl)
theorem Ov:v9 L Tryz.f34 AP.f342=some (AP.f342.body,AP.f342.res):=by kernel_rfl
theorem PA:Fits (34,342):=vY Tryz.func34 Ov (by kernel_rfl) (by kernel_rfl)
theorem Q3:v9 L Tryz.f35 AP.f28=some (AP.f28.body,AP.f28.res):=by kernel_rfl
theorem R8:Fits (35,28):=vY Tryz.func35 Q3 (by kernel_rfl) (by kernel_rfl)
theorem Q4:v9 L Tryz.f36 AP.f29=some (AP.f29.body,AP.f29.res):=by kernel_rfl
theorem R9:Fits (36,29):=vY Tryz.func36 Q4 (by kernel_rfl) (by kernel_rfl)
theorem Q5:v9 L Tryz.f37 AP.f30=some (AP.f30.body,AP.f30.res):=by kernel_rfl
theorem Sa:Fits (37,30):=vY Tryz.func37 Q5 (by kernel_rfl) (by kernel_rfl)
theorem Q6:v9 L Tryz.f38 AP.f31=some (AP.f31.body,AP.f31.res):=by kernel_rfl
theorem Sb:Fits (38,31):=vY Tryz.func38 Q6 (by kernel_rfl) (by kernel_rfl)
theorem Q7:v9 L Tryz.f39 AP.f32=some (AP.f32.body,AP.f32.res):=by kernel_rfl
theorem Sc:Fits (39,32):=vY Tryz.func39 Q7 (by kernel_rfl) (by kernel_rfl)
theorem Ra:v9 L Tryz.f40 AP.f35=some (AP.f35.body,AP.f35.res):=by kernel_rfl
theorem Sf:Fits (40,35):=vY Tryz.func40 Ra (by kernel_rfl) (by kernel_rfl)
theorem O8:v9 L Tryz.f41 AP.f380=some (AP.f380.body,AP.f380.res):=by kernel_rfl
theorem Qf:Fits (41,380):=vY Tryz.func41 O8 (by kernel_rfl) (by kernel_rfl)
theorem Oi:v9 L Tryz.f42 AP.f332=some (AP.f332.body,AP.f332.res):=by kernel_rfl
theorem Pq:Fits (42,332):=vY Tryz.func42 Oi (by kernel_rfl) (by kernel_rfl)
theorem Tu:v9 L Tryz.f43 AP.f7=some (AP.f7.body,AP.f7.res):=by kernel_rfl
theorem TZ:Fits (43,7):=vY Tryz.func43 Tu (by kernel_rfl) (by kernel_rfl)
theorem Oy:v9 L Tryz.f44 AP.f345=some (AP.f345.body,AP.f345.res):=by kernel_rfl
theorem PD:Fits (44,345):=vY Tryz.func44 Oy (by kernel_rfl) (by kernel_rfl)
theorem Oz:v9 L Tryz.f45 AP.f346=some (AP.f346.body,AP.f346.res):=by kernel_rfl
theorem PF:Fits (45,346):=vY Tryz.func45 Oz (by kernel_rfl) (by kernel_rfl)
theorem OA:v9 L Tryz.f46 AP.f347=some (AP.f347.body,AP.f347.res):=by kernel_rfl
theorem PG:Fits (46,347):=vY Tryz.func46 OA (by kernel_rfl) (by kernel_rfl)
theorem Rt:v9 L Tryz.f47 AP.f57=some (AP.f57.body,AP.f57.res):=by kernel_rfl
theorem Sx:Fits (47,57):=vY Tryz.func47 Rt (by kernel_rfl) (by kernel_rfl)
theorem Oh:v9 L Tryz.f48 AP.f328=some (AP.f328.body,AP.f328.res):=by kernel_rfl
theorem Pp:Fits (48,328):=vY Tryz.func48 Oh (by kernel_rfl) (by kernel_rfl)
theorem OB:v9 L Tryz.f49 AP.f348=some (AP.f348.body,AP.f348.res):=by kernel_rfl
theorem PH:Fits (49,348):=vY Tryz.func49 OB (by kernel_rfl) (by kernel_rfl)
theorem Ry:v9 L Tryz.f50 AP.f62=some (AP.f62.body,AP.f62.res):=by kernel_rfl
theorem SE:Fits (50,62):=vY Tryz.func50 Ry (by kernel_rfl) (by kernel_rfl)
theorem Rz:v9 L Tryz.f51 AP.f63=some (AP.f63.body,AP.f63.res):=by kernel_rfl
theorem SF:Fits (51,63):=vY Tryz.func51 Rz (by kernel_rfl) (by kernel_rfl)
theorem OC:v9 L Tryz.f52 AP.f349=some (AP.f349.body,AP.f349.res):=by kernel_rfl
theorem PI:Fits (52,349):=vY Tryz.func52 OC (by kernel_rfl) (by kernel_rfl)
theorem OD:v9 L Tryz.f53 AP.f350=some (AP.f350.body,AP.f350.res):=by kernel_rfl
theorem PJ:Fits (53,350):=vY Tryz.func53 OD (by kernel_rfl) (by kernel_rfl)
theorem Rq:v9 L Tryz.f54 AP.f55=some (AP.f55.body,AP.f55.res):=by kernel_rfl
theorem Sv:Fits (54,55):=vY Tryz.func54 Rq (by kernel_rfl) (by kernel_rfl)
theorem Rp:v9 L Tryz.f55 AP.f52=some (AP.f52.body,AP.f52.res):=by kernel_rfl
theorem Su:Fits (55,52):=vY Tryz.func55 Rp (by kernel_rfl) (by kernel_rfl)
theorem OE:v9 L Tryz.f56 AP.f351=some (AP.f351.body,AP.f351.res):=by kernel_rfl
theorem PK:Fits (56,351):=vY Tryz.func56 OE (by kernel_rfl) (by kernel_rfl)
theorem RP:v9 L Tryz.f57 AP.f79=some (AP.f79.body,AP.f79.res):=by kernel_rfl
theorem SY:Fits (57,79):=vY Tryz.func57 RP (by kernel_rfl) (by kernel_rfl)
theorem OG:v9 L Tryz.f58 AP.f352=some (AP.f352.body,AP.f352.res):=by kernel_rfl
theorem PL:Fits (58,352):=vY Tryz.func58 OG (by kernel_rfl) (by kernel_rfl)
theorem Rm:v9 L Tryz.f59 AP.f50=some (AP.f50.body,AP.f50.res):=by kernel_rfl
theorem Sr:Fits (59,50):=vY Tryz.func59 Rm (by kernel_rfl) (by kernel_rfl)
theorem Rn:v9 L Tryz.f60 AP.f51=some (AP.f51.body,AP.f51.res):=by kernel_rfl
theorem Ss:Fits (60,51):=vY Tryz.func60 Rn (by kernel_rfl) (by kernel_rfl)
theorem Rr:v9 L Tryz.f61 AP.f56=some (AP.f56.body,AP.f56.res):=by kernel_rfl
theorem Sw:Fits (61,56):=vY Tryz.func61 Rr (by kernel_rfl) (by kernel_rfl)
theorem Ox:v9 L Tryz.f62 AP.f344=some (AP.f344.body,AP.f344.res):=by kernel_rfl
theorem PC:Fits (62,344):=vY Tryz.func62 Ox (by kernel_rfl) (by kernel_rfl)
theorem QW:v9 L Tryz.f63 AP.f14=some (AP.f14.body,AP.f14.res):=by kernel_rfl
theorem RZ:Fits (63,14):=vY Tryz.func63 QW (by kernel_rfl) (by kernel_rfl)
theorem QX:v9 L Tryz.f64 AP.f15=some (AP.f15.body,AP.f15.res):=by kernel_rfl
theorem R1:Fits (64,15):=vY Tryz.func64 QX (by kernel_rfl) (by kernel_rfl)
theorem QY:v9 L Tryz.f65 AP.f16=some (AP.f16.body,AP.f16.res):=by kernel_rfl
theorem R3:Fits (65,16):=vY Tryz.func65 QY (by kernel_rfl) (by kernel_rfl)
theorem QZ:v9 L Tryz.f66 AP.f17=some (AP.f17.body,AP.f17.res):=by kernel_rfl
theorem R4:Fits (66,17):=vY Tryz.func66 QZ (by kernel_rfl) (by kernel_rfl)
theorem Ow:v9 L Tryz.f67 AP.f343=some (AP.f343.body,AP.f343.res):=by kernel_rfl
theorem PB:Fits (67,343):=vY Tryz.func67 Ow (by kernel_rfl) (by kernel_rfl)
theorem RR:v9 L Tryz.f68 AP.f81=some (AP.f81.body,AP.f81.res):=by kernel_rfl
theorem S5:Fits (68,81):=vY Tryz.func68 RR (by kernel_rfl) (by kernel_rfl)
theorem Rh:v9 L Tryz.f69 AP.f41=some (AP.f41.body,AP.f41.res):=by kernel_rfl
theorem Sm:Fits (69,41):=vY Tryz.func69 Rh (by kernel_rfl) (by kernel_rfl)
theorem RM:v9 L Tryz.f70 AP.f76=some (AP.f76.body,AP.f76.res):=by kernel_rfl
theorem SU:Fits (70,76):=vY Tryz.func70 RM (by kernel_rfl) (by kernel_rfl)
theorem RN:v9 L Tryz.f71 AP.f77=some (AP.f77.body,AP.f77.res):=by kernel_rfl
theorem SW:Fits (71,77):=vY Tryz.func71 RN (by kernel_rfl) (by kernel_rfl)
theorem RO:v9 L Tryz.f72 AP.f78=some (AP.f78.body,AP.f78.res):=by kernel_rfl
theorem SX:Fits (72,78):=vY Tryz.func72 RO (by kernel_rfl) (by kernel_rfl)
theorem OJ:v9 L Tryz.f73 AP.f355=some (AP.f355.body,AP.f355.res):=by kernel_rfl
theorem PO:Fits (73,355):=vY Tryz.func73 OJ (by kernel_rfl) (by kernel_rfl)
theorem OK:v9 L Tryz.f74 AP.f356=some (AP.f356.body,AP.f356.res):=by kernel_rfl
theorem PQ:Fits (74,356):=vY Tryz.func74 OK (by kernel_rfl) (by kernel_rfl)
theorem RF:v9 L Tryz.f75 AP.f69=some (AP.f69.body,AP.f69.res):=by kernel_rfl
theorem SL:Fits (75,69):=vY Tryz.func75 RF (by kernel_rfl) (by kernel_rfl)
theorem RD:v9 L Tryz.f76 AP.f67=some (AP.f67.body,AP.f67.res):=by kernel_rfl
theorem SJ:Fits (76,67):=vY Tryz.func76 RD (by kernel_rfl) (by kernel_rfl)
theorem RE:v9 L Tryz.f77 AP.f68=some (AP.f68.body,AP.f68.res):=by kernel_rfl
theorem SK:Fits (77,68):=vY Tryz.func77 RE (by kernel_rfl) (by kernel_rfl)
theorem OL:v9 L Tryz.f78 AP.f357=some (AP.f357.body,AP.f357.res):=by kernel_rfl
theorem PR:Fits (78,357):=vY Tryz.func78 OL (by kernel_rfl) (by kernel_rfl)
theorem RT:v9 L Tryz.f79 AP.f83=some (AP.f83.body,AP.f83.res):=by kernel_rfl
theorem S7:Fits (79,83):=vY Tryz.func79 RT (by kernel_rfl) (by kernel_rfl)
theorem OM:v9 L Tryz.f80 AP.f358=some (AP.f358.body,AP.f358.res):=by kernel_rfl
theorem PS:Fits (80,358):=vY Tryz.func80 OM (by kernel_rfl) (by kernel_rfl)
theorem N8:v9 L Tryz.f81 AP.f118=some (AP.f118.body,AP.f118.res):=by kernel_rfl
theorem Pf:Fits (81,118):=vY Tryz.func81 N8 (by kernel_rfl) (by kernel_rfl)
theorem Oc:v9 L Tryz.f82 AP.f189=some (AP.f189.body,AP.f189.res):=by kernel_rfl
theorem Pk:Fits (82,189):=vY Tryz.func82 Oc (by kernel_rfl) (by kernel_rfl)
theorem ON:v9 L Tryz.f83 AP.f359=some (AP.f359.body,AP.f359.res):=by kernel_rfl
theorem PT:Fits (83,359):=vY Tryz.func83 ON (by kernel_rfl) (by kernel_rfl)
theorem OP:v9 L Tryz.f84 AP.f360=some (AP.f360.body,AP.f360.res):=by kernel_rfl
theorem PU:Fits (84,360):=vY Tryz.func84 OP (by kernel_rfl) (by kernel_rfl)
theorem RG:v9 L Tryz.f85 AP.f70=some (AP.f70.body,AP.f70.res):=by kernel_rfl
theorem SM:Fits (85,70):=vY Tryz.func85 RG (by kernel_rfl) (by kernel_rfl)
theorem RH:v9 L Tryz.f86 AP.f71=some (AP.f71.body,AP.f71.res):=by kernel_rfl
theorem SN:Fits (86,71):=vY Tryz.func86 RH (by kernel_rfl) (by kernel_rfl)
theorem OI:v9 L Tryz.f87 AP.f354=some (AP.f354.body,AP.f354.res):=by kernel_rfl
theorem PN:Fits (87,354):=vY Tryz.func87 OI (by kernel_rfl) (by kernel_rfl)
theorem Re:v9 L Tryz.f88 AP.f38=some (AP.f38.body,AP.f38.res):=by kernel_rfl
theorem Sj:Fits (88,38):=vY Tryz.func88 Re (by kernel_rfl) (by kernel_rfl)
theorem Rf:v9 L Tryz.f89 AP.f39=some (AP.f39.body,AP.f39.res):=by kernel_rfl
theorem Sk:Fits (89,39):=vY Tryz.func89 Rf (by kernel_rfl) (by kernel_rfl)
theorem Rg:v9 L Tryz.f90 AP.f40=some (AP.f40.body,AP.f40.res):=by kernel_rfl
theorem Sl:Fits (90,40):=vY Tryz.func90 Rg (by kernel_rfl) (by kernel_rfl)
theorem Rk:v9 L Tryz.f91 AP.f44=some (AP.f44.body,AP.f44.res):=by kernel_rfl
theorem Sp:Fits (91,44):=vY Tryz.func91 Rk (by kernel_rfl) (by kernel_rfl)
theorem Rl:v9 L Tryz.f92 AP.f45=some (AP.f45.body,AP.f45.res):=by kernel_rfl
theorem Sq:Fits (92,45):=vY Tryz.func92 Rl (by kernel_rfl) (by kernel_rfl)
theorem OH:v9 L Tryz.f93 AP.f353=some (AP.f353.body,AP.f353.res):=by kernel_rfl
theorem PM:Fits (93,353):=vY Tryz.func93 OH (by kernel_rfl) (by kernel_rfl)
theorem RS:v9 L Tryz.f94 AP.f82=some (AP.f82.body,AP.f82.res):=by kernel_rfl
theorem S6:Fits (94,82):=vY Tryz.func94 RS (by kernel_rfl) (by kernel_rfl)
theorem OQ:v9 L Tryz.f95 AP.f361=some (AP.f361.body,AP.f361.res):=by kernel_rfl
theorem PV:Fits (95,361):=vY Tryz.func95 OQ (by kernel_rfl) (by kernel_rfl)
theorem RK:v9 L Tryz.f96 AP.f74=some (AP.f74.body,AP.f74.res):=by kernel_rfl
theorem SQ:Fits (96,74):=vY Tryz.func96 RK (by kernel_rfl) (by kernel_rfl)
theorem RL:v9 L Tryz.f97 AP.f75=some (AP.f75.body,AP.f75.res):=by kernel_rfl
theorem SR:Fits (97,75):=vY Tryz.func97 RL (by kernel_rfl) (by kernel_rfl)
theorem RU:v9 L Tryz.f98 AP.f84=some (AP.f84.body,AP.f84.res):=by kernel_rfl
theorem S8:Fits (98,84):=vY Tryz.func98 RU (by kernel_rfl) (by kernel_rfl)
theorem OR:v9 L Tryz.f99 AP.f362=some (AP.f362.body,AP.f362.res):=by kernel_rfl
theorem PX:Fits (99,362):=vY Tryz.func99 OR (by kernel_rfl) (by kernel_rfl)
theorem OS:v9 L Tryz.f100 AP.f363=some (AP.f363.body,AP.f363.res):=by kernel_rfl
theorem PY:Fits (100,363):=vY Tryz.func100 OS (by kernel_rfl) (by kernel_rfl)
theorem OT:v9 L Tryz.f101 AP.f364=some (AP.f364.body,AP.f364.res):=by kernel_rfl
theorem PZ:Fits (101,364):=vY Tryz.func101 OT (by kernel_rfl) (by kernel_rfl)
theorem OU:v9 L Tryz.f102 AP.f365=some (AP.f365.body,AP.f365.res):=by kernel_rfl
theorem P3:Fits (102,365):=vY Tryz.func102 OU (by kernel_rfl) (by kernel_rfl)
theorem Ru:v9 L Tryz.f103 AP.f58=some (AP.f58.body,AP.f58.res):=by kernel_rfl
theorem Sy:Fits (103,58):=vY Tryz.func103 Ru (by kernel_rfl) (by kernel_rfl)
theorem Rv:v9 L Tryz.f104 AP.f59=some (AP.f59.body,AP.f59.res):=by kernel_rfl
theorem Sz:Fits (104,59):=vY Tryz.func104 Rv (by kernel_rfl) (by kernel_rfl)
theorem Rw:v9 L Tryz.f105 AP.f60=some (AP.f60.body,AP.f60.res):=by kernel_rfl
theorem SA:Fits (105,60):=vY Tryz.func105 Rw (by kernel_rfl) (by kernel_rfl)
theorem Rx:v9 L Tryz.f106 AP.f61=some (AP.f61.body,AP.f61.res):=by kernel_rfl
theorem SD:Fits (106,61):=vY Tryz.func106 Rx (by kernel_rfl) (by kernel_rfl)
theorem RA:v9 L Tryz.f107 AP.f64=some (AP.f64.body,AP.f64.res):=by kernel_rfl
theorem SG:Fits (107,64):=vY Tryz.func107 RA (by kernel_rfl) (by kernel_rfl)
theorem RB:v9 L Tryz.f108 AP.f65=some (AP.f65.body,AP.f65.res):=by kernel_rfl
theorem SH:Fits (108,65):=vY Tryz.func108 RB (by kernel_rfl) (by kernel_rfl)
theorem RC:v9 L Tryz.f109 AP.f66=some (AP.f66.body,AP.f66.res):=by kernel_rfl
theorem SI:Fits (109,66):=vY Tryz.func109 RC (by kernel_rfl) (by kernel_rfl)
theorem OW:v9 L Tryz.f110 AP.f366=some (AP.f366.body,AP.f366.res):=by kernel_rfl
theorem P4:Fits (110,366):=vY Tryz.func110 OW (by kernel_rfl) (by kernel_rfl)
theorem OX:v9 L Tryz.f111 AP.f367=some (AP.f367.body,AP.f367.res):=by kernel_rfl
theorem P5:Fits (111,367):=vY Tryz.func111 OX (by kernel_rfl) (by kernel_rfl)
theorem RI:v9 L Tryz.f112 AP.f72=some (AP.f72.body,AP.f72.res):=by kernel_rfl
theorem SO:Fits (112,72):=vY Tryz.func112 RI (by kernel_rfl) (by kernel_rfl)
theorem RJ:v9 L Tryz.f113 AP.f73=some (AP.f73.body,AP.f73.res):=by kernel_rfl
theorem SP:Fits (113,73):=vY Tryz.func113 RJ (by kernel_rfl) (by kernel_rfl)
theorem RQ:v9 L Tryz.f114 AP.f80=some (AP.f80.body,AP.f80.res):=by kernel_rfl
theorem SZ:Fits (114,80):=vY Tryz.func114 RQ (by kernel_rfl) (by kernel_rfl)
theorem OY:v9 L Tryz.f133 AP.f368=some (AP.f368.body,AP.f368.res):=by kernel_rfl
theorem P6:Fits (133,368):=vY Tryz.func133 OY (by kernel_rfl) (by kernel_rfl)
theorem OZ:v9 L Tryz.f134 AP.f369=some (AP.f369.body,AP.f369.res):=by kernel_rfl
theorem P7:Fits (134,369):=vY Tryz.func134 OZ (by kernel_rfl) (by kernel_rfl)
theorem O0:v9 L Tryz.f135 AP.f370=some (AP.f370.body,AP.f370.res):=by kernel_rfl
theorem P9:Fits (135,370):=vY Tryz.func135 O0 (by kernel_rfl) (by kernel_rfl)
theorem O3:v9 L Tryz.f136 AP.f371=some (AP.f371.body,AP.f371.res):=by kernel_rfl
theorem Qa:Fits (136,371):=vY Tryz.func136 O3 (by kernel_rfl) (by kernel_rfl)
theorem Tq:∀p∈Ui,Fits p:=vW Qb (vW Qc (vW Pm (vW Pg (vW Pn (vW Ph (vW Po (vW RY (vW T3 (vW Qd (vW Pl (vW Qe (vW Pr (vW Ps (vW Pt (vW Pu (vW Sd (vW Pj (vW Si (vW Pv (vW Pw (vW Sn (vW So (vW Px (vW R7 (vW Se (vW R5 (vW R6 (vW Sg (vW Py (vW Pz (vW PA (vW R8 (vW R9 (vW Sa (vW Sb (vW Sc (vW Sf (vW Qf (vW Pq (vW TZ (vW PD (vW PF (vW PG (vW Sx (vW Pp (vW PH (vW SE (vW SF (vW PI (vW PJ (vW Sv (vW Su (vW PK (vW SY (vW PL (vW Sr (vW Ss (vW Sw (vW PC (vW RZ (vW R1 (vW R3 (vW R4 (vW PB (vW S5 (vW Sm (vW SU (vW SW (vW SX (vW PO (vW PQ (vW SL (vW SJ (vW SK (vW PR (vW S7 (vW PS (vW Pf (vW Pk (vW PT (vW PU (vW SM (vW SN (vW PN (vW Sj (vW Sk (vW Sl (vW Sp (vW Sq (vW PM (vW S6 (vW PV (vW SQ (vW SR (vW S8 (vW PX (vW PY (vW PZ (vW P3 (vW Sy (vW Sz (vW SA (vW SD (vW SG (vW SH (vW SI (vW P4 (vW P5 (vW SO (vW SP (vW SZ (vW P6 (vW P7 (vW P9 (vW Qa (KV))))))))))))))))))))))))))))))))))))))))))))))))))))))))))))))))))))))))))))))))))))))))))))))))))))))))))))))))))))
theorem Nm {T t k:Nat} (hk:k<100000) (hm:∀p∈Te,p.2=k→p.1=t) (h:mt T=k):T=t:=by
 unfold mt at h
 cases e:Cw Te T with
 |none=>rw[e]at h;exact absurd (show T+100000=k from h) (by omega)
 |some b=>rw[e]at h;exact hm _ (Ao e) h
theorem Tl:∀t k,L.ta t=some k→sG L.P t∧∀T,L.mt T=k→T=t:=by
 intro t k h
 have hm:=Ao (show Cw Ud t=some k from h)
 simp only[Ud,vR,List.not_mem_nil,or_false,vr]at hm
 rcases hm with ⟨rfl,rfl⟩
 · exact⟨⟨.pointer 142,by kernel_rfl,nofun⟩,fun T h=>Nm (by decide) (by decide+kernel) h⟩
theorem RX:∀t,L.sq t=true→L.P.stoodInHeld t=false:=by
 intro t h
 have hm:t∈Ub:=List.contains_iff_mem.1 h
 simp only[Ub,vR,List.not_mem_nil,or_false]at hm
 rcases hm with rfl
 · exact(show Tryz.prog.stoodInHeld 22=false by kernel_rfl)
theorem Qt {T:Nat} (h:mt T=1):T=144:=by
 unfold mt at h
 cases e:Cw Te T with
 |none=>rw[e]at h;exact absurd h (by show¬T+100000=1;omega)
 | some b =>
   rw[e]at h
   have h:b=1:=h
   subst h
   have hm:=Ao e
   have:∀p∈Te,p.2=1→p.1=144:=by decide+kernel
   exact this _ hm rfl
theorem Ej {P:Program} {T:TypeId} {name:String} {fid:FuncId} {d:Bool} {i:TypeInfo} {el:TypeId} (h1:P.info? T=some i) (h2:(i.methods.find? (·.name==name)).map (fun m=>(m.path,m.func))=some (#[],some (fid, !d))) (h5:P.underlying T=some (.pointer el))
 (h6:d=true→fH P el=some false∧bU P el=some 1):md P T name fid d:=by
 obtain⟨m,hm,e⟩:=vn.1 h2
 obtain⟨e1,e2⟩:=vo e
 exact⟨i,m,el,h1,hm,e1,e2,h5,h6⟩
theorem Ta:∀name t f d,L.iv name=some (t,f,d)→∀T,L.mt T=t→∃fid,L.mf fid=some f∧md L.P T name fid d:=by
 intro name t f d h T hT
 have h:(T5.find? fun p=>p.1==name).map (fun p=>((1:Nat),p.2))=some (t,f,d):=h
 rw[vn]at h
 obtain⟨p,hp,e⟩:=h
 obtain⟨rfl,e2⟩:=vo e
 have hn:=List.find?_some hp
 have hm:=List.mem_of_find?_eq_some hp
 obtain rfl:=Qt hT
 obtain rfl:p.1=name:=eq_of_beq hn
 simp only[T5,vR,List.not_mem_nil,or_false]at hm
 rcases hm with rfl|rfl|rfl|rfl|rfl
 · obtain⟨rfl,rfl⟩:=vo e2;exact⟨100,by kernel_rfl,Ej (el:=139) Tryz.type144 (by kernel_rfl) (by kernel_rfl) (fun _=>⟨by kernel_rfl,by kernel_rfl⟩)⟩
 · obtain⟨rfl,rfl⟩:=vo e2;exact⟨133,by kernel_rfl,Ej (el:=139) Tryz.type144 (by kernel_rfl) (by kernel_rfl) (fun _=>⟨by kernel_rfl,by kernel_rfl⟩)⟩
 · obtain⟨rfl,rfl⟩:=vo e2;exact⟨134,by kernel_rfl,Ej (el:=139) Tryz.type144 (by kernel_rfl) (by kernel_rfl) (fun _=>⟨by kernel_rfl,by kernel_rfl⟩)⟩
 · obtain⟨rfl,rfl⟩:=vo e2;exact⟨136,by kernel_rfl,Ej (el:=139) Tryz.type144 (by kernel_rfl) (by kernel_rfl) (fun h=>by cases h)⟩
 · obtain⟨rfl,rfl⟩:=vo e2;exact⟨135,by kernel_rfl,Ej (el:=139) Tryz.type144 (by kernel_rfl) (by kernel_rfl) (fun h=>by cases h)⟩
theorem lk:eC L AP.A:=⟨by kernel_rfl,fun fid f h=>Tq (fid,f) (Ao h),Ta,Tl,RX⟩
end Ab.Ln
