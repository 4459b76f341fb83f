/- Part K1. -/
import Derived.Test.YtcpjlemfholepaaGreatProg
import Derived.KernelRfl
import Derived.Test.YtcpjlemfholepaaGreatAP
set_option maxRecDepth 100000
namespace Ab.Ln
open Go Go.Proofs Ab
def vS (L:Lk) (fn:Func) (af:fg):Option (aG×List RV):=fn.body.bind fun c=>(comp L fn.ntmps c af.body).bind fun x=>(cE L fn.results.toList).bind fun r=>some (x,r)
def Fits (p : Nat × Nat) : Prop := ∃ fn c, L.P.funcs[p.1]? = some fn ∧ fn.body = some c ∧ (fn.name == "runtime.NumGoroutine") = false ∧
    ∀af,AP.A p.2=some af→(∃x0,comp L fn.ntmps c x0=some af.body)∧cE L fn.results.toList=some af.res
theorem vM {k a : Nat} {fn : Func} {af : fg} (h1 : L.P.funcs[k]? = some fn) (h2 : vS L fn af = some (af.body, af.res)) (h3 : (fn.name == "runtime.NumGoroutine") = false) (h4 : AP.A a = some af) : Fits (k, a) := by
 unfold vS at h2
 simp only[u5]at h2
 obtain⟨c,g1,x,g2,r,g3,g4⟩:=h2
 obtain⟨rfl,rfl⟩:=u9 (u6 g4)
 refine⟨fn,c,h1,g1,h3,fun af2 g5=> ?_⟩
 rw[h4]at g5
 obtain rfl:=u6 g5
 exact⟨⟨_,g2⟩,g3⟩
theorem AK:∀{l:List (Nat×Nat)} {k f:Nat},Da l k=some f→(k,f)∈l
 |[],_,_,h=>by cases h
 | (i, g) :: r, k, f, h => by
   unfold Da at h
   split at h
   · rename_i e;subst e;obtain rfl:=u6 h;exact List.mem_cons_self
   · exact List.mem_cons_of_mem _ (AK h)
theorem MN:∀p∈([]:List (Nat×Nat)),Fits p:=fun p h=>by cases h
theorem vK {p:Nat×Nat} {l:List (Nat×Nat)} (h1:Fits p) (h2:∀q∈l,Fits q):∀q∈p::l,Fits q:=fun q h=>by
 rcases vF.1 h with rfl|h
 · exact h1
 · exact h2 q h
theorem QJ:vS L Tryz.f4 AP.f376=some (AP.f376.body,AP.f376.res):=by kernel_rfl
theorem RL:Fits (4,376):=vM Tryz.func4 QJ (by kernel_rfl) (by kernel_rfl)
theorem PS:vS L Tryz.f6 AP.f325=some (AP.f325.body,AP.f325.res):=by kernel_rfl
theorem QX:Fits (6,325):=vM Tryz.func6 PS (by kernel_rfl) (by kernel_rfl)
theorem PN:vS L Tryz.f7 AP.f170=some (AP.f170.body,AP.f170.res):=by kernel_rfl
theorem QT:Fits (7,170):=vM Tryz.func7 PN (by kernel_rfl) (by kernel_rfl)
theorem PT:vS L Tryz.f8 AP.f326=some (AP.f326.body,AP.f326.res):=by kernel_rfl
theorem QY:Fits (8,326):=vM Tryz.func8 PT (by kernel_rfl) (by kernel_rfl)
theorem PO:vS L Tryz.f9 AP.f171=some (AP.f171.body,AP.f171.res):=by kernel_rfl
theorem QU:Fits (9,171):=vM Tryz.func9 PO (by kernel_rfl) (by kernel_rfl)
theorem PU:vS L Tryz.f10 AP.f327=some (AP.f327.body,AP.f327.res):=by kernel_rfl
theorem QZ:Fits (10,327):=vM Tryz.func10 PU (by kernel_rfl) (by kernel_rfl)
theorem Sv:vS L Tryz.f11 AP.f13=some (AP.f13.body,AP.f13.res):=by kernel_rfl
theorem T5:Fits (11,13):=vM Tryz.func11 Sv (by kernel_rfl) (by kernel_rfl)
theorem VG:vS L Tryz.f12 AP.f9=some (AP.f9.body,AP.f9.res):=by kernel_rfl
theorem Wa:Fits (12,9):=vM Tryz.func12 VG (by kernel_rfl) (by kernel_rfl)
theorem PY:vS L Tryz.f15 AP.f330=some (AP.f330.body,AP.f330.res):=by kernel_rfl
theorem Q2:Fits (15,330):=vM Tryz.func15 PY (by kernel_rfl) (by kernel_rfl)
theorem PL:vS L Tryz.f16 AP.f163=some (AP.f163.body,AP.f163.res):=by kernel_rfl
theorem QR:Fits (16,163):=vM Tryz.func16 PL (by kernel_rfl) (by kernel_rfl)
theorem PZ:vS L Tryz.f17 AP.f331=some (AP.f331.body,AP.f331.res):=by kernel_rfl
theorem Q3:Fits (17,331):=vM Tryz.func17 PZ (by kernel_rfl) (by kernel_rfl)
theorem PK:vS L Tryz.f18 AP.f154=some (AP.f154.body,AP.f154.res):=by kernel_rfl
theorem QQ:Fits (18,154):=vM Tryz.func18 PK (by kernel_rfl) (by kernel_rfl)
theorem PI:vS L Tryz.f19 AP.f114=some (AP.f114.body,AP.f114.res):=by kernel_rfl
theorem QO:Fits (19,114):=vM Tryz.func19 PI (by kernel_rfl) (by kernel_rfl)
theorem PM:vS L Tryz.f20 AP.f164=some (AP.f164.body,AP.f164.res):=by kernel_rfl
theorem QS:Fits (20,164):=vM Tryz.func20 PM (by kernel_rfl) (by kernel_rfl)
theorem PX:vS L Tryz.f21 AP.f329=some (AP.f329.body,AP.f329.res):=by kernel_rfl
theorem Q1:Fits (21,329):=vM Tryz.func21 PX (by kernel_rfl) (by kernel_rfl)
theorem P4:vS L Tryz.f23 AP.f333=some (AP.f333.body,AP.f333.res):=by kernel_rfl
theorem Q5:Fits (23,333):=vM Tryz.func23 P4 (by kernel_rfl) (by kernel_rfl)
theorem P5:vS L Tryz.f24 AP.f334=some (AP.f334.body,AP.f334.res):=by kernel_rfl
theorem Q6:Fits (24,334):=vM Tryz.func24 P5 (by kernel_rfl) (by kernel_rfl)
theorem P6:vS L Tryz.f25 AP.f335=some (AP.f335.body,AP.f335.res):=by kernel_rfl
theorem Q7:Fits (25,335):=vM Tryz.func25 P6 (by kernel_rfl) (by kernel_rfl)
theorem P9:vS L Tryz.f26 AP.f336=some (AP.f336.body,AP.f336.res):=by kernel_rfl
theorem Q8:Fits (26,336):=vM Tryz.func26 P9 (by kernel_rfl) (by kernel_rfl)
theorem SR:vS L Tryz.f27 AP.f33=some (AP.f33.body,AP.f33.res):=by kernel_rfl
theorem Up:Fits (27,33):=vM Tryz.func27 SR (by kernel_rfl) (by kernel_rfl)
theorem PQ:vS L Tryz.f28 AP.f174=some (AP.f174.body,AP.f174.res):=by kernel_rfl
theorem QV:Fits (28,174):=vM Tryz.func28 PQ (by kernel_rfl) (by kernel_rfl)
theorem SY:vS L Tryz.f29 AP.f37=some (AP.f37.body,AP.f37.res):=by kernel_rfl
theorem Ut:Fits (29,37):=vM Tryz.func29 SY (by kernel_rfl) (by kernel_rfl)
theorem Qa:vS L Tryz.f30 AP.f337=some (AP.f337.body,AP.f337.res):=by kernel_rfl
theorem Q9:Fits (30,337):=vM Tryz.func30 Qa (by kernel_rfl) (by kernel_rfl)
theorem Qb:vS L Tryz.f31 AP.f338=some (AP.f338.body,AP.f338.res):=by kernel_rfl
theorem Ra:Fits (31,338):=vM Tryz.func31 Qb (by kernel_rfl) (by kernel_rfl)
theorem Ta:vS L Tryz.f32 AP.f42=some (AP.f42.body,AP.f42.res):=by kernel_rfl
theorem Uy:Fits (32,42):=vM Tryz.func32 Ta (by kernel_rfl) (by kernel_rfl)
theorem Tb:vS L Tryz.f33 AP.f43=some (AP.f43.body,AP.f43.res):=by kernel_rfl
theorem Uz:Fits (33,43):=vM Tryz.func33 Tb (by kernel_rfl) (by kernel_rfl)
theorem Qc:vS L Tryz.f34 AP.f339=some (AP.f339.body,AP.f339.res):=by kernel_rfl
theorem Rb:Fits (34,339):=vM Tryz.func34 Qc (by kernel_rfl) (by kernel_rfl)
theorem SL:vS L Tryz.f35 AP.f27=some (AP.f27.body,AP.f27.res):=by kernel_rfl
theorem Uj:Fits (35,27):=vM Tryz.func35 SL (by kernel_rfl) (by kernel_rfl)
theorem SU:vS L Tryz.f36 AP.f34=some (AP.f34.body,AP.f34.res):=by kernel_rfl
theorem Uq:Fits (36,34):=vM Tryz.func36 SU (by kernel_rfl) (by kernel_rfl)
theorem SG:vS L Tryz.f37 AP.f22=some (AP.f22.body,AP.f22.res):=by kernel_rfl
theorem Ue:Fits (37,22):=vM Tryz.func37 SG (by kernel_rfl) (by kernel_rfl)
theorem SH:vS L Tryz.f38 AP.f23=some (AP.f23.body,AP.f23.res):=by kernel_rfl
theorem Uf:Fits (38,23):=vM Tryz.func38 SH (by kernel_rfl) (by kernel_rfl)
theorem SX:vS L Tryz.f39 AP.f36=some (AP.f36.body,AP.f36.res):=by kernel_rfl
theorem Us:Fits (39,36):=vM Tryz.func39 SX (by kernel_rfl) (by kernel_rfl)
theorem Qd:vS L Tryz.f40 AP.f340=some (AP.f340.body,AP.f340.res):=by kernel_rfl
theorem Rc:Fits (40,340):=vM Tryz.func40 Qd (by kernel_rfl) (by kernel_rfl)
theorem Qe:vS L Tryz.f41 AP.f341=some (AP.f341.body,AP.f341.res):=by kernel_rfl
theorem Re:Fits (41,341):=vM Tryz.func41 Qe (by kernel_rfl) (by kernel_rfl)
theorem Qf:vS L Tryz.f42 AP.f342=some (AP.f342.body,AP.f342.res):=by kernel_rfl
theorem Rf:Fits (42,342):=vM Tryz.func42 Qf (by kernel_rfl) (by kernel_rfl)
theorem SM:vS L Tryz.f43 AP.f28=some (AP.f28.body,AP.f28.res):=by kernel_rfl
theorem Uk:Fits (43,28):=vM Tryz.func43 SM (by kernel_rfl) (by kernel_rfl)
theorem SN:vS L Tryz.f44 AP.f29=some (AP.f29.body,AP.f29.res):=by kernel_rfl
theorem Ul:Fits (44,29):=vM Tryz.func44 SN (by kernel_rfl) (by kernel_rfl)
theorem SO:vS L Tryz.f45 AP.f30=some (AP.f30.body,AP.f30.res):=by kernel_rfl
theorem Um:Fits (45,30):=vM Tryz.func45 SO (by kernel_rfl) (by kernel_rfl)
theorem SP:vS L Tryz.f46 AP.f31=some (AP.f31.body,AP.f31.res):=by kernel_rfl
theorem Un:Fits (46,31):=vM Tryz.func46 SP (by kernel_rfl) (by kernel_rfl)
theorem SQ:vS L Tryz.f47 AP.f32=some (AP.f32.body,AP.f32.res):=by kernel_rfl
theorem Uo:Fits (47,32):=vM Tryz.func47 SQ (by kernel_rfl) (by kernel_rfl)
theorem SW:vS L Tryz.f48 AP.f35=some (AP.f35.body,AP.f35.res):=by kernel_rfl
theorem Ur:Fits (48,35):=vM Tryz.func48 SW (by kernel_rfl) (by kernel_rfl)
theorem P3:vS L Tryz.f50 AP.f332=some (AP.f332.body,AP.f332.res):=by kernel_rfl
theorem Q4:Fits (50,332):=vM Tryz.func50 P3 (by kernel_rfl) (by kernel_rfl)
theorem VE:vS L Tryz.f51 AP.f7=some (AP.f7.body,AP.f7.res):=by kernel_rfl
theorem V8:Fits (51,7):=vM Tryz.func51 VE (by kernel_rfl) (by kernel_rfl)
theorem Su:vS L Tryz.f52 AP.f12=some (AP.f12.body,AP.f12.res):=by kernel_rfl
theorem T4:Fits (52,12):=vM Tryz.func52 Su (by kernel_rfl) (by kernel_rfl)
theorem VF:vS L Tryz.f53 AP.f8=some (AP.f8.body,AP.f8.res):=by kernel_rfl
theorem V9:Fits (53,8):=vM Tryz.func53 VF (by kernel_rfl) (by kernel_rfl)
theorem Qi:vS L Tryz.f54 AP.f345=some (AP.f345.body,AP.f345.res):=by kernel_rfl
theorem Ri:Fits (54,345):=vM Tryz.func54 Qi (by kernel_rfl) (by kernel_rfl)
theorem Qj:vS L Tryz.f55 AP.f346=some (AP.f346.body,AP.f346.res):=by kernel_rfl
theorem Rj:Fits (55,346):=vM Tryz.func55 Qj (by kernel_rfl) (by kernel_rfl)
theorem Qk:vS L Tryz.f56 AP.f347=some (AP.f347.body,AP.f347.res):=by kernel_rfl
theorem Rk:Fits (56,347):=vM Tryz.func56 Qk (by kernel_rfl) (by kernel_rfl)
theorem Tp:vS L Tryz.f57 AP.f57=some (AP.f57.body,AP.f57.res):=by kernel_rfl
theorem UN:Fits (57,57):=vM Tryz.func57 Tp (by kernel_rfl) (by kernel_rfl)
theorem PV:vS L Tryz.f58 AP.f328=some (AP.f328.body,AP.f328.res):=by kernel_rfl
theorem Q0:Fits (58,328):=vM Tryz.func58 PV (by kernel_rfl) (by kernel_rfl)
theorem Ql:vS L Tryz.f59 AP.f348=some (AP.f348.body,AP.f348.res):=by kernel_rfl
theorem Rl:Fits (59,348):=vM Tryz.func59 Ql (by kernel_rfl) (by kernel_rfl)
theorem Tv:vS L Tryz.f60 AP.f62=some (AP.f62.body,AP.f62.res):=by kernel_rfl
theorem US:Fits (60,62):=vM Tryz.func60 Tv (by kernel_rfl) (by kernel_rfl)
theorem Tw:vS L Tryz.f61 AP.f63=some (AP.f63.body,AP.f63.res):=by kernel_rfl
theorem UT:Fits (61,63):=vM Tryz.func61 Tw (by kernel_rfl) (by kernel_rfl)
theorem Qm:vS L Tryz.f62 AP.f349=some (AP.f349.body,AP.f349.res):=by kernel_rfl
theorem Rm:Fits (62,349):=vM Tryz.func62 Qm (by kernel_rfl) (by kernel_rfl)
theorem Qn:vS L Tryz.f63 AP.f350=some (AP.f350.body,AP.f350.res):=by kernel_rfl
theorem Rn:Fits (63,350):=vM Tryz.func63 Qn (by kernel_rfl) (by kernel_rfl)
theorem Tn:vS L Tryz.f64 AP.f55=some (AP.f55.body,AP.f55.res):=by kernel_rfl
theorem UL:Fits (64,55):=vM Tryz.func64 Tn (by kernel_rfl) (by kernel_rfl)
theorem Tk:vS L Tryz.f65 AP.f52=some (AP.f52.body,AP.f52.res):=by kernel_rfl
theorem UI:Fits (65,52):=vM Tryz.func65 Tk (by kernel_rfl) (by kernel_rfl)
theorem Qo:vS L Tryz.f66 AP.f351=some (AP.f351.body,AP.f351.res):=by kernel_rfl
theorem Rp:Fits (66,351):=vM Tryz.func66 Qo (by kernel_rfl) (by kernel_rfl)
theorem TR:vS L Tryz.f67 AP.f79=some (AP.f79.body,AP.f79.res):=by kernel_rfl
theorem Vd:Fits (67,79):=vM Tryz.func67 TR (by kernel_rfl) (by kernel_rfl)
theorem Qp:vS L Tryz.f68 AP.f352=some (AP.f352.body,AP.f352.res):=by kernel_rfl
theorem Rq:Fits (68,352):=vM Tryz.func68 Qp (by kernel_rfl) (by kernel_rfl)
theorem Ti:vS L Tryz.f69 AP.f50=some (AP.f50.body,AP.f50.res):=by kernel_rfl
theorem UG:Fits (69,50):=vM Tryz.func69 Ti (by kernel_rfl) (by kernel_rfl)
theorem Tj:vS L Tryz.f70 AP.f51=some (AP.f51.body,AP.f51.res):=by kernel_rfl
theorem UH:Fits (70,51):=vM Tryz.func70 Tj (by kernel_rfl) (by kernel_rfl)
theorem To:vS L Tryz.f71 AP.f56=some (AP.f56.body,AP.f56.res):=by kernel_rfl
theorem UM:Fits (71,56):=vM Tryz.func71 To (by kernel_rfl) (by kernel_rfl)
theorem Qh:vS L Tryz.f72 AP.f344=some (AP.f344.body,AP.f344.res):=by kernel_rfl
theorem Rh:Fits (72,344):=vM Tryz.func72 Qh (by kernel_rfl) (by kernel_rfl)
theorem Sw:vS L Tryz.f73 AP.f14=some (AP.f14.body,AP.f14.res):=by kernel_rfl
theorem T6:Fits (73,14):=vM Tryz.func73 Sw (by kernel_rfl) (by kernel_rfl)
theorem Sx:vS L Tryz.f74 AP.f15=some (AP.f15.body,AP.f15.res):=by kernel_rfl
theorem T7:Fits (74,15):=vM Tryz.func74 Sx (by kernel_rfl) (by kernel_rfl)
theorem Sy:vS L Tryz.f75 AP.f16=some (AP.f16.body,AP.f16.res):=by kernel_rfl
theorem T8:Fits (75,16):=vM Tryz.func75 Sy (by kernel_rfl) (by kernel_rfl)
theorem Sz:vS L Tryz.f76 AP.f17=some (AP.f17.body,AP.f17.res):=by kernel_rfl
theorem T9:Fits (76,17):=vM Tryz.func76 Sz (by kernel_rfl) (by kernel_rfl)
theorem SK:vS L Tryz.f77 AP.f26=some (AP.f26.body,AP.f26.res):=by kernel_rfl
theorem Ui:Fits (77,26):=vM Tryz.func77 SK (by kernel_rfl) (by kernel_rfl)
theorem SA:vS L Tryz.f78 AP.f18=some (AP.f18.body,AP.f18.res):=by kernel_rfl
theorem Ua:Fits (78,18):=vM Tryz.func78 SA (by kernel_rfl) (by kernel_rfl)
theorem SD:vS L Tryz.f79 AP.f19=some (AP.f19.body,AP.f19.res):=by kernel_rfl
theorem Ub:Fits (79,19):=vM Tryz.func79 SD (by kernel_rfl) (by kernel_rfl)
theorem SE:vS L Tryz.f80 AP.f20=some (AP.f20.body,AP.f20.res):=by kernel_rfl
theorem Uc:Fits (80,20):=vM Tryz.func80 SE (by kernel_rfl) (by kernel_rfl)
theorem SF:vS L Tryz.f81 AP.f21=some (AP.f21.body,AP.f21.res):=by kernel_rfl
theorem Ud:Fits (81,21):=vM Tryz.func81 SF (by kernel_rfl) (by kernel_rfl)
theorem SI:vS L Tryz.f82 AP.f24=some (AP.f24.body,AP.f24.res):=by kernel_rfl
theorem Ug:Fits (82,24):=vM Tryz.func82 SI (by kernel_rfl) (by kernel_rfl)
theorem SJ:vS L Tryz.f83 AP.f25=some (AP.f25.body,AP.f25.res):=by kernel_rfl
theorem Uh:Fits (83,25):=vM Tryz.func83 SJ (by kernel_rfl) (by kernel_rfl)
theorem Qg:vS L Tryz.f84 AP.f343=some (AP.f343.body,AP.f343.res):=by kernel_rfl
theorem Rg:Fits (84,343):=vM Tryz.func84 Qg (by kernel_rfl) (by kernel_rfl)
theorem TU:vS L Tryz.f85 AP.f81=some (AP.f81.body,AP.f81.res):=by kernel_rfl
theorem Vf:Fits (85,81):=vM Tryz.func85 TU (by kernel_rfl) (by kernel_rfl)
theorem S9:vS L Tryz.f86 AP.f41=some (AP.f41.body,AP.f41.res):=by kernel_rfl
theorem Ux:Fits (86,41):=vM Tryz.func86 S9 (by kernel_rfl) (by kernel_rfl)
theorem TO:vS L Tryz.f87 AP.f76=some (AP.f76.body,AP.f76.res):=by kernel_rfl
theorem Va:Fits (87,76):=vM Tryz.func87 TO (by kernel_rfl) (by kernel_rfl)
theorem TP:vS L Tryz.f88 AP.f77=some (AP.f77.body,AP.f77.res):=by kernel_rfl
theorem Vb:Fits (88,77):=vM Tryz.func88 TP (by kernel_rfl) (by kernel_rfl)
theorem TQ:vS L Tryz.f89 AP.f78=some (AP.f78.body,AP.f78.res):=by kernel_rfl
theorem Vc:Fits (89,78):=vM Tryz.func89 TQ (by kernel_rfl) (by kernel_rfl)
theorem Qs:vS L Tryz.f90 AP.f355=some (AP.f355.body,AP.f355.res):=by kernel_rfl
theorem Ru:Fits (90,355):=vM Tryz.func90 Qs (by kernel_rfl) (by kernel_rfl)
theorem Qt:vS L Tryz.f91 AP.f356=some (AP.f356.body,AP.f356.res):=by kernel_rfl
theorem Rv:Fits (91,356):=vM Tryz.func91 Qt (by kernel_rfl) (by kernel_rfl)
theorem TH:vS L Tryz.f92 AP.f69=some (AP.f69.body,AP.f69.res):=by kernel_rfl
theorem U3:Fits (92,69):=vM Tryz.func92 TH (by kernel_rfl) (by kernel_rfl)
theorem TF:vS L Tryz.f93 AP.f67=some (AP.f67.body,AP.f67.res):=by kernel_rfl
theorem UY:Fits (93,67):=vM Tryz.func93 TF (by kernel_rfl) (by kernel_rfl)
theorem TG:vS L Tryz.f94 AP.f68=some (AP.f68.body,AP.f68.res):=by kernel_rfl
theorem UZ:Fits (94,68):=vM Tryz.func94 TG (by kernel_rfl) (by kernel_rfl)
theorem Qu:vS L Tryz.f95 AP.f357=some (AP.f357.body,AP.f357.res):=by kernel_rfl
theorem Rw:Fits (95,357):=vM Tryz.func95 Qu (by kernel_rfl) (by kernel_rfl)
theorem TY:vS L Tryz.f96 AP.f83=some (AP.f83.body,AP.f83.res):=by kernel_rfl
theorem Vh:Fits (96,83):=vM Tryz.func96 TY (by kernel_rfl) (by kernel_rfl)
theorem Qv:vS L Tryz.f97 AP.f358=some (AP.f358.body,AP.f358.res):=by kernel_rfl
theorem Rx:Fits (97,358):=vM Tryz.func97 Qv (by kernel_rfl) (by kernel_rfl)
theorem PJ:vS L Tryz.f98 AP.f118=some (AP.f118.body,AP.f118.res):=by kernel_rfl
theorem QP:Fits (98,118):=vM Tryz.func98 PJ (by kernel_rfl) (by kernel_rfl)
theorem PR:vS L Tryz.f99 AP.f189=some (AP.f189.body,AP.f189.res):=by kernel_rfl
theorem QW:Fits (99,189):=vM Tryz.func99 PR (by kernel_rfl) (by kernel_rfl)
theorem Qw:vS L Tryz.f100 AP.f359=some (AP.f359.body,AP.f359.res):=by kernel_rfl
theorem Ry:Fits (100,359):=vM Tryz.func100 Qw (by kernel_rfl) (by kernel_rfl)
theorem Qx:vS L Tryz.f101 AP.f360=some (AP.f360.body,AP.f360.res):=by kernel_rfl
theorem Rz:Fits (101,360):=vM Tryz.func101 Qx (by kernel_rfl) (by kernel_rfl)
theorem TI:vS L Tryz.f102 AP.f70=some (AP.f70.body,AP.f70.res):=by kernel_rfl
theorem U4:Fits (102,70):=vM Tryz.func102 TI (by kernel_rfl) (by kernel_rfl)
theorem TJ:vS L Tryz.f103 AP.f71=some (AP.f71.body,AP.f71.res):=by kernel_rfl
theorem U5:Fits (103,71):=vM Tryz.func103 TJ (by kernel_rfl) (by kernel_rfl)
theorem Qr:vS L Tryz.f104 AP.f354=some (AP.f354.body,AP.f354.res):=by kernel_rfl
theorem Rt:Fits (104,354):=vM Tryz.func104 Qr (by kernel_rfl) (by kernel_rfl)
theorem SZ:vS L Tryz.f105 AP.f38=some (AP.f38.body,AP.f38.res):=by kernel_rfl
theorem Uu:Fits (105,38):=vM Tryz.func105 SZ (by kernel_rfl) (by kernel_rfl)
theorem S7:vS L Tryz.f106 AP.f39=some (AP.f39.body,AP.f39.res):=by kernel_rfl
theorem Uv:Fits (106,39):=vM Tryz.func106 S7 (by kernel_rfl) (by kernel_rfl)
theorem S8:vS L Tryz.f107 AP.f40=some (AP.f40.body,AP.f40.res):=by kernel_rfl
theorem Uw:Fits (107,40):=vM Tryz.func107 S8 (by kernel_rfl) (by kernel_rfl)
theorem Tc:vS L Tryz.f108 AP.f44=some (AP.f44.body,AP.f44.res):=by kernel_rfl
theorem UA:Fits (108,44):=vM Tryz.func108 Tc (by kernel_rfl) (by kernel_rfl)
theorem Td:vS L Tryz.f109 AP.f45=some (AP.f45.body,AP.f45.res):=by kernel_rfl
theorem UB:Fits (109,45):=vM Tryz.func109 Td (by kernel_rfl) (by kernel_rfl)
theorem Te:vS L Tryz.f110 AP.f46=some (AP.f46.body,AP.f46.res):=by kernel_rfl
theorem UC:Fits (110,46):=vM Tryz.func110 Te (by kernel_rfl) (by kernel_rfl)
theorem Tf:vS L Tryz.f111 AP.f47=some (AP.f47.body,AP.f47.res):=by kernel_rfl
theorem UD:Fits (111,47):=vM Tryz.func111 Tf (by kernel_rfl) (by kernel_rfl)
theorem Tg:vS L Tryz.f112 AP.f48=some (AP.f48.body,AP.f48.res):=by kernel_rfl
theorem UE:Fits (112,48):=vM Tryz.func112 Tg (by kernel_rfl) (by kernel_rfl)
theorem Th:vS L Tryz.f113 AP.f49=some (AP.f49.body,AP.f49.res):=by kernel_rfl
theorem UF:Fits (113,49):=vM Tryz.func113 Th (by kernel_rfl) (by kernel_rfl)
theorem Tl:vS L Tryz.f114 AP.f53=some (AP.f53.body,AP.f53.res):=by kernel_rfl
theorem UJ:Fits (114,53):=vM Tryz.func114 Tl (by kernel_rfl) (by kernel_rfl)
theorem Tm:vS L Tryz.f115 AP.f54=some (AP.f54.body,AP.f54.res):=by kernel_rfl
theorem UK:Fits (115,54):=vM Tryz.func115 Tm (by kernel_rfl) (by kernel_rfl)
theorem Qq:vS L Tryz.f116 AP.f353=some (AP.f353.body,AP.f353.res):=by kernel_rfl
theorem Rr:Fits (116,353):=vM Tryz.func116 Qq (by kernel_rfl) (by kernel_rfl)
theorem TW:vS L Tryz.f117 AP.f82=some (AP.f82.body,AP.f82.res):=by kernel_rfl
theorem Vg:Fits (117,82):=vM Tryz.func117 TW (by kernel_rfl) (by kernel_rfl)
theorem Qy:vS L Tryz.f118 AP.f361=some (AP.f361.body,AP.f361.res):=by kernel_rfl
theorem RA:Fits (118,361):=vM Tryz.func118 Qy (by kernel_rfl) (by kernel_rfl)
theorem TM:vS L Tryz.f119 AP.f74=some (AP.f74.body,AP.f74.res):=by kernel_rfl
theorem U8:Fits (119,74):=vM Tryz.func119 TM (by kernel_rfl) (by kernel_rfl)
theorem TN:vS L Tryz.f120 AP.f75=some (AP.f75.body,AP.f75.res):=by kernel_rfl
theorem U9:Fits (120,75):=vM Tryz.func120 TN (by kernel_rfl) (by kernel_rfl)
theorem TZ:vS L Tryz.f121 AP.f84=some (AP.f84.body,AP.f84.res):=by kernel_rfl
theorem Vi:Fits (121,84):=vM Tryz.func121 TZ (by kernel_rfl) (by kernel_rfl)
theorem Qz:vS L Tryz.f122 AP.f362=some (AP.f362.body,AP.f362.res):=by kernel_rfl
theorem RB:Fits (122,362):=vM Tryz.func122 Qz (by kernel_rfl) (by kernel_rfl)
theorem QA:vS L Tryz.f123 AP.f363=some (AP.f363.body,AP.f363.res):=by kernel_rfl
theorem RC:Fits (123,363):=vM Tryz.func123 QA (by kernel_rfl) (by kernel_rfl)
theorem QB:vS L Tryz.f124 AP.f364=some (AP.f364.body,AP.f364.res):=by kernel_rfl
theorem RD:Fits (124,364):=vM Tryz.func124 QB (by kernel_rfl) (by kernel_rfl)
theorem QC:vS L Tryz.f125 AP.f365=some (AP.f365.body,AP.f365.res):=by kernel_rfl
theorem RE:Fits (125,365):=vM Tryz.func125 QC (by kernel_rfl) (by kernel_rfl)
theorem Tq:vS L Tryz.f126 AP.f58=some (AP.f58.body,AP.f58.res):=by kernel_rfl
theorem UO:Fits (126,58):=vM Tryz.func126 Tq (by kernel_rfl) (by kernel_rfl)
theorem Ts:vS L Tryz.f127 AP.f59=some (AP.f59.body,AP.f59.res):=by kernel_rfl
theorem UP:Fits (127,59):=vM Tryz.func127 Ts (by kernel_rfl) (by kernel_rfl)
theorem Tt:vS L Tryz.f128 AP.f60=some (AP.f60.body,AP.f60.res):=by kernel_rfl
theorem UQ:Fits (128,60):=vM Tryz.func128 Tt (by kernel_rfl) (by kernel_rfl)
theorem Tu:vS L Tryz.f129 AP.f61=some (AP.f61.body,AP.f61.res):=by kernel_rfl
theorem UR:Fits (129,61):=vM Tryz.func129 Tu (by kernel_rfl) (by kernel_rfl)
theorem TC:vS L Tryz.f130 AP.f64=some (AP.f64.body,AP.f64.res):=by kernel_rfl
theorem UU:Fits (130,64):=vM Tryz.func130 TC (by kernel_rfl) (by kernel_rfl)
theorem TD:vS L Tryz.f131 AP.f65=some (AP.f65.body,AP.f65.res):=by kernel_rfl
theorem UW:Fits (131,65):=vM Tryz.func131 TD (by kernel_rfl) (by kernel_rfl)
theorem TE:vS L Tryz.f132 AP.f66=some (AP.f66.body,AP.f66.res):=by kernel_rfl
theorem UX:Fits (132,66):=vM Tryz.func132 TE (by kernel_rfl) (by kernel_rfl)
theorem QD:vS L Tryz.f133 AP.f366=some (AP.f366.body,AP.f366.res):=by kernel_rfl
theorem RF:Fits (133,366):=vM Tryz.func133 QD (by kernel_rfl) (by kernel_rfl)
theorem QE:vS L Tryz.f134 AP.f367=some (AP.f367.body,AP.f367.res):=by kernel_rfl
theorem RG:Fits (134,367):=vM Tryz.func134 QE (by kernel_rfl) (by kernel_rfl)
theorem TK:vS L Tryz.f135 AP.f72=some (AP.f72.body,AP.f72.res):=by kernel_rfl
theorem U6:Fits (135,72):=vM Tryz.func135 TK (by kernel_rfl) (by kernel_rfl)
theorem TL:vS L Tryz.f136 AP.f73=some (AP.f73.body,AP.f73.res):=by kernel_rfl
theorem U7:Fits (136,73):=vM Tryz.func136 TL (by kernel_rfl) (by kernel_rfl)
theorem TS:vS L Tryz.f137 AP.f80=some (AP.f80.body,AP.f80.res):=by kernel_rfl
theorem Ve:Fits (137,80):=vM Tryz.func137 TS (by kernel_rfl) (by kernel_rfl)
theorem QF:vS L Tryz.f156 AP.f368=some (AP.f368.body,AP.f368.res):=by kernel_rfl
theorem RH:Fits (156,368):=vM Tryz.func156 QF (by kernel_rfl) (by kernel_rfl)
theorem QG:vS L Tryz.f157 AP.f369=some (AP.f369.body,AP.f369.res):=by kernel_rfl
theorem RI:Fits (157,369):=vM Tryz.func157 QG (by kernel_rfl) (by kernel_rfl)
theorem QH:vS L Tryz.f158 AP.f370=some (AP.f370.body,AP.f370.res):=by kernel_rfl
theorem RJ:Fits (158,370):=vM Tryz.func158 QH (by kernel_rfl) (by kernel_rfl)
theorem QI:vS L Tryz.f159 AP.f371=some (AP.f371.body,AP.f371.res):=by kernel_rfl
theorem RK:Fits (159,371):=vM Tryz.func159 QI (by kernel_rfl) (by kernel_rfl)
theorem Vz:∀p∈Wn,Fits p:=vK RL (vK QX (vK QT (vK QY (vK QU (vK QZ (vK T5 (vK Wa (vK Q2 (vK QR (vK Q3 (vK QQ (vK QO (vK QS (vK Q1 (vK Q5 (vK Q6 (vK Q7 (vK Q8 (vK Up (vK QV (vK Ut (vK Q9 (vK Ra (vK Uy (vK Uz (vK Rb (vK Uj (vK Uq (vK Ue (vK Uf (vK Us (vK Rc (vK Re (vK Rf (vK Uk (vK Ul (vK Um (vK Un (vK Uo (vK Ur (vK Q4 (vK V8 (vK T4 (vK V9 (vK Ri (vK Rj (vK Rk (vK UN (vK Q0 (vK Rl (vK US (vK UT (vK Rm (vK Rn (vK UL (vK UI (vK Rp (vK Vd (vK Rq (vK UG (vK UH (vK UM (vK Rh (vK T6 (vK T7 (vK T8 (vK T9 (vK Ui (vK Ua (vK Ub (vK Uc (vK Ud (vK Ug (vK Uh (vK Rg (vK Vf (vK Ux (vK Va (vK Vb (vK Vc (vK Ru (vK Rv (vK U3 (vK UY (vK UZ (vK Rw (vK Vh (vK Rx (vK QP (vK QW (vK Ry (vK Rz (vK U4 (vK U5 (vK Rt (vK Uu (vK Uv (vK Uw (vK UA (vK UB (vK UC (vK UD (vK UE (vK UF (vK UJ (vK UK (vK Rr (vK Vg (vK RA (vK U8 (vK U9 (vK Vi (vK RB (vK RC (vK RD (vK RE (vK UO (vK UP (vK UQ (vK UR (vK UU (vK UW (vK UX (vK RF (vK RG (vK U6 (vK U7 (vK Ve (vK RH (vK RI (vK RJ (vK RK (MN)))))))))))))))))))))))))))))))))))))))))))))))))))))))))))))))))))))))))))))))))))))))))))))))))))))))))))))))))))))))))))))))))))))
theorem OU {T t k:Nat} (hk:k<100000) (hm:∀p∈Vn,p.2=k→p.1=t) (h:mt T=k):T=t:=by
 unfold mt at h
 cases e:Da Vn T with
 |none=>rw[e]at h;exact absurd (show T+100000=k from h) (by omega)
 |some b=>rw[e]at h;exact hm _ (AK e) h
theorem Vt:∀t k,L.ta t=some k→r8 L.P t∧∀T,L.mt T=k→T=t:=by
 intro t k h
 have hm:=AK (show Da Wi t=some k from h)
 simp only[Wi,vF,List.not_mem_nil,or_false,vg]at hm
 rcases hm with ⟨rfl,rfl⟩
 · exact⟨⟨.pointer 169,by kernel_rfl,nofun⟩,fun T h=>OU (by decide) (by decide+kernel) h⟩
theorem R3 {T:Nat} (h:mt T=1):T=171:=by
 unfold mt at h
 cases e:Da Vn T with
 |none=>rw[e]at h;exact absurd h (by show¬T+100000=1;omega)
 | some b =>
   rw[e]at h
   have h:b=1:=h
   subst h
   have hm:=AK e
   have:∀p∈Vn,p.2=1→p.1=171:=by decide+kernel
   exact this _ hm rfl
theorem inv_of {P : Program} {T : TypeId} {name : String} {fid : FuncId} {d : Bool} {i : TypeInfo} {el : TypeId} (h1 : P.info? T = some i) (h2 : (i.methods.find? (·.name == name)).map (fun m => (m.path, m.func)) = some (#[], some (fid, !d))) (h5 : P.underlying T = some (.pointer el))
    (h6 : d = true → gZ P el = some false ∧ b7 P el = some 1) : lQ P T name fid d := by
  obtain ⟨m, hm, e⟩ := Option.map_eq_some_iff.1 h2
  obtain ⟨e1, e2⟩ := Prod.mk.inj e
  exact ⟨i, m, el, h1, hm, e1, e2, h5, h6⟩
theorem Vj:∀name t f d,L.iv name=some (t,f,d)→∀T,L.mt T=t→∃fid,L.mf fid=some f∧lQ L.P T name fid d:=by
 intro name t f d h T hT
 have h:(Wb.find? fun p=>p.1==name).map (fun p=>((1:Nat),p.2))=some (t,f,d):=h
 rw[u7]at h
 obtain⟨p,hp,e⟩:=h
 obtain⟨rfl,e2⟩:=u9 e
 have hn:=List.find?_some hp
 have hm:=List.mem_of_find?_eq_some hp
 obtain rfl:=R3 hT
 obtain rfl:p.1=name:=eq_of_beq hn
 simp only[Wb,vF,List.not_mem_nil,or_false]at hm
 rcases hm with rfl|rfl|rfl|rfl|rfl
 · obtain⟨rfl,rfl⟩:=u9 e2;exact⟨123,by kernel_rfl,inv_of (el:=166) Tryz.type171 (by kernel_rfl) (by kernel_rfl) (fun _=>⟨by kernel_rfl,by kernel_rfl⟩)⟩
 · obtain⟨rfl,rfl⟩:=u9 e2;exact⟨156,by kernel_rfl,inv_of (el:=166) Tryz.type171 (by kernel_rfl) (by kernel_rfl) (fun _=>⟨by kernel_rfl,by kernel_rfl⟩)⟩
 · obtain⟨rfl,rfl⟩:=u9 e2;exact⟨157,by kernel_rfl,inv_of (el:=166) Tryz.type171 (by kernel_rfl) (by kernel_rfl) (fun _=>⟨by kernel_rfl,by kernel_rfl⟩)⟩
 · obtain⟨rfl,rfl⟩:=u9 e2;exact⟨159,by kernel_rfl,inv_of (el:=166) Tryz.type171 (by kernel_rfl) (by kernel_rfl) (fun h=>by cases h)⟩
 · obtain⟨rfl,rfl⟩:=u9 e2;exact⟨158,by kernel_rfl,inv_of (el:=166) Tryz.type171 (by kernel_rfl) (by kernel_rfl) (fun h=>by cases h)⟩
theorem lk:ei L AP.A:=⟨by kernel_rfl,fun fid f h=>Vz (fid,f) (AK h),Vj,Vt⟩
end Ab.Ln
