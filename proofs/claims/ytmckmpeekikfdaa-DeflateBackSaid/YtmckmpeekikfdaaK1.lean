/- Part K1. -/
import Derived.Test.YtmckmpeekikfdaaProg
import Derived.KernelRfl
import Derived.Test.YtmckmpeekikfdaaAP
set_option maxRecDepth 100000
namespace Ab.Ln
open Go Go.Proofs Ab
def vb (L:Lk) (fn:Func) (af:eQ):Option (aG×List RV):=fn.body.bind fun c=>(comp L fn.ntmps c af.body).bind fun x=>(cy L fn.results.toList).bind fun r=>some (x,r)
def Fits (p : Nat × Nat) : Prop := ∃ fn c, L.P.funcs[p.1]? = some fn ∧ fn.body = some c ∧ (fn.name == "runtime.NumGoroutine") = false ∧
    ∀af,AP.A p.2=some af→(∃x0,comp L fn.ntmps c x0=some af.body)∧cy L fn.results.toList=some af.res
theorem uZ {k a : Nat} {fn : Func} {af : eQ} (h1 : L.P.funcs[k]? = some fn) (h2 : vb L fn af = some (af.body, af.res)) (h3 : (fn.name == "runtime.NumGoroutine") = false) (h4 : AP.A a = some af) : Fits (k, a) := by
 unfold vb at h2
 simp only[uf]at h2
 obtain⟨c,g1,x,g2,r,g3,g4⟩:=h2
 obtain⟨rfl,rfl⟩:=uj (uh g4)
 refine⟨fn,c,h1,g1,h3,fun af2 g5=> ?_⟩
 rw[h4]at g5
 obtain rfl:=uh g5
 exact⟨⟨_,g2⟩,g3⟩
theorem yF:∀{l:List (Nat×Nat)} {k f:Nat},AY l k=some f→(k,f)∈l
 |[],_,_,h=>by cases h
 | (i, g) :: r, k, f, h => by
   unfold AY at h
   split at h
   · rename_i e;subst e;obtain rfl:=uh h;exact List.mem_cons_self
   · exact List.mem_cons_of_mem _ (yF h)
theorem Ju:∀p∈([]:List (Nat×Nat)),Fits p:=fun p h=>by cases h
theorem uW {p:Nat×Nat} {l:List (Nat×Nat)} (h1:Fits p) (h2:∀q∈l,Fits q):∀q∈p::l,Fits q:=fun q h=>by
 rcases uR.1 h with rfl|h
 · exact h1
 · exact h2 q h
theorem Ms:vb L Try.f7 AP.f320=some (AP.f320.body,AP.f320.res):=by kernel_rfl
theorem Nt:Fits (7,320):=uZ Try.func7 Ms (by kernel_rfl) (by kernel_rfl)
theorem Mt:vb L Try.f10 AP.f325=some (AP.f325.body,AP.f325.res):=by kernel_rfl
theorem Nu:Fits (10,325):=uZ Try.func10 Mt (by kernel_rfl) (by kernel_rfl)
theorem Mu:vb L Try.f11 AP.f326=some (AP.f326.body,AP.f326.res):=by kernel_rfl
theorem Nv:Fits (11,326):=uZ Try.func11 Mu (by kernel_rfl) (by kernel_rfl)
theorem Mv:vb L Try.f12 AP.f327=some (AP.f327.body,AP.f327.res):=by kernel_rfl
theorem Nw:Fits (12,327):=uZ Try.func12 Mv (by kernel_rfl) (by kernel_rfl)
theorem QC:vb L Try.f13 AP.f9=some (AP.f9.body,AP.f9.res):=by kernel_rfl
theorem QF:Fits (13,9):=uZ Try.func13 QC (by kernel_rfl) (by kernel_rfl)
theorem QB:vb L Try.f14 AP.f7=some (AP.f7.body,AP.f7.res):=by kernel_rfl
theorem QE:Fits (14,7):=uZ Try.func14 QB (by kernel_rfl) (by kernel_rfl)
theorem Mw:vb L Try.f15 AP.f328=some (AP.f328.body,AP.f328.res):=by kernel_rfl
theorem Nx:Fits (15,328):=uZ Try.func15 Mw (by kernel_rfl) (by kernel_rfl)
theorem Mx:vb L Try.f16 AP.f329=some (AP.f329.body,AP.f329.res):=by kernel_rfl
theorem Ny:Fits (16,329):=uZ Try.func16 Mx (by kernel_rfl) (by kernel_rfl)
theorem My:vb L Try.f17 AP.f330=some (AP.f330.body,AP.f330.res):=by kernel_rfl
theorem Nz:Fits (17,330):=uZ Try.func17 My (by kernel_rfl) (by kernel_rfl)
theorem MA:vb L Try.f18 AP.f331=some (AP.f331.body,AP.f331.res):=by kernel_rfl
theorem NA:Fits (18,331):=uZ Try.func18 MA (by kernel_rfl) (by kernel_rfl)
theorem Mp:vb L Try.f19 AP.f114=some (AP.f114.body,AP.f114.res):=by kernel_rfl
theorem Nq:Fits (19,114):=uZ Try.func19 Mp (by kernel_rfl) (by kernel_rfl)
theorem MB:vb L Try.f20 AP.f332=some (AP.f332.body,AP.f332.res):=by kernel_rfl
theorem NB:Fits (20,332):=uZ Try.func20 MB (by kernel_rfl) (by kernel_rfl)
theorem MC:vb L Try.f21 AP.f333=some (AP.f333.body,AP.f333.res):=by kernel_rfl
theorem NC:Fits (21,333):=uZ Try.func21 MC (by kernel_rfl) (by kernel_rfl)
theorem MD:vb L Try.f22 AP.f334=some (AP.f334.body,AP.f334.res):=by kernel_rfl
theorem ND:Fits (22,334):=uZ Try.func22 MD (by kernel_rfl) (by kernel_rfl)
theorem ME:vb L Try.f23 AP.f335=some (AP.f335.body,AP.f335.res):=by kernel_rfl
theorem NF:Fits (23,335):=uZ Try.func23 ME (by kernel_rfl) (by kernel_rfl)
theorem MF:vb L Try.f24 AP.f336=some (AP.f336.body,AP.f336.res):=by kernel_rfl
theorem NG:Fits (24,336):=uZ Try.func24 MF (by kernel_rfl) (by kernel_rfl)
theorem MG:vb L Try.f25 AP.f337=some (AP.f337.body,AP.f337.res):=by kernel_rfl
theorem NH:Fits (25,337):=uZ Try.func25 MG (by kernel_rfl) (by kernel_rfl)
theorem MH:vb L Try.f26 AP.f338=some (AP.f338.body,AP.f338.res):=by kernel_rfl
theorem NI:Fits (26,338):=uZ Try.func26 MH (by kernel_rfl) (by kernel_rfl)
theorem Pc:vb L Try.f27 AP.f42=some (AP.f42.body,AP.f42.res):=by kernel_rfl
theorem PN:Fits (27,42):=uZ Try.func27 Pc (by kernel_rfl) (by kernel_rfl)
theorem Pd:vb L Try.f28 AP.f43=some (AP.f43.body,AP.f43.res):=by kernel_rfl
theorem PO:Fits (28,43):=uZ Try.func28 Pd (by kernel_rfl) (by kernel_rfl)
theorem MI:vb L Try.f29 AP.f339=some (AP.f339.body,AP.f339.res):=by kernel_rfl
theorem NJ:Fits (29,339):=uZ Try.func29 MI (by kernel_rfl) (by kernel_rfl)
theorem MJ:vb L Try.f30 AP.f340=some (AP.f340.body,AP.f340.res):=by kernel_rfl
theorem NK:Fits (30,340):=uZ Try.func30 MJ (by kernel_rfl) (by kernel_rfl)
theorem MK:vb L Try.f31 AP.f341=some (AP.f341.body,AP.f341.res):=by kernel_rfl
theorem NL:Fits (31,341):=uZ Try.func31 MK (by kernel_rfl) (by kernel_rfl)
theorem ML:vb L Try.f32 AP.f342=some (AP.f342.body,AP.f342.res):=by kernel_rfl
theorem NM:Fits (32,342):=uZ Try.func32 ML (by kernel_rfl) (by kernel_rfl)
theorem O4:vb L Try.f33 AP.f14=some (AP.f14.body,AP.f14.res):=by kernel_rfl
theorem PF:Fits (33,14):=uZ Try.func33 O4 (by kernel_rfl) (by kernel_rfl)
theorem O5:vb L Try.f34 AP.f15=some (AP.f15.body,AP.f15.res):=by kernel_rfl
theorem PG:Fits (34,15):=uZ Try.func34 O5 (by kernel_rfl) (by kernel_rfl)
theorem O6:vb L Try.f35 AP.f16=some (AP.f16.body,AP.f16.res):=by kernel_rfl
theorem PH:Fits (35,16):=uZ Try.func35 O6 (by kernel_rfl) (by kernel_rfl)
theorem O7:vb L Try.f36 AP.f17=some (AP.f17.body,AP.f17.res):=by kernel_rfl
theorem PI:Fits (36,17):=uZ Try.func36 O7 (by kernel_rfl) (by kernel_rfl)
theorem MM:vb L Try.f37 AP.f343=some (AP.f343.body,AP.f343.res):=by kernel_rfl
theorem NN:Fits (37,343):=uZ Try.func37 MM (by kernel_rfl) (by kernel_rfl)
theorem MN:vb L Try.f38 AP.f344=some (AP.f344.body,AP.f344.res):=by kernel_rfl
theorem NO:Fits (38,344):=uZ Try.func38 MN (by kernel_rfl) (by kernel_rfl)
theorem MO:vb L Try.f39 AP.f345=some (AP.f345.body,AP.f345.res):=by kernel_rfl
theorem NP:Fits (39,345):=uZ Try.func39 MO (by kernel_rfl) (by kernel_rfl)
theorem MP:vb L Try.f40 AP.f346=some (AP.f346.body,AP.f346.res):=by kernel_rfl
theorem NQ:Fits (40,346):=uZ Try.func40 MP (by kernel_rfl) (by kernel_rfl)
theorem MQ:vb L Try.f41 AP.f347=some (AP.f347.body,AP.f347.res):=by kernel_rfl
theorem NR:Fits (41,347):=uZ Try.func41 MQ (by kernel_rfl) (by kernel_rfl)
theorem MR:vb L Try.f42 AP.f348=some (AP.f348.body,AP.f348.res):=by kernel_rfl
theorem NS:Fits (42,348):=uZ Try.func42 MR (by kernel_rfl) (by kernel_rfl)
theorem Pl:vb L Try.f43 AP.f62=some (AP.f62.body,AP.f62.res):=by kernel_rfl
theorem PW:Fits (43,62):=uZ Try.func43 Pl (by kernel_rfl) (by kernel_rfl)
theorem Pm:vb L Try.f44 AP.f63=some (AP.f63.body,AP.f63.res):=by kernel_rfl
theorem PY:Fits (44,63):=uZ Try.func44 Pm (by kernel_rfl) (by kernel_rfl)
theorem MS:vb L Try.f45 AP.f349=some (AP.f349.body,AP.f349.res):=by kernel_rfl
theorem NT:Fits (45,349):=uZ Try.func45 MS (by kernel_rfl) (by kernel_rfl)
theorem MT:vb L Try.f46 AP.f350=some (AP.f350.body,AP.f350.res):=by kernel_rfl
theorem NU:Fits (46,350):=uZ Try.func46 MT (by kernel_rfl) (by kernel_rfl)
theorem MU:vb L Try.f47 AP.f351=some (AP.f351.body,AP.f351.res):=by kernel_rfl
theorem NV:Fits (47,351):=uZ Try.func47 MU (by kernel_rfl) (by kernel_rfl)
theorem Px:vb L Try.f48 AP.f79=some (AP.f79.body,AP.f79.res):=by kernel_rfl
theorem Qd:Fits (48,79):=uZ Try.func48 Px (by kernel_rfl) (by kernel_rfl)
theorem MV:vb L Try.f49 AP.f352=some (AP.f352.body,AP.f352.res):=by kernel_rfl
theorem NW:Fits (49,352):=uZ Try.func49 MV (by kernel_rfl) (by kernel_rfl)
theorem O8:vb L Try.f50 AP.f38=some (AP.f38.body,AP.f38.res):=by kernel_rfl
theorem PJ:Fits (50,38):=uZ Try.func50 O8 (by kernel_rfl) (by kernel_rfl)
theorem O9:vb L Try.f51 AP.f39=some (AP.f39.body,AP.f39.res):=by kernel_rfl
theorem PK:Fits (51,39):=uZ Try.func51 O9 (by kernel_rfl) (by kernel_rfl)
theorem Pa:vb L Try.f52 AP.f40=some (AP.f40.body,AP.f40.res):=by kernel_rfl
theorem PL:Fits (52,40):=uZ Try.func52 Pa (by kernel_rfl) (by kernel_rfl)
theorem Pb:vb L Try.f53 AP.f41=some (AP.f41.body,AP.f41.res):=by kernel_rfl
theorem PM:Fits (53,41):=uZ Try.func53 Pb (by kernel_rfl) (by kernel_rfl)
theorem Pe:vb L Try.f54 AP.f44=some (AP.f44.body,AP.f44.res):=by kernel_rfl
theorem PQ:Fits (54,44):=uZ Try.func54 Pe (by kernel_rfl) (by kernel_rfl)
theorem Pf:vb L Try.f55 AP.f45=some (AP.f45.body,AP.f45.res):=by kernel_rfl
theorem PR:Fits (55,45):=uZ Try.func55 Pf (by kernel_rfl) (by kernel_rfl)
theorem MW:vb L Try.f56 AP.f353=some (AP.f353.body,AP.f353.res):=by kernel_rfl
theorem NX:Fits (56,353):=uZ Try.func56 MW (by kernel_rfl) (by kernel_rfl)
theorem MX:vb L Try.f57 AP.f354=some (AP.f354.body,AP.f354.res):=by kernel_rfl
theorem NY:Fits (57,354):=uZ Try.func57 MX (by kernel_rfl) (by kernel_rfl)
theorem Pz:vb L Try.f58 AP.f81=some (AP.f81.body,AP.f81.res):=by kernel_rfl
theorem Qf:Fits (58,81):=uZ Try.func58 Pz (by kernel_rfl) (by kernel_rfl)
theorem Pu:vb L Try.f59 AP.f76=some (AP.f76.body,AP.f76.res):=by kernel_rfl
theorem Qa:Fits (59,76):=uZ Try.func59 Pu (by kernel_rfl) (by kernel_rfl)
theorem Pv:vb L Try.f60 AP.f77=some (AP.f77.body,AP.f77.res):=by kernel_rfl
theorem Qb:Fits (60,77):=uZ Try.func60 Pv (by kernel_rfl) (by kernel_rfl)
theorem Pw:vb L Try.f61 AP.f78=some (AP.f78.body,AP.f78.res):=by kernel_rfl
theorem Qc:Fits (61,78):=uZ Try.func61 Pw (by kernel_rfl) (by kernel_rfl)
theorem MY:vb L Try.f62 AP.f355=some (AP.f355.body,AP.f355.res):=by kernel_rfl
theorem NZ:Fits (62,355):=uZ Try.func62 MY (by kernel_rfl) (by kernel_rfl)
theorem MZ:vb L Try.f63 AP.f356=some (AP.f356.body,AP.f356.res):=by kernel_rfl
theorem N0:Fits (63,356):=uZ Try.func63 MZ (by kernel_rfl) (by kernel_rfl)
theorem M4:vb L Try.f64 AP.f357=some (AP.f357.body,AP.f357.res):=by kernel_rfl
theorem N1:Fits (64,357):=uZ Try.func64 M4 (by kernel_rfl) (by kernel_rfl)
theorem PB:vb L Try.f65 AP.f83=some (AP.f83.body,AP.f83.res):=by kernel_rfl
theorem Qh:Fits (65,83):=uZ Try.func65 PB (by kernel_rfl) (by kernel_rfl)
theorem M5:vb L Try.f66 AP.f358=some (AP.f358.body,AP.f358.res):=by kernel_rfl
theorem N2:Fits (66,358):=uZ Try.func66 M5 (by kernel_rfl) (by kernel_rfl)
theorem Mq:vb L Try.f67 AP.f118=some (AP.f118.body,AP.f118.res):=by kernel_rfl
theorem Nr:Fits (67,118):=uZ Try.func67 Mq (by kernel_rfl) (by kernel_rfl)
theorem Mr:vb L Try.f68 AP.f189=some (AP.f189.body,AP.f189.res):=by kernel_rfl
theorem Ns:Fits (68,189):=uZ Try.func68 Mr (by kernel_rfl) (by kernel_rfl)
theorem M6:vb L Try.f69 AP.f359=some (AP.f359.body,AP.f359.res):=by kernel_rfl
theorem N3:Fits (69,359):=uZ Try.func69 M6 (by kernel_rfl) (by kernel_rfl)
theorem M7:vb L Try.f70 AP.f360=some (AP.f360.body,AP.f360.res):=by kernel_rfl
theorem N4:Fits (70,360):=uZ Try.func70 M7 (by kernel_rfl) (by kernel_rfl)
theorem Pg:vb L Try.f71 AP.f58=some (AP.f58.body,AP.f58.res):=by kernel_rfl
theorem PS:Fits (71,58):=uZ Try.func71 Pg (by kernel_rfl) (by kernel_rfl)
theorem Ph:vb L Try.f72 AP.f59=some (AP.f59.body,AP.f59.res):=by kernel_rfl
theorem PT:Fits (72,59):=uZ Try.func72 Ph (by kernel_rfl) (by kernel_rfl)
theorem Pj:vb L Try.f73 AP.f60=some (AP.f60.body,AP.f60.res):=by kernel_rfl
theorem PU:Fits (73,60):=uZ Try.func73 Pj (by kernel_rfl) (by kernel_rfl)
theorem Pk:vb L Try.f74 AP.f61=some (AP.f61.body,AP.f61.res):=by kernel_rfl
theorem PV:Fits (74,61):=uZ Try.func74 Pk (by kernel_rfl) (by kernel_rfl)
theorem Pn:vb L Try.f75 AP.f64=some (AP.f64.body,AP.f64.res):=by kernel_rfl
theorem PZ:Fits (75,64):=uZ Try.func75 Pn (by kernel_rfl) (by kernel_rfl)
theorem Po:vb L Try.f76 AP.f65=some (AP.f65.body,AP.f65.res):=by kernel_rfl
theorem P3:Fits (76,65):=uZ Try.func76 Po (by kernel_rfl) (by kernel_rfl)
theorem Pp:vb L Try.f77 AP.f66=some (AP.f66.body,AP.f66.res):=by kernel_rfl
theorem P4:Fits (77,66):=uZ Try.func77 Pp (by kernel_rfl) (by kernel_rfl)
theorem PA:vb L Try.f78 AP.f82=some (AP.f82.body,AP.f82.res):=by kernel_rfl
theorem Qg:Fits (78,82):=uZ Try.func78 PA (by kernel_rfl) (by kernel_rfl)
theorem M8:vb L Try.f79 AP.f361=some (AP.f361.body,AP.f361.res):=by kernel_rfl
theorem N5:Fits (79,361):=uZ Try.func79 M8 (by kernel_rfl) (by kernel_rfl)
theorem Ps:vb L Try.f80 AP.f74=some (AP.f74.body,AP.f74.res):=by kernel_rfl
theorem P7:Fits (80,74):=uZ Try.func80 Ps (by kernel_rfl) (by kernel_rfl)
theorem Pt:vb L Try.f81 AP.f75=some (AP.f75.body,AP.f75.res):=by kernel_rfl
theorem P9:Fits (81,75):=uZ Try.func81 Pt (by kernel_rfl) (by kernel_rfl)
theorem PC:vb L Try.f82 AP.f84=some (AP.f84.body,AP.f84.res):=by kernel_rfl
theorem Qi:Fits (82,84):=uZ Try.func82 PC (by kernel_rfl) (by kernel_rfl)
theorem M9:vb L Try.f83 AP.f362=some (AP.f362.body,AP.f362.res):=by kernel_rfl
theorem N6:Fits (83,362):=uZ Try.func83 M9 (by kernel_rfl) (by kernel_rfl)
theorem Na:vb L Try.f84 AP.f363=some (AP.f363.body,AP.f363.res):=by kernel_rfl
theorem N7:Fits (84,363):=uZ Try.func84 Na (by kernel_rfl) (by kernel_rfl)
theorem Nb:vb L Try.f85 AP.f364=some (AP.f364.body,AP.f364.res):=by kernel_rfl
theorem N8:Fits (85,364):=uZ Try.func85 Nb (by kernel_rfl) (by kernel_rfl)
theorem Nc:vb L Try.f86 AP.f365=some (AP.f365.body,AP.f365.res):=by kernel_rfl
theorem N9:Fits (86,365):=uZ Try.func86 Nc (by kernel_rfl) (by kernel_rfl)
theorem Pq:vb L Try.f87 AP.f72=some (AP.f72.body,AP.f72.res):=by kernel_rfl
theorem P5:Fits (87,72):=uZ Try.func87 Pq (by kernel_rfl) (by kernel_rfl)
theorem Pr:vb L Try.f88 AP.f73=some (AP.f73.body,AP.f73.res):=by kernel_rfl
theorem P6:Fits (88,73):=uZ Try.func88 Pr (by kernel_rfl) (by kernel_rfl)
theorem Py:vb L Try.f89 AP.f80=some (AP.f80.body,AP.f80.res):=by kernel_rfl
theorem Qe:Fits (89,80):=uZ Try.func89 Py (by kernel_rfl) (by kernel_rfl)
theorem Nd:vb L Try.f90 AP.f366=some (AP.f366.body,AP.f366.res):=by kernel_rfl
theorem Oa:Fits (90,366):=uZ Try.func90 Nd (by kernel_rfl) (by kernel_rfl)
theorem Nf:vb L Try.f91 AP.f367=some (AP.f367.body,AP.f367.res):=by kernel_rfl
theorem Ob:Fits (91,367):=uZ Try.func91 Nf (by kernel_rfl) (by kernel_rfl)
theorem Ng:vb L Try.f110 AP.f368=some (AP.f368.body,AP.f368.res):=by kernel_rfl
theorem Oc:Fits (110,368):=uZ Try.func110 Ng (by kernel_rfl) (by kernel_rfl)
theorem Nh:vb L Try.f111 AP.f369=some (AP.f369.body,AP.f369.res):=by kernel_rfl
theorem Od:Fits (111,369):=uZ Try.func111 Nh (by kernel_rfl) (by kernel_rfl)
theorem Ni:vb L Try.f112 AP.f370=some (AP.f370.body,AP.f370.res):=by kernel_rfl
theorem Oe:Fits (112,370):=uZ Try.func112 Ni (by kernel_rfl) (by kernel_rfl)
theorem Nj:vb L Try.f113 AP.f371=some (AP.f371.body,AP.f371.res):=by kernel_rfl
theorem Of:Fits (113,371):=uZ Try.func113 Nj (by kernel_rfl) (by kernel_rfl)
theorem Qx:∀p∈QR,Fits p:=uW Nt (uW Nu (uW Nv (uW Nw (uW QF (uW QE (uW Nx (uW Ny (uW Nz (uW NA (uW Nq (uW NB (uW NC (uW ND (uW NF (uW NG (uW NH (uW NI (uW PN (uW PO (uW NJ (uW NK (uW NL (uW NM (uW PF (uW PG (uW PH (uW PI (uW NN (uW NO (uW NP (uW NQ (uW NR (uW NS (uW PW (uW PY (uW NT (uW NU (uW NV (uW Qd (uW NW (uW PJ (uW PK (uW PL (uW PM (uW PQ (uW PR (uW NX (uW NY (uW Qf (uW Qa (uW Qb (uW Qc (uW NZ (uW N0 (uW N1 (uW Qh (uW N2 (uW Nr (uW Ns (uW N3 (uW N4 (uW PS (uW PT (uW PU (uW PV (uW PZ (uW P3 (uW P4 (uW Qg (uW N5 (uW P7 (uW P9 (uW Qi (uW N6 (uW N7 (uW N8 (uW N9 (uW P5 (uW P6 (uW Qe (uW Oa (uW Ob (uW Oc (uW Od (uW Oe (uW Of (Ju)))))))))))))))))))))))))))))))))))))))))))))))))))))))))))))))))))))))))))))))))))))))
theorem Lw {T t k:Nat} (hk:k<100000) (hm:∀p∈Qn,p.2=k→p.1=t) (h:mt T=k):T=t:=by
 unfold mt at h
 cases e:AY Qn T with
 |none=>rw[e]at h;exact absurd (show T+100000=k from h) (by omega)
 |some b=>rw[e]at h;exact hm _ (yF e) h
theorem Qt:∀t k,L.ta t=some k→rj L.P t∧∀T,L.mt T=k→T=t:=by
 intro t k h
 have hm:=yF (show AY QL t=some k from h)
 simp only[QL,uR,List.not_mem_nil,or_false,uq]at hm
 rcases hm with ⟨rfl,rfl⟩
 · exact⟨⟨.pointer 134,by kernel_rfl,nofun⟩,fun T h=>Lw (by decide) (by decide+kernel) h⟩
theorem Ov {T:Nat} (h:mt T=1):T=136:=by
 unfold mt at h
 cases e:AY Qn T with
 |none=>rw[e]at h;exact absurd h (by show¬T+100000=1;omega)
 | some b =>
   rw[e]at h
   have h:b=1:=h
   subst h
   have hm:=yF e
   have:∀p∈Qn,p.2=1→p.1=136:=by decide+kernel
   exact this _ hm rfl
theorem CY {P:Program} {T:TypeId} {name:String} {fid:FuncId} {d:Bool} {i:TypeInfo} {el:TypeId} (h1:P.info? T=some i) (h2:(i.methods.find? (·.name==name)).map (fun m=>(m.path,m.func))=some (#[],some (fid, !d))) (h5:P.underlying T=some (.pointer el))
 (h6:d=true→gM P el=some false∧bY P el=some 1):kV P T name fid d:=by
 obtain⟨m,hm,e⟩:=ui.1 h2
 obtain⟨e1,e2⟩:=uj e
 exact⟨i,m,el,h1,hm,e1,e2,h5,h6⟩
theorem Qj:∀name t f d,L.iv name=some (t,f,d)→∀T,L.mt T=t→∃fid,L.mf fid=some f∧kV L.P T name fid d:=by
 intro name t f d h T hT
 have h:(QG.find? fun p=>p.1==name).map (fun p=>((1:Nat),p.2))=some (t,f,d):=h
 rw[ui]at h
 obtain⟨p,hp,e⟩:=h
 obtain⟨rfl,e2⟩:=uj e
 have hn:=List.find?_some hp
 have hm:=List.mem_of_find?_eq_some hp
 obtain rfl:=Ov hT
 obtain rfl:p.1=name:=eq_of_beq hn
 simp only[QG,uR,List.not_mem_nil,or_false]at hm
 rcases hm with rfl|rfl|rfl|rfl|rfl
 · obtain⟨rfl,rfl⟩:=uj e2;exact⟨84,by kernel_rfl,CY (el:=131) Try.type136 (by kernel_rfl) (by kernel_rfl) (fun _=>⟨by kernel_rfl,by kernel_rfl⟩)⟩
 · obtain⟨rfl,rfl⟩:=uj e2;exact⟨110,by kernel_rfl,CY (el:=131) Try.type136 (by kernel_rfl) (by kernel_rfl) (fun _=>⟨by kernel_rfl,by kernel_rfl⟩)⟩
 · obtain⟨rfl,rfl⟩:=uj e2;exact⟨111,by kernel_rfl,CY (el:=131) Try.type136 (by kernel_rfl) (by kernel_rfl) (fun _=>⟨by kernel_rfl,by kernel_rfl⟩)⟩
 · obtain⟨rfl,rfl⟩:=uj e2;exact⟨113,by kernel_rfl,CY (el:=131) Try.type136 (by kernel_rfl) (by kernel_rfl) (fun h=>by cases h)⟩
 · obtain⟨rfl,rfl⟩:=uj e2;exact⟨112,by kernel_rfl,CY (el:=131) Try.type136 (by kernel_rfl) (by kernel_rfl) (fun h=>by cases h)⟩
theorem lk:dW L AP.A:=⟨by kernel_rfl,fun fid f h=>Qx (fid,f) (yF h),Qj,Qt⟩
end Ab.Ln
