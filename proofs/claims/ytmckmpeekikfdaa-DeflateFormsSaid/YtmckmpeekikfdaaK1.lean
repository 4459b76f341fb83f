/- Part K1. -/
import Derived.Test.YtmckmpeekikfdaaProg
import Derived.KernelRfl
import Derived.Test.YtmckmpeekikfdaaAP
set_option maxRecDepth 100000
namespace Ab.Ln
open Go Go.Proofs Ab
def vm (L:Lk) (fn:Func) (af:eZ):Option (aF×List RV):=fn.body.bind fun c=>(comp L fn.ntmps c af.body).bind fun x=>(cD L fn.results.toList).bind fun r=>some (x,r)
def Fits (p : Nat × Nat) : Prop := ∃ fn c, L.P.funcs[p.1]? = some fn ∧ fn.body = some c ∧ (fn.name == "runtime.NumGoroutine") = false ∧
    ∀af,AP.A p.2=some af→(∃x0,comp L fn.ntmps c x0=some af.body)∧cD L fn.results.toList=some af.res
theorem vb {k a : Nat} {fn : Func} {af : eZ} (h1 : L.P.funcs[k]? = some fn) (h2 : vm L fn af = some (af.body, af.res)) (h3 : (fn.name == "runtime.NumGoroutine") = false) (h4 : AP.A a = some af) : Fits (k, a) := by
 unfold vm at h2
 simp only[uu]at h2
 obtain⟨c,g1,x,g2,r,g3,g4⟩:=h2
 obtain⟨rfl,rfl⟩:=ux (uv g4)
 refine⟨fn,c,h1,g1,h3,fun af2 g5=> ?_⟩
 rw[h4]at g5
 obtain rfl:=uv g5
 exact⟨⟨_,g2⟩,g3⟩
theorem yK:∀{l:List (Nat×Nat)} {k f:Nat},AY l k=some f→(k,f)∈l
 |[],_,_,h=>by cases h
 | (i, g) :: r, k, f, h => by
   unfold AY at h
   split at h
   · rename_i e;subst e;obtain rfl:=uv h;exact List.mem_cons_self
   · exact List.mem_cons_of_mem _ (yK h)
theorem Jp:∀p∈([]:List (Nat×Nat)),Fits p:=fun p h=>by cases h
theorem u6 {p:Nat×Nat} {l:List (Nat×Nat)} (h1:Fits p) (h2:∀q∈l,Fits q):∀q∈p::l,Fits q:=fun q h=>by
 rcases uY.1 h with rfl|h
 · exact h1
 · exact h2 q h
theorem Mp:vm L Try.f8 AP.f321=some (AP.f321.body,AP.f321.res):=by kernel_rfl
theorem Nq:Fits (8,321):=vb Try.func8 Mp (by kernel_rfl) (by kernel_rfl)
theorem Mq:vm L Try.f10 AP.f325=some (AP.f325.body,AP.f325.res):=by kernel_rfl
theorem Nr:Fits (10,325):=vb Try.func10 Mq (by kernel_rfl) (by kernel_rfl)
theorem Mr:vm L Try.f11 AP.f326=some (AP.f326.body,AP.f326.res):=by kernel_rfl
theorem Ns:Fits (11,326):=vb Try.func11 Mr (by kernel_rfl) (by kernel_rfl)
theorem Ms:vm L Try.f12 AP.f327=some (AP.f327.body,AP.f327.res):=by kernel_rfl
theorem Nt:Fits (12,327):=vb Try.func12 Ms (by kernel_rfl) (by kernel_rfl)
theorem Qz:vm L Try.f13 AP.f9=some (AP.f9.body,AP.f9.res):=by kernel_rfl
theorem QC:Fits (13,9):=vb Try.func13 Qz (by kernel_rfl) (by kernel_rfl)
theorem Qy:vm L Try.f14 AP.f7=some (AP.f7.body,AP.f7.res):=by kernel_rfl
theorem QB:Fits (14,7):=vb Try.func14 Qy (by kernel_rfl) (by kernel_rfl)
theorem Mt:vm L Try.f15 AP.f328=some (AP.f328.body,AP.f328.res):=by kernel_rfl
theorem Nu:Fits (15,328):=vb Try.func15 Mt (by kernel_rfl) (by kernel_rfl)
theorem Mu:vm L Try.f16 AP.f329=some (AP.f329.body,AP.f329.res):=by kernel_rfl
theorem Nv:Fits (16,329):=vb Try.func16 Mu (by kernel_rfl) (by kernel_rfl)
theorem Mv:vm L Try.f17 AP.f330=some (AP.f330.body,AP.f330.res):=by kernel_rfl
theorem Nw:Fits (17,330):=vb Try.func17 Mv (by kernel_rfl) (by kernel_rfl)
theorem Mw:vm L Try.f18 AP.f331=some (AP.f331.body,AP.f331.res):=by kernel_rfl
theorem Nx:Fits (18,331):=vb Try.func18 Mw (by kernel_rfl) (by kernel_rfl)
theorem Ml:vm L Try.f19 AP.f114=some (AP.f114.body,AP.f114.res):=by kernel_rfl
theorem Nm:Fits (19,114):=vb Try.func19 Ml (by kernel_rfl) (by kernel_rfl)
theorem Mx:vm L Try.f20 AP.f332=some (AP.f332.body,AP.f332.res):=by kernel_rfl
theorem Ny:Fits (20,332):=vb Try.func20 Mx (by kernel_rfl) (by kernel_rfl)
theorem My:vm L Try.f21 AP.f333=some (AP.f333.body,AP.f333.res):=by kernel_rfl
theorem Nz:Fits (21,333):=vb Try.func21 My (by kernel_rfl) (by kernel_rfl)
theorem MA:vm L Try.f22 AP.f334=some (AP.f334.body,AP.f334.res):=by kernel_rfl
theorem NA:Fits (22,334):=vb Try.func22 MA (by kernel_rfl) (by kernel_rfl)
theorem MB:vm L Try.f23 AP.f335=some (AP.f335.body,AP.f335.res):=by kernel_rfl
theorem NB:Fits (23,335):=vb Try.func23 MB (by kernel_rfl) (by kernel_rfl)
theorem MC:vm L Try.f24 AP.f336=some (AP.f336.body,AP.f336.res):=by kernel_rfl
theorem NC:Fits (24,336):=vb Try.func24 MC (by kernel_rfl) (by kernel_rfl)
theorem MD:vm L Try.f25 AP.f337=some (AP.f337.body,AP.f337.res):=by kernel_rfl
theorem ND:Fits (25,337):=vb Try.func25 MD (by kernel_rfl) (by kernel_rfl)
theorem ME:vm L Try.f26 AP.f338=some (AP.f338.body,AP.f338.res):=by kernel_rfl
theorem NF:Fits (26,338):=vb Try.func26 ME (by kernel_rfl) (by kernel_rfl)
theorem O6:vm L Try.f27 AP.f42=some (AP.f42.body,AP.f42.res):=by kernel_rfl
theorem PH:Fits (27,42):=vb Try.func27 O6 (by kernel_rfl) (by kernel_rfl)
theorem O7:vm L Try.f28 AP.f43=some (AP.f43.body,AP.f43.res):=by kernel_rfl
theorem PI:Fits (28,43):=vb Try.func28 O7 (by kernel_rfl) (by kernel_rfl)
theorem MF:vm L Try.f29 AP.f339=some (AP.f339.body,AP.f339.res):=by kernel_rfl
theorem NG:Fits (29,339):=vb Try.func29 MF (by kernel_rfl) (by kernel_rfl)
theorem MG:vm L Try.f30 AP.f340=some (AP.f340.body,AP.f340.res):=by kernel_rfl
theorem NH:Fits (30,340):=vb Try.func30 MG (by kernel_rfl) (by kernel_rfl)
theorem MH:vm L Try.f31 AP.f341=some (AP.f341.body,AP.f341.res):=by kernel_rfl
theorem NI:Fits (31,341):=vb Try.func31 MH (by kernel_rfl) (by kernel_rfl)
theorem MI:vm L Try.f32 AP.f342=some (AP.f342.body,AP.f342.res):=by kernel_rfl
theorem NJ:Fits (32,342):=vb Try.func32 MI (by kernel_rfl) (by kernel_rfl)
theorem OX:vm L Try.f33 AP.f14=some (AP.f14.body,AP.f14.res):=by kernel_rfl
theorem Py:Fits (33,14):=vb Try.func33 OX (by kernel_rfl) (by kernel_rfl)
theorem OY:vm L Try.f34 AP.f15=some (AP.f15.body,AP.f15.res):=by kernel_rfl
theorem Pz:Fits (34,15):=vb Try.func34 OY (by kernel_rfl) (by kernel_rfl)
theorem OZ:vm L Try.f35 AP.f16=some (AP.f16.body,AP.f16.res):=by kernel_rfl
theorem PA:Fits (35,16):=vb Try.func35 OZ (by kernel_rfl) (by kernel_rfl)
theorem O0:vm L Try.f36 AP.f17=some (AP.f17.body,AP.f17.res):=by kernel_rfl
theorem PB:Fits (36,17):=vb Try.func36 O0 (by kernel_rfl) (by kernel_rfl)
theorem MJ:vm L Try.f37 AP.f343=some (AP.f343.body,AP.f343.res):=by kernel_rfl
theorem NK:Fits (37,343):=vb Try.func37 MJ (by kernel_rfl) (by kernel_rfl)
theorem MK:vm L Try.f38 AP.f344=some (AP.f344.body,AP.f344.res):=by kernel_rfl
theorem NL:Fits (38,344):=vb Try.func38 MK (by kernel_rfl) (by kernel_rfl)
theorem ML:vm L Try.f39 AP.f345=some (AP.f345.body,AP.f345.res):=by kernel_rfl
theorem NM:Fits (39,345):=vb Try.func39 ML (by kernel_rfl) (by kernel_rfl)
theorem MM:vm L Try.f40 AP.f346=some (AP.f346.body,AP.f346.res):=by kernel_rfl
theorem NN:Fits (40,346):=vb Try.func40 MM (by kernel_rfl) (by kernel_rfl)
theorem MN:vm L Try.f41 AP.f347=some (AP.f347.body,AP.f347.res):=by kernel_rfl
theorem NO:Fits (41,347):=vb Try.func41 MN (by kernel_rfl) (by kernel_rfl)
theorem MO:vm L Try.f42 AP.f348=some (AP.f348.body,AP.f348.res):=by kernel_rfl
theorem NP:Fits (42,348):=vb Try.func42 MO (by kernel_rfl) (by kernel_rfl)
theorem Pe:vm L Try.f43 AP.f62=some (AP.f62.body,AP.f62.res):=by kernel_rfl
theorem PQ:Fits (43,62):=vb Try.func43 Pe (by kernel_rfl) (by kernel_rfl)
theorem Pf:vm L Try.f44 AP.f63=some (AP.f63.body,AP.f63.res):=by kernel_rfl
theorem PR:Fits (44,63):=vb Try.func44 Pf (by kernel_rfl) (by kernel_rfl)
theorem MP:vm L Try.f45 AP.f349=some (AP.f349.body,AP.f349.res):=by kernel_rfl
theorem NQ:Fits (45,349):=vb Try.func45 MP (by kernel_rfl) (by kernel_rfl)
theorem MQ:vm L Try.f46 AP.f350=some (AP.f350.body,AP.f350.res):=by kernel_rfl
theorem NR:Fits (46,350):=vb Try.func46 MQ (by kernel_rfl) (by kernel_rfl)
theorem MR:vm L Try.f47 AP.f351=some (AP.f351.body,AP.f351.res):=by kernel_rfl
theorem NS:Fits (47,351):=vb Try.func47 MR (by kernel_rfl) (by kernel_rfl)
theorem Pr:vm L Try.f48 AP.f79=some (AP.f79.body,AP.f79.res):=by kernel_rfl
theorem P5:Fits (48,79):=vb Try.func48 Pr (by kernel_rfl) (by kernel_rfl)
theorem MS:vm L Try.f49 AP.f352=some (AP.f352.body,AP.f352.res):=by kernel_rfl
theorem NT:Fits (49,352):=vb Try.func49 MS (by kernel_rfl) (by kernel_rfl)
theorem O2:vm L Try.f50 AP.f38=some (AP.f38.body,AP.f38.res):=by kernel_rfl
theorem PC:Fits (50,38):=vb Try.func50 O2 (by kernel_rfl) (by kernel_rfl)
theorem O3:vm L Try.f51 AP.f39=some (AP.f39.body,AP.f39.res):=by kernel_rfl
theorem PD:Fits (51,39):=vb Try.func51 O3 (by kernel_rfl) (by kernel_rfl)
theorem O4:vm L Try.f52 AP.f40=some (AP.f40.body,AP.f40.res):=by kernel_rfl
theorem PF:Fits (52,40):=vb Try.func52 O4 (by kernel_rfl) (by kernel_rfl)
theorem O5:vm L Try.f53 AP.f41=some (AP.f41.body,AP.f41.res):=by kernel_rfl
theorem PG:Fits (53,41):=vb Try.func53 O5 (by kernel_rfl) (by kernel_rfl)
theorem O8:vm L Try.f54 AP.f44=some (AP.f44.body,AP.f44.res):=by kernel_rfl
theorem PJ:Fits (54,44):=vb Try.func54 O8 (by kernel_rfl) (by kernel_rfl)
theorem O9:vm L Try.f55 AP.f45=some (AP.f45.body,AP.f45.res):=by kernel_rfl
theorem PK:Fits (55,45):=vb Try.func55 O9 (by kernel_rfl) (by kernel_rfl)
theorem MT:vm L Try.f56 AP.f353=some (AP.f353.body,AP.f353.res):=by kernel_rfl
theorem NU:Fits (56,353):=vb Try.func56 MT (by kernel_rfl) (by kernel_rfl)
theorem MU:vm L Try.f57 AP.f354=some (AP.f354.body,AP.f354.res):=by kernel_rfl
theorem NV:Fits (57,354):=vb Try.func57 MU (by kernel_rfl) (by kernel_rfl)
theorem Pt:vm L Try.f58 AP.f81=some (AP.f81.body,AP.f81.res):=by kernel_rfl
theorem P7:Fits (58,81):=vb Try.func58 Pt (by kernel_rfl) (by kernel_rfl)
theorem Po:vm L Try.f59 AP.f76=some (AP.f76.body,AP.f76.res):=by kernel_rfl
theorem PZ:Fits (59,76):=vb Try.func59 Po (by kernel_rfl) (by kernel_rfl)
theorem Pp:vm L Try.f60 AP.f77=some (AP.f77.body,AP.f77.res):=by kernel_rfl
theorem P3:Fits (60,77):=vb Try.func60 Pp (by kernel_rfl) (by kernel_rfl)
theorem Pq:vm L Try.f61 AP.f78=some (AP.f78.body,AP.f78.res):=by kernel_rfl
theorem P4:Fits (61,78):=vb Try.func61 Pq (by kernel_rfl) (by kernel_rfl)
theorem MV:vm L Try.f62 AP.f355=some (AP.f355.body,AP.f355.res):=by kernel_rfl
theorem NW:Fits (62,355):=vb Try.func62 MV (by kernel_rfl) (by kernel_rfl)
theorem MW:vm L Try.f63 AP.f356=some (AP.f356.body,AP.f356.res):=by kernel_rfl
theorem NX:Fits (63,356):=vb Try.func63 MW (by kernel_rfl) (by kernel_rfl)
theorem MX:vm L Try.f64 AP.f357=some (AP.f357.body,AP.f357.res):=by kernel_rfl
theorem NY:Fits (64,357):=vb Try.func64 MX (by kernel_rfl) (by kernel_rfl)
theorem Pv:vm L Try.f65 AP.f83=some (AP.f83.body,AP.f83.res):=by kernel_rfl
theorem Qa:Fits (65,83):=vb Try.func65 Pv (by kernel_rfl) (by kernel_rfl)
theorem MY:vm L Try.f66 AP.f358=some (AP.f358.body,AP.f358.res):=by kernel_rfl
theorem NZ:Fits (66,358):=vb Try.func66 MY (by kernel_rfl) (by kernel_rfl)
theorem Mn:vm L Try.f67 AP.f118=some (AP.f118.body,AP.f118.res):=by kernel_rfl
theorem Nn:Fits (67,118):=vb Try.func67 Mn (by kernel_rfl) (by kernel_rfl)
theorem Mo:vm L Try.f68 AP.f189=some (AP.f189.body,AP.f189.res):=by kernel_rfl
theorem Np:Fits (68,189):=vb Try.func68 Mo (by kernel_rfl) (by kernel_rfl)
theorem MZ:vm L Try.f69 AP.f359=some (AP.f359.body,AP.f359.res):=by kernel_rfl
theorem N0:Fits (69,359):=vb Try.func69 MZ (by kernel_rfl) (by kernel_rfl)
theorem M4:vm L Try.f70 AP.f360=some (AP.f360.body,AP.f360.res):=by kernel_rfl
theorem N1:Fits (70,360):=vb Try.func70 M4 (by kernel_rfl) (by kernel_rfl)
theorem Pa:vm L Try.f71 AP.f58=some (AP.f58.body,AP.f58.res):=by kernel_rfl
theorem PL:Fits (71,58):=vb Try.func71 Pa (by kernel_rfl) (by kernel_rfl)
theorem Pb:vm L Try.f72 AP.f59=some (AP.f59.body,AP.f59.res):=by kernel_rfl
theorem PM:Fits (72,59):=vb Try.func72 Pb (by kernel_rfl) (by kernel_rfl)
theorem Pc:vm L Try.f73 AP.f60=some (AP.f60.body,AP.f60.res):=by kernel_rfl
theorem PN:Fits (73,60):=vb Try.func73 Pc (by kernel_rfl) (by kernel_rfl)
theorem Pd:vm L Try.f74 AP.f61=some (AP.f61.body,AP.f61.res):=by kernel_rfl
theorem PO:Fits (74,61):=vb Try.func74 Pd (by kernel_rfl) (by kernel_rfl)
theorem Pg:vm L Try.f75 AP.f64=some (AP.f64.body,AP.f64.res):=by kernel_rfl
theorem PS:Fits (75,64):=vb Try.func75 Pg (by kernel_rfl) (by kernel_rfl)
theorem Ph:vm L Try.f76 AP.f65=some (AP.f65.body,AP.f65.res):=by kernel_rfl
theorem PT:Fits (76,65):=vb Try.func76 Ph (by kernel_rfl) (by kernel_rfl)
theorem Pj:vm L Try.f77 AP.f66=some (AP.f66.body,AP.f66.res):=by kernel_rfl
theorem PU:Fits (77,66):=vb Try.func77 Pj (by kernel_rfl) (by kernel_rfl)
theorem Pu:vm L Try.f78 AP.f82=some (AP.f82.body,AP.f82.res):=by kernel_rfl
theorem P9:Fits (78,82):=vb Try.func78 Pu (by kernel_rfl) (by kernel_rfl)
theorem M5:vm L Try.f79 AP.f361=some (AP.f361.body,AP.f361.res):=by kernel_rfl
theorem N2:Fits (79,361):=vb Try.func79 M5 (by kernel_rfl) (by kernel_rfl)
theorem Pm:vm L Try.f80 AP.f74=some (AP.f74.body,AP.f74.res):=by kernel_rfl
theorem PX:Fits (80,74):=vb Try.func80 Pm (by kernel_rfl) (by kernel_rfl)
theorem Pn:vm L Try.f81 AP.f75=some (AP.f75.body,AP.f75.res):=by kernel_rfl
theorem PY:Fits (81,75):=vb Try.func81 Pn (by kernel_rfl) (by kernel_rfl)
theorem Pw:vm L Try.f82 AP.f84=some (AP.f84.body,AP.f84.res):=by kernel_rfl
theorem Qb:Fits (82,84):=vb Try.func82 Pw (by kernel_rfl) (by kernel_rfl)
theorem M6:vm L Try.f83 AP.f362=some (AP.f362.body,AP.f362.res):=by kernel_rfl
theorem N3:Fits (83,362):=vb Try.func83 M6 (by kernel_rfl) (by kernel_rfl)
theorem M7:vm L Try.f84 AP.f363=some (AP.f363.body,AP.f363.res):=by kernel_rfl
theorem N4:Fits (84,363):=vb Try.func84 M7 (by kernel_rfl) (by kernel_rfl)
theorem M8:vm L Try.f85 AP.f364=some (AP.f364.body,AP.f364.res):=by kernel_rfl
theorem N5:Fits (85,364):=vb Try.func85 M8 (by kernel_rfl) (by kernel_rfl)
theorem M9:vm L Try.f86 AP.f365=some (AP.f365.body,AP.f365.res):=by kernel_rfl
theorem N6:Fits (86,365):=vb Try.func86 M9 (by kernel_rfl) (by kernel_rfl)
theorem Pk:vm L Try.f87 AP.f72=some (AP.f72.body,AP.f72.res):=by kernel_rfl
theorem PV:Fits (87,72):=vb Try.func87 Pk (by kernel_rfl) (by kernel_rfl)
theorem Pl:vm L Try.f88 AP.f73=some (AP.f73.body,AP.f73.res):=by kernel_rfl
theorem PW:Fits (88,73):=vb Try.func88 Pl (by kernel_rfl) (by kernel_rfl)
theorem Ps:vm L Try.f89 AP.f80=some (AP.f80.body,AP.f80.res):=by kernel_rfl
theorem P6:Fits (89,80):=vb Try.func89 Ps (by kernel_rfl) (by kernel_rfl)
theorem Na:vm L Try.f90 AP.f366=some (AP.f366.body,AP.f366.res):=by kernel_rfl
theorem N7:Fits (90,366):=vb Try.func90 Na (by kernel_rfl) (by kernel_rfl)
theorem Nb:vm L Try.f91 AP.f367=some (AP.f367.body,AP.f367.res):=by kernel_rfl
theorem N8:Fits (91,367):=vb Try.func91 Nb (by kernel_rfl) (by kernel_rfl)
theorem Nc:vm L Try.f110 AP.f368=some (AP.f368.body,AP.f368.res):=by kernel_rfl
theorem N9:Fits (110,368):=vb Try.func110 Nc (by kernel_rfl) (by kernel_rfl)
theorem Nd:vm L Try.f111 AP.f369=some (AP.f369.body,AP.f369.res):=by kernel_rfl
theorem Oa:Fits (111,369):=vb Try.func111 Nd (by kernel_rfl) (by kernel_rfl)
theorem Nf:vm L Try.f112 AP.f370=some (AP.f370.body,AP.f370.res):=by kernel_rfl
theorem Ob:Fits (112,370):=vb Try.func112 Nf (by kernel_rfl) (by kernel_rfl)
theorem Ng:vm L Try.f113 AP.f371=some (AP.f371.body,AP.f371.res):=by kernel_rfl
theorem Oc:Fits (113,371):=vb Try.func113 Ng (by kernel_rfl) (by kernel_rfl)
theorem Qu:∀p∈QQ,Fits p:=u6 Nq (u6 Nr (u6 Ns (u6 Nt (u6 QC (u6 QB (u6 Nu (u6 Nv (u6 Nw (u6 Nx (u6 Nm (u6 Ny (u6 Nz (u6 NA (u6 NB (u6 NC (u6 ND (u6 NF (u6 PH (u6 PI (u6 NG (u6 NH (u6 NI (u6 NJ (u6 Py (u6 Pz (u6 PA (u6 PB (u6 NK (u6 NL (u6 NM (u6 NN (u6 NO (u6 NP (u6 PQ (u6 PR (u6 NQ (u6 NR (u6 NS (u6 P5 (u6 NT (u6 PC (u6 PD (u6 PF (u6 PG (u6 PJ (u6 PK (u6 NU (u6 NV (u6 P7 (u6 PZ (u6 P3 (u6 P4 (u6 NW (u6 NX (u6 NY (u6 Qa (u6 NZ (u6 Nn (u6 Np (u6 N0 (u6 N1 (u6 PL (u6 PM (u6 PN (u6 PO (u6 PS (u6 PT (u6 PU (u6 P9 (u6 N2 (u6 PX (u6 PY (u6 Qb (u6 N3 (u6 N4 (u6 N5 (u6 N6 (u6 PV (u6 PW (u6 P6 (u6 N7 (u6 N8 (u6 N9 (u6 Oa (u6 Ob (u6 Oc (Jp)))))))))))))))))))))))))))))))))))))))))))))))))))))))))))))))))))))))))))))))))))))))
theorem Lq {T t k:Nat} (hk:k<100000) (hm:∀p∈Qg,p.2=k→p.1=t) (h:mt T=k):T=t:=by
 unfold mt at h
 cases e:AY Qg T with
 |none=>rw[e]at h;exact absurd (show T+100000=k from h) (by omega)
 |some b=>rw[e]at h;exact hm _ (yK e) h
theorem Qo:∀t k,L.ta t=some k→rD L.P t∧∀T,L.mt T=k→T=t:=by
 intro t k h
 have hm:=yK (show AY QJ t=some k from h)
 simp only[QJ,uY,List.not_mem_nil,or_false,uC]at hm
 rcases hm with ⟨rfl,rfl⟩
 · exact⟨⟨.pointer 134,by kernel_rfl,nofun⟩,fun T h=>Lq (by decide) (by decide+kernel) h⟩
theorem Oq {T:Nat} (h:mt T=1):T=136:=by
 unfold mt at h
 cases e:AY Qg T with
 |none=>rw[e]at h;exact absurd h (by show¬T+100000=1;omega)
 | some b =>
   rw[e]at h
   have h:b=1:=h
   subst h
   have hm:=yK e
   have:∀p∈Qg,p.2=1→p.1=136:=by decide+kernel
   exact this _ hm rfl
theorem CS {P:Program} {T:TypeId} {name:String} {fid:FuncId} {d:Bool} {i:TypeInfo} {el:TypeId} (h1:P.info? T=some i) (h2:(i.methods.find? (·.name==name)).map (fun m=>(m.path,m.func))=some (#[],some (fid, !d))) (h5:P.underlying T=some (.pointer el))
 (h6:d=true→gQ P el=some false∧b7 P el=some 1):lh P T name fid d:=by
 obtain⟨m,hm,e⟩:=uw.1 h2
 obtain⟨e1,e2⟩:=ux e
 exact⟨i,m,el,h1,hm,e1,e2,h5,h6⟩
theorem Qc:∀name t f d,L.iv name=some (t,f,d)→∀T,L.mt T=t→∃fid,L.mf fid=some f∧lh L.P T name fid d:=by
 intro name t f d h T hT
 have h:(QE.find? fun p=>p.1==name).map (fun p=>((1:Nat),p.2))=some (t,f,d):=h
 rw[uw]at h
 obtain⟨p,hp,e⟩:=h
 obtain⟨rfl,e2⟩:=ux e
 have hn:=List.find?_some hp
 have hm:=List.mem_of_find?_eq_some hp
 obtain rfl:=Oq hT
 obtain rfl:p.1=name:=eq_of_beq hn
 simp only[QE,uY,List.not_mem_nil,or_false]at hm
 rcases hm with rfl|rfl|rfl|rfl|rfl
 · obtain⟨rfl,rfl⟩:=ux e2;exact⟨84,by kernel_rfl,CS (el:=131) Try.type136 (by kernel_rfl) (by kernel_rfl) (fun _=>⟨by kernel_rfl,by kernel_rfl⟩)⟩
 · obtain⟨rfl,rfl⟩:=ux e2;exact⟨110,by kernel_rfl,CS (el:=131) Try.type136 (by kernel_rfl) (by kernel_rfl) (fun _=>⟨by kernel_rfl,by kernel_rfl⟩)⟩
 · obtain⟨rfl,rfl⟩:=ux e2;exact⟨111,by kernel_rfl,CS (el:=131) Try.type136 (by kernel_rfl) (by kernel_rfl) (fun _=>⟨by kernel_rfl,by kernel_rfl⟩)⟩
 · obtain⟨rfl,rfl⟩:=ux e2;exact⟨113,by kernel_rfl,CS (el:=131) Try.type136 (by kernel_rfl) (by kernel_rfl) (fun h=>by cases h)⟩
 · obtain⟨rfl,rfl⟩:=ux e2;exact⟨112,by kernel_rfl,CS (el:=131) Try.type136 (by kernel_rfl) (by kernel_rfl) (fun h=>by cases h)⟩
theorem lk:ef L AP.A:=⟨by kernel_rfl,fun fid f h=>Qu (fid,f) (yK h),Qc,Qo⟩
end Ab.Ln
