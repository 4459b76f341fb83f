/- Part K1. -/
import Derived.Test.YtcpjlemfholepaaProg
import Derived.KernelRfl
import Derived.Test.YtcpjlemfholepaaAP
set_option maxRecDepth 100000
namespace Ab.Ln
open Go Go.Proofs Ab
def vr (L:Lk) (fn:Func) (af:eV):Option (aF×List RV):=fn.body.bind fun c=>(comp L fn.ntmps c af.body).bind fun x=>(cA L fn.results.toList).bind fun r=>some (x,r)
def Fits (p : Nat × Nat) : Prop := ∃ fn c, L.P.funcs[p.1]? = some fn ∧ fn.body = some c ∧ (fn.name == "runtime.NumGoroutine") = false ∧
    ∀af,AP.A p.2=some af→(∃x0,comp L fn.ntmps c x0=some af.body)∧cA L fn.results.toList=some af.res
theorem vj {k a : Nat} {fn : Func} {af : eV} (h1 : L.P.funcs[k]? = some fn) (h2 : vr L fn af = some (af.body, af.res)) (h3 : (fn.name == "runtime.NumGoroutine") = false) (h4 : AP.A a = some af) : Fits (k, a) := by
 unfold vr at h2
 simp only[uz]at h2
 obtain⟨c,g1,x,g2,r,g3,g4⟩:=h2
 obtain⟨rfl,rfl⟩:=uE (uC g4)
 refine⟨fn,c,h1,g1,h3,fun af2 g5=> ?_⟩
 rw[h4]at g5
 obtain rfl:=uC g5
 exact⟨⟨_,g2⟩,g3⟩
theorem yS:∀{l:List (Nat×Nat)} {k f:Nat},A9 l k=some f→(k,f)∈l
 |[],_,_,h=>by cases h
 | (i, g) :: r, k, f, h => by
   unfold A9 at h
   split at h
   · rename_i e;subst e;obtain rfl:=uC h;exact List.mem_cons_self
   · exact List.mem_cons_of_mem _ (yS h)
theorem JP:∀p∈([]:List (Nat×Nat)),Fits p:=fun p h=>by cases h
theorem vg {p:Nat×Nat} {l:List (Nat×Nat)} (h1:Fits p) (h2:∀q∈l,Fits q):∀q∈p::l,Fits q:=fun q h=>by
 rcases u6.1 h with rfl|h
 · exact h1
 · exact h2 q h
theorem MO:vr L Try.f10 AP.f323=some (AP.f323.body,AP.f323.res):=by kernel_rfl
theorem NP:Fits (10,323):=vj Try.func10 MO (by kernel_rfl) (by kernel_rfl)
theorem MP:vr L Try.f12 AP.f325=some (AP.f325.body,AP.f325.res):=by kernel_rfl
theorem NQ:Fits (12,325):=vj Try.func12 MP (by kernel_rfl) (by kernel_rfl)
theorem MQ:vr L Try.f13 AP.f326=some (AP.f326.body,AP.f326.res):=by kernel_rfl
theorem NR:Fits (13,326):=vj Try.func13 MQ (by kernel_rfl) (by kernel_rfl)
theorem MR:vr L Try.f14 AP.f327=some (AP.f327.body,AP.f327.res):=by kernel_rfl
theorem NS:Fits (14,327):=vj Try.func14 MR (by kernel_rfl) (by kernel_rfl)
theorem QT:vr L Try.f15 AP.f9=some (AP.f9.body,AP.f9.res):=by kernel_rfl
theorem QW:Fits (15,9):=vj Try.func15 QT (by kernel_rfl) (by kernel_rfl)
theorem QS:vr L Try.f16 AP.f7=some (AP.f7.body,AP.f7.res):=by kernel_rfl
theorem QV:Fits (16,7):=vj Try.func16 QS (by kernel_rfl) (by kernel_rfl)
theorem MS:vr L Try.f17 AP.f328=some (AP.f328.body,AP.f328.res):=by kernel_rfl
theorem NT:Fits (17,328):=vj Try.func17 MS (by kernel_rfl) (by kernel_rfl)
theorem MT:vr L Try.f18 AP.f329=some (AP.f329.body,AP.f329.res):=by kernel_rfl
theorem NU:Fits (18,329):=vj Try.func18 MT (by kernel_rfl) (by kernel_rfl)
theorem MU:vr L Try.f19 AP.f330=some (AP.f330.body,AP.f330.res):=by kernel_rfl
theorem NV:Fits (19,330):=vj Try.func19 MU (by kernel_rfl) (by kernel_rfl)
theorem MV:vr L Try.f20 AP.f331=some (AP.f331.body,AP.f331.res):=by kernel_rfl
theorem NW:Fits (20,331):=vj Try.func20 MV (by kernel_rfl) (by kernel_rfl)
theorem ML:vr L Try.f21 AP.f114=some (AP.f114.body,AP.f114.res):=by kernel_rfl
theorem NM:Fits (21,114):=vj Try.func21 ML (by kernel_rfl) (by kernel_rfl)
theorem MW:vr L Try.f22 AP.f332=some (AP.f332.body,AP.f332.res):=by kernel_rfl
theorem NX:Fits (22,332):=vj Try.func22 MW (by kernel_rfl) (by kernel_rfl)
theorem MX:vr L Try.f23 AP.f333=some (AP.f333.body,AP.f333.res):=by kernel_rfl
theorem NY:Fits (23,333):=vj Try.func23 MX (by kernel_rfl) (by kernel_rfl)
theorem MY:vr L Try.f24 AP.f334=some (AP.f334.body,AP.f334.res):=by kernel_rfl
theorem NZ:Fits (24,334):=vj Try.func24 MY (by kernel_rfl) (by kernel_rfl)
theorem MZ:vr L Try.f25 AP.f335=some (AP.f335.body,AP.f335.res):=by kernel_rfl
theorem N0:Fits (25,335):=vj Try.func25 MZ (by kernel_rfl) (by kernel_rfl)
theorem M4:vr L Try.f26 AP.f336=some (AP.f336.body,AP.f336.res):=by kernel_rfl
theorem N1:Fits (26,336):=vj Try.func26 M4 (by kernel_rfl) (by kernel_rfl)
theorem M5:vr L Try.f27 AP.f337=some (AP.f337.body,AP.f337.res):=by kernel_rfl
theorem N2:Fits (27,337):=vj Try.func27 M5 (by kernel_rfl) (by kernel_rfl)
theorem M6:vr L Try.f28 AP.f338=some (AP.f338.body,AP.f338.res):=by kernel_rfl
theorem N3:Fits (28,338):=vj Try.func28 M6 (by kernel_rfl) (by kernel_rfl)
theorem Ps:vr L Try.f29 AP.f42=some (AP.f42.body,AP.f42.res):=by kernel_rfl
theorem P6:Fits (29,42):=vj Try.func29 Ps (by kernel_rfl) (by kernel_rfl)
theorem Pt:vr L Try.f30 AP.f43=some (AP.f43.body,AP.f43.res):=by kernel_rfl
theorem P7:Fits (30,43):=vj Try.func30 Pt (by kernel_rfl) (by kernel_rfl)
theorem M7:vr L Try.f31 AP.f339=some (AP.f339.body,AP.f339.res):=by kernel_rfl
theorem N4:Fits (31,339):=vj Try.func31 M7 (by kernel_rfl) (by kernel_rfl)
theorem M8:vr L Try.f32 AP.f340=some (AP.f340.body,AP.f340.res):=by kernel_rfl
theorem N5:Fits (32,340):=vj Try.func32 M8 (by kernel_rfl) (by kernel_rfl)
theorem M9:vr L Try.f33 AP.f341=some (AP.f341.body,AP.f341.res):=by kernel_rfl
theorem N6:Fits (33,341):=vj Try.func33 M9 (by kernel_rfl) (by kernel_rfl)
theorem Na:vr L Try.f34 AP.f342=some (AP.f342.body,AP.f342.res):=by kernel_rfl
theorem N7:Fits (34,342):=vj Try.func34 Na (by kernel_rfl) (by kernel_rfl)
theorem Pk:vr L Try.f35 AP.f14=some (AP.f14.body,AP.f14.res):=by kernel_rfl
theorem PV:Fits (35,14):=vj Try.func35 Pk (by kernel_rfl) (by kernel_rfl)
theorem Pl:vr L Try.f36 AP.f15=some (AP.f15.body,AP.f15.res):=by kernel_rfl
theorem PW:Fits (36,15):=vj Try.func36 Pl (by kernel_rfl) (by kernel_rfl)
theorem Pm:vr L Try.f37 AP.f16=some (AP.f16.body,AP.f16.res):=by kernel_rfl
theorem PX:Fits (37,16):=vj Try.func37 Pm (by kernel_rfl) (by kernel_rfl)
theorem Pn:vr L Try.f38 AP.f17=some (AP.f17.body,AP.f17.res):=by kernel_rfl
theorem PY:Fits (38,17):=vj Try.func38 Pn (by kernel_rfl) (by kernel_rfl)
theorem Nb:vr L Try.f39 AP.f343=some (AP.f343.body,AP.f343.res):=by kernel_rfl
theorem N8:Fits (39,343):=vj Try.func39 Nb (by kernel_rfl) (by kernel_rfl)
theorem Nc:vr L Try.f40 AP.f344=some (AP.f344.body,AP.f344.res):=by kernel_rfl
theorem N9:Fits (40,344):=vj Try.func40 Nc (by kernel_rfl) (by kernel_rfl)
theorem Nd:vr L Try.f41 AP.f345=some (AP.f345.body,AP.f345.res):=by kernel_rfl
theorem Oa:Fits (41,345):=vj Try.func41 Nd (by kernel_rfl) (by kernel_rfl)
theorem Nf:vr L Try.f42 AP.f346=some (AP.f346.body,AP.f346.res):=by kernel_rfl
theorem Ob:Fits (42,346):=vj Try.func42 Nf (by kernel_rfl) (by kernel_rfl)
theorem Ng:vr L Try.f43 AP.f347=some (AP.f347.body,AP.f347.res):=by kernel_rfl
theorem Oc:Fits (43,347):=vj Try.func43 Ng (by kernel_rfl) (by kernel_rfl)
theorem Nh:vr L Try.f44 AP.f348=some (AP.f348.body,AP.f348.res):=by kernel_rfl
theorem Od:Fits (44,348):=vj Try.func44 Nh (by kernel_rfl) (by kernel_rfl)
theorem PA:vr L Try.f45 AP.f62=some (AP.f62.body,AP.f62.res):=by kernel_rfl
theorem Qf:Fits (45,62):=vj Try.func45 PA (by kernel_rfl) (by kernel_rfl)
theorem PB:vr L Try.f46 AP.f63=some (AP.f63.body,AP.f63.res):=by kernel_rfl
theorem Qg:Fits (46,63):=vj Try.func46 PB (by kernel_rfl) (by kernel_rfl)
theorem Ni:vr L Try.f47 AP.f349=some (AP.f349.body,AP.f349.res):=by kernel_rfl
theorem Oe:Fits (47,349):=vj Try.func47 Ni (by kernel_rfl) (by kernel_rfl)
theorem Nj:vr L Try.f48 AP.f350=some (AP.f350.body,AP.f350.res):=by kernel_rfl
theorem Of:Fits (48,350):=vj Try.func48 Nj (by kernel_rfl) (by kernel_rfl)
theorem Nk:vr L Try.f49 AP.f351=some (AP.f351.body,AP.f351.res):=by kernel_rfl
theorem Og:Fits (49,351):=vj Try.func49 Nk (by kernel_rfl) (by kernel_rfl)
theorem PN:vr L Try.f50 AP.f79=some (AP.f79.body,AP.f79.res):=by kernel_rfl
theorem Qr:Fits (50,79):=vj Try.func50 PN (by kernel_rfl) (by kernel_rfl)
theorem Nl:vr L Try.f51 AP.f352=some (AP.f352.body,AP.f352.res):=by kernel_rfl
theorem Oh:Fits (51,352):=vj Try.func51 Nl (by kernel_rfl) (by kernel_rfl)
theorem Po:vr L Try.f52 AP.f38=some (AP.f38.body,AP.f38.res):=by kernel_rfl
theorem PZ:Fits (52,38):=vj Try.func52 Po (by kernel_rfl) (by kernel_rfl)
theorem Pp:vr L Try.f53 AP.f39=some (AP.f39.body,AP.f39.res):=by kernel_rfl
theorem P3:Fits (53,39):=vj Try.func53 Pp (by kernel_rfl) (by kernel_rfl)
theorem Pq:vr L Try.f54 AP.f40=some (AP.f40.body,AP.f40.res):=by kernel_rfl
theorem P4:Fits (54,40):=vj Try.func54 Pq (by kernel_rfl) (by kernel_rfl)
theorem Pr:vr L Try.f55 AP.f41=some (AP.f41.body,AP.f41.res):=by kernel_rfl
theorem P5:Fits (55,41):=vj Try.func55 Pr (by kernel_rfl) (by kernel_rfl)
theorem Pu:vr L Try.f56 AP.f44=some (AP.f44.body,AP.f44.res):=by kernel_rfl
theorem P9:Fits (56,44):=vj Try.func56 Pu (by kernel_rfl) (by kernel_rfl)
theorem Pv:vr L Try.f57 AP.f45=some (AP.f45.body,AP.f45.res):=by kernel_rfl
theorem Qa:Fits (57,45):=vj Try.func57 Pv (by kernel_rfl) (by kernel_rfl)
theorem Nm:vr L Try.f58 AP.f353=some (AP.f353.body,AP.f353.res):=by kernel_rfl
theorem Oi:Fits (58,353):=vj Try.func58 Nm (by kernel_rfl) (by kernel_rfl)
theorem Nn:vr L Try.f59 AP.f354=some (AP.f354.body,AP.f354.res):=by kernel_rfl
theorem Oj:Fits (59,354):=vj Try.func59 Nn (by kernel_rfl) (by kernel_rfl)
theorem PQ:vr L Try.f60 AP.f81=some (AP.f81.body,AP.f81.res):=by kernel_rfl
theorem Qt:Fits (60,81):=vj Try.func60 PQ (by kernel_rfl) (by kernel_rfl)
theorem PK:vr L Try.f61 AP.f76=some (AP.f76.body,AP.f76.res):=by kernel_rfl
theorem Qo:Fits (61,76):=vj Try.func61 PK (by kernel_rfl) (by kernel_rfl)
theorem PL:vr L Try.f62 AP.f77=some (AP.f77.body,AP.f77.res):=by kernel_rfl
theorem Qp:Fits (62,77):=vj Try.func62 PL (by kernel_rfl) (by kernel_rfl)
theorem PM:vr L Try.f63 AP.f78=some (AP.f78.body,AP.f78.res):=by kernel_rfl
theorem Qq:Fits (63,78):=vj Try.func63 PM (by kernel_rfl) (by kernel_rfl)
theorem Np:vr L Try.f64 AP.f355=some (AP.f355.body,AP.f355.res):=by kernel_rfl
theorem Ok:Fits (64,355):=vj Try.func64 Np (by kernel_rfl) (by kernel_rfl)
theorem Nq:vr L Try.f65 AP.f356=some (AP.f356.body,AP.f356.res):=by kernel_rfl
theorem Ol:Fits (65,356):=vj Try.func65 Nq (by kernel_rfl) (by kernel_rfl)
theorem Nr:vr L Try.f66 AP.f357=some (AP.f357.body,AP.f357.res):=by kernel_rfl
theorem Om:Fits (66,357):=vj Try.func66 Nr (by kernel_rfl) (by kernel_rfl)
theorem PS:vr L Try.f67 AP.f83=some (AP.f83.body,AP.f83.res):=by kernel_rfl
theorem Qv:Fits (67,83):=vj Try.func67 PS (by kernel_rfl) (by kernel_rfl)
theorem Ns:vr L Try.f68 AP.f358=some (AP.f358.body,AP.f358.res):=by kernel_rfl
theorem On:Fits (68,358):=vj Try.func68 Ns (by kernel_rfl) (by kernel_rfl)
theorem MM:vr L Try.f69 AP.f118=some (AP.f118.body,AP.f118.res):=by kernel_rfl
theorem NN:Fits (69,118):=vj Try.func69 MM (by kernel_rfl) (by kernel_rfl)
theorem MN:vr L Try.f70 AP.f189=some (AP.f189.body,AP.f189.res):=by kernel_rfl
theorem NO:Fits (70,189):=vj Try.func70 MN (by kernel_rfl) (by kernel_rfl)
theorem Nt:vr L Try.f71 AP.f359=some (AP.f359.body,AP.f359.res):=by kernel_rfl
theorem Oo:Fits (71,359):=vj Try.func71 Nt (by kernel_rfl) (by kernel_rfl)
theorem Nu:vr L Try.f72 AP.f360=some (AP.f360.body,AP.f360.res):=by kernel_rfl
theorem Oq:Fits (72,360):=vj Try.func72 Nu (by kernel_rfl) (by kernel_rfl)
theorem Pw:vr L Try.f73 AP.f58=some (AP.f58.body,AP.f58.res):=by kernel_rfl
theorem Qb:Fits (73,58):=vj Try.func73 Pw (by kernel_rfl) (by kernel_rfl)
theorem Px:vr L Try.f74 AP.f59=some (AP.f59.body,AP.f59.res):=by kernel_rfl
theorem Qc:Fits (74,59):=vj Try.func74 Px (by kernel_rfl) (by kernel_rfl)
theorem Py:vr L Try.f75 AP.f60=some (AP.f60.body,AP.f60.res):=by kernel_rfl
theorem Qd:Fits (75,60):=vj Try.func75 Py (by kernel_rfl) (by kernel_rfl)
theorem Pz:vr L Try.f76 AP.f61=some (AP.f61.body,AP.f61.res):=by kernel_rfl
theorem Qe:Fits (76,61):=vj Try.func76 Pz (by kernel_rfl) (by kernel_rfl)
theorem PC:vr L Try.f77 AP.f64=some (AP.f64.body,AP.f64.res):=by kernel_rfl
theorem Qh:Fits (77,64):=vj Try.func77 PC (by kernel_rfl) (by kernel_rfl)
theorem PD:vr L Try.f78 AP.f65=some (AP.f65.body,AP.f65.res):=by kernel_rfl
theorem Qi:Fits (78,65):=vj Try.func78 PD (by kernel_rfl) (by kernel_rfl)
theorem PF:vr L Try.f79 AP.f66=some (AP.f66.body,AP.f66.res):=by kernel_rfl
theorem Qj:Fits (79,66):=vj Try.func79 PF (by kernel_rfl) (by kernel_rfl)
theorem PR:vr L Try.f80 AP.f82=some (AP.f82.body,AP.f82.res):=by kernel_rfl
theorem Qu:Fits (80,82):=vj Try.func80 PR (by kernel_rfl) (by kernel_rfl)
theorem Nv:vr L Try.f81 AP.f361=some (AP.f361.body,AP.f361.res):=by kernel_rfl
theorem Ot:Fits (81,361):=vj Try.func81 Nv (by kernel_rfl) (by kernel_rfl)
theorem PI:vr L Try.f82 AP.f74=some (AP.f74.body,AP.f74.res):=by kernel_rfl
theorem Qm:Fits (82,74):=vj Try.func82 PI (by kernel_rfl) (by kernel_rfl)
theorem PJ:vr L Try.f83 AP.f75=some (AP.f75.body,AP.f75.res):=by kernel_rfl
theorem Qn:Fits (83,75):=vj Try.func83 PJ (by kernel_rfl) (by kernel_rfl)
theorem PT:vr L Try.f84 AP.f84=some (AP.f84.body,AP.f84.res):=by kernel_rfl
theorem Qw:Fits (84,84):=vj Try.func84 PT (by kernel_rfl) (by kernel_rfl)
theorem Nw:vr L Try.f85 AP.f362=some (AP.f362.body,AP.f362.res):=by kernel_rfl
theorem Ou:Fits (85,362):=vj Try.func85 Nw (by kernel_rfl) (by kernel_rfl)
theorem Nx:vr L Try.f86 AP.f363=some (AP.f363.body,AP.f363.res):=by kernel_rfl
theorem Ov:Fits (86,363):=vj Try.func86 Nx (by kernel_rfl) (by kernel_rfl)
theorem Ny:vr L Try.f87 AP.f364=some (AP.f364.body,AP.f364.res):=by kernel_rfl
theorem Ow:Fits (87,364):=vj Try.func87 Ny (by kernel_rfl) (by kernel_rfl)
theorem Nz:vr L Try.f88 AP.f365=some (AP.f365.body,AP.f365.res):=by kernel_rfl
theorem Ox:Fits (88,365):=vj Try.func88 Nz (by kernel_rfl) (by kernel_rfl)
theorem PG:vr L Try.f89 AP.f72=some (AP.f72.body,AP.f72.res):=by kernel_rfl
theorem Qk:Fits (89,72):=vj Try.func89 PG (by kernel_rfl) (by kernel_rfl)
theorem PH:vr L Try.f90 AP.f73=some (AP.f73.body,AP.f73.res):=by kernel_rfl
theorem Ql:Fits (90,73):=vj Try.func90 PH (by kernel_rfl) (by kernel_rfl)
theorem PO:vr L Try.f91 AP.f80=some (AP.f80.body,AP.f80.res):=by kernel_rfl
theorem Qs:Fits (91,80):=vj Try.func91 PO (by kernel_rfl) (by kernel_rfl)
theorem NA:vr L Try.f92 AP.f366=some (AP.f366.body,AP.f366.res):=by kernel_rfl
theorem Oy:Fits (92,366):=vj Try.func92 NA (by kernel_rfl) (by kernel_rfl)
theorem NB:vr L Try.f93 AP.f367=some (AP.f367.body,AP.f367.res):=by kernel_rfl
theorem Oz:Fits (93,367):=vj Try.func93 NB (by kernel_rfl) (by kernel_rfl)
theorem NC:vr L Try.f112 AP.f368=some (AP.f368.body,AP.f368.res):=by kernel_rfl
theorem OA:Fits (112,368):=vj Try.func112 NC (by kernel_rfl) (by kernel_rfl)
theorem ND:vr L Try.f113 AP.f369=some (AP.f369.body,AP.f369.res):=by kernel_rfl
theorem OB:Fits (113,369):=vj Try.func113 ND (by kernel_rfl) (by kernel_rfl)
theorem NF:vr L Try.f114 AP.f370=some (AP.f370.body,AP.f370.res):=by kernel_rfl
theorem OC:Fits (114,370):=vj Try.func114 NF (by kernel_rfl) (by kernel_rfl)
theorem NG:vr L Try.f115 AP.f371=some (AP.f371.body,AP.f371.res):=by kernel_rfl
theorem OD:Fits (115,371):=vj Try.func115 NG (by kernel_rfl) (by kernel_rfl)
theorem QO:∀p∈Q8,Fits p:=vg NP (vg NQ (vg NR (vg NS (vg QW (vg QV (vg NT (vg NU (vg NV (vg NW (vg NM (vg NX (vg NY (vg NZ (vg N0 (vg N1 (vg N2 (vg N3 (vg P6 (vg P7 (vg N4 (vg N5 (vg N6 (vg N7 (vg PV (vg PW (vg PX (vg PY (vg N8 (vg N9 (vg Oa (vg Ob (vg Oc (vg Od (vg Qf (vg Qg (vg Oe (vg Of (vg Og (vg Qr (vg Oh (vg PZ (vg P3 (vg P4 (vg P5 (vg P9 (vg Qa (vg Oi (vg Oj (vg Qt (vg Qo (vg Qp (vg Qq (vg Ok (vg Ol (vg Om (vg Qv (vg On (vg NN (vg NO (vg Oo (vg Oq (vg Qb (vg Qc (vg Qd (vg Qe (vg Qh (vg Qi (vg Qj (vg Qu (vg Ot (vg Qm (vg Qn (vg Qw (vg Ou (vg Ov (vg Ow (vg Ox (vg Qk (vg Ql (vg Qs (vg Oy (vg Oz (vg OA (vg OB (vg OC (vg OD (JP)))))))))))))))))))))))))))))))))))))))))))))))))))))))))))))))))))))))))))))))))))))))
theorem LZ {T t k:Nat} (hk:k<100000) (hm:∀p∈QC,p.2=k→p.1=t) (h:mt T=k):T=t:=by
 unfold mt at h
 cases e:A9 QC T with
 |none=>rw[e]at h;exact absurd (show T+100000=k from h) (by omega)
 |some b=>rw[e]at h;exact hm _ (yS e) h
theorem QI:∀t k,L.ta t=some k→rG L.P t∧∀T,L.mt T=k→T=t:=by
 intro t k h
 have hm:=yS (show A9 Q2 t=some k from h)
 simp only[Q2,u6,List.not_mem_nil,or_false,uH]at hm
 rcases hm with ⟨rfl,rfl⟩
 · exact⟨⟨.pointer 134,by kernel_rfl,nofun⟩,fun T h=>LZ (by decide) (by decide+kernel) h⟩
theorem OS {T:Nat} (h:mt T=1):T=136:=by
 unfold mt at h
 cases e:A9 QC T with
 |none=>rw[e]at h;exact absurd h (by show¬T+100000=1;omega)
 | some b =>
   rw[e]at h
   have h:b=1:=h
   subst h
   have hm:=yS e
   have:∀p∈QC,p.2=1→p.1=136:=by decide+kernel
   exact this _ hm rfl
theorem C5 {P:Program} {T:TypeId} {name:String} {fid:FuncId} {d:Bool} {i:TypeInfo} {el:TypeId} (h1:P.info? T=some i) (h2:(i.methods.find? (·.name==name)).map (fun m=>(m.path,m.func))=some (#[],some (fid, !d))) (h5:P.underlying T=some (.pointer el))
 (h6:d=true→gV P el=some false∧bZ P el=some 1):lq P T name fid d:=by
 obtain⟨m,hm,e⟩:=uD.1 h2
 obtain⟨e1,e2⟩:=uE e
 exact⟨i,m,el,h1,hm,e1,e2,h5,h6⟩
theorem Qx:∀name t f d,L.iv name=some (t,f,d)→∀T,L.mt T=t→∃fid,L.mf fid=some f∧lq L.P T name fid d:=by
 intro name t f d h T hT
 have h:(QX.find? fun p=>p.1==name).map (fun p=>((1:Nat),p.2))=some (t,f,d):=h
 rw[uD]at h
 obtain⟨p,hp,e⟩:=h
 obtain⟨rfl,e2⟩:=uE e
 have hn:=List.find?_some hp
 have hm:=List.mem_of_find?_eq_some hp
 obtain rfl:=OS hT
 obtain rfl:p.1=name:=eq_of_beq hn
 simp only[QX,u6,List.not_mem_nil,or_false]at hm
 rcases hm with rfl|rfl|rfl|rfl|rfl
 · obtain⟨rfl,rfl⟩:=uE e2;exact⟨86,by kernel_rfl,C5 (el:=131) Try.type136 (by kernel_rfl) (by kernel_rfl) (fun _=>⟨by kernel_rfl,by kernel_rfl⟩)⟩
 · obtain⟨rfl,rfl⟩:=uE e2;exact⟨112,by kernel_rfl,C5 (el:=131) Try.type136 (by kernel_rfl) (by kernel_rfl) (fun _=>⟨by kernel_rfl,by kernel_rfl⟩)⟩
 · obtain⟨rfl,rfl⟩:=uE e2;exact⟨113,by kernel_rfl,C5 (el:=131) Try.type136 (by kernel_rfl) (by kernel_rfl) (fun _=>⟨by kernel_rfl,by kernel_rfl⟩)⟩
 · obtain⟨rfl,rfl⟩:=uE e2;exact⟨115,by kernel_rfl,C5 (el:=131) Try.type136 (by kernel_rfl) (by kernel_rfl) (fun h=>by cases h)⟩
 · obtain⟨rfl,rfl⟩:=uE e2;exact⟨114,by kernel_rfl,C5 (el:=131) Try.type136 (by kernel_rfl) (by kernel_rfl) (fun h=>by cases h)⟩
theorem lk:dX L AP.A:=⟨by kernel_rfl,fun fid f h=>QO (fid,f) (yS h),Qx,QI⟩
end Ab.Ln
