/- Part K1. -/
import Derived.Test.YtcpjlemfholepaaProg
import Derived.KernelRfl
import Derived.Test.YtcpjlemfholepaaAP
set_option maxRecDepth 100000
namespace Ab.Ln
open Go Go.Proofs Ab
def u9 (L:Lk) (fn:Func) (af:eO):Option (aF×List RV):=fn.body.bind fun c=>(comp L fn.ntmps c af.body).bind fun x=>(cx L fn.results.toList).bind fun r=>some (x,r)
def Fits (p : Nat × Nat) : Prop := ∃ fn c, L.P.funcs[p.1]? = some fn ∧ fn.body = some c ∧ (fn.name == "runtime.NumGoroutine") = false ∧
    ∀af,AP.A p.2=some af→(∃x0,comp L fn.ntmps c x0=some af.body)∧cx L fn.results.toList=some af.res
theorem uY {k a : Nat} {fn : Func} {af : eO} (h1 : L.P.funcs[k]? = some fn) (h2 : u9 L fn af = some (af.body, af.res)) (h3 : (fn.name == "runtime.NumGoroutine") = false) (h4 : AP.A a = some af) : Fits (k, a) := by
 unfold u9 at h2
 simp only[ue]at h2
 obtain⟨c,g1,x,g2,r,g3,g4⟩:=h2
 obtain⟨rfl,rfl⟩:=ui (uf g4)
 refine⟨fn,c,h1,g1,h3,fun af2 g5=> ?_⟩
 rw[h4]at g5
 obtain rfl:=uf g5
 exact⟨⟨_,g2⟩,g3⟩
theorem yB:∀{l:List (Nat×Nat)} {k f:Nat},AO l k=some f→(k,f)∈l
 |[],_,_,h=>by cases h
 | (i, g) :: r, k, f, h => by
   unfold AO at h
   split at h
   · rename_i e;subst e;obtain rfl:=uf h;exact List.mem_cons_self
   · exact List.mem_cons_of_mem _ (yB h)
theorem Ja:∀p∈([]:List (Nat×Nat)),Fits p:=fun p h=>by cases h
theorem uV {p:Nat×Nat} {l:List (Nat×Nat)} (h1:Fits p) (h2:∀q∈l,Fits q):∀q∈p::l,Fits q:=fun q h=>by
 rcases uQ.1 h with rfl|h
 · exact h1
 · exact h2 q h
theorem LY:u9 L Try.f9 AP.f322=some (AP.f322.body,AP.f322.res):=by kernel_rfl
theorem MZ:Fits (9,322):=uY Try.func9 LY (by kernel_rfl) (by kernel_rfl)
theorem LZ:u9 L Try.f12 AP.f325=some (AP.f325.body,AP.f325.res):=by kernel_rfl
theorem M4:Fits (12,325):=uY Try.func12 LZ (by kernel_rfl) (by kernel_rfl)
theorem L4:u9 L Try.f13 AP.f326=some (AP.f326.body,AP.f326.res):=by kernel_rfl
theorem M5:Fits (13,326):=uY Try.func13 L4 (by kernel_rfl) (by kernel_rfl)
theorem L6:u9 L Try.f14 AP.f327=some (AP.f327.body,AP.f327.res):=by kernel_rfl
theorem M6:Fits (14,327):=uY Try.func14 L6 (by kernel_rfl) (by kernel_rfl)
theorem Qc:u9 L Try.f15 AP.f9=some (AP.f9.body,AP.f9.res):=by kernel_rfl
theorem Qg:Fits (15,9):=uY Try.func15 Qc (by kernel_rfl) (by kernel_rfl)
theorem Qb:u9 L Try.f16 AP.f7=some (AP.f7.body,AP.f7.res):=by kernel_rfl
theorem Qf:Fits (16,7):=uY Try.func16 Qb (by kernel_rfl) (by kernel_rfl)
theorem L7:u9 L Try.f17 AP.f328=some (AP.f328.body,AP.f328.res):=by kernel_rfl
theorem M7:Fits (17,328):=uY Try.func17 L7 (by kernel_rfl) (by kernel_rfl)
theorem L8:u9 L Try.f18 AP.f329=some (AP.f329.body,AP.f329.res):=by kernel_rfl
theorem M8:Fits (18,329):=uY Try.func18 L8 (by kernel_rfl) (by kernel_rfl)
theorem L9:u9 L Try.f19 AP.f330=some (AP.f330.body,AP.f330.res):=by kernel_rfl
theorem M9:Fits (19,330):=uY Try.func19 L9 (by kernel_rfl) (by kernel_rfl)
theorem Ma:u9 L Try.f20 AP.f331=some (AP.f331.body,AP.f331.res):=by kernel_rfl
theorem Na:Fits (20,331):=uY Try.func20 Ma (by kernel_rfl) (by kernel_rfl)
theorem LV:u9 L Try.f21 AP.f114=some (AP.f114.body,AP.f114.res):=by kernel_rfl
theorem MW:Fits (21,114):=uY Try.func21 LV (by kernel_rfl) (by kernel_rfl)
theorem Mb:u9 L Try.f22 AP.f332=some (AP.f332.body,AP.f332.res):=by kernel_rfl
theorem Nb:Fits (22,332):=uY Try.func22 Mb (by kernel_rfl) (by kernel_rfl)
theorem Mc:u9 L Try.f23 AP.f333=some (AP.f333.body,AP.f333.res):=by kernel_rfl
theorem Nc:Fits (23,333):=uY Try.func23 Mc (by kernel_rfl) (by kernel_rfl)
theorem Md:u9 L Try.f24 AP.f334=some (AP.f334.body,AP.f334.res):=by kernel_rfl
theorem Nd:Fits (24,334):=uY Try.func24 Md (by kernel_rfl) (by kernel_rfl)
theorem Me:u9 L Try.f25 AP.f335=some (AP.f335.body,AP.f335.res):=by kernel_rfl
theorem Nf:Fits (25,335):=uY Try.func25 Me (by kernel_rfl) (by kernel_rfl)
theorem Mf:u9 L Try.f26 AP.f336=some (AP.f336.body,AP.f336.res):=by kernel_rfl
theorem Ng:Fits (26,336):=uY Try.func26 Mf (by kernel_rfl) (by kernel_rfl)
theorem Mg:u9 L Try.f27 AP.f337=some (AP.f337.body,AP.f337.res):=by kernel_rfl
theorem Nh:Fits (27,337):=uY Try.func27 Mg (by kernel_rfl) (by kernel_rfl)
theorem Mh:u9 L Try.f28 AP.f338=some (AP.f338.body,AP.f338.res):=by kernel_rfl
theorem Ni:Fits (28,338):=uY Try.func28 Mh (by kernel_rfl) (by kernel_rfl)
theorem OI:u9 L Try.f29 AP.f42=some (AP.f42.body,AP.f42.res):=by kernel_rfl
theorem Pl:Fits (29,42):=uY Try.func29 OI (by kernel_rfl) (by kernel_rfl)
theorem OJ:u9 L Try.f30 AP.f43=some (AP.f43.body,AP.f43.res):=by kernel_rfl
theorem Pm:Fits (30,43):=uY Try.func30 OJ (by kernel_rfl) (by kernel_rfl)
theorem Mi:u9 L Try.f31 AP.f339=some (AP.f339.body,AP.f339.res):=by kernel_rfl
theorem Nj:Fits (31,339):=uY Try.func31 Mi (by kernel_rfl) (by kernel_rfl)
theorem Mj:u9 L Try.f32 AP.f340=some (AP.f340.body,AP.f340.res):=by kernel_rfl
theorem Nk:Fits (32,340):=uY Try.func32 Mj (by kernel_rfl) (by kernel_rfl)
theorem Mk:u9 L Try.f33 AP.f341=some (AP.f341.body,AP.f341.res):=by kernel_rfl
theorem Nl:Fits (33,341):=uY Try.func33 Mk (by kernel_rfl) (by kernel_rfl)
theorem Ml:u9 L Try.f34 AP.f342=some (AP.f342.body,AP.f342.res):=by kernel_rfl
theorem Nm:Fits (34,342):=uY Try.func34 Ml (by kernel_rfl) (by kernel_rfl)
theorem Oz:u9 L Try.f35 AP.f14=some (AP.f14.body,AP.f14.res):=by kernel_rfl
theorem Pc:Fits (35,14):=uY Try.func35 Oz (by kernel_rfl) (by kernel_rfl)
theorem OA:u9 L Try.f36 AP.f15=some (AP.f15.body,AP.f15.res):=by kernel_rfl
theorem Pd:Fits (36,15):=uY Try.func36 OA (by kernel_rfl) (by kernel_rfl)
theorem OB:u9 L Try.f37 AP.f16=some (AP.f16.body,AP.f16.res):=by kernel_rfl
theorem Pe:Fits (37,16):=uY Try.func37 OB (by kernel_rfl) (by kernel_rfl)
theorem OC:u9 L Try.f38 AP.f17=some (AP.f17.body,AP.f17.res):=by kernel_rfl
theorem Pf:Fits (38,17):=uY Try.func38 OC (by kernel_rfl) (by kernel_rfl)
theorem Mn:u9 L Try.f39 AP.f343=some (AP.f343.body,AP.f343.res):=by kernel_rfl
theorem Nn:Fits (39,343):=uY Try.func39 Mn (by kernel_rfl) (by kernel_rfl)
theorem Mo:u9 L Try.f40 AP.f344=some (AP.f344.body,AP.f344.res):=by kernel_rfl
theorem Np:Fits (40,344):=uY Try.func40 Mo (by kernel_rfl) (by kernel_rfl)
theorem Mp:u9 L Try.f41 AP.f345=some (AP.f345.body,AP.f345.res):=by kernel_rfl
theorem Nq:Fits (41,345):=uY Try.func41 Mp (by kernel_rfl) (by kernel_rfl)
theorem Mq:u9 L Try.f42 AP.f346=some (AP.f346.body,AP.f346.res):=by kernel_rfl
theorem Nr:Fits (42,346):=uY Try.func42 Mq (by kernel_rfl) (by kernel_rfl)
theorem Mr:u9 L Try.f43 AP.f347=some (AP.f347.body,AP.f347.res):=by kernel_rfl
theorem Ns:Fits (43,347):=uY Try.func43 Mr (by kernel_rfl) (by kernel_rfl)
theorem Ms:u9 L Try.f44 AP.f348=some (AP.f348.body,AP.f348.res):=by kernel_rfl
theorem Nt:Fits (44,348):=uY Try.func44 Ms (by kernel_rfl) (by kernel_rfl)
theorem OR:u9 L Try.f45 AP.f62=some (AP.f62.body,AP.f62.res):=by kernel_rfl
theorem Pt:Fits (45,62):=uY Try.func45 OR (by kernel_rfl) (by kernel_rfl)
theorem OS:u9 L Try.f46 AP.f63=some (AP.f63.body,AP.f63.res):=by kernel_rfl
theorem Pu:Fits (46,63):=uY Try.func46 OS (by kernel_rfl) (by kernel_rfl)
theorem Mt:u9 L Try.f47 AP.f349=some (AP.f349.body,AP.f349.res):=by kernel_rfl
theorem Nu:Fits (47,349):=uY Try.func47 Mt (by kernel_rfl) (by kernel_rfl)
theorem Mu:u9 L Try.f48 AP.f350=some (AP.f350.body,AP.f350.res):=by kernel_rfl
theorem Nv:Fits (48,350):=uY Try.func48 Mu (by kernel_rfl) (by kernel_rfl)
theorem Mv:u9 L Try.f49 AP.f351=some (AP.f351.body,AP.f351.res):=by kernel_rfl
theorem Nw:Fits (49,351):=uY Try.func49 Mv (by kernel_rfl) (by kernel_rfl)
theorem O5:u9 L Try.f50 AP.f79=some (AP.f79.body,AP.f79.res):=by kernel_rfl
theorem PG:Fits (50,79):=uY Try.func50 O5 (by kernel_rfl) (by kernel_rfl)
theorem Mw:u9 L Try.f51 AP.f352=some (AP.f352.body,AP.f352.res):=by kernel_rfl
theorem Nx:Fits (51,352):=uY Try.func51 Mw (by kernel_rfl) (by kernel_rfl)
theorem OD:u9 L Try.f52 AP.f38=some (AP.f38.body,AP.f38.res):=by kernel_rfl
theorem Pg:Fits (52,38):=uY Try.func52 OD (by kernel_rfl) (by kernel_rfl)
theorem OE:u9 L Try.f53 AP.f39=some (AP.f39.body,AP.f39.res):=by kernel_rfl
theorem Ph:Fits (53,39):=uY Try.func53 OE (by kernel_rfl) (by kernel_rfl)
theorem OG:u9 L Try.f54 AP.f40=some (AP.f40.body,AP.f40.res):=by kernel_rfl
theorem Pj:Fits (54,40):=uY Try.func54 OG (by kernel_rfl) (by kernel_rfl)
theorem OH:u9 L Try.f55 AP.f41=some (AP.f41.body,AP.f41.res):=by kernel_rfl
theorem Pk:Fits (55,41):=uY Try.func55 OH (by kernel_rfl) (by kernel_rfl)
theorem OK:u9 L Try.f56 AP.f44=some (AP.f44.body,AP.f44.res):=by kernel_rfl
theorem Pn:Fits (56,44):=uY Try.func56 OK (by kernel_rfl) (by kernel_rfl)
theorem OL:u9 L Try.f57 AP.f45=some (AP.f45.body,AP.f45.res):=by kernel_rfl
theorem Po:Fits (57,45):=uY Try.func57 OL (by kernel_rfl) (by kernel_rfl)
theorem Mx:u9 L Try.f58 AP.f353=some (AP.f353.body,AP.f353.res):=by kernel_rfl
theorem Ny:Fits (58,353):=uY Try.func58 Mx (by kernel_rfl) (by kernel_rfl)
theorem My:u9 L Try.f59 AP.f354=some (AP.f354.body,AP.f354.res):=by kernel_rfl
theorem Nz:Fits (59,354):=uY Try.func59 My (by kernel_rfl) (by kernel_rfl)
theorem O7:u9 L Try.f60 AP.f81=some (AP.f81.body,AP.f81.res):=by kernel_rfl
theorem PI:Fits (60,81):=uY Try.func60 O7 (by kernel_rfl) (by kernel_rfl)
theorem O2:u9 L Try.f61 AP.f76=some (AP.f76.body,AP.f76.res):=by kernel_rfl
theorem PC:Fits (61,76):=uY Try.func61 O2 (by kernel_rfl) (by kernel_rfl)
theorem O3:u9 L Try.f62 AP.f77=some (AP.f77.body,AP.f77.res):=by kernel_rfl
theorem PD:Fits (62,77):=uY Try.func62 O3 (by kernel_rfl) (by kernel_rfl)
theorem O4:u9 L Try.f63 AP.f78=some (AP.f78.body,AP.f78.res):=by kernel_rfl
theorem PF:Fits (63,78):=uY Try.func63 O4 (by kernel_rfl) (by kernel_rfl)
theorem MA:u9 L Try.f64 AP.f355=some (AP.f355.body,AP.f355.res):=by kernel_rfl
theorem NA:Fits (64,355):=uY Try.func64 MA (by kernel_rfl) (by kernel_rfl)
theorem MB:u9 L Try.f65 AP.f356=some (AP.f356.body,AP.f356.res):=by kernel_rfl
theorem NB:Fits (65,356):=uY Try.func65 MB (by kernel_rfl) (by kernel_rfl)
theorem MC:u9 L Try.f66 AP.f357=some (AP.f357.body,AP.f357.res):=by kernel_rfl
theorem NC:Fits (66,357):=uY Try.func66 MC (by kernel_rfl) (by kernel_rfl)
theorem O9:u9 L Try.f67 AP.f83=some (AP.f83.body,AP.f83.res):=by kernel_rfl
theorem PK:Fits (67,83):=uY Try.func67 O9 (by kernel_rfl) (by kernel_rfl)
theorem MD:u9 L Try.f68 AP.f358=some (AP.f358.body,AP.f358.res):=by kernel_rfl
theorem ND:Fits (68,358):=uY Try.func68 MD (by kernel_rfl) (by kernel_rfl)
theorem LW:u9 L Try.f69 AP.f118=some (AP.f118.body,AP.f118.res):=by kernel_rfl
theorem MX:Fits (69,118):=uY Try.func69 LW (by kernel_rfl) (by kernel_rfl)
theorem LX:u9 L Try.f70 AP.f189=some (AP.f189.body,AP.f189.res):=by kernel_rfl
theorem MY:Fits (70,189):=uY Try.func70 LX (by kernel_rfl) (by kernel_rfl)
theorem ME:u9 L Try.f71 AP.f359=some (AP.f359.body,AP.f359.res):=by kernel_rfl
theorem NF:Fits (71,359):=uY Try.func71 ME (by kernel_rfl) (by kernel_rfl)
theorem MF:u9 L Try.f72 AP.f360=some (AP.f360.body,AP.f360.res):=by kernel_rfl
theorem NG:Fits (72,360):=uY Try.func72 MF (by kernel_rfl) (by kernel_rfl)
theorem OM:u9 L Try.f73 AP.f58=some (AP.f58.body,AP.f58.res):=by kernel_rfl
theorem Pp:Fits (73,58):=uY Try.func73 OM (by kernel_rfl) (by kernel_rfl)
theorem ON:u9 L Try.f74 AP.f59=some (AP.f59.body,AP.f59.res):=by kernel_rfl
theorem Pq:Fits (74,59):=uY Try.func74 ON (by kernel_rfl) (by kernel_rfl)
theorem OP:u9 L Try.f75 AP.f60=some (AP.f60.body,AP.f60.res):=by kernel_rfl
theorem Pr:Fits (75,60):=uY Try.func75 OP (by kernel_rfl) (by kernel_rfl)
theorem OQ:u9 L Try.f76 AP.f61=some (AP.f61.body,AP.f61.res):=by kernel_rfl
theorem Ps:Fits (76,61):=uY Try.func76 OQ (by kernel_rfl) (by kernel_rfl)
theorem OT:u9 L Try.f77 AP.f64=some (AP.f64.body,AP.f64.res):=by kernel_rfl
theorem Pv:Fits (77,64):=uY Try.func77 OT (by kernel_rfl) (by kernel_rfl)
theorem OU:u9 L Try.f78 AP.f65=some (AP.f65.body,AP.f65.res):=by kernel_rfl
theorem Pw:Fits (78,65):=uY Try.func78 OU (by kernel_rfl) (by kernel_rfl)
theorem OW:u9 L Try.f79 AP.f66=some (AP.f66.body,AP.f66.res):=by kernel_rfl
theorem Px:Fits (79,66):=uY Try.func79 OW (by kernel_rfl) (by kernel_rfl)
theorem O8:u9 L Try.f80 AP.f82=some (AP.f82.body,AP.f82.res):=by kernel_rfl
theorem PJ:Fits (80,82):=uY Try.func80 O8 (by kernel_rfl) (by kernel_rfl)
theorem MG:u9 L Try.f81 AP.f361=some (AP.f361.body,AP.f361.res):=by kernel_rfl
theorem NH:Fits (81,361):=uY Try.func81 MG (by kernel_rfl) (by kernel_rfl)
theorem OZ:u9 L Try.f82 AP.f74=some (AP.f74.body,AP.f74.res):=by kernel_rfl
theorem PA:Fits (82,74):=uY Try.func82 OZ (by kernel_rfl) (by kernel_rfl)
theorem O0:u9 L Try.f83 AP.f75=some (AP.f75.body,AP.f75.res):=by kernel_rfl
theorem PB:Fits (83,75):=uY Try.func83 O0 (by kernel_rfl) (by kernel_rfl)
theorem Pa:u9 L Try.f84 AP.f84=some (AP.f84.body,AP.f84.res):=by kernel_rfl
theorem PL:Fits (84,84):=uY Try.func84 Pa (by kernel_rfl) (by kernel_rfl)
theorem MH:u9 L Try.f85 AP.f362=some (AP.f362.body,AP.f362.res):=by kernel_rfl
theorem NI:Fits (85,362):=uY Try.func85 MH (by kernel_rfl) (by kernel_rfl)
theorem MI:u9 L Try.f86 AP.f363=some (AP.f363.body,AP.f363.res):=by kernel_rfl
theorem NJ:Fits (86,363):=uY Try.func86 MI (by kernel_rfl) (by kernel_rfl)
theorem MJ:u9 L Try.f87 AP.f364=some (AP.f364.body,AP.f364.res):=by kernel_rfl
theorem NK:Fits (87,364):=uY Try.func87 MJ (by kernel_rfl) (by kernel_rfl)
theorem MK:u9 L Try.f88 AP.f365=some (AP.f365.body,AP.f365.res):=by kernel_rfl
theorem NL:Fits (88,365):=uY Try.func88 MK (by kernel_rfl) (by kernel_rfl)
theorem OX:u9 L Try.f89 AP.f72=some (AP.f72.body,AP.f72.res):=by kernel_rfl
theorem Py:Fits (89,72):=uY Try.func89 OX (by kernel_rfl) (by kernel_rfl)
theorem OY:u9 L Try.f90 AP.f73=some (AP.f73.body,AP.f73.res):=by kernel_rfl
theorem Pz:Fits (90,73):=uY Try.func90 OY (by kernel_rfl) (by kernel_rfl)
theorem O6:u9 L Try.f91 AP.f80=some (AP.f80.body,AP.f80.res):=by kernel_rfl
theorem PH:Fits (91,80):=uY Try.func91 O6 (by kernel_rfl) (by kernel_rfl)
theorem ML:u9 L Try.f92 AP.f366=some (AP.f366.body,AP.f366.res):=by kernel_rfl
theorem NM:Fits (92,366):=uY Try.func92 ML (by kernel_rfl) (by kernel_rfl)
theorem MM:u9 L Try.f93 AP.f367=some (AP.f367.body,AP.f367.res):=by kernel_rfl
theorem NN:Fits (93,367):=uY Try.func93 MM (by kernel_rfl) (by kernel_rfl)
theorem MN:u9 L Try.f112 AP.f368=some (AP.f368.body,AP.f368.res):=by kernel_rfl
theorem NO:Fits (112,368):=uY Try.func112 MN (by kernel_rfl) (by kernel_rfl)
theorem MO:u9 L Try.f113 AP.f369=some (AP.f369.body,AP.f369.res):=by kernel_rfl
theorem NP:Fits (113,369):=uY Try.func113 MO (by kernel_rfl) (by kernel_rfl)
theorem MP:u9 L Try.f114 AP.f370=some (AP.f370.body,AP.f370.res):=by kernel_rfl
theorem NQ:Fits (114,370):=uY Try.func114 MP (by kernel_rfl) (by kernel_rfl)
theorem MQ:u9 L Try.f115 AP.f371=some (AP.f371.body,AP.f371.res):=by kernel_rfl
theorem NR:Fits (115,371):=uY Try.func115 MQ (by kernel_rfl) (by kernel_rfl)
theorem P6:∀p∈Qr,Fits p:=uV MZ (uV M4 (uV M5 (uV M6 (uV Qg (uV Qf (uV M7 (uV M8 (uV M9 (uV Na (uV MW (uV Nb (uV Nc (uV Nd (uV Nf (uV Ng (uV Nh (uV Ni (uV Pl (uV Pm (uV Nj (uV Nk (uV Nl (uV Nm (uV Pc (uV Pd (uV Pe (uV Pf (uV Nn (uV Np (uV Nq (uV Nr (uV Ns (uV Nt (uV Pt (uV Pu (uV Nu (uV Nv (uV Nw (uV PG (uV Nx (uV Pg (uV Ph (uV Pj (uV Pk (uV Pn (uV Po (uV Ny (uV Nz (uV PI (uV PC (uV PD (uV PF (uV NA (uV NB (uV NC (uV PK (uV ND (uV MX (uV MY (uV NF (uV NG (uV Pp (uV Pq (uV Pr (uV Ps (uV Pv (uV Pw (uV Px (uV PJ (uV NH (uV PA (uV PB (uV PL (uV NI (uV NJ (uV NK (uV NL (uV Py (uV Pz (uV PH (uV NM (uV NN (uV NO (uV NP (uV NQ (uV NR (Ja)))))))))))))))))))))))))))))))))))))))))))))))))))))))))))))))))))))))))))))))))))))))
theorem KZ {T t k:Nat} (hk:k<100000) (hm:∀p∈PR,p.2=k→p.1=t) (h:mt T=k):T=t:=by
 unfold mt at h
 cases e:AO PR T with
 |none=>rw[e]at h;exact absurd (show T+100000=k from h) (by omega)
 |some b=>rw[e]at h;exact hm _ (yB e) h
theorem PX:∀t k,L.ta t=some k→ri L.P t∧∀T,L.mt T=k→T=t:=by
 intro t k h
 have hm:=yB (show AO Qm t=some k from h)
 simp only[Qm,uQ,List.not_mem_nil,or_false,uo]at hm
 rcases hm with ⟨rfl,rfl⟩
 · exact⟨⟨.pointer 134,by kernel_rfl,nofun⟩,fun T h=>KZ (by decide) (by decide+kernel) h⟩
theorem N4 {T:Nat} (h:mt T=1):T=136:=by
 unfold mt at h
 cases e:AO PR T with
 |none=>rw[e]at h;exact absurd h (by show¬T+100000=1;omega)
 | some b =>
   rw[e]at h
   have h:b=1:=h
   subst h
   have hm:=yB e
   have:∀p∈PR,p.2=1→p.1=136:=by decide+kernel
   exact this _ hm rfl
theorem inv_of {P : Program} {T : TypeId} {name : String} {fid : FuncId} {d : Bool} {i : TypeInfo} {el : TypeId} (h1 : P.info? T = some i) (h2 : (i.methods.find? (·.name == name)).map (fun m => (m.path, m.func)) = some (#[], some (fid, !d))) (h5 : P.underlying T = some (.pointer el))
    (h6 : d = true → gK P el = some false ∧ bX P el = some 1) : kU P T name fid d := by
  obtain ⟨m, hm, e⟩ := Option.map_eq_some_iff.1 h2
  obtain ⟨e1, e2⟩ := Prod.mk.inj e
  exact ⟨i, m, el, h1, hm, e1, e2, h5, h6⟩
theorem PM:∀name t f d,L.iv name=some (t,f,d)→∀T,L.mt T=t→∃fid,L.mf fid=some f∧kU L.P T name fid d:=by
 intro name t f d h T hT
 have h:(Qh.find? fun p=>p.1==name).map (fun p=>((1:Nat),p.2))=some (t,f,d):=h
 rw[uh]at h
 obtain⟨p,hp,e⟩:=h
 obtain⟨rfl,e2⟩:=ui e
 have hn:=List.find?_some hp
 have hm:=List.mem_of_find?_eq_some hp
 obtain rfl:=N4 hT
 obtain rfl:p.1=name:=eq_of_beq hn
 simp only[Qh,uQ,List.not_mem_nil,or_false]at hm
 rcases hm with rfl|rfl|rfl|rfl|rfl
 · obtain⟨rfl,rfl⟩:=ui e2;exact⟨86,by kernel_rfl,inv_of (el:=131) Try.type136 (by kernel_rfl) (by kernel_rfl) (fun _=>⟨by kernel_rfl,by kernel_rfl⟩)⟩
 · obtain⟨rfl,rfl⟩:=ui e2;exact⟨112,by kernel_rfl,inv_of (el:=131) Try.type136 (by kernel_rfl) (by kernel_rfl) (fun _=>⟨by kernel_rfl,by kernel_rfl⟩)⟩
 · obtain⟨rfl,rfl⟩:=ui e2;exact⟨113,by kernel_rfl,inv_of (el:=131) Try.type136 (by kernel_rfl) (by kernel_rfl) (fun _=>⟨by kernel_rfl,by kernel_rfl⟩)⟩
 · obtain⟨rfl,rfl⟩:=ui e2;exact⟨115,by kernel_rfl,inv_of (el:=131) Try.type136 (by kernel_rfl) (by kernel_rfl) (fun h=>by cases h)⟩
 · obtain⟨rfl,rfl⟩:=ui e2;exact⟨114,by kernel_rfl,inv_of (el:=131) Try.type136 (by kernel_rfl) (by kernel_rfl) (fun h=>by cases h)⟩
theorem lk:dV L AP.A:=⟨by kernel_rfl,fun fid f h=>P6 (fid,f) (yB h),PM,PX⟩
end Ab.Ln
