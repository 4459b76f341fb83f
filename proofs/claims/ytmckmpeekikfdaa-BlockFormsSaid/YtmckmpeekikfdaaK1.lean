/- Part K1. -/
import Derived.Test.YtmckmpeekikfdaaProg
import Derived.KernelRfl
import Derived.Test.YtmckmpeekikfdaaAP
set_option maxRecDepth 100000
namespace Ab.Ln
open Go Go.Proofs Ab
def vj (L:Lk) (fn:Func) (af:eZ):Option (aF×List RV):=fn.body.bind fun c=>(comp L fn.ntmps c af.body).bind fun x=>(cB L fn.results.toList).bind fun r=>some (x,r)
def Fits (p : Nat × Nat) : Prop := ∃ fn c, L.P.funcs[p.1]? = some fn ∧ fn.body = some c ∧ (fn.name == "runtime.NumGoroutine") = false ∧
    ∀af,AP.A p.2=some af→(∃x0,comp L fn.ntmps c x0=some af.body)∧cB L fn.results.toList=some af.res
theorem u6 {k a : Nat} {fn : Func} {af : eZ} (h1 : L.P.funcs[k]? = some fn) (h2 : vj L fn af = some (af.body, af.res)) (h3 : (fn.name == "runtime.NumGoroutine") = false) (h4 : AP.A a = some af) : Fits (k, a) := by
 unfold vj at h2
 simp only[uu]at h2
 obtain⟨c,g1,x,g2,r,g3,g4⟩:=h2
 obtain⟨rfl,rfl⟩:=ux (uv g4)
 refine⟨fn,c,h1,g1,h3,fun af2 g5=> ?_⟩
 rw[h4]at g5
 obtain rfl:=uv g5
 exact⟨⟨_,g2⟩,g3⟩
theorem yj:∀{l:List (Nat×Nat)} {k f:Nat},Au l k=some f→(k,f)∈l
 |[],_,_,h=>by cases h
 | (i, g) :: r, k, f, h => by
   unfold Au at h
   split at h
   · rename_i e;subst e;obtain rfl:=uv h;exact List.mem_cons_self
   · exact List.mem_cons_of_mem _ (yj h)
theorem Is:∀p∈([]:List (Nat×Nat)),Fits p:=fun p h=>by cases h
theorem u3 {p:Nat×Nat} {l:List (Nat×Nat)} (h1:Fits p) (h2:∀q∈l,Fits q):∀q∈p::l,Fits q:=fun q h=>by
 rcases uY.1 h with rfl|h
 · exact h1
 · exact h2 q h
theorem Lf:vj L Try.f4 AP.f317=some (AP.f317.body,AP.f317.res):=by kernel_rfl
theorem Mp:Fits (4,317):=u6 Try.func4 Lf (by kernel_rfl) (by kernel_rfl)
theorem Lg:vj L Try.f9 AP.f324=some (AP.f324.body,AP.f324.res):=by kernel_rfl
theorem Mq:Fits (9,324):=u6 Try.func9 Lg (by kernel_rfl) (by kernel_rfl)
theorem Lh:vj L Try.f10 AP.f325=some (AP.f325.body,AP.f325.res):=by kernel_rfl
theorem Mr:Fits (10,325):=u6 Try.func10 Lh (by kernel_rfl) (by kernel_rfl)
theorem Lj:vj L Try.f11 AP.f326=some (AP.f326.body,AP.f326.res):=by kernel_rfl
theorem Ms:Fits (11,326):=u6 Try.func11 Lj (by kernel_rfl) (by kernel_rfl)
theorem Ll:vj L Try.f12 AP.f327=some (AP.f327.body,AP.f327.res):=by kernel_rfl
theorem Mt:Fits (12,327):=u6 Try.func12 Ll (by kernel_rfl) (by kernel_rfl)
theorem Pv:vj L Try.f13 AP.f9=some (AP.f9.body,AP.f9.res):=by kernel_rfl
theorem Py:Fits (13,9):=u6 Try.func13 Pv (by kernel_rfl) (by kernel_rfl)
theorem Pu:vj L Try.f14 AP.f7=some (AP.f7.body,AP.f7.res):=by kernel_rfl
theorem Px:Fits (14,7):=u6 Try.func14 Pu (by kernel_rfl) (by kernel_rfl)
theorem Lm:vj L Try.f15 AP.f328=some (AP.f328.body,AP.f328.res):=by kernel_rfl
theorem Mu:Fits (15,328):=u6 Try.func15 Lm (by kernel_rfl) (by kernel_rfl)
theorem Lq:vj L Try.f20 AP.f332=some (AP.f332.body,AP.f332.res):=by kernel_rfl
theorem Mv:Fits (20,332):=u6 Try.func20 Lq (by kernel_rfl) (by kernel_rfl)
theorem Lr:vj L Try.f21 AP.f333=some (AP.f333.body,AP.f333.res):=by kernel_rfl
theorem Mw:Fits (21,333):=u6 Try.func21 Lr (by kernel_rfl) (by kernel_rfl)
theorem Ls:vj L Try.f22 AP.f334=some (AP.f334.body,AP.f334.res):=by kernel_rfl
theorem Mx:Fits (22,334):=u6 Try.func22 Ls (by kernel_rfl) (by kernel_rfl)
theorem Lu:vj L Try.f23 AP.f335=some (AP.f335.body,AP.f335.res):=by kernel_rfl
theorem My:Fits (23,335):=u6 Try.func23 Lu (by kernel_rfl) (by kernel_rfl)
theorem Lv:vj L Try.f24 AP.f336=some (AP.f336.body,AP.f336.res):=by kernel_rfl
theorem MA:Fits (24,336):=u6 Try.func24 Lv (by kernel_rfl) (by kernel_rfl)
theorem Lw:vj L Try.f25 AP.f337=some (AP.f337.body,AP.f337.res):=by kernel_rfl
theorem MB:Fits (25,337):=u6 Try.func25 Lw (by kernel_rfl) (by kernel_rfl)
theorem Lx:vj L Try.f26 AP.f338=some (AP.f338.body,AP.f338.res):=by kernel_rfl
theorem MC:Fits (26,338):=u6 Try.func26 Lx (by kernel_rfl) (by kernel_rfl)
theorem N3:vj L Try.f27 AP.f42=some (AP.f42.body,AP.f42.res):=by kernel_rfl
theorem OG:Fits (27,42):=u6 Try.func27 N3 (by kernel_rfl) (by kernel_rfl)
theorem N4:vj L Try.f28 AP.f43=some (AP.f43.body,AP.f43.res):=by kernel_rfl
theorem OH:Fits (28,43):=u6 Try.func28 N4 (by kernel_rfl) (by kernel_rfl)
theorem Ly:vj L Try.f29 AP.f339=some (AP.f339.body,AP.f339.res):=by kernel_rfl
theorem MD:Fits (29,339):=u6 Try.func29 Ly (by kernel_rfl) (by kernel_rfl)
theorem Lz:vj L Try.f30 AP.f340=some (AP.f340.body,AP.f340.res):=by kernel_rfl
theorem ME:Fits (30,340):=u6 Try.func30 Lz (by kernel_rfl) (by kernel_rfl)
theorem LC:vj L Try.f31 AP.f341=some (AP.f341.body,AP.f341.res):=by kernel_rfl
theorem MF:Fits (31,341):=u6 Try.func31 LC (by kernel_rfl) (by kernel_rfl)
theorem LF:vj L Try.f32 AP.f342=some (AP.f342.body,AP.f342.res):=by kernel_rfl
theorem MG:Fits (32,342):=u6 Try.func32 LF (by kernel_rfl) (by kernel_rfl)
theorem NV:vj L Try.f33 AP.f14=some (AP.f14.body,AP.f14.res):=by kernel_rfl
theorem Ox:Fits (33,14):=u6 Try.func33 NV (by kernel_rfl) (by kernel_rfl)
theorem NW:vj L Try.f34 AP.f15=some (AP.f15.body,AP.f15.res):=by kernel_rfl
theorem Oy:Fits (34,15):=u6 Try.func34 NW (by kernel_rfl) (by kernel_rfl)
theorem NX:vj L Try.f35 AP.f16=some (AP.f16.body,AP.f16.res):=by kernel_rfl
theorem Oz:Fits (35,16):=u6 Try.func35 NX (by kernel_rfl) (by kernel_rfl)
theorem NY:vj L Try.f36 AP.f17=some (AP.f17.body,AP.f17.res):=by kernel_rfl
theorem OA:Fits (36,17):=u6 Try.func36 NY (by kernel_rfl) (by kernel_rfl)
theorem LG:vj L Try.f37 AP.f343=some (AP.f343.body,AP.f343.res):=by kernel_rfl
theorem MH:Fits (37,343):=u6 Try.func37 LG (by kernel_rfl) (by kernel_rfl)
theorem LH:vj L Try.f38 AP.f344=some (AP.f344.body,AP.f344.res):=by kernel_rfl
theorem MI:Fits (38,344):=u6 Try.func38 LH (by kernel_rfl) (by kernel_rfl)
theorem LJ:vj L Try.f39 AP.f345=some (AP.f345.body,AP.f345.res):=by kernel_rfl
theorem MJ:Fits (39,345):=u6 Try.func39 LJ (by kernel_rfl) (by kernel_rfl)
theorem LK:vj L Try.f40 AP.f346=some (AP.f346.body,AP.f346.res):=by kernel_rfl
theorem MK:Fits (40,346):=u6 Try.func40 LK (by kernel_rfl) (by kernel_rfl)
theorem LM:vj L Try.f41 AP.f347=some (AP.f347.body,AP.f347.res):=by kernel_rfl
theorem ML:Fits (41,347):=u6 Try.func41 LM (by kernel_rfl) (by kernel_rfl)
theorem LN:vj L Try.f42 AP.f348=some (AP.f348.body,AP.f348.res):=by kernel_rfl
theorem MM:Fits (42,348):=u6 Try.func42 LN (by kernel_rfl) (by kernel_rfl)
theorem Ob:vj L Try.f43 AP.f62=some (AP.f62.body,AP.f62.res):=by kernel_rfl
theorem OP:Fits (43,62):=u6 Try.func43 Ob (by kernel_rfl) (by kernel_rfl)
theorem Oc:vj L Try.f44 AP.f63=some (AP.f63.body,AP.f63.res):=by kernel_rfl
theorem OQ:Fits (44,63):=u6 Try.func44 Oc (by kernel_rfl) (by kernel_rfl)
theorem LO:vj L Try.f45 AP.f349=some (AP.f349.body,AP.f349.res):=by kernel_rfl
theorem MN:Fits (45,349):=u6 Try.func45 LO (by kernel_rfl) (by kernel_rfl)
theorem LP:vj L Try.f46 AP.f350=some (AP.f350.body,AP.f350.res):=by kernel_rfl
theorem MO:Fits (46,350):=u6 Try.func46 LP (by kernel_rfl) (by kernel_rfl)
theorem LQ:vj L Try.f47 AP.f351=some (AP.f351.body,AP.f351.res):=by kernel_rfl
theorem MP:Fits (47,351):=u6 Try.func47 LQ (by kernel_rfl) (by kernel_rfl)
theorem On:vj L Try.f48 AP.f79=some (AP.f79.body,AP.f79.res):=by kernel_rfl
theorem O3:Fits (48,79):=u6 Try.func48 On (by kernel_rfl) (by kernel_rfl)
theorem LR:vj L Try.f49 AP.f352=some (AP.f352.body,AP.f352.res):=by kernel_rfl
theorem MQ:Fits (49,352):=u6 Try.func49 LR (by kernel_rfl) (by kernel_rfl)
theorem NZ:vj L Try.f50 AP.f38=some (AP.f38.body,AP.f38.res):=by kernel_rfl
theorem OB:Fits (50,38):=u6 Try.func50 NZ (by kernel_rfl) (by kernel_rfl)
theorem N0:vj L Try.f51 AP.f39=some (AP.f39.body,AP.f39.res):=by kernel_rfl
theorem OC:Fits (51,39):=u6 Try.func51 N0 (by kernel_rfl) (by kernel_rfl)
theorem N1:vj L Try.f52 AP.f40=some (AP.f40.body,AP.f40.res):=by kernel_rfl
theorem OD:Fits (52,40):=u6 Try.func52 N1 (by kernel_rfl) (by kernel_rfl)
theorem N2:vj L Try.f53 AP.f41=some (AP.f41.body,AP.f41.res):=by kernel_rfl
theorem OE:Fits (53,41):=u6 Try.func53 N2 (by kernel_rfl) (by kernel_rfl)
theorem N5:vj L Try.f54 AP.f44=some (AP.f44.body,AP.f44.res):=by kernel_rfl
theorem OI:Fits (54,44):=u6 Try.func54 N5 (by kernel_rfl) (by kernel_rfl)
theorem N6:vj L Try.f55 AP.f45=some (AP.f45.body,AP.f45.res):=by kernel_rfl
theorem OJ:Fits (55,45):=u6 Try.func55 N6 (by kernel_rfl) (by kernel_rfl)
theorem LS:vj L Try.f56 AP.f353=some (AP.f353.body,AP.f353.res):=by kernel_rfl
theorem MR:Fits (56,353):=u6 Try.func56 LS (by kernel_rfl) (by kernel_rfl)
theorem LU:vj L Try.f57 AP.f354=some (AP.f354.body,AP.f354.res):=by kernel_rfl
theorem MS:Fits (57,354):=u6 Try.func57 LU (by kernel_rfl) (by kernel_rfl)
theorem Oq:vj L Try.f58 AP.f81=some (AP.f81.body,AP.f81.res):=by kernel_rfl
theorem O5:Fits (58,81):=u6 Try.func58 Oq (by kernel_rfl) (by kernel_rfl)
theorem Ok:vj L Try.f59 AP.f76=some (AP.f76.body,AP.f76.res):=by kernel_rfl
theorem OZ:Fits (59,76):=u6 Try.func59 Ok (by kernel_rfl) (by kernel_rfl)
theorem Ol:vj L Try.f60 AP.f77=some (AP.f77.body,AP.f77.res):=by kernel_rfl
theorem O0:Fits (60,77):=u6 Try.func60 Ol (by kernel_rfl) (by kernel_rfl)
theorem Om:vj L Try.f61 AP.f78=some (AP.f78.body,AP.f78.res):=by kernel_rfl
theorem O2:Fits (61,78):=u6 Try.func61 Om (by kernel_rfl) (by kernel_rfl)
theorem LV:vj L Try.f62 AP.f355=some (AP.f355.body,AP.f355.res):=by kernel_rfl
theorem MT:Fits (62,355):=u6 Try.func62 LV (by kernel_rfl) (by kernel_rfl)
theorem LW:vj L Try.f63 AP.f356=some (AP.f356.body,AP.f356.res):=by kernel_rfl
theorem MU:Fits (63,356):=u6 Try.func63 LW (by kernel_rfl) (by kernel_rfl)
theorem LX:vj L Try.f64 AP.f357=some (AP.f357.body,AP.f357.res):=by kernel_rfl
theorem MV:Fits (64,357):=u6 Try.func64 LX (by kernel_rfl) (by kernel_rfl)
theorem Ou:vj L Try.f65 AP.f83=some (AP.f83.body,AP.f83.res):=by kernel_rfl
theorem O7:Fits (65,83):=u6 Try.func65 Ou (by kernel_rfl) (by kernel_rfl)
theorem LY:vj L Try.f66 AP.f358=some (AP.f358.body,AP.f358.res):=by kernel_rfl
theorem MW:Fits (66,358):=u6 Try.func66 LY (by kernel_rfl) (by kernel_rfl)
theorem Ld:vj L Try.f67 AP.f118=some (AP.f118.body,AP.f118.res):=by kernel_rfl
theorem Mn:Fits (67,118):=u6 Try.func67 Ld (by kernel_rfl) (by kernel_rfl)
theorem Le:vj L Try.f68 AP.f189=some (AP.f189.body,AP.f189.res):=by kernel_rfl
theorem Mo:Fits (68,189):=u6 Try.func68 Le (by kernel_rfl) (by kernel_rfl)
theorem LZ:vj L Try.f69 AP.f359=some (AP.f359.body,AP.f359.res):=by kernel_rfl
theorem MX:Fits (69,359):=u6 Try.func69 LZ (by kernel_rfl) (by kernel_rfl)
theorem L4:vj L Try.f70 AP.f360=some (AP.f360.body,AP.f360.res):=by kernel_rfl
theorem MY:Fits (70,360):=u6 Try.func70 L4 (by kernel_rfl) (by kernel_rfl)
theorem N7:vj L Try.f71 AP.f58=some (AP.f58.body,AP.f58.res):=by kernel_rfl
theorem OK:Fits (71,58):=u6 Try.func71 N7 (by kernel_rfl) (by kernel_rfl)
theorem N8:vj L Try.f72 AP.f59=some (AP.f59.body,AP.f59.res):=by kernel_rfl
theorem OL:Fits (72,59):=u6 Try.func72 N8 (by kernel_rfl) (by kernel_rfl)
theorem N9:vj L Try.f73 AP.f60=some (AP.f60.body,AP.f60.res):=by kernel_rfl
theorem OM:Fits (73,60):=u6 Try.func73 N9 (by kernel_rfl) (by kernel_rfl)
theorem Oa:vj L Try.f74 AP.f61=some (AP.f61.body,AP.f61.res):=by kernel_rfl
theorem ON:Fits (74,61):=u6 Try.func74 Oa (by kernel_rfl) (by kernel_rfl)
theorem Od:vj L Try.f75 AP.f64=some (AP.f64.body,AP.f64.res):=by kernel_rfl
theorem OR:Fits (75,64):=u6 Try.func75 Od (by kernel_rfl) (by kernel_rfl)
theorem Oe:vj L Try.f76 AP.f65=some (AP.f65.body,AP.f65.res):=by kernel_rfl
theorem OS:Fits (76,65):=u6 Try.func76 Oe (by kernel_rfl) (by kernel_rfl)
theorem Of:vj L Try.f77 AP.f66=some (AP.f66.body,AP.f66.res):=by kernel_rfl
theorem OT:Fits (77,66):=u6 Try.func77 Of (by kernel_rfl) (by kernel_rfl)
theorem Ot:vj L Try.f78 AP.f82=some (AP.f82.body,AP.f82.res):=by kernel_rfl
theorem O6:Fits (78,82):=u6 Try.func78 Ot (by kernel_rfl) (by kernel_rfl)
theorem L6:vj L Try.f79 AP.f361=some (AP.f361.body,AP.f361.res):=by kernel_rfl
theorem MZ:Fits (79,361):=u6 Try.func79 L6 (by kernel_rfl) (by kernel_rfl)
theorem Oi:vj L Try.f80 AP.f74=some (AP.f74.body,AP.f74.res):=by kernel_rfl
theorem OX:Fits (80,74):=u6 Try.func80 Oi (by kernel_rfl) (by kernel_rfl)
theorem Oj:vj L Try.f81 AP.f75=some (AP.f75.body,AP.f75.res):=by kernel_rfl
theorem OY:Fits (81,75):=u6 Try.func81 Oj (by kernel_rfl) (by kernel_rfl)
theorem Ov:vj L Try.f82 AP.f84=some (AP.f84.body,AP.f84.res):=by kernel_rfl
theorem O8:Fits (82,84):=u6 Try.func82 Ov (by kernel_rfl) (by kernel_rfl)
theorem L7:vj L Try.f83 AP.f362=some (AP.f362.body,AP.f362.res):=by kernel_rfl
theorem M4:Fits (83,362):=u6 Try.func83 L7 (by kernel_rfl) (by kernel_rfl)
theorem L8:vj L Try.f84 AP.f363=some (AP.f363.body,AP.f363.res):=by kernel_rfl
theorem M5:Fits (84,363):=u6 Try.func84 L8 (by kernel_rfl) (by kernel_rfl)
theorem L9:vj L Try.f85 AP.f364=some (AP.f364.body,AP.f364.res):=by kernel_rfl
theorem M6:Fits (85,364):=u6 Try.func85 L9 (by kernel_rfl) (by kernel_rfl)
theorem Ma:vj L Try.f86 AP.f365=some (AP.f365.body,AP.f365.res):=by kernel_rfl
theorem M7:Fits (86,365):=u6 Try.func86 Ma (by kernel_rfl) (by kernel_rfl)
theorem Og:vj L Try.f87 AP.f72=some (AP.f72.body,AP.f72.res):=by kernel_rfl
theorem OU:Fits (87,72):=u6 Try.func87 Og (by kernel_rfl) (by kernel_rfl)
theorem Oh:vj L Try.f88 AP.f73=some (AP.f73.body,AP.f73.res):=by kernel_rfl
theorem OW:Fits (88,73):=u6 Try.func88 Oh (by kernel_rfl) (by kernel_rfl)
theorem Oo:vj L Try.f89 AP.f80=some (AP.f80.body,AP.f80.res):=by kernel_rfl
theorem O4:Fits (89,80):=u6 Try.func89 Oo (by kernel_rfl) (by kernel_rfl)
theorem Mb:vj L Try.f90 AP.f366=some (AP.f366.body,AP.f366.res):=by kernel_rfl
theorem M8:Fits (90,366):=u6 Try.func90 Mb (by kernel_rfl) (by kernel_rfl)
theorem Mc:vj L Try.f91 AP.f367=some (AP.f367.body,AP.f367.res):=by kernel_rfl
theorem M9:Fits (91,367):=u6 Try.func91 Mc (by kernel_rfl) (by kernel_rfl)
theorem Md:vj L Try.f110 AP.f368=some (AP.f368.body,AP.f368.res):=by kernel_rfl
theorem Na:Fits (110,368):=u6 Try.func110 Md (by kernel_rfl) (by kernel_rfl)
theorem Me:vj L Try.f111 AP.f369=some (AP.f369.body,AP.f369.res):=by kernel_rfl
theorem Nb:Fits (111,369):=u6 Try.func111 Me (by kernel_rfl) (by kernel_rfl)
theorem Mf:vj L Try.f112 AP.f370=some (AP.f370.body,AP.f370.res):=by kernel_rfl
theorem Nc:Fits (112,370):=u6 Try.func112 Mf (by kernel_rfl) (by kernel_rfl)
theorem Mg:vj L Try.f113 AP.f371=some (AP.f371.body,AP.f371.res):=by kernel_rfl
theorem Nd:Fits (113,371):=u6 Try.func113 Mg (by kernel_rfl) (by kernel_rfl)
theorem Pq:∀p∈PM,Fits p:=u3 Mp (u3 Mq (u3 Mr (u3 Ms (u3 Mt (u3 Py (u3 Px (u3 Mu (u3 Mv (u3 Mw (u3 Mx (u3 My (u3 MA (u3 MB (u3 MC (u3 OG (u3 OH (u3 MD (u3 ME (u3 MF (u3 MG (u3 Ox (u3 Oy (u3 Oz (u3 OA (u3 MH (u3 MI (u3 MJ (u3 MK (u3 ML (u3 MM (u3 OP (u3 OQ (u3 MN (u3 MO (u3 MP (u3 O3 (u3 MQ (u3 OB (u3 OC (u3 OD (u3 OE (u3 OI (u3 OJ (u3 MR (u3 MS (u3 O5 (u3 OZ (u3 O0 (u3 O2 (u3 MT (u3 MU (u3 MV (u3 O7 (u3 MW (u3 Mn (u3 Mo (u3 MX (u3 MY (u3 OK (u3 OL (u3 OM (u3 ON (u3 OR (u3 OS (u3 OT (u3 O6 (u3 MZ (u3 OX (u3 OY (u3 O8 (u3 M4 (u3 M5 (u3 M6 (u3 M7 (u3 OU (u3 OW (u3 O4 (u3 M8 (u3 M9 (u3 Na (u3 Nb (u3 Nc (u3 Nd (Is))))))))))))))))))))))))))))))))))))))))))))))))))))))))))))))))))))))))))))))))))))
theorem Kj {T t k:Nat} (hk:k<100000) (hm:∀p∈Pe,p.2=k→p.1=t) (h:mt T=k):T=t:=by
 unfold mt at h
 cases e:Au Pe T with
 |none=>rw[e]at h;exact absurd (show T+100000=k from h) (by omega)
 |some b=>rw[e]at h;exact hm _ (yj e) h
theorem Pl:∀t k,L.ta t=some k→rz L.P t∧∀T,L.mt T=k→T=t:=by
 intro t k h
 have hm:=yj (show Au PG t=some k from h)
 simp only[PG,uY,List.not_mem_nil,or_false,uC]at hm
 rcases hm with ⟨rfl,rfl⟩
 · exact⟨⟨.pointer 134,by kernel_rfl,nofun⟩,fun T h=>Kj (by decide) (by decide+kernel) h⟩
theorem Nr {T:Nat} (h:mt T=1):T=136:=by
 unfold mt at h
 cases e:Au Pe T with
 |none=>rw[e]at h;exact absurd h (by show¬T+100000=1;omega)
 | some b =>
   rw[e]at h
   have h:b=1:=h
   subst h
   have hm:=yj e
   have:∀p∈Pe,p.2=1→p.1=136:=by decide+kernel
   exact this _ hm rfl
theorem Cn {P:Program} {T:TypeId} {name:String} {fid:FuncId} {d:Bool} {i:TypeInfo} {el:TypeId} (h1:P.info? T=some i) (h2:(i.methods.find? (·.name==name)).map (fun m=>(m.path,m.func))=some (#[],some (fid, !d))) (h5:P.underlying T=some (.pointer el))
 (h6:d=true→gP P el=some false∧b5 P el=some 1):kZ P T name fid d:=by
 obtain⟨m,hm,e⟩:=uw.1 h2
 obtain⟨e1,e2⟩:=ux e
 exact⟨i,m,el,h1,hm,e1,e2,h5,h6⟩
theorem Pa:∀name t f d,L.iv name=some (t,f,d)→∀T,L.mt T=t→∃fid,L.mf fid=some f∧kZ L.P T name fid d:=by
 intro name t f d h T hT
 have h:(PA.find? fun p=>p.1==name).map (fun p=>((1:Nat),p.2))=some (t,f,d):=h
 rw[uw]at h
 obtain⟨p,hp,e⟩:=h
 obtain⟨rfl,e2⟩:=ux e
 have hn:=List.find?_some hp
 have hm:=List.mem_of_find?_eq_some hp
 obtain rfl:=Nr hT
 obtain rfl:p.1=name:=eq_of_beq hn
 simp only[PA,uY,List.not_mem_nil,or_false]at hm
 rcases hm with rfl|rfl|rfl|rfl|rfl
 · obtain⟨rfl,rfl⟩:=ux e2;exact⟨84,by kernel_rfl,Cn (el:=131) Try.type136 (by kernel_rfl) (by kernel_rfl) (fun _=>⟨by kernel_rfl,by kernel_rfl⟩)⟩
 · obtain⟨rfl,rfl⟩:=ux e2;exact⟨110,by kernel_rfl,Cn (el:=131) Try.type136 (by kernel_rfl) (by kernel_rfl) (fun _=>⟨by kernel_rfl,by kernel_rfl⟩)⟩
 · obtain⟨rfl,rfl⟩:=ux e2;exact⟨111,by kernel_rfl,Cn (el:=131) Try.type136 (by kernel_rfl) (by kernel_rfl) (fun _=>⟨by kernel_rfl,by kernel_rfl⟩)⟩
 · obtain⟨rfl,rfl⟩:=ux e2;exact⟨113,by kernel_rfl,Cn (el:=131) Try.type136 (by kernel_rfl) (by kernel_rfl) (fun h=>by cases h)⟩
 · obtain⟨rfl,rfl⟩:=ux e2;exact⟨112,by kernel_rfl,Cn (el:=131) Try.type136 (by kernel_rfl) (by kernel_rfl) (fun h=>by cases h)⟩
theorem lk:dY L AP.A:=⟨by kernel_rfl,fun fid f h=>Pq (fid,f) (yj h),Pa,Pl⟩
end Ab.Ln
