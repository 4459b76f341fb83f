/- Part K1. -/
import Derived.Test.YtmckmpeekikfdaaProg
import Derived.KernelRfl
import Derived.Test.YtmckmpeekikfdaaAP
set_option maxRecDepth 100000
namespace Ab.Ln
open Go Go.Proofs Ab
def u6 (L:Lk) (fn:Func) (af:eO):Option (aF×List RV):=fn.body.bind fun c=>(comp L fn.ntmps c af.body).bind fun x=>(cx L fn.results.toList).bind fun r=>some (x,r)
def Fits (p : Nat × Nat) : Prop := ∃ fn c, L.P.funcs[p.1]? = some fn ∧ fn.body = some c ∧ (fn.name == "runtime.NumGoroutine") = false ∧
    ∀af,AP.A p.2=some af→(∃x0,comp L fn.ntmps c x0=some af.body)∧cx L fn.results.toList=some af.res
theorem uZ {k a : Nat} {fn : Func} {af : eO} (h1 : L.P.funcs[k]? = some fn) (h2 : u6 L fn af = some (af.body, af.res)) (h3 : (fn.name == "runtime.NumGoroutine") = false) (h4 : AP.A a = some af) : Fits (k, a) := by
 unfold u6 at h2
 simp only[uf]at h2
 obtain⟨c,g1,x,g2,r,g3,g4⟩:=h2
 obtain⟨rfl,rfl⟩:=uj (uh g4)
 refine⟨fn,c,h1,g1,h3,fun af2 g5=> ?_⟩
 rw[h4]at g5
 obtain rfl:=uh g5
 exact⟨⟨_,g2⟩,g3⟩
theorem yj:∀{l:List (Nat×Nat)} {k f:Nat},Ax l k=some f→(k,f)∈l
 |[],_,_,h=>by cases h
 | (i, g) :: r, k, f, h => by
   unfold Ax at h
   split at h
   · rename_i e;subst e;obtain rfl:=uh h;exact List.mem_cons_self
   · exact List.mem_cons_of_mem _ (yj h)
theorem It:∀p∈([]:List (Nat×Nat)),Fits p:=fun p h=>by cases h
theorem uW {p:Nat×Nat} {l:List (Nat×Nat)} (h1:Fits p) (h2:∀q∈l,Fits q):∀q∈p::l,Fits q:=fun q h=>by
 rcases uR.1 h with rfl|h
 · exact h1
 · exact h2 q h
theorem Ld:u6 L Try.f3 AP.f316=some (AP.f316.body,AP.f316.res):=by kernel_rfl
theorem Mo:Fits (3,316):=uZ Try.func3 Ld (by kernel_rfl) (by kernel_rfl)
theorem Le:u6 L Try.f9 AP.f324=some (AP.f324.body,AP.f324.res):=by kernel_rfl
theorem Mp:Fits (9,324):=uZ Try.func9 Le (by kernel_rfl) (by kernel_rfl)
theorem Lf:u6 L Try.f10 AP.f325=some (AP.f325.body,AP.f325.res):=by kernel_rfl
theorem Mq:Fits (10,325):=uZ Try.func10 Lf (by kernel_rfl) (by kernel_rfl)
theorem Lg:u6 L Try.f11 AP.f326=some (AP.f326.body,AP.f326.res):=by kernel_rfl
theorem Mr:Fits (11,326):=uZ Try.func11 Lg (by kernel_rfl) (by kernel_rfl)
theorem Lh:u6 L Try.f12 AP.f327=some (AP.f327.body,AP.f327.res):=by kernel_rfl
theorem Ms:Fits (12,327):=uZ Try.func12 Lh (by kernel_rfl) (by kernel_rfl)
theorem Px:u6 L Try.f13 AP.f9=some (AP.f9.body,AP.f9.res):=by kernel_rfl
theorem PA:Fits (13,9):=uZ Try.func13 Px (by kernel_rfl) (by kernel_rfl)
theorem Pw:u6 L Try.f14 AP.f7=some (AP.f7.body,AP.f7.res):=by kernel_rfl
theorem Pz:Fits (14,7):=uZ Try.func14 Pw (by kernel_rfl) (by kernel_rfl)
theorem Lj:u6 L Try.f15 AP.f328=some (AP.f328.body,AP.f328.res):=by kernel_rfl
theorem Mt:Fits (15,328):=uZ Try.func15 Lj (by kernel_rfl) (by kernel_rfl)
theorem Ll:u6 L Try.f20 AP.f332=some (AP.f332.body,AP.f332.res):=by kernel_rfl
theorem Mu:Fits (20,332):=uZ Try.func20 Ll (by kernel_rfl) (by kernel_rfl)
theorem Lm:u6 L Try.f21 AP.f333=some (AP.f333.body,AP.f333.res):=by kernel_rfl
theorem Mv:Fits (21,333):=uZ Try.func21 Lm (by kernel_rfl) (by kernel_rfl)
theorem Lq:u6 L Try.f22 AP.f334=some (AP.f334.body,AP.f334.res):=by kernel_rfl
theorem Mw:Fits (22,334):=uZ Try.func22 Lq (by kernel_rfl) (by kernel_rfl)
theorem Lr:u6 L Try.f23 AP.f335=some (AP.f335.body,AP.f335.res):=by kernel_rfl
theorem Mx:Fits (23,335):=uZ Try.func23 Lr (by kernel_rfl) (by kernel_rfl)
theorem Ls:u6 L Try.f24 AP.f336=some (AP.f336.body,AP.f336.res):=by kernel_rfl
theorem My:Fits (24,336):=uZ Try.func24 Ls (by kernel_rfl) (by kernel_rfl)
theorem Lu:u6 L Try.f25 AP.f337=some (AP.f337.body,AP.f337.res):=by kernel_rfl
theorem MA:Fits (25,337):=uZ Try.func25 Lu (by kernel_rfl) (by kernel_rfl)
theorem Lv:u6 L Try.f26 AP.f338=some (AP.f338.body,AP.f338.res):=by kernel_rfl
theorem MB:Fits (26,338):=uZ Try.func26 Lv (by kernel_rfl) (by kernel_rfl)
theorem N4:u6 L Try.f27 AP.f42=some (AP.f42.body,AP.f42.res):=by kernel_rfl
theorem OH:Fits (27,42):=uZ Try.func27 N4 (by kernel_rfl) (by kernel_rfl)
theorem N5:u6 L Try.f28 AP.f43=some (AP.f43.body,AP.f43.res):=by kernel_rfl
theorem OI:Fits (28,43):=uZ Try.func28 N5 (by kernel_rfl) (by kernel_rfl)
theorem Lw:u6 L Try.f29 AP.f339=some (AP.f339.body,AP.f339.res):=by kernel_rfl
theorem MC:Fits (29,339):=uZ Try.func29 Lw (by kernel_rfl) (by kernel_rfl)
theorem Lx:u6 L Try.f30 AP.f340=some (AP.f340.body,AP.f340.res):=by kernel_rfl
theorem MD:Fits (30,340):=uZ Try.func30 Lx (by kernel_rfl) (by kernel_rfl)
theorem Ly:u6 L Try.f31 AP.f341=some (AP.f341.body,AP.f341.res):=by kernel_rfl
theorem ME:Fits (31,341):=uZ Try.func31 Ly (by kernel_rfl) (by kernel_rfl)
theorem Lz:u6 L Try.f32 AP.f342=some (AP.f342.body,AP.f342.res):=by kernel_rfl
theorem MF:Fits (32,342):=uZ Try.func32 Lz (by kernel_rfl) (by kernel_rfl)
theorem NW:u6 L Try.f33 AP.f14=some (AP.f14.body,AP.f14.res):=by kernel_rfl
theorem Oy:Fits (33,14):=uZ Try.func33 NW (by kernel_rfl) (by kernel_rfl)
theorem NX:u6 L Try.f34 AP.f15=some (AP.f15.body,AP.f15.res):=by kernel_rfl
theorem Oz:Fits (34,15):=uZ Try.func34 NX (by kernel_rfl) (by kernel_rfl)
theorem NY:u6 L Try.f35 AP.f16=some (AP.f16.body,AP.f16.res):=by kernel_rfl
theorem OA:Fits (35,16):=uZ Try.func35 NY (by kernel_rfl) (by kernel_rfl)
theorem NZ:u6 L Try.f36 AP.f17=some (AP.f17.body,AP.f17.res):=by kernel_rfl
theorem OB:Fits (36,17):=uZ Try.func36 NZ (by kernel_rfl) (by kernel_rfl)
theorem LC:u6 L Try.f37 AP.f343=some (AP.f343.body,AP.f343.res):=by kernel_rfl
theorem MG:Fits (37,343):=uZ Try.func37 LC (by kernel_rfl) (by kernel_rfl)
theorem LF:u6 L Try.f38 AP.f344=some (AP.f344.body,AP.f344.res):=by kernel_rfl
theorem MH:Fits (38,344):=uZ Try.func38 LF (by kernel_rfl) (by kernel_rfl)
theorem LG:u6 L Try.f39 AP.f345=some (AP.f345.body,AP.f345.res):=by kernel_rfl
theorem MI:Fits (39,345):=uZ Try.func39 LG (by kernel_rfl) (by kernel_rfl)
theorem LH:u6 L Try.f40 AP.f346=some (AP.f346.body,AP.f346.res):=by kernel_rfl
theorem MJ:Fits (40,346):=uZ Try.func40 LH (by kernel_rfl) (by kernel_rfl)
theorem LJ:u6 L Try.f41 AP.f347=some (AP.f347.body,AP.f347.res):=by kernel_rfl
theorem MK:Fits (41,347):=uZ Try.func41 LJ (by kernel_rfl) (by kernel_rfl)
theorem LK:u6 L Try.f42 AP.f348=some (AP.f348.body,AP.f348.res):=by kernel_rfl
theorem ML:Fits (42,348):=uZ Try.func42 LK (by kernel_rfl) (by kernel_rfl)
theorem Oc:u6 L Try.f43 AP.f62=some (AP.f62.body,AP.f62.res):=by kernel_rfl
theorem OQ:Fits (43,62):=uZ Try.func43 Oc (by kernel_rfl) (by kernel_rfl)
theorem Od:u6 L Try.f44 AP.f63=some (AP.f63.body,AP.f63.res):=by kernel_rfl
theorem OR:Fits (44,63):=uZ Try.func44 Od (by kernel_rfl) (by kernel_rfl)
theorem LM:u6 L Try.f45 AP.f349=some (AP.f349.body,AP.f349.res):=by kernel_rfl
theorem MM:Fits (45,349):=uZ Try.func45 LM (by kernel_rfl) (by kernel_rfl)
theorem LN:u6 L Try.f46 AP.f350=some (AP.f350.body,AP.f350.res):=by kernel_rfl
theorem MN:Fits (46,350):=uZ Try.func46 LN (by kernel_rfl) (by kernel_rfl)
theorem LO:u6 L Try.f47 AP.f351=some (AP.f351.body,AP.f351.res):=by kernel_rfl
theorem MO:Fits (47,351):=uZ Try.func47 LO (by kernel_rfl) (by kernel_rfl)
theorem Oo:u6 L Try.f48 AP.f79=some (AP.f79.body,AP.f79.res):=by kernel_rfl
theorem O4:Fits (48,79):=uZ Try.func48 Oo (by kernel_rfl) (by kernel_rfl)
theorem LP:u6 L Try.f49 AP.f352=some (AP.f352.body,AP.f352.res):=by kernel_rfl
theorem MP:Fits (49,352):=uZ Try.func49 LP (by kernel_rfl) (by kernel_rfl)
theorem N0:u6 L Try.f50 AP.f38=some (AP.f38.body,AP.f38.res):=by kernel_rfl
theorem OC:Fits (50,38):=uZ Try.func50 N0 (by kernel_rfl) (by kernel_rfl)
theorem N1:u6 L Try.f51 AP.f39=some (AP.f39.body,AP.f39.res):=by kernel_rfl
theorem OD:Fits (51,39):=uZ Try.func51 N1 (by kernel_rfl) (by kernel_rfl)
theorem N2:u6 L Try.f52 AP.f40=some (AP.f40.body,AP.f40.res):=by kernel_rfl
theorem OE:Fits (52,40):=uZ Try.func52 N2 (by kernel_rfl) (by kernel_rfl)
theorem N3:u6 L Try.f53 AP.f41=some (AP.f41.body,AP.f41.res):=by kernel_rfl
theorem OG:Fits (53,41):=uZ Try.func53 N3 (by kernel_rfl) (by kernel_rfl)
theorem N6:u6 L Try.f54 AP.f44=some (AP.f44.body,AP.f44.res):=by kernel_rfl
theorem OJ:Fits (54,44):=uZ Try.func54 N6 (by kernel_rfl) (by kernel_rfl)
theorem N7:u6 L Try.f55 AP.f45=some (AP.f45.body,AP.f45.res):=by kernel_rfl
theorem OK:Fits (55,45):=uZ Try.func55 N7 (by kernel_rfl) (by kernel_rfl)
theorem LQ:u6 L Try.f56 AP.f353=some (AP.f353.body,AP.f353.res):=by kernel_rfl
theorem MQ:Fits (56,353):=uZ Try.func56 LQ (by kernel_rfl) (by kernel_rfl)
theorem LR:u6 L Try.f57 AP.f354=some (AP.f354.body,AP.f354.res):=by kernel_rfl
theorem MR:Fits (57,354):=uZ Try.func57 LR (by kernel_rfl) (by kernel_rfl)
theorem Ot:u6 L Try.f58 AP.f81=some (AP.f81.body,AP.f81.res):=by kernel_rfl
theorem O6:Fits (58,81):=uZ Try.func58 Ot (by kernel_rfl) (by kernel_rfl)
theorem Ol:u6 L Try.f59 AP.f76=some (AP.f76.body,AP.f76.res):=by kernel_rfl
theorem O0:Fits (59,76):=uZ Try.func59 Ol (by kernel_rfl) (by kernel_rfl)
theorem Om:u6 L Try.f60 AP.f77=some (AP.f77.body,AP.f77.res):=by kernel_rfl
theorem O2:Fits (60,77):=uZ Try.func60 Om (by kernel_rfl) (by kernel_rfl)
theorem On:u6 L Try.f61 AP.f78=some (AP.f78.body,AP.f78.res):=by kernel_rfl
theorem O3:Fits (61,78):=uZ Try.func61 On (by kernel_rfl) (by kernel_rfl)
theorem LS:u6 L Try.f62 AP.f355=some (AP.f355.body,AP.f355.res):=by kernel_rfl
theorem MS:Fits (62,355):=uZ Try.func62 LS (by kernel_rfl) (by kernel_rfl)
theorem LU:u6 L Try.f63 AP.f356=some (AP.f356.body,AP.f356.res):=by kernel_rfl
theorem MT:Fits (63,356):=uZ Try.func63 LU (by kernel_rfl) (by kernel_rfl)
theorem LV:u6 L Try.f64 AP.f357=some (AP.f357.body,AP.f357.res):=by kernel_rfl
theorem MU:Fits (64,357):=uZ Try.func64 LV (by kernel_rfl) (by kernel_rfl)
theorem Ov:u6 L Try.f65 AP.f83=some (AP.f83.body,AP.f83.res):=by kernel_rfl
theorem O8:Fits (65,83):=uZ Try.func65 Ov (by kernel_rfl) (by kernel_rfl)
theorem LW:u6 L Try.f66 AP.f358=some (AP.f358.body,AP.f358.res):=by kernel_rfl
theorem MV:Fits (66,358):=uZ Try.func66 LW (by kernel_rfl) (by kernel_rfl)
theorem La:u6 L Try.f67 AP.f118=some (AP.f118.body,AP.f118.res):=by kernel_rfl
theorem Ml:Fits (67,118):=uZ Try.func67 La (by kernel_rfl) (by kernel_rfl)
theorem Lb:u6 L Try.f68 AP.f189=some (AP.f189.body,AP.f189.res):=by kernel_rfl
theorem Mn:Fits (68,189):=uZ Try.func68 Lb (by kernel_rfl) (by kernel_rfl)
theorem LX:u6 L Try.f69 AP.f359=some (AP.f359.body,AP.f359.res):=by kernel_rfl
theorem MW:Fits (69,359):=uZ Try.func69 LX (by kernel_rfl) (by kernel_rfl)
theorem LY:u6 L Try.f70 AP.f360=some (AP.f360.body,AP.f360.res):=by kernel_rfl
theorem MX:Fits (70,360):=uZ Try.func70 LY (by kernel_rfl) (by kernel_rfl)
theorem N8:u6 L Try.f71 AP.f58=some (AP.f58.body,AP.f58.res):=by kernel_rfl
theorem OL:Fits (71,58):=uZ Try.func71 N8 (by kernel_rfl) (by kernel_rfl)
theorem N9:u6 L Try.f72 AP.f59=some (AP.f59.body,AP.f59.res):=by kernel_rfl
theorem OM:Fits (72,59):=uZ Try.func72 N9 (by kernel_rfl) (by kernel_rfl)
theorem Oa:u6 L Try.f73 AP.f60=some (AP.f60.body,AP.f60.res):=by kernel_rfl
theorem ON:Fits (73,60):=uZ Try.func73 Oa (by kernel_rfl) (by kernel_rfl)
theorem Ob:u6 L Try.f74 AP.f61=some (AP.f61.body,AP.f61.res):=by kernel_rfl
theorem OP:Fits (74,61):=uZ Try.func74 Ob (by kernel_rfl) (by kernel_rfl)
theorem Oe:u6 L Try.f75 AP.f64=some (AP.f64.body,AP.f64.res):=by kernel_rfl
theorem OS:Fits (75,64):=uZ Try.func75 Oe (by kernel_rfl) (by kernel_rfl)
theorem Of:u6 L Try.f76 AP.f65=some (AP.f65.body,AP.f65.res):=by kernel_rfl
theorem OT:Fits (76,65):=uZ Try.func76 Of (by kernel_rfl) (by kernel_rfl)
theorem Og:u6 L Try.f77 AP.f66=some (AP.f66.body,AP.f66.res):=by kernel_rfl
theorem OU:Fits (77,66):=uZ Try.func77 Og (by kernel_rfl) (by kernel_rfl)
theorem Ou:u6 L Try.f78 AP.f82=some (AP.f82.body,AP.f82.res):=by kernel_rfl
theorem O7:Fits (78,82):=uZ Try.func78 Ou (by kernel_rfl) (by kernel_rfl)
theorem LZ:u6 L Try.f79 AP.f361=some (AP.f361.body,AP.f361.res):=by kernel_rfl
theorem MY:Fits (79,361):=uZ Try.func79 LZ (by kernel_rfl) (by kernel_rfl)
theorem Oj:u6 L Try.f80 AP.f74=some (AP.f74.body,AP.f74.res):=by kernel_rfl
theorem OY:Fits (80,74):=uZ Try.func80 Oj (by kernel_rfl) (by kernel_rfl)
theorem Ok:u6 L Try.f81 AP.f75=some (AP.f75.body,AP.f75.res):=by kernel_rfl
theorem OZ:Fits (81,75):=uZ Try.func81 Ok (by kernel_rfl) (by kernel_rfl)
theorem Ow:u6 L Try.f82 AP.f84=some (AP.f84.body,AP.f84.res):=by kernel_rfl
theorem O9:Fits (82,84):=uZ Try.func82 Ow (by kernel_rfl) (by kernel_rfl)
theorem L4:u6 L Try.f83 AP.f362=some (AP.f362.body,AP.f362.res):=by kernel_rfl
theorem MZ:Fits (83,362):=uZ Try.func83 L4 (by kernel_rfl) (by kernel_rfl)
theorem L6:u6 L Try.f84 AP.f363=some (AP.f363.body,AP.f363.res):=by kernel_rfl
theorem M4:Fits (84,363):=uZ Try.func84 L6 (by kernel_rfl) (by kernel_rfl)
theorem L7:u6 L Try.f85 AP.f364=some (AP.f364.body,AP.f364.res):=by kernel_rfl
theorem M5:Fits (85,364):=uZ Try.func85 L7 (by kernel_rfl) (by kernel_rfl)
theorem L8:u6 L Try.f86 AP.f365=some (AP.f365.body,AP.f365.res):=by kernel_rfl
theorem M6:Fits (86,365):=uZ Try.func86 L8 (by kernel_rfl) (by kernel_rfl)
theorem Oh:u6 L Try.f87 AP.f72=some (AP.f72.body,AP.f72.res):=by kernel_rfl
theorem OW:Fits (87,72):=uZ Try.func87 Oh (by kernel_rfl) (by kernel_rfl)
theorem Oi:u6 L Try.f88 AP.f73=some (AP.f73.body,AP.f73.res):=by kernel_rfl
theorem OX:Fits (88,73):=uZ Try.func88 Oi (by kernel_rfl) (by kernel_rfl)
theorem Oq:u6 L Try.f89 AP.f80=some (AP.f80.body,AP.f80.res):=by kernel_rfl
theorem O5:Fits (89,80):=uZ Try.func89 Oq (by kernel_rfl) (by kernel_rfl)
theorem L9:u6 L Try.f90 AP.f366=some (AP.f366.body,AP.f366.res):=by kernel_rfl
theorem M7:Fits (90,366):=uZ Try.func90 L9 (by kernel_rfl) (by kernel_rfl)
theorem Ma:u6 L Try.f91 AP.f367=some (AP.f367.body,AP.f367.res):=by kernel_rfl
theorem M8:Fits (91,367):=uZ Try.func91 Ma (by kernel_rfl) (by kernel_rfl)
theorem Mb:u6 L Try.f110 AP.f368=some (AP.f368.body,AP.f368.res):=by kernel_rfl
theorem M9:Fits (110,368):=uZ Try.func110 Mb (by kernel_rfl) (by kernel_rfl)
theorem Mc:u6 L Try.f111 AP.f369=some (AP.f369.body,AP.f369.res):=by kernel_rfl
theorem Na:Fits (111,369):=uZ Try.func111 Mc (by kernel_rfl) (by kernel_rfl)
theorem Md:u6 L Try.f112 AP.f370=some (AP.f370.body,AP.f370.res):=by kernel_rfl
theorem Nb:Fits (112,370):=uZ Try.func112 Md (by kernel_rfl) (by kernel_rfl)
theorem Me:u6 L Try.f113 AP.f371=some (AP.f371.body,AP.f371.res):=by kernel_rfl
theorem Nc:Fits (113,371):=uZ Try.func113 Me (by kernel_rfl) (by kernel_rfl)
theorem Ps:∀p∈PN,Fits p:=uW Mo (uW Mp (uW Mq (uW Mr (uW Ms (uW PA (uW Pz (uW Mt (uW Mu (uW Mv (uW Mw (uW Mx (uW My (uW MA (uW MB (uW OH (uW OI (uW MC (uW MD (uW ME (uW MF (uW Oy (uW Oz (uW OA (uW OB (uW MG (uW MH (uW MI (uW MJ (uW MK (uW ML (uW OQ (uW OR (uW MM (uW MN (uW MO (uW O4 (uW MP (uW OC (uW OD (uW OE (uW OG (uW OJ (uW OK (uW MQ (uW MR (uW O6 (uW O0 (uW O2 (uW O3 (uW MS (uW MT (uW MU (uW O8 (uW MV (uW Ml (uW Mn (uW MW (uW MX (uW OL (uW OM (uW ON (uW OP (uW OS (uW OT (uW OU (uW O7 (uW MY (uW OY (uW OZ (uW O9 (uW MZ (uW M4 (uW M5 (uW M6 (uW OW (uW OX (uW O5 (uW M7 (uW M8 (uW M9 (uW Na (uW Nb (uW Nc (It))))))))))))))))))))))))))))))))))))))))))))))))))))))))))))))))))))))))))))))))))))
theorem Kj {T t k:Nat} (hk:k<100000) (hm:∀p∈Pf,p.2=k→p.1=t) (h:mt T=k):T=t:=by
 unfold mt at h
 cases e:Ax Pf T with
 |none=>rw[e]at h;exact absurd (show T+100000=k from h) (by omega)
 |some b=>rw[e]at h;exact hm _ (yj e) h
theorem Pn:∀t k,L.ta t=some k→rj L.P t∧∀T,L.mt T=k→T=t:=by
 intro t k h
 have hm:=yj (show Ax PI t=some k from h)
 simp only[PI,uR,List.not_mem_nil,or_false,uq]at hm
 rcases hm with ⟨rfl,rfl⟩
 · exact⟨⟨.pointer 134,by kernel_rfl,nofun⟩,fun T h=>Kj (by decide) (by decide+kernel) h⟩
theorem Nq {T:Nat} (h:mt T=1):T=136:=by
 unfold mt at h
 cases e:Ax Pf T with
 |none=>rw[e]at h;exact absurd h (by show¬T+100000=1;omega)
 | some b =>
   rw[e]at h
   have h:b=1:=h
   subst h
   have hm:=yj e
   have:∀p∈Pf,p.2=1→p.1=136:=by decide+kernel
   exact this _ hm rfl
theorem Co {P:Program} {T:TypeId} {name:String} {fid:FuncId} {d:Bool} {i:TypeInfo} {el:TypeId} (h1:P.info? T=some i) (h2:(i.methods.find? (·.name==name)).map (fun m=>(m.path,m.func))=some (#[],some (fid, !d))) (h5:P.underlying T=some (.pointer el))
 (h6:d=true→gI P el=some false∧bX P el=some 1):kS P T name fid d:=by
 obtain⟨m,hm,e⟩:=ui.1 h2
 obtain⟨e1,e2⟩:=uj e
 exact⟨i,m,el,h1,hm,e1,e2,h5,h6⟩
theorem Pb:∀name t f d,L.iv name=some (t,f,d)→∀T,L.mt T=t→∃fid,L.mf fid=some f∧kS L.P T name fid d:=by
 intro name t f d h T hT
 have h:(PC.find? fun p=>p.1==name).map (fun p=>((1:Nat),p.2))=some (t,f,d):=h
 rw[ui]at h
 obtain⟨p,hp,e⟩:=h
 obtain⟨rfl,e2⟩:=uj e
 have hn:=List.find?_some hp
 have hm:=List.mem_of_find?_eq_some hp
 obtain rfl:=Nq hT
 obtain rfl:p.1=name:=eq_of_beq hn
 simp only[PC,uR,List.not_mem_nil,or_false]at hm
 rcases hm with rfl|rfl|rfl|rfl|rfl
 · obtain⟨rfl,rfl⟩:=uj e2;exact⟨84,by kernel_rfl,Co (el:=131) Try.type136 (by kernel_rfl) (by kernel_rfl) (fun _=>⟨by kernel_rfl,by kernel_rfl⟩)⟩
 · obtain⟨rfl,rfl⟩:=uj e2;exact⟨110,by kernel_rfl,Co (el:=131) Try.type136 (by kernel_rfl) (by kernel_rfl) (fun _=>⟨by kernel_rfl,by kernel_rfl⟩)⟩
 · obtain⟨rfl,rfl⟩:=uj e2;exact⟨111,by kernel_rfl,Co (el:=131) Try.type136 (by kernel_rfl) (by kernel_rfl) (fun _=>⟨by kernel_rfl,by kernel_rfl⟩)⟩
 · obtain⟨rfl,rfl⟩:=uj e2;exact⟨113,by kernel_rfl,Co (el:=131) Try.type136 (by kernel_rfl) (by kernel_rfl) (fun h=>by cases h)⟩
 · obtain⟨rfl,rfl⟩:=uj e2;exact⟨112,by kernel_rfl,Co (el:=131) Try.type136 (by kernel_rfl) (by kernel_rfl) (fun h=>by cases h)⟩
theorem lk:dV L AP.A:=⟨by kernel_rfl,fun fid f h=>Ps (fid,f) (yj h),Pb,Pn⟩
end Ab.Ln
