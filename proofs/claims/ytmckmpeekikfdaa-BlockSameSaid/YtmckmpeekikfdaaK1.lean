/- Part K1. -/
import Derived.Test.YtmckmpeekikfdaaProg
import Derived.KernelRfl
import Derived.Test.YtmckmpeekikfdaaAP
set_option maxRecDepth 100000
namespace Ab.Ln
open Go Go.Proofs Ab
def u3 (L:Lk) (fn:Func) (af:eO):Option (aF×List RV):=fn.body.bind fun c=>(comp L fn.ntmps c af.body).bind fun x=>(cx L fn.results.toList).bind fun r=>some (x,r)
def Fits (p : Nat × Nat) : Prop := ∃ fn c, L.P.funcs[p.1]? = some fn ∧ fn.body = some c ∧ (fn.name == "runtime.NumGoroutine") = false ∧
    ∀af,AP.A p.2=some af→(∃x0,comp L fn.ntmps c x0=some af.body)∧cx L fn.results.toList=some af.res
theorem uW {k a : Nat} {fn : Func} {af : eO} (h1 : L.P.funcs[k]? = some fn) (h2 : u3 L fn af = some (af.body, af.res)) (h3 : (fn.name == "runtime.NumGoroutine") = false) (h4 : AP.A a = some af) : Fits (k, a) := by
 unfold u3 at h2
 simp only[uc]at h2
 obtain⟨c,g1,x,g2,r,g3,g4⟩:=h2
 obtain⟨rfl,rfl⟩:=uf (ud g4)
 refine⟨fn,c,h1,g1,h3,fun af2 g5=> ?_⟩
 rw[h4]at g5
 obtain rfl:=ud g5
 exact⟨⟨_,g2⟩,g3⟩
theorem xY:∀{l:List (Nat×Nat)} {k f:Nat},Al l k=some f→(k,f)∈l
 |[],_,_,h=>by cases h
 | (i, g) :: r, k, f, h => by
   unfold Al at h
   split at h
   · rename_i e;subst e;obtain rfl:=ud h;exact List.mem_cons_self
   · exact List.mem_cons_of_mem _ (xY h)
theorem Ip:∀p∈([]:List (Nat×Nat)),Fits p:=fun p h=>by cases h
theorem uT {p:Nat×Nat} {l:List (Nat×Nat)} (h1:Fits p) (h2:∀q∈l,Fits q):∀q∈p::l,Fits q:=fun q h=>by
 rcases uO.1 h with rfl|h
 · exact h1
 · exact h2 q h
theorem K5:u3 L Try.f6 AP.f319=some (AP.f319.body,AP.f319.res):=by kernel_rfl
theorem Mf:Fits (6,319):=uW Try.func6 K5 (by kernel_rfl) (by kernel_rfl)
theorem K6:u3 L Try.f9 AP.f324=some (AP.f324.body,AP.f324.res):=by kernel_rfl
theorem Mg:Fits (9,324):=uW Try.func9 K6 (by kernel_rfl) (by kernel_rfl)
theorem K7:u3 L Try.f10 AP.f325=some (AP.f325.body,AP.f325.res):=by kernel_rfl
theorem Mh:Fits (10,325):=uW Try.func10 K7 (by kernel_rfl) (by kernel_rfl)
theorem K8:u3 L Try.f11 AP.f326=some (AP.f326.body,AP.f326.res):=by kernel_rfl
theorem Mi:Fits (11,326):=uW Try.func11 K8 (by kernel_rfl) (by kernel_rfl)
theorem K9:u3 L Try.f12 AP.f327=some (AP.f327.body,AP.f327.res):=by kernel_rfl
theorem Mj:Fits (12,327):=uW Try.func12 K9 (by kernel_rfl) (by kernel_rfl)
theorem Pn:u3 L Try.f13 AP.f9=some (AP.f9.body,AP.f9.res):=by kernel_rfl
theorem Pq:Fits (13,9):=uW Try.func13 Pn (by kernel_rfl) (by kernel_rfl)
theorem Pm:u3 L Try.f14 AP.f7=some (AP.f7.body,AP.f7.res):=by kernel_rfl
theorem Pp:Fits (14,7):=uW Try.func14 Pm (by kernel_rfl) (by kernel_rfl)
theorem La:u3 L Try.f15 AP.f328=some (AP.f328.body,AP.f328.res):=by kernel_rfl
theorem Mk:Fits (15,328):=uW Try.func15 La (by kernel_rfl) (by kernel_rfl)
theorem Lb:u3 L Try.f20 AP.f332=some (AP.f332.body,AP.f332.res):=by kernel_rfl
theorem Ml:Fits (20,332):=uW Try.func20 Lb (by kernel_rfl) (by kernel_rfl)
theorem Ld:u3 L Try.f21 AP.f333=some (AP.f333.body,AP.f333.res):=by kernel_rfl
theorem Mn:Fits (21,333):=uW Try.func21 Ld (by kernel_rfl) (by kernel_rfl)
theorem Le:u3 L Try.f22 AP.f334=some (AP.f334.body,AP.f334.res):=by kernel_rfl
theorem Mo:Fits (22,334):=uW Try.func22 Le (by kernel_rfl) (by kernel_rfl)
theorem Lf:u3 L Try.f23 AP.f335=some (AP.f335.body,AP.f335.res):=by kernel_rfl
theorem Mp:Fits (23,335):=uW Try.func23 Lf (by kernel_rfl) (by kernel_rfl)
theorem Lg:u3 L Try.f24 AP.f336=some (AP.f336.body,AP.f336.res):=by kernel_rfl
theorem Mq:Fits (24,336):=uW Try.func24 Lg (by kernel_rfl) (by kernel_rfl)
theorem Lh:u3 L Try.f25 AP.f337=some (AP.f337.body,AP.f337.res):=by kernel_rfl
theorem Mr:Fits (25,337):=uW Try.func25 Lh (by kernel_rfl) (by kernel_rfl)
theorem Lj:u3 L Try.f26 AP.f338=some (AP.f338.body,AP.f338.res):=by kernel_rfl
theorem Ms:Fits (26,338):=uW Try.func26 Lj (by kernel_rfl) (by kernel_rfl)
theorem NU:u3 L Try.f27 AP.f42=some (AP.f42.body,AP.f42.res):=by kernel_rfl
theorem Ow:Fits (27,42):=uW Try.func27 NU (by kernel_rfl) (by kernel_rfl)
theorem NV:u3 L Try.f28 AP.f43=some (AP.f43.body,AP.f43.res):=by kernel_rfl
theorem Ox:Fits (28,43):=uW Try.func28 NV (by kernel_rfl) (by kernel_rfl)
theorem Ll:u3 L Try.f29 AP.f339=some (AP.f339.body,AP.f339.res):=by kernel_rfl
theorem Mt:Fits (29,339):=uW Try.func29 Ll (by kernel_rfl) (by kernel_rfl)
theorem Lm:u3 L Try.f30 AP.f340=some (AP.f340.body,AP.f340.res):=by kernel_rfl
theorem Mu:Fits (30,340):=uW Try.func30 Lm (by kernel_rfl) (by kernel_rfl)
theorem Lq:u3 L Try.f31 AP.f341=some (AP.f341.body,AP.f341.res):=by kernel_rfl
theorem Mv:Fits (31,341):=uW Try.func31 Lq (by kernel_rfl) (by kernel_rfl)
theorem Lr:u3 L Try.f32 AP.f342=some (AP.f342.body,AP.f342.res):=by kernel_rfl
theorem Mw:Fits (32,342):=uW Try.func32 Lr (by kernel_rfl) (by kernel_rfl)
theorem NM:u3 L Try.f33 AP.f14=some (AP.f14.body,AP.f14.res):=by kernel_rfl
theorem Ol:Fits (33,14):=uW Try.func33 NM (by kernel_rfl) (by kernel_rfl)
theorem NN:u3 L Try.f34 AP.f15=some (AP.f15.body,AP.f15.res):=by kernel_rfl
theorem Om:Fits (34,15):=uW Try.func34 NN (by kernel_rfl) (by kernel_rfl)
theorem NO:u3 L Try.f35 AP.f16=some (AP.f16.body,AP.f16.res):=by kernel_rfl
theorem On:Fits (35,16):=uW Try.func35 NO (by kernel_rfl) (by kernel_rfl)
theorem NP:u3 L Try.f36 AP.f17=some (AP.f17.body,AP.f17.res):=by kernel_rfl
theorem Oo:Fits (36,17):=uW Try.func36 NP (by kernel_rfl) (by kernel_rfl)
theorem Ls:u3 L Try.f37 AP.f343=some (AP.f343.body,AP.f343.res):=by kernel_rfl
theorem Mx:Fits (37,343):=uW Try.func37 Ls (by kernel_rfl) (by kernel_rfl)
theorem Lu:u3 L Try.f38 AP.f344=some (AP.f344.body,AP.f344.res):=by kernel_rfl
theorem My:Fits (38,344):=uW Try.func38 Lu (by kernel_rfl) (by kernel_rfl)
theorem Lv:u3 L Try.f39 AP.f345=some (AP.f345.body,AP.f345.res):=by kernel_rfl
theorem MA:Fits (39,345):=uW Try.func39 Lv (by kernel_rfl) (by kernel_rfl)
theorem Lw:u3 L Try.f40 AP.f346=some (AP.f346.body,AP.f346.res):=by kernel_rfl
theorem MB:Fits (40,346):=uW Try.func40 Lw (by kernel_rfl) (by kernel_rfl)
theorem Lx:u3 L Try.f41 AP.f347=some (AP.f347.body,AP.f347.res):=by kernel_rfl
theorem MC:Fits (41,347):=uW Try.func41 Lx (by kernel_rfl) (by kernel_rfl)
theorem Ly:u3 L Try.f42 AP.f348=some (AP.f348.body,AP.f348.res):=by kernel_rfl
theorem MD:Fits (42,348):=uW Try.func42 Ly (by kernel_rfl) (by kernel_rfl)
theorem N2:u3 L Try.f43 AP.f62=some (AP.f62.body,AP.f62.res):=by kernel_rfl
theorem OE:Fits (43,62):=uW Try.func43 N2 (by kernel_rfl) (by kernel_rfl)
theorem N3:u3 L Try.f44 AP.f63=some (AP.f63.body,AP.f63.res):=by kernel_rfl
theorem OG:Fits (44,63):=uW Try.func44 N3 (by kernel_rfl) (by kernel_rfl)
theorem Lz:u3 L Try.f45 AP.f349=some (AP.f349.body,AP.f349.res):=by kernel_rfl
theorem ME:Fits (45,349):=uW Try.func45 Lz (by kernel_rfl) (by kernel_rfl)
theorem LC:u3 L Try.f46 AP.f350=some (AP.f350.body,AP.f350.res):=by kernel_rfl
theorem MF:Fits (46,350):=uW Try.func46 LC (by kernel_rfl) (by kernel_rfl)
theorem LF:u3 L Try.f47 AP.f351=some (AP.f351.body,AP.f351.res):=by kernel_rfl
theorem MG:Fits (47,351):=uW Try.func47 LF (by kernel_rfl) (by kernel_rfl)
theorem Oe:u3 L Try.f48 AP.f79=some (AP.f79.body,AP.f79.res):=by kernel_rfl
theorem OS:Fits (48,79):=uW Try.func48 Oe (by kernel_rfl) (by kernel_rfl)
theorem LG:u3 L Try.f49 AP.f352=some (AP.f352.body,AP.f352.res):=by kernel_rfl
theorem MH:Fits (49,352):=uW Try.func49 LG (by kernel_rfl) (by kernel_rfl)
theorem NQ:u3 L Try.f50 AP.f38=some (AP.f38.body,AP.f38.res):=by kernel_rfl
theorem Oq:Fits (50,38):=uW Try.func50 NQ (by kernel_rfl) (by kernel_rfl)
theorem NR:u3 L Try.f51 AP.f39=some (AP.f39.body,AP.f39.res):=by kernel_rfl
theorem Ot:Fits (51,39):=uW Try.func51 NR (by kernel_rfl) (by kernel_rfl)
theorem NS:u3 L Try.f52 AP.f40=some (AP.f40.body,AP.f40.res):=by kernel_rfl
theorem Ou:Fits (52,40):=uW Try.func52 NS (by kernel_rfl) (by kernel_rfl)
theorem NT:u3 L Try.f53 AP.f41=some (AP.f41.body,AP.f41.res):=by kernel_rfl
theorem Ov:Fits (53,41):=uW Try.func53 NT (by kernel_rfl) (by kernel_rfl)
theorem NW:u3 L Try.f54 AP.f44=some (AP.f44.body,AP.f44.res):=by kernel_rfl
theorem Oy:Fits (54,44):=uW Try.func54 NW (by kernel_rfl) (by kernel_rfl)
theorem NX:u3 L Try.f55 AP.f45=some (AP.f45.body,AP.f45.res):=by kernel_rfl
theorem Oz:Fits (55,45):=uW Try.func55 NX (by kernel_rfl) (by kernel_rfl)
theorem LH:u3 L Try.f56 AP.f353=some (AP.f353.body,AP.f353.res):=by kernel_rfl
theorem MI:Fits (56,353):=uW Try.func56 LH (by kernel_rfl) (by kernel_rfl)
theorem LJ:u3 L Try.f57 AP.f354=some (AP.f354.body,AP.f354.res):=by kernel_rfl
theorem MJ:Fits (57,354):=uW Try.func57 LJ (by kernel_rfl) (by kernel_rfl)
theorem Og:u3 L Try.f58 AP.f81=some (AP.f81.body,AP.f81.res):=by kernel_rfl
theorem OU:Fits (58,81):=uW Try.func58 Og (by kernel_rfl) (by kernel_rfl)
theorem Ob:u3 L Try.f59 AP.f76=some (AP.f76.body,AP.f76.res):=by kernel_rfl
theorem OP:Fits (59,76):=uW Try.func59 Ob (by kernel_rfl) (by kernel_rfl)
theorem Oc:u3 L Try.f60 AP.f77=some (AP.f77.body,AP.f77.res):=by kernel_rfl
theorem OQ:Fits (60,77):=uW Try.func60 Oc (by kernel_rfl) (by kernel_rfl)
theorem Od:u3 L Try.f61 AP.f78=some (AP.f78.body,AP.f78.res):=by kernel_rfl
theorem OR:Fits (61,78):=uW Try.func61 Od (by kernel_rfl) (by kernel_rfl)
theorem LK:u3 L Try.f62 AP.f355=some (AP.f355.body,AP.f355.res):=by kernel_rfl
theorem MK:Fits (62,355):=uW Try.func62 LK (by kernel_rfl) (by kernel_rfl)
theorem LM:u3 L Try.f63 AP.f356=some (AP.f356.body,AP.f356.res):=by kernel_rfl
theorem ML:Fits (63,356):=uW Try.func63 LM (by kernel_rfl) (by kernel_rfl)
theorem LN:u3 L Try.f64 AP.f357=some (AP.f357.body,AP.f357.res):=by kernel_rfl
theorem MM:Fits (64,357):=uW Try.func64 LN (by kernel_rfl) (by kernel_rfl)
theorem Oi:u3 L Try.f65 AP.f83=some (AP.f83.body,AP.f83.res):=by kernel_rfl
theorem OX:Fits (65,83):=uW Try.func65 Oi (by kernel_rfl) (by kernel_rfl)
theorem LO:u3 L Try.f66 AP.f358=some (AP.f358.body,AP.f358.res):=by kernel_rfl
theorem MN:Fits (66,358):=uW Try.func66 LO (by kernel_rfl) (by kernel_rfl)
theorem K3:u3 L Try.f67 AP.f118=some (AP.f118.body,AP.f118.res):=by kernel_rfl
theorem Md:Fits (67,118):=uW Try.func67 K3 (by kernel_rfl) (by kernel_rfl)
theorem K4:u3 L Try.f68 AP.f189=some (AP.f189.body,AP.f189.res):=by kernel_rfl
theorem Me:Fits (68,189):=uW Try.func68 K4 (by kernel_rfl) (by kernel_rfl)
theorem LP:u3 L Try.f69 AP.f359=some (AP.f359.body,AP.f359.res):=by kernel_rfl
theorem MO:Fits (69,359):=uW Try.func69 LP (by kernel_rfl) (by kernel_rfl)
theorem LQ:u3 L Try.f70 AP.f360=some (AP.f360.body,AP.f360.res):=by kernel_rfl
theorem MP:Fits (70,360):=uW Try.func70 LQ (by kernel_rfl) (by kernel_rfl)
theorem NY:u3 L Try.f71 AP.f58=some (AP.f58.body,AP.f58.res):=by kernel_rfl
theorem OA:Fits (71,58):=uW Try.func71 NY (by kernel_rfl) (by kernel_rfl)
theorem NZ:u3 L Try.f72 AP.f59=some (AP.f59.body,AP.f59.res):=by kernel_rfl
theorem OB:Fits (72,59):=uW Try.func72 NZ (by kernel_rfl) (by kernel_rfl)
theorem N0:u3 L Try.f73 AP.f60=some (AP.f60.body,AP.f60.res):=by kernel_rfl
theorem OC:Fits (73,60):=uW Try.func73 N0 (by kernel_rfl) (by kernel_rfl)
theorem N1:u3 L Try.f74 AP.f61=some (AP.f61.body,AP.f61.res):=by kernel_rfl
theorem OD:Fits (74,61):=uW Try.func74 N1 (by kernel_rfl) (by kernel_rfl)
theorem N4:u3 L Try.f75 AP.f64=some (AP.f64.body,AP.f64.res):=by kernel_rfl
theorem OH:Fits (75,64):=uW Try.func75 N4 (by kernel_rfl) (by kernel_rfl)
theorem N5:u3 L Try.f76 AP.f65=some (AP.f65.body,AP.f65.res):=by kernel_rfl
theorem OI:Fits (76,65):=uW Try.func76 N5 (by kernel_rfl) (by kernel_rfl)
theorem N6:u3 L Try.f77 AP.f66=some (AP.f66.body,AP.f66.res):=by kernel_rfl
theorem OJ:Fits (77,66):=uW Try.func77 N6 (by kernel_rfl) (by kernel_rfl)
theorem Oh:u3 L Try.f78 AP.f82=some (AP.f82.body,AP.f82.res):=by kernel_rfl
theorem OW:Fits (78,82):=uW Try.func78 Oh (by kernel_rfl) (by kernel_rfl)
theorem LR:u3 L Try.f79 AP.f361=some (AP.f361.body,AP.f361.res):=by kernel_rfl
theorem MQ:Fits (79,361):=uW Try.func79 LR (by kernel_rfl) (by kernel_rfl)
theorem N9:u3 L Try.f80 AP.f74=some (AP.f74.body,AP.f74.res):=by kernel_rfl
theorem OM:Fits (80,74):=uW Try.func80 N9 (by kernel_rfl) (by kernel_rfl)
theorem Oa:u3 L Try.f81 AP.f75=some (AP.f75.body,AP.f75.res):=by kernel_rfl
theorem ON:Fits (81,75):=uW Try.func81 Oa (by kernel_rfl) (by kernel_rfl)
theorem Oj:u3 L Try.f82 AP.f84=some (AP.f84.body,AP.f84.res):=by kernel_rfl
theorem OY:Fits (82,84):=uW Try.func82 Oj (by kernel_rfl) (by kernel_rfl)
theorem LS:u3 L Try.f83 AP.f362=some (AP.f362.body,AP.f362.res):=by kernel_rfl
theorem MR:Fits (83,362):=uW Try.func83 LS (by kernel_rfl) (by kernel_rfl)
theorem LU:u3 L Try.f84 AP.f363=some (AP.f363.body,AP.f363.res):=by kernel_rfl
theorem MS:Fits (84,363):=uW Try.func84 LU (by kernel_rfl) (by kernel_rfl)
theorem LV:u3 L Try.f85 AP.f364=some (AP.f364.body,AP.f364.res):=by kernel_rfl
theorem MT:Fits (85,364):=uW Try.func85 LV (by kernel_rfl) (by kernel_rfl)
theorem LW:u3 L Try.f86 AP.f365=some (AP.f365.body,AP.f365.res):=by kernel_rfl
theorem MU:Fits (86,365):=uW Try.func86 LW (by kernel_rfl) (by kernel_rfl)
theorem N7:u3 L Try.f87 AP.f72=some (AP.f72.body,AP.f72.res):=by kernel_rfl
theorem OK:Fits (87,72):=uW Try.func87 N7 (by kernel_rfl) (by kernel_rfl)
theorem N8:u3 L Try.f88 AP.f73=some (AP.f73.body,AP.f73.res):=by kernel_rfl
theorem OL:Fits (88,73):=uW Try.func88 N8 (by kernel_rfl) (by kernel_rfl)
theorem Of:u3 L Try.f89 AP.f80=some (AP.f80.body,AP.f80.res):=by kernel_rfl
theorem OT:Fits (89,80):=uW Try.func89 Of (by kernel_rfl) (by kernel_rfl)
theorem LX:u3 L Try.f90 AP.f366=some (AP.f366.body,AP.f366.res):=by kernel_rfl
theorem MV:Fits (90,366):=uW Try.func90 LX (by kernel_rfl) (by kernel_rfl)
theorem LY:u3 L Try.f91 AP.f367=some (AP.f367.body,AP.f367.res):=by kernel_rfl
theorem MW:Fits (91,367):=uW Try.func91 LY (by kernel_rfl) (by kernel_rfl)
theorem LZ:u3 L Try.f110 AP.f368=some (AP.f368.body,AP.f368.res):=by kernel_rfl
theorem MX:Fits (110,368):=uW Try.func110 LZ (by kernel_rfl) (by kernel_rfl)
theorem L4:u3 L Try.f111 AP.f369=some (AP.f369.body,AP.f369.res):=by kernel_rfl
theorem MY:Fits (111,369):=uW Try.func111 L4 (by kernel_rfl) (by kernel_rfl)
theorem L6:u3 L Try.f112 AP.f370=some (AP.f370.body,AP.f370.res):=by kernel_rfl
theorem MZ:Fits (112,370):=uW Try.func112 L6 (by kernel_rfl) (by kernel_rfl)
theorem L7:u3 L Try.f113 AP.f371=some (AP.f371.body,AP.f371.res):=by kernel_rfl
theorem M4:Fits (113,371):=uW Try.func113 L7 (by kernel_rfl) (by kernel_rfl)
theorem Ph:∀p∈PC,Fits p:=uT Mf (uT Mg (uT Mh (uT Mi (uT Mj (uT Pq (uT Pp (uT Mk (uT Ml (uT Mn (uT Mo (uT Mp (uT Mq (uT Mr (uT Ms (uT Ow (uT Ox (uT Mt (uT Mu (uT Mv (uT Mw (uT Ol (uT Om (uT On (uT Oo (uT Mx (uT My (uT MA (uT MB (uT MC (uT MD (uT OE (uT OG (uT ME (uT MF (uT MG (uT OS (uT MH (uT Oq (uT Ot (uT Ou (uT Ov (uT Oy (uT Oz (uT MI (uT MJ (uT OU (uT OP (uT OQ (uT OR (uT MK (uT ML (uT MM (uT OX (uT MN (uT Md (uT Me (uT MO (uT MP (uT OA (uT OB (uT OC (uT OD (uT OH (uT OI (uT OJ (uT OW (uT MQ (uT OM (uT ON (uT OY (uT MR (uT MS (uT MT (uT MU (uT OK (uT OL (uT OT (uT MV (uT MW (uT MX (uT MY (uT MZ (uT M4 (Ip))))))))))))))))))))))))))))))))))))))))))))))))))))))))))))))))))))))))))))))))))))
theorem Kd {T t k:Nat} (hk:k<100000) (hm:∀p∈O5,p.2=k→p.1=t) (h:mt T=k):T=t:=by
 unfold mt at h
 cases e:Al O5 T with
 |none=>rw[e]at h;exact absurd (show T+100000=k from h) (by omega)
 |some b=>rw[e]at h;exact hm _ (xY e) h
theorem Pc:∀t k,L.ta t=some k→rf L.P t∧∀T,L.mt T=k→T=t:=by
 intro t k h
 have hm:=xY (show Al Px t=some k from h)
 simp only[Px,uO,List.not_mem_nil,or_false,uj]at hm
 rcases hm with ⟨rfl,rfl⟩
 · exact⟨⟨.pointer 134,by kernel_rfl,nofun⟩,fun T h=>Kd (by decide) (by decide+kernel) h⟩
theorem Ni {T:Nat} (h:mt T=1):T=136:=by
 unfold mt at h
 cases e:Al O5 T with
 |none=>rw[e]at h;exact absurd h (by show¬T+100000=1;omega)
 | some b =>
   rw[e]at h
   have h:b=1:=h
   subst h
   have hm:=xY e
   have:∀p∈O5,p.2=1→p.1=136:=by decide+kernel
   exact this _ hm rfl
theorem Ce {P:Program} {T:TypeId} {name:String} {fid:FuncId} {d:Bool} {i:TypeInfo} {el:TypeId} (h1:P.info? T=some i) (h2:(i.methods.find? (·.name==name)).map (fun m=>(m.path,m.func))=some (#[],some (fid, !d))) (h5:P.underlying T=some (.pointer el))
 (h6:d=true→gI P el=some false∧bX P el=some 1):kS P T name fid d:=by
 obtain⟨m,hm,e⟩:=ue.1 h2
 obtain⟨e1,e2⟩:=uf e
 exact⟨i,m,el,h1,hm,e1,e2,h5,h6⟩
theorem O0:∀name t f d,L.iv name=some (t,f,d)→∀T,L.mt T=t→∃fid,L.mf fid=some f∧kS L.P T name fid d:=by
 intro name t f d h T hT
 have h:(Ps.find? fun p=>p.1==name).map (fun p=>((1:Nat),p.2))=some (t,f,d):=h
 rw[ue]at h
 obtain⟨p,hp,e⟩:=h
 obtain⟨rfl,e2⟩:=uf e
 have hn:=List.find?_some hp
 have hm:=List.mem_of_find?_eq_some hp
 obtain rfl:=Ni hT
 obtain rfl:p.1=name:=eq_of_beq hn
 simp only[Ps,uO,List.not_mem_nil,or_false]at hm
 rcases hm with rfl|rfl|rfl|rfl|rfl
 · obtain⟨rfl,rfl⟩:=uf e2;exact⟨84,by kernel_rfl,Ce (el:=131) Try.type136 (by kernel_rfl) (by kernel_rfl) (fun _=>⟨by kernel_rfl,by kernel_rfl⟩)⟩
 · obtain⟨rfl,rfl⟩:=uf e2;exact⟨110,by kernel_rfl,Ce (el:=131) Try.type136 (by kernel_rfl) (by kernel_rfl) (fun _=>⟨by kernel_rfl,by kernel_rfl⟩)⟩
 · obtain⟨rfl,rfl⟩:=uf e2;exact⟨111,by kernel_rfl,Ce (el:=131) Try.type136 (by kernel_rfl) (by kernel_rfl) (fun _=>⟨by kernel_rfl,by kernel_rfl⟩)⟩
 · obtain⟨rfl,rfl⟩:=uf e2;exact⟨113,by kernel_rfl,Ce (el:=131) Try.type136 (by kernel_rfl) (by kernel_rfl) (fun h=>by cases h)⟩
 · obtain⟨rfl,rfl⟩:=uf e2;exact⟨112,by kernel_rfl,Ce (el:=131) Try.type136 (by kernel_rfl) (by kernel_rfl) (fun h=>by cases h)⟩
theorem lk:dV L AP.A:=⟨by kernel_rfl,fun fid f h=>Ph (fid,f) (xY h),O0,Pc⟩
end Ab.Ln
