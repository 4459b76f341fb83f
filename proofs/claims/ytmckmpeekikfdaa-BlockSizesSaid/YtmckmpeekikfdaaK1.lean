/- Part K1. -/
import Derived.Test.YtmckmpeekikfdaaProg
import Derived.KernelRfl
import Derived.Test.YtmckmpeekikfdaaAP
set_option maxRecDepth 100000
namespace Ab.Ln
open Go Go.Proofs Ab
def u4 (L:Lk) (fn:Func) (af:eQ):Option (aF×List RV):=fn.body.bind fun c=>(comp L fn.ntmps c af.body).bind fun x=>(cx L fn.results.toList).bind fun r=>some (x,r)
def Fits (p : Nat × Nat) : Prop := ∃ fn c, L.P.funcs[p.1]? = some fn ∧ fn.body = some c ∧ (fn.name == "runtime.NumGoroutine") = false ∧
    ∀af,AP.A p.2=some af→(∃x0,comp L fn.ntmps c x0=some af.body)∧cx L fn.results.toList=some af.res
theorem uX {k a : Nat} {fn : Func} {af : eQ} (h1 : L.P.funcs[k]? = some fn) (h2 : u4 L fn af = some (af.body, af.res)) (h3 : (fn.name == "runtime.NumGoroutine") = false) (h4 : AP.A a = some af) : Fits (k, a) := by
 unfold u4 at h2
 simp only[ud]at h2
 obtain⟨c,g1,x,g2,r,g3,g4⟩:=h2
 obtain⟨rfl,rfl⟩:=uh (ue g4)
 refine⟨fn,c,h1,g1,h3,fun af2 g5=> ?_⟩
 rw[h4]at g5
 obtain rfl:=ue g5
 exact⟨⟨_,g2⟩,g3⟩
theorem yd:∀{l:List (Nat×Nat)} {k f:Nat},Ao l k=some f→(k,f)∈l
 |[],_,_,h=>by cases h
 | (i, g) :: r, k, f, h => by
   unfold Ao at h
   split at h
   · rename_i e;subst e;obtain rfl:=ue h;exact List.mem_cons_self
   · exact List.mem_cons_of_mem _ (yd h)
theorem Im:∀p∈([]:List (Nat×Nat)),Fits p:=fun p h=>by cases h
theorem uU {p:Nat×Nat} {l:List (Nat×Nat)} (h1:Fits p) (h2:∀q∈l,Fits q):∀q∈p::l,Fits q:=fun q h=>by
 rcases uP.1 h with rfl|h
 · exact h1
 · exact h2 q h
theorem K5:u4 L Try.f5 AP.f318=some (AP.f318.body,AP.f318.res):=by kernel_rfl
theorem Mf:Fits (5,318):=uX Try.func5 K5 (by kernel_rfl) (by kernel_rfl)
theorem K6:u4 L Try.f9 AP.f324=some (AP.f324.body,AP.f324.res):=by kernel_rfl
theorem Mg:Fits (9,324):=uX Try.func9 K6 (by kernel_rfl) (by kernel_rfl)
theorem K7:u4 L Try.f10 AP.f325=some (AP.f325.body,AP.f325.res):=by kernel_rfl
theorem Mh:Fits (10,325):=uX Try.func10 K7 (by kernel_rfl) (by kernel_rfl)
theorem K8:u4 L Try.f11 AP.f326=some (AP.f326.body,AP.f326.res):=by kernel_rfl
theorem Mi:Fits (11,326):=uX Try.func11 K8 (by kernel_rfl) (by kernel_rfl)
theorem K9:u4 L Try.f12 AP.f327=some (AP.f327.body,AP.f327.res):=by kernel_rfl
theorem Mj:Fits (12,327):=uX Try.func12 K9 (by kernel_rfl) (by kernel_rfl)
theorem Po:u4 L Try.f13 AP.f9=some (AP.f9.body,AP.f9.res):=by kernel_rfl
theorem Pr:Fits (13,9):=uX Try.func13 Po (by kernel_rfl) (by kernel_rfl)
theorem Pn:u4 L Try.f14 AP.f7=some (AP.f7.body,AP.f7.res):=by kernel_rfl
theorem Pq:Fits (14,7):=uX Try.func14 Pn (by kernel_rfl) (by kernel_rfl)
theorem La:u4 L Try.f15 AP.f328=some (AP.f328.body,AP.f328.res):=by kernel_rfl
theorem Mk:Fits (15,328):=uX Try.func15 La (by kernel_rfl) (by kernel_rfl)
theorem Lb:u4 L Try.f20 AP.f332=some (AP.f332.body,AP.f332.res):=by kernel_rfl
theorem Ml:Fits (20,332):=uX Try.func20 Lb (by kernel_rfl) (by kernel_rfl)
theorem Ld:u4 L Try.f21 AP.f333=some (AP.f333.body,AP.f333.res):=by kernel_rfl
theorem Mn:Fits (21,333):=uX Try.func21 Ld (by kernel_rfl) (by kernel_rfl)
theorem Le:u4 L Try.f22 AP.f334=some (AP.f334.body,AP.f334.res):=by kernel_rfl
theorem Mo:Fits (22,334):=uX Try.func22 Le (by kernel_rfl) (by kernel_rfl)
theorem Lf:u4 L Try.f23 AP.f335=some (AP.f335.body,AP.f335.res):=by kernel_rfl
theorem Mp:Fits (23,335):=uX Try.func23 Lf (by kernel_rfl) (by kernel_rfl)
theorem Lg:u4 L Try.f24 AP.f336=some (AP.f336.body,AP.f336.res):=by kernel_rfl
theorem Mq:Fits (24,336):=uX Try.func24 Lg (by kernel_rfl) (by kernel_rfl)
theorem Lh:u4 L Try.f25 AP.f337=some (AP.f337.body,AP.f337.res):=by kernel_rfl
theorem Mr:Fits (25,337):=uX Try.func25 Lh (by kernel_rfl) (by kernel_rfl)
theorem Lj:u4 L Try.f26 AP.f338=some (AP.f338.body,AP.f338.res):=by kernel_rfl
theorem Ms:Fits (26,338):=uX Try.func26 Lj (by kernel_rfl) (by kernel_rfl)
theorem NX:u4 L Try.f27 AP.f42=some (AP.f42.body,AP.f42.res):=by kernel_rfl
theorem Oz:Fits (27,42):=uX Try.func27 NX (by kernel_rfl) (by kernel_rfl)
theorem NY:u4 L Try.f28 AP.f43=some (AP.f43.body,AP.f43.res):=by kernel_rfl
theorem OA:Fits (28,43):=uX Try.func28 NY (by kernel_rfl) (by kernel_rfl)
theorem Ll:u4 L Try.f29 AP.f339=some (AP.f339.body,AP.f339.res):=by kernel_rfl
theorem Mt:Fits (29,339):=uX Try.func29 Ll (by kernel_rfl) (by kernel_rfl)
theorem Lm:u4 L Try.f30 AP.f340=some (AP.f340.body,AP.f340.res):=by kernel_rfl
theorem Mu:Fits (30,340):=uX Try.func30 Lm (by kernel_rfl) (by kernel_rfl)
theorem Lq:u4 L Try.f31 AP.f341=some (AP.f341.body,AP.f341.res):=by kernel_rfl
theorem Mv:Fits (31,341):=uX Try.func31 Lq (by kernel_rfl) (by kernel_rfl)
theorem Lr:u4 L Try.f32 AP.f342=some (AP.f342.body,AP.f342.res):=by kernel_rfl
theorem Mw:Fits (32,342):=uX Try.func32 Lr (by kernel_rfl) (by kernel_rfl)
theorem NP:u4 L Try.f33 AP.f14=some (AP.f14.body,AP.f14.res):=by kernel_rfl
theorem Oo:Fits (33,14):=uX Try.func33 NP (by kernel_rfl) (by kernel_rfl)
theorem NQ:u4 L Try.f34 AP.f15=some (AP.f15.body,AP.f15.res):=by kernel_rfl
theorem Oq:Fits (34,15):=uX Try.func34 NQ (by kernel_rfl) (by kernel_rfl)
theorem NR:u4 L Try.f35 AP.f16=some (AP.f16.body,AP.f16.res):=by kernel_rfl
theorem Ot:Fits (35,16):=uX Try.func35 NR (by kernel_rfl) (by kernel_rfl)
theorem NS:u4 L Try.f36 AP.f17=some (AP.f17.body,AP.f17.res):=by kernel_rfl
theorem Ou:Fits (36,17):=uX Try.func36 NS (by kernel_rfl) (by kernel_rfl)
theorem Ls:u4 L Try.f37 AP.f343=some (AP.f343.body,AP.f343.res):=by kernel_rfl
theorem Mx:Fits (37,343):=uX Try.func37 Ls (by kernel_rfl) (by kernel_rfl)
theorem Lu:u4 L Try.f38 AP.f344=some (AP.f344.body,AP.f344.res):=by kernel_rfl
theorem My:Fits (38,344):=uX Try.func38 Lu (by kernel_rfl) (by kernel_rfl)
theorem Lv:u4 L Try.f39 AP.f345=some (AP.f345.body,AP.f345.res):=by kernel_rfl
theorem MA:Fits (39,345):=uX Try.func39 Lv (by kernel_rfl) (by kernel_rfl)
theorem Lw:u4 L Try.f40 AP.f346=some (AP.f346.body,AP.f346.res):=by kernel_rfl
theorem MB:Fits (40,346):=uX Try.func40 Lw (by kernel_rfl) (by kernel_rfl)
theorem Lx:u4 L Try.f41 AP.f347=some (AP.f347.body,AP.f347.res):=by kernel_rfl
theorem MC:Fits (41,347):=uX Try.func41 Lx (by kernel_rfl) (by kernel_rfl)
theorem Ly:u4 L Try.f42 AP.f348=some (AP.f348.body,AP.f348.res):=by kernel_rfl
theorem MD:Fits (42,348):=uX Try.func42 Ly (by kernel_rfl) (by kernel_rfl)
theorem N5:u4 L Try.f43 AP.f62=some (AP.f62.body,AP.f62.res):=by kernel_rfl
theorem OI:Fits (43,62):=uX Try.func43 N5 (by kernel_rfl) (by kernel_rfl)
theorem N6:u4 L Try.f44 AP.f63=some (AP.f63.body,AP.f63.res):=by kernel_rfl
theorem OJ:Fits (44,63):=uX Try.func44 N6 (by kernel_rfl) (by kernel_rfl)
theorem Lz:u4 L Try.f45 AP.f349=some (AP.f349.body,AP.f349.res):=by kernel_rfl
theorem ME:Fits (45,349):=uX Try.func45 Lz (by kernel_rfl) (by kernel_rfl)
theorem LC:u4 L Try.f46 AP.f350=some (AP.f350.body,AP.f350.res):=by kernel_rfl
theorem MF:Fits (46,350):=uX Try.func46 LC (by kernel_rfl) (by kernel_rfl)
theorem LF:u4 L Try.f47 AP.f351=some (AP.f351.body,AP.f351.res):=by kernel_rfl
theorem MG:Fits (47,351):=uX Try.func47 LF (by kernel_rfl) (by kernel_rfl)
theorem Oh:u4 L Try.f48 AP.f79=some (AP.f79.body,AP.f79.res):=by kernel_rfl
theorem OW:Fits (48,79):=uX Try.func48 Oh (by kernel_rfl) (by kernel_rfl)
theorem LG:u4 L Try.f49 AP.f352=some (AP.f352.body,AP.f352.res):=by kernel_rfl
theorem MH:Fits (49,352):=uX Try.func49 LG (by kernel_rfl) (by kernel_rfl)
theorem NT:u4 L Try.f50 AP.f38=some (AP.f38.body,AP.f38.res):=by kernel_rfl
theorem Ov:Fits (50,38):=uX Try.func50 NT (by kernel_rfl) (by kernel_rfl)
theorem NU:u4 L Try.f51 AP.f39=some (AP.f39.body,AP.f39.res):=by kernel_rfl
theorem Ow:Fits (51,39):=uX Try.func51 NU (by kernel_rfl) (by kernel_rfl)
theorem NV:u4 L Try.f52 AP.f40=some (AP.f40.body,AP.f40.res):=by kernel_rfl
theorem Ox:Fits (52,40):=uX Try.func52 NV (by kernel_rfl) (by kernel_rfl)
theorem NW:u4 L Try.f53 AP.f41=some (AP.f41.body,AP.f41.res):=by kernel_rfl
theorem Oy:Fits (53,41):=uX Try.func53 NW (by kernel_rfl) (by kernel_rfl)
theorem NZ:u4 L Try.f54 AP.f44=some (AP.f44.body,AP.f44.res):=by kernel_rfl
theorem OB:Fits (54,44):=uX Try.func54 NZ (by kernel_rfl) (by kernel_rfl)
theorem N0:u4 L Try.f55 AP.f45=some (AP.f45.body,AP.f45.res):=by kernel_rfl
theorem OC:Fits (55,45):=uX Try.func55 N0 (by kernel_rfl) (by kernel_rfl)
theorem LH:u4 L Try.f56 AP.f353=some (AP.f353.body,AP.f353.res):=by kernel_rfl
theorem MI:Fits (56,353):=uX Try.func56 LH (by kernel_rfl) (by kernel_rfl)
theorem LJ:u4 L Try.f57 AP.f354=some (AP.f354.body,AP.f354.res):=by kernel_rfl
theorem MJ:Fits (57,354):=uX Try.func57 LJ (by kernel_rfl) (by kernel_rfl)
theorem Oj:u4 L Try.f58 AP.f81=some (AP.f81.body,AP.f81.res):=by kernel_rfl
theorem OY:Fits (58,81):=uX Try.func58 Oj (by kernel_rfl) (by kernel_rfl)
theorem Oe:u4 L Try.f59 AP.f76=some (AP.f76.body,AP.f76.res):=by kernel_rfl
theorem OS:Fits (59,76):=uX Try.func59 Oe (by kernel_rfl) (by kernel_rfl)
theorem Of:u4 L Try.f60 AP.f77=some (AP.f77.body,AP.f77.res):=by kernel_rfl
theorem OT:Fits (60,77):=uX Try.func60 Of (by kernel_rfl) (by kernel_rfl)
theorem Og:u4 L Try.f61 AP.f78=some (AP.f78.body,AP.f78.res):=by kernel_rfl
theorem OU:Fits (61,78):=uX Try.func61 Og (by kernel_rfl) (by kernel_rfl)
theorem LK:u4 L Try.f62 AP.f355=some (AP.f355.body,AP.f355.res):=by kernel_rfl
theorem MK:Fits (62,355):=uX Try.func62 LK (by kernel_rfl) (by kernel_rfl)
theorem LM:u4 L Try.f63 AP.f356=some (AP.f356.body,AP.f356.res):=by kernel_rfl
theorem ML:Fits (63,356):=uX Try.func63 LM (by kernel_rfl) (by kernel_rfl)
theorem LN:u4 L Try.f64 AP.f357=some (AP.f357.body,AP.f357.res):=by kernel_rfl
theorem MM:Fits (64,357):=uX Try.func64 LN (by kernel_rfl) (by kernel_rfl)
theorem Ol:u4 L Try.f65 AP.f83=some (AP.f83.body,AP.f83.res):=by kernel_rfl
theorem O0:Fits (65,83):=uX Try.func65 Ol (by kernel_rfl) (by kernel_rfl)
theorem LO:u4 L Try.f66 AP.f358=some (AP.f358.body,AP.f358.res):=by kernel_rfl
theorem MN:Fits (66,358):=uX Try.func66 LO (by kernel_rfl) (by kernel_rfl)
theorem K3:u4 L Try.f67 AP.f118=some (AP.f118.body,AP.f118.res):=by kernel_rfl
theorem Md:Fits (67,118):=uX Try.func67 K3 (by kernel_rfl) (by kernel_rfl)
theorem K4:u4 L Try.f68 AP.f189=some (AP.f189.body,AP.f189.res):=by kernel_rfl
theorem Me:Fits (68,189):=uX Try.func68 K4 (by kernel_rfl) (by kernel_rfl)
theorem LP:u4 L Try.f69 AP.f359=some (AP.f359.body,AP.f359.res):=by kernel_rfl
theorem MO:Fits (69,359):=uX Try.func69 LP (by kernel_rfl) (by kernel_rfl)
theorem LQ:u4 L Try.f70 AP.f360=some (AP.f360.body,AP.f360.res):=by kernel_rfl
theorem MP:Fits (70,360):=uX Try.func70 LQ (by kernel_rfl) (by kernel_rfl)
theorem N1:u4 L Try.f71 AP.f58=some (AP.f58.body,AP.f58.res):=by kernel_rfl
theorem OD:Fits (71,58):=uX Try.func71 N1 (by kernel_rfl) (by kernel_rfl)
theorem N2:u4 L Try.f72 AP.f59=some (AP.f59.body,AP.f59.res):=by kernel_rfl
theorem OE:Fits (72,59):=uX Try.func72 N2 (by kernel_rfl) (by kernel_rfl)
theorem N3:u4 L Try.f73 AP.f60=some (AP.f60.body,AP.f60.res):=by kernel_rfl
theorem OG:Fits (73,60):=uX Try.func73 N3 (by kernel_rfl) (by kernel_rfl)
theorem N4:u4 L Try.f74 AP.f61=some (AP.f61.body,AP.f61.res):=by kernel_rfl
theorem OH:Fits (74,61):=uX Try.func74 N4 (by kernel_rfl) (by kernel_rfl)
theorem N7:u4 L Try.f75 AP.f64=some (AP.f64.body,AP.f64.res):=by kernel_rfl
theorem OK:Fits (75,64):=uX Try.func75 N7 (by kernel_rfl) (by kernel_rfl)
theorem N8:u4 L Try.f76 AP.f65=some (AP.f65.body,AP.f65.res):=by kernel_rfl
theorem OL:Fits (76,65):=uX Try.func76 N8 (by kernel_rfl) (by kernel_rfl)
theorem N9:u4 L Try.f77 AP.f66=some (AP.f66.body,AP.f66.res):=by kernel_rfl
theorem OM:Fits (77,66):=uX Try.func77 N9 (by kernel_rfl) (by kernel_rfl)
theorem Ok:u4 L Try.f78 AP.f82=some (AP.f82.body,AP.f82.res):=by kernel_rfl
theorem OZ:Fits (78,82):=uX Try.func78 Ok (by kernel_rfl) (by kernel_rfl)
theorem LR:u4 L Try.f79 AP.f361=some (AP.f361.body,AP.f361.res):=by kernel_rfl
theorem MQ:Fits (79,361):=uX Try.func79 LR (by kernel_rfl) (by kernel_rfl)
theorem Oc:u4 L Try.f80 AP.f74=some (AP.f74.body,AP.f74.res):=by kernel_rfl
theorem OQ:Fits (80,74):=uX Try.func80 Oc (by kernel_rfl) (by kernel_rfl)
theorem Od:u4 L Try.f81 AP.f75=some (AP.f75.body,AP.f75.res):=by kernel_rfl
theorem OR:Fits (81,75):=uX Try.func81 Od (by kernel_rfl) (by kernel_rfl)
theorem Om:u4 L Try.f82 AP.f84=some (AP.f84.body,AP.f84.res):=by kernel_rfl
theorem O2:Fits (82,84):=uX Try.func82 Om (by kernel_rfl) (by kernel_rfl)
theorem LS:u4 L Try.f83 AP.f362=some (AP.f362.body,AP.f362.res):=by kernel_rfl
theorem MR:Fits (83,362):=uX Try.func83 LS (by kernel_rfl) (by kernel_rfl)
theorem LU:u4 L Try.f84 AP.f363=some (AP.f363.body,AP.f363.res):=by kernel_rfl
theorem MS:Fits (84,363):=uX Try.func84 LU (by kernel_rfl) (by kernel_rfl)
theorem LV:u4 L Try.f85 AP.f364=some (AP.f364.body,AP.f364.res):=by kernel_rfl
theorem MT:Fits (85,364):=uX Try.func85 LV (by kernel_rfl) (by kernel_rfl)
theorem LW:u4 L Try.f86 AP.f365=some (AP.f365.body,AP.f365.res):=by kernel_rfl
theorem MU:Fits (86,365):=uX Try.func86 LW (by kernel_rfl) (by kernel_rfl)
theorem Oa:u4 L Try.f87 AP.f72=some (AP.f72.body,AP.f72.res):=by kernel_rfl
theorem ON:Fits (87,72):=uX Try.func87 Oa (by kernel_rfl) (by kernel_rfl)
theorem Ob:u4 L Try.f88 AP.f73=some (AP.f73.body,AP.f73.res):=by kernel_rfl
theorem OP:Fits (88,73):=uX Try.func88 Ob (by kernel_rfl) (by kernel_rfl)
theorem Oi:u4 L Try.f89 AP.f80=some (AP.f80.body,AP.f80.res):=by kernel_rfl
theorem OX:Fits (89,80):=uX Try.func89 Oi (by kernel_rfl) (by kernel_rfl)
theorem LX:u4 L Try.f90 AP.f366=some (AP.f366.body,AP.f366.res):=by kernel_rfl
theorem MV:Fits (90,366):=uX Try.func90 LX (by kernel_rfl) (by kernel_rfl)
theorem LY:u4 L Try.f91 AP.f367=some (AP.f367.body,AP.f367.res):=by kernel_rfl
theorem MW:Fits (91,367):=uX Try.func91 LY (by kernel_rfl) (by kernel_rfl)
theorem LZ:u4 L Try.f110 AP.f368=some (AP.f368.body,AP.f368.res):=by kernel_rfl
theorem MX:Fits (110,368):=uX Try.func110 LZ (by kernel_rfl) (by kernel_rfl)
theorem L4:u4 L Try.f111 AP.f369=some (AP.f369.body,AP.f369.res):=by kernel_rfl
theorem MY:Fits (111,369):=uX Try.func111 L4 (by kernel_rfl) (by kernel_rfl)
theorem L6:u4 L Try.f112 AP.f370=some (AP.f370.body,AP.f370.res):=by kernel_rfl
theorem MZ:Fits (112,370):=uX Try.func112 L6 (by kernel_rfl) (by kernel_rfl)
theorem L7:u4 L Try.f113 AP.f371=some (AP.f371.body,AP.f371.res):=by kernel_rfl
theorem M4:Fits (113,371):=uX Try.func113 L7 (by kernel_rfl) (by kernel_rfl)
theorem Pj:∀p∈PF,Fits p:=uU Mf (uU Mg (uU Mh (uU Mi (uU Mj (uU Pr (uU Pq (uU Mk (uU Ml (uU Mn (uU Mo (uU Mp (uU Mq (uU Mr (uU Ms (uU Oz (uU OA (uU Mt (uU Mu (uU Mv (uU Mw (uU Oo (uU Oq (uU Ot (uU Ou (uU Mx (uU My (uU MA (uU MB (uU MC (uU MD (uU OI (uU OJ (uU ME (uU MF (uU MG (uU OW (uU MH (uU Ov (uU Ow (uU Ox (uU Oy (uU OB (uU OC (uU MI (uU MJ (uU OY (uU OS (uU OT (uU OU (uU MK (uU ML (uU MM (uU O0 (uU MN (uU Md (uU Me (uU MO (uU MP (uU OD (uU OE (uU OG (uU OH (uU OK (uU OL (uU OM (uU OZ (uU MQ (uU OQ (uU OR (uU O2 (uU MR (uU MS (uU MT (uU MU (uU ON (uU OP (uU OX (uU MV (uU MW (uU MX (uU MY (uU MZ (uU M4 (Im))))))))))))))))))))))))))))))))))))))))))))))))))))))))))))))))))))))))))))))))))))
theorem Kg {T t k:Nat} (hk:k<100000) (hm:∀p∈O8,p.2=k→p.1=t) (h:mt T=k):T=t:=by
 unfold mt at h
 cases e:Ao O8 T with
 |none=>rw[e]at h;exact absurd (show T+100000=k from h) (by omega)
 |some b=>rw[e]at h;exact hm _ (yd e) h
theorem Pe:∀t k,L.ta t=some k→rh L.P t∧∀T,L.mt T=k→T=t:=by
 intro t k h
 have hm:=yd (show Ao Pz t=some k from h)
 simp only[Pz,uP,List.not_mem_nil,or_false,um]at hm
 rcases hm with ⟨rfl,rfl⟩
 · exact⟨⟨.pointer 134,by kernel_rfl,nofun⟩,fun T h=>Kg (by decide) (by decide+kernel) h⟩
theorem Ni {T:Nat} (h:mt T=1):T=136:=by
 unfold mt at h
 cases e:Ao O8 T with
 |none=>rw[e]at h;exact absurd h (by show¬T+100000=1;omega)
 | some b =>
   rw[e]at h
   have h:b=1:=h
   subst h
   have hm:=yd e
   have:∀p∈O8,p.2=1→p.1=136:=by decide+kernel
   exact this _ hm rfl
theorem Ce {P:Program} {T:TypeId} {name:String} {fid:FuncId} {d:Bool} {i:TypeInfo} {el:TypeId} (h1:P.info? T=some i) (h2:(i.methods.find? (·.name==name)).map (fun m=>(m.path,m.func))=some (#[],some (fid, !d))) (h5:P.underlying T=some (.pointer el))
 (h6:d=true→gJ P el=some false∧bX P el=some 1):kT P T name fid d:=by
 obtain⟨m,hm,e⟩:=uf.1 h2
 obtain⟨e1,e2⟩:=uh e
 exact⟨i,m,el,h1,hm,e1,e2,h5,h6⟩
theorem O4:∀name t f d,L.iv name=some (t,f,d)→∀T,L.mt T=t→∃fid,L.mf fid=some f∧kT L.P T name fid d:=by
 intro name t f d h T hT
 have h:(Pu.find? fun p=>p.1==name).map (fun p=>((1:Nat),p.2))=some (t,f,d):=h
 rw[uf]at h
 obtain⟨p,hp,e⟩:=h
 obtain⟨rfl,e2⟩:=uh e
 have hn:=List.find?_some hp
 have hm:=List.mem_of_find?_eq_some hp
 obtain rfl:=Ni hT
 obtain rfl:p.1=name:=eq_of_beq hn
 simp only[Pu,uP,List.not_mem_nil,or_false]at hm
 rcases hm with rfl|rfl|rfl|rfl|rfl
 · obtain⟨rfl,rfl⟩:=uh e2;exact⟨84,by kernel_rfl,Ce (el:=131) Try.type136 (by kernel_rfl) (by kernel_rfl) (fun _=>⟨by kernel_rfl,by kernel_rfl⟩)⟩
 · obtain⟨rfl,rfl⟩:=uh e2;exact⟨110,by kernel_rfl,Ce (el:=131) Try.type136 (by kernel_rfl) (by kernel_rfl) (fun _=>⟨by kernel_rfl,by kernel_rfl⟩)⟩
 · obtain⟨rfl,rfl⟩:=uh e2;exact⟨111,by kernel_rfl,Ce (el:=131) Try.type136 (by kernel_rfl) (by kernel_rfl) (fun _=>⟨by kernel_rfl,by kernel_rfl⟩)⟩
 · obtain⟨rfl,rfl⟩:=uh e2;exact⟨113,by kernel_rfl,Ce (el:=131) Try.type136 (by kernel_rfl) (by kernel_rfl) (fun h=>by cases h)⟩
 · obtain⟨rfl,rfl⟩:=uh e2;exact⟨112,by kernel_rfl,Ce (el:=131) Try.type136 (by kernel_rfl) (by kernel_rfl) (fun h=>by cases h)⟩
theorem lk:dV L AP.A:=⟨by kernel_rfl,fun fid f h=>Pj (fid,f) (yd h),O4,Pe⟩
end Ab.Ln
