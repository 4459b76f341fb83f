/- Part K1. -/
import Derived.Test.YtlnpoabdcheleaaGreatDoorProg
import Derived.KernelRfl
import Derived.Test.YtlnpoabdcheleaaGreatDoorAP
namespace Ab.Ln
open Go Go.Proofs Ab
def Gu : List (Nat × Nat) → Nat → Option Nat
 | [], _ => none
 | (i, f) :: r, k => if i = k then some f else Gu r k
def xU (L : Lk) (fn : Func) (af : fT) : Option (aI × List RV) := fn.body.bind fun c => (comp L fn.ntmps c af.body).bind fun x => (dj L fn.results.toList).bind fun r => some (x, r)
def TD : List (Nat × Nat) := [(3, 193), (6, 196), (7, 150), (8, 177), (9, 197), (10, 181), (11, 198), (12, 178), (13, 199), (14, 106), (15, 9), (16, 182), (17, 179), (18, 200), (19, 168), (20, 201), (21, 202), (22, 153), (23, 176), (24, 180), (26, 204), (27, 159), (28, 183), (29, 91), (30, 93), (31, 205), (32, 151), (33, 152), (34, 184), (35, 185), (36, 118), (37, 206), (38, 115), (39, 101), (40, 207), (41, 173), (47, 92), (48, 186), (49, 187), (50, 188), (51, 96), (52, 102), (53, 103), (54, 104), (55, 105), (56, 212), (57, 213), (58, 157), (59, 160), (60, 161), (61, 162), (62, 189), (63, 111), (64, 98), (68, 190), (69, 191), (70, 107), (71, 112), (72, 167), (73, 164), (74, 169), (75, 172), (81, 113), (82, 192), (83, 114), (84, 117), (85, 119), (86, 120), (87, 8), (94, 22), (95, 23), (101, 32), (103, 121), (104, 122), (105, 7), (106, 83), (107, 123), (108, 18), (109, 19), (110, 20), (111, 21), (112, 24), (113, 25), (116, 52), (117, 50), (118, 51), (120, 124), (121, 14), (122, 15), (123, 16), (124, 17), (125, 84), (126, 46), (127, 47), (128, 48), (129, 49), (130, 53), (131, 54), (133, 67), (134, 68), (137, 125), (138, 126), (139, 127), (140, 128), (141, 129), (142, 130), (143, 131), (144, 38), (145, 39), (146, 40), (147, 41), (148, 42), (149, 43), (150, 44), (151, 45), (152, 132), (153, 133), (154, 134), (155, 135), (156, 58), (157, 59), (158, 60), (159, 61), (160, 62), (161, 63), (162, 64), (163, 65), (164, 66), (167, 138), (168, 72), (169, 73), (170, 74), (171, 75), (172, 76), (173, 77), (174, 78), (175, 79), (176, 80), (177, 81), (178, 139), (179, 140), (180, 141), (182, 82), (165, 136), (166, 137), (183, 143)]
def TJ : List (Nat × Nat) := [(9, 0)]
def mf (k : Nat) : Option Nat := Gu TD k
def mt (k : Nat) : Nat := (Gu TJ k).getD (k + 100000)
def iv (_ : String) : Option (Nat × Nat × Bool) := none
noncomputable def L : Lk := ⟨Tryz.prog, mf, mt, iv⟩
def Fits (p : Nat × Nat) : Prop := ∃ fn c, L.P.funcs[p.1]? = some fn ∧ fn.body = some c ∧ (fn.name == "runtime.NumGoroutine") = false ∧
    ∀ af, AP.A p.2 = some af → (∃ x0, comp L fn.ntmps c x0 = some af.body) ∧ dj L fn.results.toList = some af.res
theorem xS {k a : Nat} {fn : Func} {af : fT} (h1 : L.P.funcs[k]? = some fn) (h2 : xU L fn af = some (af.body, af.res)) (h3 : (fn.name == "runtime.NumGoroutine") = false) (h4 : AP.A a = some af) : Fits (k, a) := by
 unfold xU at h2
 simp only [wT] at h2
 obtain ⟨c, g1, x, g2, r, g3, g4⟩ := h2
 obtain ⟨rfl, rfl⟩ := wW (wU g4)
 refine ⟨fn, c, h1, g1, h3, fun af2 g5 => ?_⟩
 rw [h4] at g5
 obtain rfl := wU g5
 exact ⟨⟨_, g2⟩, g3⟩
theorem ET : ∀ {l : List (Nat × Nat)} {k f : Nat}, Gu l k = some f → (k, f) ∈ l
 | [], _, _, h => by cases h
 | (i, g) :: r, k, f, h => by
   unfold Gu at h
   split at h
   · rename_i e; subst e; obtain rfl := wU h; exact List.mem_cons_self
   · exact List.mem_cons_of_mem _ (ET h)
theorem Jx : ∀ p ∈ ([] : List (Nat × Nat)), Fits p := fun p h => by cases h
theorem xQ {p : Nat × Nat} {l : List (Nat × Nat)} (h1 : Fits p) (h2 : ∀ q ∈ l, Fits q) : ∀ q ∈ p :: l, Fits q := fun q h => by
 rcases xK.1 h with rfl | h
 · exact h1
 · exact h2 q h
theorem NU : xU L Tryz.f3 AP.f193 = some (AP.f193.body, AP.f193.res) := by kernel_rfl
theorem PH : Fits (3, 193) := xS Tryz.func3 NU (by kernel_rfl) (by kernel_rfl)
theorem NV : xU L Tryz.f6 AP.f196 = some (AP.f196.body, AP.f196.res) := by kernel_rfl
theorem PI : Fits (6, 196) := xS Tryz.func6 NV (by kernel_rfl) (by kernel_rfl)
theorem Nl : xU L Tryz.f7 AP.f150 = some (AP.f150.body, AP.f150.res) := by kernel_rfl
theorem O4 : Fits (7, 150) := xS Tryz.func7 Nl (by kernel_rfl) (by kernel_rfl)
theorem ND : xU L Tryz.f8 AP.f177 = some (AP.f177.body, AP.f177.res) := by kernel_rfl
theorem Pm : Fits (8, 177) := xS Tryz.func8 ND (by kernel_rfl) (by kernel_rfl)
theorem NW : xU L Tryz.f9 AP.f197 = some (AP.f197.body, AP.f197.res) := by kernel_rfl
theorem PJ : Fits (9, 197) := xS Tryz.func9 NW (by kernel_rfl) (by kernel_rfl)
theorem NI : xU L Tryz.f10 AP.f181 = some (AP.f181.body, AP.f181.res) := by kernel_rfl
theorem Pq : Fits (10, 181) := xS Tryz.func10 NI (by kernel_rfl) (by kernel_rfl)
theorem NX : xU L Tryz.f11 AP.f198 = some (AP.f198.body, AP.f198.res) := by kernel_rfl
theorem PK : Fits (11, 198) := xS Tryz.func11 NX (by kernel_rfl) (by kernel_rfl)
theorem NF : xU L Tryz.f12 AP.f178 = some (AP.f178.body, AP.f178.res) := by kernel_rfl
theorem Pn : Fits (12, 178) := xS Tryz.func12 NF (by kernel_rfl) (by kernel_rfl)
theorem NY : xU L Tryz.f13 AP.f199 = some (AP.f199.body, AP.f199.res) := by kernel_rfl
theorem PL : Fits (13, 199) := xS Tryz.func13 NY (by kernel_rfl) (by kernel_rfl)
theorem MI : xU L Tryz.f14 AP.f106 = some (AP.f106.body, AP.f106.res) := by kernel_rfl
theorem Ol : Fits (14, 106) := xS Tryz.func14 MI (by kernel_rfl) (by kernel_rfl)
theorem Tm : xU L Tryz.f15 AP.f9 = some (AP.f9.body, AP.f9.res) := by kernel_rfl
theorem Tq : Fits (15, 9) := xS Tryz.func15 Tm (by kernel_rfl) (by kernel_rfl)
theorem NJ : xU L Tryz.f16 AP.f182 = some (AP.f182.body, AP.f182.res) := by kernel_rfl
theorem Pr : Fits (16, 182) := xS Tryz.func16 NJ (by kernel_rfl) (by kernel_rfl)
theorem NG : xU L Tryz.f17 AP.f179 = some (AP.f179.body, AP.f179.res) := by kernel_rfl
theorem Po : Fits (17, 179) := xS Tryz.func17 NG (by kernel_rfl) (by kernel_rfl)
theorem NZ : xU L Tryz.f18 AP.f200 = some (AP.f200.body, AP.f200.res) := by kernel_rfl
theorem PM : Fits (18, 200) := xS Tryz.func18 NZ (by kernel_rfl) (by kernel_rfl)
theorem Ny : xU L Tryz.f19 AP.f168 = some (AP.f168.body, AP.f168.res) := by kernel_rfl
theorem Pf : Fits (19, 168) := xS Tryz.func19 Ny (by kernel_rfl) (by kernel_rfl)
theorem N0 : xU L Tryz.f20 AP.f201 = some (AP.f201.body, AP.f201.res) := by kernel_rfl
theorem PN : Fits (20, 201) := xS Tryz.func20 N0 (by kernel_rfl) (by kernel_rfl)
theorem N1 : xU L Tryz.f21 AP.f202 = some (AP.f202.body, AP.f202.res) := by kernel_rfl
theorem PO : Fits (21, 202) := xS Tryz.func21 N1 (by kernel_rfl) (by kernel_rfl)
theorem Nq : xU L Tryz.f22 AP.f153 = some (AP.f153.body, AP.f153.res) := by kernel_rfl
theorem O7 : Fits (22, 153) := xS Tryz.func22 Nq (by kernel_rfl) (by kernel_rfl)
theorem NC : xU L Tryz.f23 AP.f176 = some (AP.f176.body, AP.f176.res) := by kernel_rfl
theorem Pl : Fits (23, 176) := xS Tryz.func23 NC (by kernel_rfl) (by kernel_rfl)
theorem NH : xU L Tryz.f24 AP.f180 = some (AP.f180.body, AP.f180.res) := by kernel_rfl
theorem Pp : Fits (24, 180) := xS Tryz.func24 NH (by kernel_rfl) (by kernel_rfl)
theorem N2 : xU L Tryz.f26 AP.f204 = some (AP.f204.body, AP.f204.res) := by kernel_rfl
theorem PQ : Fits (26, 204) := xS Tryz.func26 N2 (by kernel_rfl) (by kernel_rfl)
theorem Ns : xU L Tryz.f27 AP.f159 = some (AP.f159.body, AP.f159.res) := by kernel_rfl
theorem O9 : Fits (27, 159) := xS Tryz.func27 Ns (by kernel_rfl) (by kernel_rfl)
theorem NK : xU L Tryz.f28 AP.f183 = some (AP.f183.body, AP.f183.res) := by kernel_rfl
theorem Ps : Fits (28, 183) := xS Tryz.func28 NK (by kernel_rfl) (by kernel_rfl)
theorem RE : xU L Tryz.f29 AP.f91 = some (AP.f91.body, AP.f91.res) := by kernel_rfl
theorem SP : Fits (29, 91) := xS Tryz.func29 RE (by kernel_rfl) (by kernel_rfl)
theorem RG : xU L Tryz.f30 AP.f93 = some (AP.f93.body, AP.f93.res) := by kernel_rfl
theorem SR : Fits (30, 93) := xS Tryz.func30 RG (by kernel_rfl) (by kernel_rfl)
theorem N3 : xU L Tryz.f31 AP.f205 = some (AP.f205.body, AP.f205.res) := by kernel_rfl
theorem PR : Fits (31, 205) := xS Tryz.func31 N3 (by kernel_rfl) (by kernel_rfl)
theorem Nn : xU L Tryz.f32 AP.f151 = some (AP.f151.body, AP.f151.res) := by kernel_rfl
theorem O5 : Fits (32, 151) := xS Tryz.func32 Nn (by kernel_rfl) (by kernel_rfl)
theorem Np : xU L Tryz.f33 AP.f152 = some (AP.f152.body, AP.f152.res) := by kernel_rfl
theorem O6 : Fits (33, 152) := xS Tryz.func33 Np (by kernel_rfl) (by kernel_rfl)
theorem NL : xU L Tryz.f34 AP.f184 = some (AP.f184.body, AP.f184.res) := by kernel_rfl
theorem Pt : Fits (34, 184) := xS Tryz.func34 NL (by kernel_rfl) (by kernel_rfl)
theorem NM : xU L Tryz.f35 AP.f185 = some (AP.f185.body, AP.f185.res) := by kernel_rfl
theorem Pu : Fits (35, 185) := xS Tryz.func35 NM (by kernel_rfl) (by kernel_rfl)
theorem MQ : xU L Tryz.f36 AP.f118 = some (AP.f118.body, AP.f118.res) := by kernel_rfl
theorem Ox : Fits (36, 118) := xS Tryz.func36 MQ (by kernel_rfl) (by kernel_rfl)
theorem N4 : xU L Tryz.f37 AP.f206 = some (AP.f206.body, AP.f206.res) := by kernel_rfl
theorem PS : Fits (37, 206) := xS Tryz.func37 N4 (by kernel_rfl) (by kernel_rfl)
theorem MO : xU L Tryz.f38 AP.f115 = some (AP.f115.body, AP.f115.res) := by kernel_rfl
theorem Ov : Fits (38, 115) := xS Tryz.func38 MO (by kernel_rfl) (by kernel_rfl)
theorem MD : xU L Tryz.f39 AP.f101 = some (AP.f101.body, AP.f101.res) := by kernel_rfl
theorem Og : Fits (39, 101) := xS Tryz.func39 MD (by kernel_rfl) (by kernel_rfl)
theorem N5 : xU L Tryz.f40 AP.f207 = some (AP.f207.body, AP.f207.res) := by kernel_rfl
theorem PT : Fits (40, 207) := xS Tryz.func40 N5 (by kernel_rfl) (by kernel_rfl)
theorem NB : xU L Tryz.f41 AP.f173 = some (AP.f173.body, AP.f173.res) := by kernel_rfl
theorem Pj : Fits (41, 173) := xS Tryz.func41 NB (by kernel_rfl) (by kernel_rfl)
theorem RF : xU L Tryz.f47 AP.f92 = some (AP.f92.body, AP.f92.res) := by kernel_rfl
theorem SQ : Fits (47, 92) := xS Tryz.func47 RF (by kernel_rfl) (by kernel_rfl)
theorem NN : xU L Tryz.f48 AP.f186 = some (AP.f186.body, AP.f186.res) := by kernel_rfl
theorem Pv : Fits (48, 186) := xS Tryz.func48 NN (by kernel_rfl) (by kernel_rfl)
theorem NO : xU L Tryz.f49 AP.f187 = some (AP.f187.body, AP.f187.res) := by kernel_rfl
theorem Px : Fits (49, 187) := xS Tryz.func49 NO (by kernel_rfl) (by kernel_rfl)
theorem NP : xU L Tryz.f50 AP.f188 = some (AP.f188.body, AP.f188.res) := by kernel_rfl
theorem Py : Fits (50, 188) := xS Tryz.func50 NP (by kernel_rfl) (by kernel_rfl)
theorem RH : xU L Tryz.f51 AP.f96 = some (AP.f96.body, AP.f96.res) := by kernel_rfl
theorem SU : Fits (51, 96) := xS Tryz.func51 RH (by kernel_rfl) (by kernel_rfl)
theorem ME : xU L Tryz.f52 AP.f102 = some (AP.f102.body, AP.f102.res) := by kernel_rfl
theorem Oh : Fits (52, 102) := xS Tryz.func52 ME (by kernel_rfl) (by kernel_rfl)
theorem MF : xU L Tryz.f53 AP.f103 = some (AP.f103.body, AP.f103.res) := by kernel_rfl
theorem Oi : Fits (53, 103) := xS Tryz.func53 MF (by kernel_rfl) (by kernel_rfl)
theorem MG : xU L Tryz.f54 AP.f104 = some (AP.f104.body, AP.f104.res) := by kernel_rfl
theorem Oj : Fits (54, 104) := xS Tryz.func54 MG (by kernel_rfl) (by kernel_rfl)
theorem MH : xU L Tryz.f55 AP.f105 = some (AP.f105.body, AP.f105.res) := by kernel_rfl
theorem Ok : Fits (55, 105) := xS Tryz.func55 MH (by kernel_rfl) (by kernel_rfl)
theorem N6 : xU L Tryz.f56 AP.f212 = some (AP.f212.body, AP.f212.res) := by kernel_rfl
theorem PU : Fits (56, 212) := xS Tryz.func56 N6 (by kernel_rfl) (by kernel_rfl)
theorem N7 : xU L Tryz.f57 AP.f213 = some (AP.f213.body, AP.f213.res) := by kernel_rfl
theorem PV : Fits (57, 213) := xS Tryz.func57 N7 (by kernel_rfl) (by kernel_rfl)
theorem Nr : xU L Tryz.f58 AP.f157 = some (AP.f157.body, AP.f157.res) := by kernel_rfl
theorem O8 : Fits (58, 157) := xS Tryz.func58 Nr (by kernel_rfl) (by kernel_rfl)
theorem Nt : xU L Tryz.f59 AP.f160 = some (AP.f160.body, AP.f160.res) := by kernel_rfl
theorem Pa : Fits (59, 160) := xS Tryz.func59 Nt (by kernel_rfl) (by kernel_rfl)
theorem Nu : xU L Tryz.f60 AP.f161 = some (AP.f161.body, AP.f161.res) := by kernel_rfl
theorem Pb : Fits (60, 161) := xS Tryz.func60 Nu (by kernel_rfl) (by kernel_rfl)
theorem Nv : xU L Tryz.f61 AP.f162 = some (AP.f162.body, AP.f162.res) := by kernel_rfl
theorem Pc : Fits (61, 162) := xS Tryz.func61 Nv (by kernel_rfl) (by kernel_rfl)
theorem NQ : xU L Tryz.f62 AP.f189 = some (AP.f189.body, AP.f189.res) := by kernel_rfl
theorem Pz : Fits (62, 189) := xS Tryz.func62 NQ (by kernel_rfl) (by kernel_rfl)
theorem MK : xU L Tryz.f63 AP.f111 = some (AP.f111.body, AP.f111.res) := by kernel_rfl
theorem Oo : Fits (63, 111) := xS Tryz.func63 MK (by kernel_rfl) (by kernel_rfl)
theorem RI : xU L Tryz.f64 AP.f98 = some (AP.f98.body, AP.f98.res) := by kernel_rfl
theorem SV : Fits (64, 98) := xS Tryz.func64 RI (by kernel_rfl) (by kernel_rfl)
theorem NR : xU L Tryz.f68 AP.f190 = some (AP.f190.body, AP.f190.res) := by kernel_rfl
theorem PD : Fits (68, 190) := xS Tryz.func68 NR (by kernel_rfl) (by kernel_rfl)
theorem NS : xU L Tryz.f69 AP.f191 = some (AP.f191.body, AP.f191.res) := by kernel_rfl
theorem PF : Fits (69, 191) := xS Tryz.func69 NS (by kernel_rfl) (by kernel_rfl)
theorem MJ : xU L Tryz.f70 AP.f107 = some (AP.f107.body, AP.f107.res) := by kernel_rfl
theorem Om : Fits (70, 107) := xS Tryz.func70 MJ (by kernel_rfl) (by kernel_rfl)
theorem ML : xU L Tryz.f71 AP.f112 = some (AP.f112.body, AP.f112.res) := by kernel_rfl
theorem Oq : Fits (71, 112) := xS Tryz.func71 ML (by kernel_rfl) (by kernel_rfl)
theorem Nx : xU L Tryz.f72 AP.f167 = some (AP.f167.body, AP.f167.res) := by kernel_rfl
theorem Pe : Fits (72, 167) := xS Tryz.func72 Nx (by kernel_rfl) (by kernel_rfl)
theorem Nw : xU L Tryz.f73 AP.f164 = some (AP.f164.body, AP.f164.res) := by kernel_rfl
theorem Pd : Fits (73, 164) := xS Tryz.func73 Nw (by kernel_rfl) (by kernel_rfl)
theorem Nz : xU L Tryz.f74 AP.f169 = some (AP.f169.body, AP.f169.res) := by kernel_rfl
theorem Pg : Fits (74, 169) := xS Tryz.func74 Nz (by kernel_rfl) (by kernel_rfl)
theorem NA : xU L Tryz.f75 AP.f172 = some (AP.f172.body, AP.f172.res) := by kernel_rfl
theorem Ph : Fits (75, 172) := xS Tryz.func75 NA (by kernel_rfl) (by kernel_rfl)
theorem MM : xU L Tryz.f81 AP.f113 = some (AP.f113.body, AP.f113.res) := by kernel_rfl
theorem Ot : Fits (81, 113) := xS Tryz.func81 MM (by kernel_rfl) (by kernel_rfl)
theorem NT : xU L Tryz.f82 AP.f192 = some (AP.f192.body, AP.f192.res) := by kernel_rfl
theorem PG : Fits (82, 192) := xS Tryz.func82 NT (by kernel_rfl) (by kernel_rfl)
theorem MN : xU L Tryz.f83 AP.f114 = some (AP.f114.body, AP.f114.res) := by kernel_rfl
theorem Ou : Fits (83, 114) := xS Tryz.func83 MN (by kernel_rfl) (by kernel_rfl)
theorem MP : xU L Tryz.f84 AP.f117 = some (AP.f117.body, AP.f117.res) := by kernel_rfl
theorem Ow : Fits (84, 117) := xS Tryz.func84 MP (by kernel_rfl) (by kernel_rfl)
theorem MR : xU L Tryz.f85 AP.f119 = some (AP.f119.body, AP.f119.res) := by kernel_rfl
theorem Oy : Fits (85, 119) := xS Tryz.func85 MR (by kernel_rfl) (by kernel_rfl)
theorem MS : xU L Tryz.f86 AP.f120 = some (AP.f120.body, AP.f120.res) := by kernel_rfl
theorem Oz : Fits (86, 120) := xS Tryz.func86 MS (by kernel_rfl) (by kernel_rfl)
theorem Tl : xU L Tryz.f87 AP.f8 = some (AP.f8.body, AP.f8.res) := by kernel_rfl
theorem Tp : Fits (87, 8) := xS Tryz.func87 Tl (by kernel_rfl) (by kernel_rfl)
theorem QI : xU L Tryz.f94 AP.f22 = some (AP.f22.body, AP.f22.res) := by kernel_rfl
theorem RS : Fits (94, 22) := xS Tryz.func94 QI (by kernel_rfl) (by kernel_rfl)
theorem QJ : xU L Tryz.f95 AP.f23 = some (AP.f23.body, AP.f23.res) := by kernel_rfl
theorem RT : Fits (95, 23) := xS Tryz.func95 QJ (by kernel_rfl) (by kernel_rfl)
theorem QM : xU L Tryz.f101 AP.f32 = some (AP.f32.body, AP.f32.res) := by kernel_rfl
theorem RX : Fits (101, 32) := xS Tryz.func101 QM (by kernel_rfl) (by kernel_rfl)
theorem MT : xU L Tryz.f103 AP.f121 = some (AP.f121.body, AP.f121.res) := by kernel_rfl
theorem OA : Fits (103, 121) := xS Tryz.func103 MT (by kernel_rfl) (by kernel_rfl)
theorem MU : xU L Tryz.f104 AP.f122 = some (AP.f122.body, AP.f122.res) := by kernel_rfl
theorem OC : Fits (104, 122) := xS Tryz.func104 MU (by kernel_rfl) (by kernel_rfl)
theorem Tj : xU L Tryz.f105 AP.f7 = some (AP.f7.body, AP.f7.res) := by kernel_rfl
theorem To : Fits (105, 7) := xS Tryz.func105 Tj (by kernel_rfl) (by kernel_rfl)
theorem RC : xU L Tryz.f106 AP.f83 = some (AP.f83.body, AP.f83.res) := by kernel_rfl
theorem SN : Fits (106, 83) := xS Tryz.func106 RC (by kernel_rfl) (by kernel_rfl)
theorem MV : xU L Tryz.f107 AP.f123 = some (AP.f123.body, AP.f123.res) := by kernel_rfl
theorem OD : Fits (107, 123) := xS Tryz.func107 MV (by kernel_rfl) (by kernel_rfl)
theorem QE : xU L Tryz.f108 AP.f18 = some (AP.f18.body, AP.f18.res) := by kernel_rfl
theorem RN : Fits (108, 18) := xS Tryz.func108 QE (by kernel_rfl) (by kernel_rfl)
theorem QF : xU L Tryz.f109 AP.f19 = some (AP.f19.body, AP.f19.res) := by kernel_rfl
theorem RP : Fits (109, 19) := xS Tryz.func109 QF (by kernel_rfl) (by kernel_rfl)
theorem QG : xU L Tryz.f110 AP.f20 = some (AP.f20.body, AP.f20.res) := by kernel_rfl
theorem RQ : Fits (110, 20) := xS Tryz.func110 QG (by kernel_rfl) (by kernel_rfl)
theorem QH : xU L Tryz.f111 AP.f21 = some (AP.f21.body, AP.f21.res) := by kernel_rfl
theorem RR : Fits (111, 21) := xS Tryz.func111 QH (by kernel_rfl) (by kernel_rfl)
theorem QK : xU L Tryz.f112 AP.f24 = some (AP.f24.body, AP.f24.res) := by kernel_rfl
theorem RU : Fits (112, 24) := xS Tryz.func112 QK (by kernel_rfl) (by kernel_rfl)
theorem QL : xU L Tryz.f113 AP.f25 = some (AP.f25.body, AP.f25.res) := by kernel_rfl
theorem RW : Fits (113, 25) := xS Tryz.func113 QL (by kernel_rfl) (by kernel_rfl)
theorem Q1 : xU L Tryz.f116 AP.f52 = some (AP.f52.body, AP.f52.res) := by kernel_rfl
theorem Sg : Fits (116, 52) := xS Tryz.func116 Q1 (by kernel_rfl) (by kernel_rfl)
theorem QZ : xU L Tryz.f117 AP.f50 = some (AP.f50.body, AP.f50.res) := by kernel_rfl
theorem Sc : Fits (117, 50) := xS Tryz.func117 QZ (by kernel_rfl) (by kernel_rfl)
theorem Q0 : xU L Tryz.f118 AP.f51 = some (AP.f51.body, AP.f51.res) := by kernel_rfl
theorem Sd : Fits (118, 51) := xS Tryz.func118 Q0 (by kernel_rfl) (by kernel_rfl)
theorem MW : xU L Tryz.f120 AP.f124 = some (AP.f124.body, AP.f124.res) := by kernel_rfl
theorem OE : Fits (120, 124) := xS Tryz.func120 MW (by kernel_rfl) (by kernel_rfl)
theorem QA : xU L Tryz.f121 AP.f14 = some (AP.f14.body, AP.f14.res) := by kernel_rfl
theorem RJ : Fits (121, 14) := xS Tryz.func121 QA (by kernel_rfl) (by kernel_rfl)
theorem QB : xU L Tryz.f122 AP.f15 = some (AP.f15.body, AP.f15.res) := by kernel_rfl
theorem RK : Fits (122, 15) := xS Tryz.func122 QB (by kernel_rfl) (by kernel_rfl)
theorem QC : xU L Tryz.f123 AP.f16 = some (AP.f16.body, AP.f16.res) := by kernel_rfl
theorem RL : Fits (123, 16) := xS Tryz.func123 QC (by kernel_rfl) (by kernel_rfl)
theorem QD : xU L Tryz.f124 AP.f17 = some (AP.f17.body, AP.f17.res) := by kernel_rfl
theorem RM : Fits (124, 17) := xS Tryz.func124 QD (by kernel_rfl) (by kernel_rfl)
theorem RD : xU L Tryz.f125 AP.f84 = some (AP.f84.body, AP.f84.res) := by kernel_rfl
theorem SO : Fits (125, 84) := xS Tryz.func125 RD (by kernel_rfl) (by kernel_rfl)
theorem QV : xU L Tryz.f126 AP.f46 = some (AP.f46.body, AP.f46.res) := by kernel_rfl
theorem R8 : Fits (126, 46) := xS Tryz.func126 QV (by kernel_rfl) (by kernel_rfl)
theorem QW : xU L Tryz.f127 AP.f47 = some (AP.f47.body, AP.f47.res) := by kernel_rfl
theorem R9 : Fits (127, 47) := xS Tryz.func127 QW (by kernel_rfl) (by kernel_rfl)
theorem QX : xU L Tryz.f128 AP.f48 = some (AP.f48.body, AP.f48.res) := by kernel_rfl
theorem Sa : Fits (128, 48) := xS Tryz.func128 QX (by kernel_rfl) (by kernel_rfl)
theorem QY : xU L Tryz.f129 AP.f49 = some (AP.f49.body, AP.f49.res) := by kernel_rfl
theorem Sb : Fits (129, 49) := xS Tryz.func129 QY (by kernel_rfl) (by kernel_rfl)
theorem Q2 : xU L Tryz.f130 AP.f53 = some (AP.f53.body, AP.f53.res) := by kernel_rfl
theorem Si : Fits (130, 53) := xS Tryz.func130 Q2 (by kernel_rfl) (by kernel_rfl)
theorem Q3 : xU L Tryz.f131 AP.f54 = some (AP.f54.body, AP.f54.res) := by kernel_rfl
theorem Sj : Fits (131, 54) := xS Tryz.func131 Q3 (by kernel_rfl) (by kernel_rfl)
theorem Re : xU L Tryz.f133 AP.f67 = some (AP.f67.body, AP.f67.res) := by kernel_rfl
theorem Sx : Fits (133, 67) := xS Tryz.func133 Re (by kernel_rfl) (by kernel_rfl)
theorem Rf : xU L Tryz.f134 AP.f68 = some (AP.f68.body, AP.f68.res) := by kernel_rfl
theorem Sz : Fits (134, 68) := xS Tryz.func134 Rf (by kernel_rfl) (by kernel_rfl)
theorem MX : xU L Tryz.f137 AP.f125 = some (AP.f125.body, AP.f125.res) := by kernel_rfl
theorem OG : Fits (137, 125) := xS Tryz.func137 MX (by kernel_rfl) (by kernel_rfl)
theorem MY : xU L Tryz.f138 AP.f126 = some (AP.f126.body, AP.f126.res) := by kernel_rfl
theorem OH : Fits (138, 126) := xS Tryz.func138 MY (by kernel_rfl) (by kernel_rfl)
theorem MZ : xU L Tryz.f139 AP.f127 = some (AP.f127.body, AP.f127.res) := by kernel_rfl
theorem OI : Fits (139, 127) := xS Tryz.func139 MZ (by kernel_rfl) (by kernel_rfl)
theorem M5 : xU L Tryz.f140 AP.f128 = some (AP.f128.body, AP.f128.res) := by kernel_rfl
theorem OJ : Fits (140, 128) := xS Tryz.func140 M5 (by kernel_rfl) (by kernel_rfl)
theorem M7 : xU L Tryz.f141 AP.f129 = some (AP.f129.body, AP.f129.res) := by kernel_rfl
theorem OK : Fits (141, 129) := xS Tryz.func141 M7 (by kernel_rfl) (by kernel_rfl)
theorem M9 : xU L Tryz.f142 AP.f130 = some (AP.f130.body, AP.f130.res) := by kernel_rfl
theorem OM : Fits (142, 130) := xS Tryz.func142 M9 (by kernel_rfl) (by kernel_rfl)
theorem Na : xU L Tryz.f143 AP.f131 = some (AP.f131.body, AP.f131.res) := by kernel_rfl
theorem ON : Fits (143, 131) := xS Tryz.func143 Na (by kernel_rfl) (by kernel_rfl)
theorem QN : xU L Tryz.f144 AP.f38 = some (AP.f38.body, AP.f38.res) := by kernel_rfl
theorem RY : Fits (144, 38) := xS Tryz.func144 QN (by kernel_rfl) (by kernel_rfl)
theorem QO : xU L Tryz.f145 AP.f39 = some (AP.f39.body, AP.f39.res) := by kernel_rfl
theorem RZ : Fits (145, 39) := xS Tryz.func145 QO (by kernel_rfl) (by kernel_rfl)
theorem QP : xU L Tryz.f146 AP.f40 = some (AP.f40.body, AP.f40.res) := by kernel_rfl
theorem R1 : Fits (146, 40) := xS Tryz.func146 QP (by kernel_rfl) (by kernel_rfl)
theorem QQ : xU L Tryz.f147 AP.f41 = some (AP.f41.body, AP.f41.res) := by kernel_rfl
theorem R3 : Fits (147, 41) := xS Tryz.func147 QQ (by kernel_rfl) (by kernel_rfl)
theorem QR : xU L Tryz.f148 AP.f42 = some (AP.f42.body, AP.f42.res) := by kernel_rfl
theorem R4 : Fits (148, 42) := xS Tryz.func148 QR (by kernel_rfl) (by kernel_rfl)
theorem QS : xU L Tryz.f149 AP.f43 = some (AP.f43.body, AP.f43.res) := by kernel_rfl
theorem R5 : Fits (149, 43) := xS Tryz.func149 QS (by kernel_rfl) (by kernel_rfl)
theorem QT : xU L Tryz.f150 AP.f44 = some (AP.f44.body, AP.f44.res) := by kernel_rfl
theorem R6 : Fits (150, 44) := xS Tryz.func150 QT (by kernel_rfl) (by kernel_rfl)
theorem QU : xU L Tryz.f151 AP.f45 = some (AP.f45.body, AP.f45.res) := by kernel_rfl
theorem R7 : Fits (151, 45) := xS Tryz.func151 QU (by kernel_rfl) (by kernel_rfl)
theorem Nc : xU L Tryz.f152 AP.f132 = some (AP.f132.body, AP.f132.res) := by kernel_rfl
theorem OP : Fits (152, 132) := xS Tryz.func152 Nc (by kernel_rfl) (by kernel_rfl)
theorem Nd : xU L Tryz.f153 AP.f133 = some (AP.f133.body, AP.f133.res) := by kernel_rfl
theorem OQ : Fits (153, 133) := xS Tryz.func153 Nd (by kernel_rfl) (by kernel_rfl)
theorem Nf : xU L Tryz.f154 AP.f134 = some (AP.f134.body, AP.f134.res) := by kernel_rfl
theorem OS : Fits (154, 134) := xS Tryz.func154 Nf (by kernel_rfl) (by kernel_rfl)
theorem Ng : xU L Tryz.f155 AP.f135 = some (AP.f135.body, AP.f135.res) := by kernel_rfl
theorem OT : Fits (155, 135) := xS Tryz.func155 Ng (by kernel_rfl) (by kernel_rfl)
theorem Q4 : xU L Tryz.f156 AP.f58 = some (AP.f58.body, AP.f58.res) := by kernel_rfl
theorem Sk : Fits (156, 58) := xS Tryz.func156 Q4 (by kernel_rfl) (by kernel_rfl)
theorem Q5 : xU L Tryz.f157 AP.f59 = some (AP.f59.body, AP.f59.res) := by kernel_rfl
theorem Sl : Fits (157, 59) := xS Tryz.func157 Q5 (by kernel_rfl) (by kernel_rfl)
theorem Q6 : xU L Tryz.f158 AP.f60 = some (AP.f60.body, AP.f60.res) := by kernel_rfl
theorem Sn : Fits (158, 60) := xS Tryz.func158 Q6 (by kernel_rfl) (by kernel_rfl)
theorem Q7 : xU L Tryz.f159 AP.f61 = some (AP.f61.body, AP.f61.res) := by kernel_rfl
theorem Sp : Fits (159, 61) := xS Tryz.func159 Q7 (by kernel_rfl) (by kernel_rfl)
theorem Q8 : xU L Tryz.f160 AP.f62 = some (AP.f62.body, AP.f62.res) := by kernel_rfl
theorem Sq : Fits (160, 62) := xS Tryz.func160 Q8 (by kernel_rfl) (by kernel_rfl)
theorem Q9 : xU L Tryz.f161 AP.f63 = some (AP.f63.body, AP.f63.res) := by kernel_rfl
theorem Ss : Fits (161, 63) := xS Tryz.func161 Q9 (by kernel_rfl) (by kernel_rfl)
theorem Ra : xU L Tryz.f162 AP.f64 = some (AP.f64.body, AP.f64.res) := by kernel_rfl
theorem Su : Fits (162, 64) := xS Tryz.func162 Ra (by kernel_rfl) (by kernel_rfl)
theorem Rb : xU L Tryz.f163 AP.f65 = some (AP.f65.body, AP.f65.res) := by kernel_rfl
theorem Sv : Fits (163, 65) := xS Tryz.func163 Rb (by kernel_rfl) (by kernel_rfl)
theorem Rc : xU L Tryz.f164 AP.f66 = some (AP.f66.body, AP.f66.res) := by kernel_rfl
theorem Sw : Fits (164, 66) := xS Tryz.func164 Rc (by kernel_rfl) (by kernel_rfl)
theorem Nh : xU L Tryz.f167 AP.f138 = some (AP.f138.body, AP.f138.res) := by kernel_rfl
theorem OX : Fits (167, 138) := xS Tryz.func167 Nh (by kernel_rfl) (by kernel_rfl)
theorem Rh : xU L Tryz.f168 AP.f72 = some (AP.f72.body, AP.f72.res) := by kernel_rfl
theorem SA : Fits (168, 72) := xS Tryz.func168 Rh (by kernel_rfl) (by kernel_rfl)
theorem Ri : xU L Tryz.f169 AP.f73 = some (AP.f73.body, AP.f73.res) := by kernel_rfl
theorem SD : Fits (169, 73) := xS Tryz.func169 Ri (by kernel_rfl) (by kernel_rfl)
theorem Rj : xU L Tryz.f170 AP.f74 = some (AP.f74.body, AP.f74.res) := by kernel_rfl
theorem SE : Fits (170, 74) := xS Tryz.func170 Rj (by kernel_rfl) (by kernel_rfl)
theorem Rl : xU L Tryz.f171 AP.f75 = some (AP.f75.body, AP.f75.res) := by kernel_rfl
theorem SF : Fits (171, 75) := xS Tryz.func171 Rl (by kernel_rfl) (by kernel_rfl)
theorem Rm : xU L Tryz.f172 AP.f76 = some (AP.f76.body, AP.f76.res) := by kernel_rfl
theorem SG : Fits (172, 76) := xS Tryz.func172 Rm (by kernel_rfl) (by kernel_rfl)
theorem Rn : xU L Tryz.f173 AP.f77 = some (AP.f77.body, AP.f77.res) := by kernel_rfl
theorem SH : Fits (173, 77) := xS Tryz.func173 Rn (by kernel_rfl) (by kernel_rfl)
theorem Rq : xU L Tryz.f174 AP.f78 = some (AP.f78.body, AP.f78.res) := by kernel_rfl
theorem SI : Fits (174, 78) := xS Tryz.func174 Rq (by kernel_rfl) (by kernel_rfl)
theorem Rr : xU L Tryz.f175 AP.f79 = some (AP.f79.body, AP.f79.res) := by kernel_rfl
theorem SJ : Fits (175, 79) := xS Tryz.func175 Rr (by kernel_rfl) (by kernel_rfl)
theorem Rw : xU L Tryz.f176 AP.f80 = some (AP.f80.body, AP.f80.res) := by kernel_rfl
theorem SK : Fits (176, 80) := xS Tryz.func176 Rw (by kernel_rfl) (by kernel_rfl)
theorem RA : xU L Tryz.f177 AP.f81 = some (AP.f81.body, AP.f81.res) := by kernel_rfl
theorem SL : Fits (177, 81) := xS Tryz.func177 RA (by kernel_rfl) (by kernel_rfl)
theorem Ni : xU L Tryz.f178 AP.f139 = some (AP.f139.body, AP.f139.res) := by kernel_rfl
theorem OY : Fits (178, 139) := xS Tryz.func178 Ni (by kernel_rfl) (by kernel_rfl)
theorem Nj : xU L Tryz.f179 AP.f140 = some (AP.f140.body, AP.f140.res) := by kernel_rfl
theorem OZ : Fits (179, 140) := xS Tryz.func179 Nj (by kernel_rfl) (by kernel_rfl)
theorem Nk : xU L Tryz.f180 AP.f141 = some (AP.f141.body, AP.f141.res) := by kernel_rfl
theorem O0 : Fits (180, 141) := xS Tryz.func180 Nk (by kernel_rfl) (by kernel_rfl)
theorem RB : xU L Tryz.f182 AP.f82 = some (AP.f82.body, AP.f82.res) := by kernel_rfl
theorem SM : Fits (182, 82) := xS Tryz.func182 RB (by kernel_rfl) (by kernel_rfl)
theorem OU : Fits (165, 136) := ⟨Tryz.f165, _, Tryz.func165, rfl, by kernel_rfl, fun af h => by cases h⟩
theorem OW : Fits (166, 137) := ⟨Tryz.f166, _, Tryz.func166, rfl, by kernel_rfl, fun af h => by cases h⟩
theorem O3 : Fits (183, 143) := ⟨Tryz.f183, _, Tryz.func183, rfl, by kernel_rfl, fun af h => by cases h⟩
theorem Tf : ∀ p ∈ TD, Fits p := xQ PH (xQ PI (xQ O4 (xQ Pm (xQ PJ (xQ Pq (xQ PK (xQ Pn (xQ PL (xQ Ol (xQ Tq (xQ Pr (xQ Po (xQ PM (xQ Pf (xQ PN (xQ PO (xQ O7 (xQ Pl (xQ Pp (xQ PQ (xQ O9 (xQ Ps (xQ SP (xQ SR (xQ PR (xQ O5 (xQ O6 (xQ Pt (xQ Pu (xQ Ox (xQ PS (xQ Ov (xQ Og (xQ PT (xQ Pj (xQ SQ (xQ Pv (xQ Px (xQ Py (xQ SU (xQ Oh (xQ Oi (xQ Oj (xQ Ok (xQ PU (xQ PV (xQ O8 (xQ Pa (xQ Pb (xQ Pc (xQ Pz (xQ Oo (xQ SV (xQ PD (xQ PF (xQ Om (xQ Oq (xQ Pe (xQ Pd (xQ Pg (xQ Ph (xQ Ot (xQ PG (xQ Ou (xQ Ow (xQ Oy (xQ Oz (xQ Tp (xQ RS (xQ RT (xQ RX (xQ OA (xQ OC (xQ To (xQ SN (xQ OD (xQ RN (xQ RP (xQ RQ (xQ RR (xQ RU (xQ RW (xQ Sg (xQ Sc (xQ Sd (xQ OE (xQ RJ (xQ RK (xQ RL (xQ RM (xQ SO (xQ R8 (xQ R9 (xQ Sa (xQ Sb (xQ Si (xQ Sj (xQ Sx (xQ Sz (xQ OG (xQ OH (xQ OI (xQ OJ (xQ OK (xQ OM (xQ ON (xQ RY (xQ RZ (xQ R1 (xQ R3 (xQ R4 (xQ R5 (xQ R6 (xQ R7 (xQ OP (xQ OQ (xQ OS (xQ OT (xQ Sk (xQ Sl (xQ Sn (xQ Sp (xQ Sq (xQ Ss (xQ Su (xQ Sv (xQ Sw (xQ OX (xQ SA (xQ SD (xQ SE (xQ SF (xQ SG (xQ SH (xQ SI (xQ SJ (xQ SK (xQ SL (xQ OY (xQ OZ (xQ O0 (xQ SM (xQ OU (xQ OW (xQ O3 (Jx))))))))))))))))))))))))))))))))))))))))))))))))))))))))))))))))))))))))))))))))))))))))))))))))))))))))))))))))))))))))))))))))))))))))))))))))))
theorem lk : fi L AP.A := ⟨by kernel_rfl, fun fid f h => Tf (fid, f) (ET h), fun _ _ _ _ h => by cases h⟩
end Ab.Ln
