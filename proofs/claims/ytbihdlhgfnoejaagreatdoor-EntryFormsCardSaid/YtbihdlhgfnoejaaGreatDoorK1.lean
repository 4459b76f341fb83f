/- Part K1. -/
import Derived.Test.YtbihdlhgfnoejaaGreatDoorProg
import Derived.KernelRfl
import Derived.Test.YtbihdlhgfnoejaaGreatDoorAP
namespace Ab.Ln
open Go Go.Proofs Ab
def Ik : List (Nat × Nat) → Nat → Option Nat
 | [], _ => none
 | (i, f) :: r, k => if i = k then some f else Ik r k
def wE (L : Lk) (fn : Func) (af : fI) : Option (aH × List RV) := fn.body.bind fun c => (comp L fn.ntmps c af.body).bind fun x => (c9 L fn.results.toList).bind fun r => some (x, r)
def Ve : List (Nat × Nat) := [(6, 148), (8, 92), (14, 9), (19, 154), (20, 100), (22, 97), (24, 96), (27, 95), (28, 101), (31, 103), (35, 105), (37, 106), (38, 163), (39, 107), (41, 108), (42, 109), (43, 110), (48, 99), (49, 111), (50, 112), (52, 12), (53, 170), (54, 171), (55, 13), (56, 113), (57, 114), (58, 115), (60, 116), (61, 117), (62, 118), (65, 119), (66, 120), (67, 26), (68, 33), (69, 174), (70, 37), (71, 27), (72, 34), (73, 22), (74, 23), (75, 36), (76, 28), (77, 29), (78, 30), (79, 31), (80, 32), (81, 35), (82, 121), (83, 122), (84, 7), (91, 83), (92, 123), (93, 57), (94, 55), (95, 52), (96, 50), (97, 51), (98, 56), (99, 124), (100, 14), (101, 15), (102, 16), (103, 17), (110, 84), (111, 69), (112, 67), (113, 68), (114, 70), (115, 71), (116, 125), (117, 126), (118, 127), (119, 128), (120, 129), (121, 130), (122, 131), (123, 38), (124, 39), (125, 40), (126, 41), (127, 42), (128, 43), (129, 44), (130, 45), (131, 132), (132, 133), (133, 134), (134, 135), (135, 58), (136, 59), (137, 60), (138, 61), (139, 62), (140, 63), (141, 64), (142, 65), (143, 66), (146, 138), (147, 72), (148, 73), (149, 74), (150, 75), (151, 76), (152, 77), (153, 78), (154, 79), (155, 80), (156, 81), (157, 139), (158, 140), (159, 141), (161, 82), (144, 136), (145, 137), (162, 143)]
def Vw : List (Nat × Nat) := [(9, 0)]
def mf (k : Nat) : Option Nat := Ik Ve k
def mt (k : Nat) : Nat := (Ik Vw k).getD (k + 100000)
noncomputable def L : Lk := ⟨Tryz.prog, mf, mt⟩
def Fits (p : Nat × Nat) : Prop := ∃ fn c, L.P.funcs[p.1]? = some fn ∧ fn.body = some c ∧ (fn.name == "runtime.NumGoroutine") = false ∧
    ∀ af, AP.A p.2 = some af → (∃ x0, comp L fn.ntmps c x0 = some af.body) ∧ c9 L fn.results.toList = some af.res
theorem wz {k a : Nat} {fn : Func} {af : fI} (h1 : L.P.funcs[k]? = some fn) (h2 : wE L fn af = some (af.body, af.res)) (h3 : (fn.name == "runtime.NumGoroutine") = false) (h4 : AP.A a = some af) : Fits (k, a) := by
 unfold wE at h2
 simp only [vH] at h2
 obtain ⟨c, g1, x, g2, r, g3, g4⟩ := h2
 obtain ⟨rfl, rfl⟩ := vJ (vG g4)
 refine ⟨fn, c, h1, g1, h3, fun af2 g5 => ?_⟩
 rw [h4] at g5
 obtain rfl := vG g5
 exact ⟨⟨_, g2⟩, g3⟩
theorem Gf : ∀ {l : List (Nat × Nat)} {k f : Nat}, Ik l k = some f → (k, f) ∈ l
 | [], _, _, h => by cases h
 | (i, g) :: r, k, f, h => by
   unfold Ik at h
   split at h
   · rename_i e; subst e; obtain rfl := vG h; exact List.mem_cons_self
   · exact List.mem_cons_of_mem _ (Gf h)
theorem Lz : ∀ p ∈ ([] : List (Nat × Nat)), Fits p := fun p h => by cases h
theorem wy {p : Nat × Nat} {l : List (Nat × Nat)} (h1 : Fits p) (h2 : ∀ q ∈ l, Fits q) : ∀ q ∈ p :: l, Fits q := fun q h => by
 rcases wj.1 h with rfl | h
 · exact h1
 · exact h2 q h
theorem PK : wE L Tryz.f6 AP.f148 = some (AP.f148.body, AP.f148.res) := by kernel_rfl
theorem QG : Fits (6, 148) := wz Tryz.func6 PK (by kernel_rfl) (by kernel_rfl)
theorem SP : wE L Tryz.f8 AP.f92 = some (AP.f92.body, AP.f92.res) := by kernel_rfl
theorem Ug : Fits (8, 92) := wz Tryz.func8 SP (by kernel_rfl) (by kernel_rfl)
theorem Uy : wE L Tryz.f14 AP.f9 = some (AP.f9.body, AP.f9.res) := by kernel_rfl
theorem UW : Fits (14, 9) := wz Tryz.func14 Uy (by kernel_rfl) (by kernel_rfl)
theorem PL : wE L Tryz.f19 AP.f154 = some (AP.f154.body, AP.f154.res) := by kernel_rfl
theorem QH : Fits (19, 154) := wz Tryz.func19 PL (by kernel_rfl) (by kernel_rfl)
theorem OZ : wE L Tryz.f20 AP.f100 = some (AP.f100.body, AP.f100.res) := by kernel_rfl
theorem PZ : Fits (20, 100) := wz Tryz.func20 OZ (by kernel_rfl) (by kernel_rfl)
theorem SU : wE L Tryz.f22 AP.f97 = some (AP.f97.body, AP.f97.res) := by kernel_rfl
theorem Uj : Fits (22, 97) := wz Tryz.func22 SU (by kernel_rfl) (by kernel_rfl)
theorem SR : wE L Tryz.f24 AP.f96 = some (AP.f96.body, AP.f96.res) := by kernel_rfl
theorem Ui : Fits (24, 96) := wz Tryz.func24 SR (by kernel_rfl) (by kernel_rfl)
theorem SQ : wE L Tryz.f27 AP.f95 = some (AP.f95.body, AP.f95.res) := by kernel_rfl
theorem Uh : Fits (27, 95) := wz Tryz.func27 SQ (by kernel_rfl) (by kernel_rfl)
theorem O0 : wE L Tryz.f28 AP.f101 = some (AP.f101.body, AP.f101.res) := by kernel_rfl
theorem P0 : Fits (28, 101) := wz Tryz.func28 O0 (by kernel_rfl) (by kernel_rfl)
theorem O3 : wE L Tryz.f31 AP.f103 = some (AP.f103.body, AP.f103.res) := by kernel_rfl
theorem P1 : Fits (31, 103) := wz Tryz.func31 O3 (by kernel_rfl) (by kernel_rfl)
theorem O4 : wE L Tryz.f35 AP.f105 = some (AP.f105.body, AP.f105.res) := by kernel_rfl
theorem P2 : Fits (35, 105) := wz Tryz.func35 O4 (by kernel_rfl) (by kernel_rfl)
theorem O5 : wE L Tryz.f37 AP.f106 = some (AP.f106.body, AP.f106.res) := by kernel_rfl
theorem P3 : Fits (37, 106) := wz Tryz.func37 O5 (by kernel_rfl) (by kernel_rfl)
theorem PM : wE L Tryz.f38 AP.f163 = some (AP.f163.body, AP.f163.res) := by kernel_rfl
theorem QI : Fits (38, 163) := wz Tryz.func38 PM (by kernel_rfl) (by kernel_rfl)
theorem O6 : wE L Tryz.f39 AP.f107 = some (AP.f107.body, AP.f107.res) := by kernel_rfl
theorem P4 : Fits (39, 107) := wz Tryz.func39 O6 (by kernel_rfl) (by kernel_rfl)
theorem O7 : wE L Tryz.f41 AP.f108 = some (AP.f108.body, AP.f108.res) := by kernel_rfl
theorem P5 : Fits (41, 108) := wz Tryz.func41 O7 (by kernel_rfl) (by kernel_rfl)
theorem O8 : wE L Tryz.f42 AP.f109 = some (AP.f109.body, AP.f109.res) := by kernel_rfl
theorem P6 : Fits (42, 109) := wz Tryz.func42 O8 (by kernel_rfl) (by kernel_rfl)
theorem O9 : wE L Tryz.f43 AP.f110 = some (AP.f110.body, AP.f110.res) := by kernel_rfl
theorem P9 : Fits (43, 110) := wz Tryz.func43 O9 (by kernel_rfl) (by kernel_rfl)
theorem SV : wE L Tryz.f48 AP.f99 = some (AP.f99.body, AP.f99.res) := by kernel_rfl
theorem Uk : Fits (48, 99) := wz Tryz.func48 SV (by kernel_rfl) (by kernel_rfl)
theorem Pa : wE L Tryz.f49 AP.f111 = some (AP.f111.body, AP.f111.res) := by kernel_rfl
theorem Qa : Fits (49, 111) := wz Tryz.func49 Pa (by kernel_rfl) (by kernel_rfl)
theorem Pb : wE L Tryz.f50 AP.f112 = some (AP.f112.body, AP.f112.res) := by kernel_rfl
theorem Qb : Fits (50, 112) := wz Tryz.func50 Pb (by kernel_rfl) (by kernel_rfl)
theorem RD : wE L Tryz.f52 AP.f12 = some (AP.f12.body, AP.f12.res) := by kernel_rfl
theorem SW : Fits (52, 12) := wz Tryz.func52 RD (by kernel_rfl) (by kernel_rfl)
theorem PN : wE L Tryz.f53 AP.f170 = some (AP.f170.body, AP.f170.res) := by kernel_rfl
theorem QJ : Fits (53, 170) := wz Tryz.func53 PN (by kernel_rfl) (by kernel_rfl)
theorem PO : wE L Tryz.f54 AP.f171 = some (AP.f171.body, AP.f171.res) := by kernel_rfl
theorem QK : Fits (54, 171) := wz Tryz.func54 PO (by kernel_rfl) (by kernel_rfl)
theorem RE : wE L Tryz.f55 AP.f13 = some (AP.f13.body, AP.f13.res) := by kernel_rfl
theorem SX : Fits (55, 13) := wz Tryz.func55 RE (by kernel_rfl) (by kernel_rfl)
theorem Pc : wE L Tryz.f56 AP.f113 = some (AP.f113.body, AP.f113.res) := by kernel_rfl
theorem Qc : Fits (56, 113) := wz Tryz.func56 Pc (by kernel_rfl) (by kernel_rfl)
theorem Pd : wE L Tryz.f57 AP.f114 = some (AP.f114.body, AP.f114.res) := by kernel_rfl
theorem Qd : Fits (57, 114) := wz Tryz.func57 Pd (by kernel_rfl) (by kernel_rfl)
theorem Pe : wE L Tryz.f58 AP.f115 = some (AP.f115.body, AP.f115.res) := by kernel_rfl
theorem Qe : Fits (58, 115) := wz Tryz.func58 Pe (by kernel_rfl) (by kernel_rfl)
theorem Pf : wE L Tryz.f60 AP.f116 = some (AP.f116.body, AP.f116.res) := by kernel_rfl
theorem Qf : Fits (60, 116) := wz Tryz.func60 Pf (by kernel_rfl) (by kernel_rfl)
theorem Pg : wE L Tryz.f61 AP.f117 = some (AP.f117.body, AP.f117.res) := by kernel_rfl
theorem Qg : Fits (61, 117) := wz Tryz.func61 Pg (by kernel_rfl) (by kernel_rfl)
theorem Ph : wE L Tryz.f62 AP.f118 = some (AP.f118.body, AP.f118.res) := by kernel_rfl
theorem Qh : Fits (62, 118) := wz Tryz.func62 Ph (by kernel_rfl) (by kernel_rfl)
theorem Pj : wE L Tryz.f65 AP.f119 = some (AP.f119.body, AP.f119.res) := by kernel_rfl
theorem Qi : Fits (65, 119) := wz Tryz.func65 Pj (by kernel_rfl) (by kernel_rfl)
theorem Pl : wE L Tryz.f66 AP.f120 = some (AP.f120.body, AP.f120.res) := by kernel_rfl
theorem Qj : Fits (66, 120) := wz Tryz.func66 Pl (by kernel_rfl) (by kernel_rfl)
theorem RL : wE L Tryz.f67 AP.f26 = some (AP.f26.body, AP.f26.res) := by kernel_rfl
theorem Tc : Fits (67, 26) := wz Tryz.func67 RL (by kernel_rfl) (by kernel_rfl)
theorem RT : wE L Tryz.f68 AP.f33 = some (AP.f33.body, AP.f33.res) := by kernel_rfl
theorem Tj : Fits (68, 33) := wz Tryz.func68 RT (by kernel_rfl) (by kernel_rfl)
theorem PQ : wE L Tryz.f69 AP.f174 = some (AP.f174.body, AP.f174.res) := by kernel_rfl
theorem QL : Fits (69, 174) := wz Tryz.func69 PQ (by kernel_rfl) (by kernel_rfl)
theorem RY : wE L Tryz.f70 AP.f37 = some (AP.f37.body, AP.f37.res) := by kernel_rfl
theorem To : Fits (70, 37) := wz Tryz.func70 RY (by kernel_rfl) (by kernel_rfl)
theorem RM : wE L Tryz.f71 AP.f27 = some (AP.f27.body, AP.f27.res) := by kernel_rfl
theorem Td : Fits (71, 27) := wz Tryz.func71 RM (by kernel_rfl) (by kernel_rfl)
theorem RU : wE L Tryz.f72 AP.f34 = some (AP.f34.body, AP.f34.res) := by kernel_rfl
theorem Tl : Fits (72, 34) := wz Tryz.func72 RU (by kernel_rfl) (by kernel_rfl)
theorem RJ : wE L Tryz.f73 AP.f22 = some (AP.f22.body, AP.f22.res) := by kernel_rfl
theorem S9 : Fits (73, 22) := wz Tryz.func73 RJ (by kernel_rfl) (by kernel_rfl)
theorem RK : wE L Tryz.f74 AP.f23 = some (AP.f23.body, AP.f23.res) := by kernel_rfl
theorem Ta : Fits (74, 23) := wz Tryz.func74 RK (by kernel_rfl) (by kernel_rfl)
theorem RX : wE L Tryz.f75 AP.f36 = some (AP.f36.body, AP.f36.res) := by kernel_rfl
theorem Tn : Fits (75, 36) := wz Tryz.func75 RX (by kernel_rfl) (by kernel_rfl)
theorem RN : wE L Tryz.f76 AP.f28 = some (AP.f28.body, AP.f28.res) := by kernel_rfl
theorem Te : Fits (76, 28) := wz Tryz.func76 RN (by kernel_rfl) (by kernel_rfl)
theorem RP : wE L Tryz.f77 AP.f29 = some (AP.f29.body, AP.f29.res) := by kernel_rfl
theorem Tf : Fits (77, 29) := wz Tryz.func77 RP (by kernel_rfl) (by kernel_rfl)
theorem RQ : wE L Tryz.f78 AP.f30 = some (AP.f30.body, AP.f30.res) := by kernel_rfl
theorem Tg : Fits (78, 30) := wz Tryz.func78 RQ (by kernel_rfl) (by kernel_rfl)
theorem RR : wE L Tryz.f79 AP.f31 = some (AP.f31.body, AP.f31.res) := by kernel_rfl
theorem Th : Fits (79, 31) := wz Tryz.func79 RR (by kernel_rfl) (by kernel_rfl)
theorem RS : wE L Tryz.f80 AP.f32 = some (AP.f32.body, AP.f32.res) := by kernel_rfl
theorem Ti : Fits (80, 32) := wz Tryz.func80 RS (by kernel_rfl) (by kernel_rfl)
theorem RW : wE L Tryz.f81 AP.f35 = some (AP.f35.body, AP.f35.res) := by kernel_rfl
theorem Tm : Fits (81, 35) := wz Tryz.func81 RW (by kernel_rfl) (by kernel_rfl)
theorem Pm : wE L Tryz.f82 AP.f121 = some (AP.f121.body, AP.f121.res) := by kernel_rfl
theorem Qk : Fits (82, 121) := wz Tryz.func82 Pm (by kernel_rfl) (by kernel_rfl)
theorem Pn : wE L Tryz.f83 AP.f122 = some (AP.f122.body, AP.f122.res) := by kernel_rfl
theorem Ql : Fits (83, 122) := wz Tryz.func83 Pn (by kernel_rfl) (by kernel_rfl)
theorem Ux : wE L Tryz.f84 AP.f7 = some (AP.f7.body, AP.f7.res) := by kernel_rfl
theorem UU : Fits (84, 7) := wz Tryz.func84 Ux (by kernel_rfl) (by kernel_rfl)
theorem SN : wE L Tryz.f91 AP.f83 = some (AP.f83.body, AP.f83.res) := by kernel_rfl
theorem Ue : Fits (91, 83) := wz Tryz.func91 SN (by kernel_rfl) (by kernel_rfl)
theorem Po : wE L Tryz.f92 AP.f123 = some (AP.f123.body, AP.f123.res) := by kernel_rfl
theorem Qm : Fits (92, 123) := wz Tryz.func92 Po (by kernel_rfl) (by kernel_rfl)
theorem Sf : wE L Tryz.f93 AP.f57 = some (AP.f57.body, AP.f57.res) := by kernel_rfl
theorem TF : Fits (93, 57) := wz Tryz.func93 Sf (by kernel_rfl) (by kernel_rfl)
theorem Sc : wE L Tryz.f94 AP.f55 = some (AP.f55.body, AP.f55.res) := by kernel_rfl
theorem TD : Fits (94, 55) := wz Tryz.func94 Sc (by kernel_rfl) (by kernel_rfl)
theorem Sb : wE L Tryz.f95 AP.f52 = some (AP.f52.body, AP.f52.res) := by kernel_rfl
theorem TC : Fits (95, 52) := wz Tryz.func95 Sb (by kernel_rfl) (by kernel_rfl)
theorem R9 : wE L Tryz.f96 AP.f50 = some (AP.f50.body, AP.f50.res) := by kernel_rfl
theorem TA : Fits (96, 50) := wz Tryz.func96 R9 (by kernel_rfl) (by kernel_rfl)
theorem Sa : wE L Tryz.f97 AP.f51 = some (AP.f51.body, AP.f51.res) := by kernel_rfl
theorem TB : Fits (97, 51) := wz Tryz.func97 Sa (by kernel_rfl) (by kernel_rfl)
theorem Sd : wE L Tryz.f98 AP.f56 = some (AP.f56.body, AP.f56.res) := by kernel_rfl
theorem TE : Fits (98, 56) := wz Tryz.func98 Sd (by kernel_rfl) (by kernel_rfl)
theorem Pp : wE L Tryz.f99 AP.f124 = some (AP.f124.body, AP.f124.res) := by kernel_rfl
theorem Qn : Fits (99, 124) := wz Tryz.func99 Pp (by kernel_rfl) (by kernel_rfl)
theorem RF : wE L Tryz.f100 AP.f14 = some (AP.f14.body, AP.f14.res) := by kernel_rfl
theorem SY : Fits (100, 14) := wz Tryz.func100 RF (by kernel_rfl) (by kernel_rfl)
theorem RG : wE L Tryz.f101 AP.f15 = some (AP.f15.body, AP.f15.res) := by kernel_rfl
theorem SZ : Fits (101, 15) := wz Tryz.func101 RG (by kernel_rfl) (by kernel_rfl)
theorem RH : wE L Tryz.f102 AP.f16 = some (AP.f16.body, AP.f16.res) := by kernel_rfl
theorem S7 : Fits (102, 16) := wz Tryz.func102 RH (by kernel_rfl) (by kernel_rfl)
theorem RI : wE L Tryz.f103 AP.f17 = some (AP.f17.body, AP.f17.res) := by kernel_rfl
theorem S8 : Fits (103, 17) := wz Tryz.func103 RI (by kernel_rfl) (by kernel_rfl)
theorem SO : wE L Tryz.f110 AP.f84 = some (AP.f84.body, AP.f84.res) := by kernel_rfl
theorem Uf : Fits (110, 84) := wz Tryz.func110 SO (by kernel_rfl) (by kernel_rfl)
theorem Sw : wE L Tryz.f111 AP.f69 = some (AP.f69.body, AP.f69.res) := by kernel_rfl
theorem TT : Fits (111, 69) := wz Tryz.func111 Sw (by kernel_rfl) (by kernel_rfl)
theorem Su : wE L Tryz.f112 AP.f67 = some (AP.f67.body, AP.f67.res) := by kernel_rfl
theorem TQ : Fits (112, 67) := wz Tryz.func112 Su (by kernel_rfl) (by kernel_rfl)
theorem Sv : wE L Tryz.f113 AP.f68 = some (AP.f68.body, AP.f68.res) := by kernel_rfl
theorem TR : Fits (113, 68) := wz Tryz.func113 Sv (by kernel_rfl) (by kernel_rfl)
theorem Sx : wE L Tryz.f114 AP.f70 = some (AP.f70.body, AP.f70.res) := by kernel_rfl
theorem TU : Fits (114, 70) := wz Tryz.func114 Sx (by kernel_rfl) (by kernel_rfl)
theorem Sz : wE L Tryz.f115 AP.f71 = some (AP.f71.body, AP.f71.res) := by kernel_rfl
theorem TV : Fits (115, 71) := wz Tryz.func115 Sz (by kernel_rfl) (by kernel_rfl)
theorem Pq : wE L Tryz.f116 AP.f125 = some (AP.f125.body, AP.f125.res) := by kernel_rfl
theorem Qo : Fits (116, 125) := wz Tryz.func116 Pq (by kernel_rfl) (by kernel_rfl)
theorem Pr : wE L Tryz.f117 AP.f126 = some (AP.f126.body, AP.f126.res) := by kernel_rfl
theorem Qp : Fits (117, 126) := wz Tryz.func117 Pr (by kernel_rfl) (by kernel_rfl)
theorem Ps : wE L Tryz.f118 AP.f127 = some (AP.f127.body, AP.f127.res) := by kernel_rfl
theorem Qq : Fits (118, 127) := wz Tryz.func118 Ps (by kernel_rfl) (by kernel_rfl)
theorem Pt : wE L Tryz.f119 AP.f128 = some (AP.f128.body, AP.f128.res) := by kernel_rfl
theorem Qr : Fits (119, 128) := wz Tryz.func119 Pt (by kernel_rfl) (by kernel_rfl)
theorem Pu : wE L Tryz.f120 AP.f129 = some (AP.f129.body, AP.f129.res) := by kernel_rfl
theorem Qs : Fits (120, 129) := wz Tryz.func120 Pu (by kernel_rfl) (by kernel_rfl)
theorem Pv : wE L Tryz.f121 AP.f130 = some (AP.f130.body, AP.f130.res) := by kernel_rfl
theorem Qt : Fits (121, 130) := wz Tryz.func121 Pv (by kernel_rfl) (by kernel_rfl)
theorem Px : wE L Tryz.f122 AP.f131 = some (AP.f131.body, AP.f131.res) := by kernel_rfl
theorem Qu : Fits (122, 131) := wz Tryz.func122 Px (by kernel_rfl) (by kernel_rfl)
theorem RZ : wE L Tryz.f123 AP.f38 = some (AP.f38.body, AP.f38.res) := by kernel_rfl
theorem Tp : Fits (123, 38) := wz Tryz.func123 RZ (by kernel_rfl) (by kernel_rfl)
theorem R1 : wE L Tryz.f124 AP.f39 = some (AP.f39.body, AP.f39.res) := by kernel_rfl
theorem Tq : Fits (124, 39) := wz Tryz.func124 R1 (by kernel_rfl) (by kernel_rfl)
theorem R3 : wE L Tryz.f125 AP.f40 = some (AP.f40.body, AP.f40.res) := by kernel_rfl
theorem Ts : Fits (125, 40) := wz Tryz.func125 R3 (by kernel_rfl) (by kernel_rfl)
theorem R4 : wE L Tryz.f126 AP.f41 = some (AP.f41.body, AP.f41.res) := by kernel_rfl
theorem Tt : Fits (126, 41) := wz Tryz.func126 R4 (by kernel_rfl) (by kernel_rfl)
theorem R5 : wE L Tryz.f127 AP.f42 = some (AP.f42.body, AP.f42.res) := by kernel_rfl
theorem Tu : Fits (127, 42) := wz Tryz.func127 R5 (by kernel_rfl) (by kernel_rfl)
theorem R6 : wE L Tryz.f128 AP.f43 = some (AP.f43.body, AP.f43.res) := by kernel_rfl
theorem Tv : Fits (128, 43) := wz Tryz.func128 R6 (by kernel_rfl) (by kernel_rfl)
theorem R7 : wE L Tryz.f129 AP.f44 = some (AP.f44.body, AP.f44.res) := by kernel_rfl
theorem Tw : Fits (129, 44) := wz Tryz.func129 R7 (by kernel_rfl) (by kernel_rfl)
theorem R8 : wE L Tryz.f130 AP.f45 = some (AP.f45.body, AP.f45.res) := by kernel_rfl
theorem Tx : Fits (130, 45) := wz Tryz.func130 R8 (by kernel_rfl) (by kernel_rfl)
theorem Py : wE L Tryz.f131 AP.f132 = some (AP.f132.body, AP.f132.res) := by kernel_rfl
theorem Qv : Fits (131, 132) := wz Tryz.func131 Py (by kernel_rfl) (by kernel_rfl)
theorem Pz : wE L Tryz.f132 AP.f133 = some (AP.f133.body, AP.f133.res) := by kernel_rfl
theorem Qw : Fits (132, 133) := wz Tryz.func132 Pz (by kernel_rfl) (by kernel_rfl)
theorem PD : wE L Tryz.f133 AP.f134 = some (AP.f134.body, AP.f134.res) := by kernel_rfl
theorem Qx : Fits (133, 134) := wz Tryz.func133 PD (by kernel_rfl) (by kernel_rfl)
theorem PF : wE L Tryz.f134 AP.f135 = some (AP.f135.body, AP.f135.res) := by kernel_rfl
theorem Qy : Fits (134, 135) := wz Tryz.func134 PF (by kernel_rfl) (by kernel_rfl)
theorem Sg : wE L Tryz.f135 AP.f58 = some (AP.f58.body, AP.f58.res) := by kernel_rfl
theorem TG : Fits (135, 58) := wz Tryz.func135 Sg (by kernel_rfl) (by kernel_rfl)
theorem Si : wE L Tryz.f136 AP.f59 = some (AP.f59.body, AP.f59.res) := by kernel_rfl
theorem TH : Fits (136, 59) := wz Tryz.func136 Si (by kernel_rfl) (by kernel_rfl)
theorem Sj : wE L Tryz.f137 AP.f60 = some (AP.f60.body, AP.f60.res) := by kernel_rfl
theorem TI : Fits (137, 60) := wz Tryz.func137 Sj (by kernel_rfl) (by kernel_rfl)
theorem Sk : wE L Tryz.f138 AP.f61 = some (AP.f61.body, AP.f61.res) := by kernel_rfl
theorem TJ : Fits (138, 61) := wz Tryz.func138 Sk (by kernel_rfl) (by kernel_rfl)
theorem Sl : wE L Tryz.f139 AP.f62 = some (AP.f62.body, AP.f62.res) := by kernel_rfl
theorem TL : Fits (139, 62) := wz Tryz.func139 Sl (by kernel_rfl) (by kernel_rfl)
theorem Sn : wE L Tryz.f140 AP.f63 = some (AP.f63.body, AP.f63.res) := by kernel_rfl
theorem TM : Fits (140, 63) := wz Tryz.func140 Sn (by kernel_rfl) (by kernel_rfl)
theorem Sp : wE L Tryz.f141 AP.f64 = some (AP.f64.body, AP.f64.res) := by kernel_rfl
theorem TN : Fits (141, 64) := wz Tryz.func141 Sp (by kernel_rfl) (by kernel_rfl)
theorem Sq : wE L Tryz.f142 AP.f65 = some (AP.f65.body, AP.f65.res) := by kernel_rfl
theorem TO : Fits (142, 65) := wz Tryz.func142 Sq (by kernel_rfl) (by kernel_rfl)
theorem Ss : wE L Tryz.f143 AP.f66 = some (AP.f66.body, AP.f66.res) := by kernel_rfl
theorem TP : Fits (143, 66) := wz Tryz.func143 Ss (by kernel_rfl) (by kernel_rfl)
theorem PG : wE L Tryz.f146 AP.f138 = some (AP.f138.body, AP.f138.res) := by kernel_rfl
theorem QB : Fits (146, 138) := wz Tryz.func146 PG (by kernel_rfl) (by kernel_rfl)
theorem SA : wE L Tryz.f147 AP.f72 = some (AP.f72.body, AP.f72.res) := by kernel_rfl
theorem TW : Fits (147, 72) := wz Tryz.func147 SA (by kernel_rfl) (by kernel_rfl)
theorem SD : wE L Tryz.f148 AP.f73 = some (AP.f73.body, AP.f73.res) := by kernel_rfl
theorem TX : Fits (148, 73) := wz Tryz.func148 SD (by kernel_rfl) (by kernel_rfl)
theorem SE : wE L Tryz.f149 AP.f74 = some (AP.f74.body, AP.f74.res) := by kernel_rfl
theorem TY : Fits (149, 74) := wz Tryz.func149 SE (by kernel_rfl) (by kernel_rfl)
theorem SF : wE L Tryz.f150 AP.f75 = some (AP.f75.body, AP.f75.res) := by kernel_rfl
theorem TZ : Fits (150, 75) := wz Tryz.func150 SF (by kernel_rfl) (by kernel_rfl)
theorem SG : wE L Tryz.f151 AP.f76 = some (AP.f76.body, AP.f76.res) := by kernel_rfl
theorem T7 : Fits (151, 76) := wz Tryz.func151 SG (by kernel_rfl) (by kernel_rfl)
theorem SH : wE L Tryz.f152 AP.f77 = some (AP.f77.body, AP.f77.res) := by kernel_rfl
theorem T8 : Fits (152, 77) := wz Tryz.func152 SH (by kernel_rfl) (by kernel_rfl)
theorem SI : wE L Tryz.f153 AP.f78 = some (AP.f78.body, AP.f78.res) := by kernel_rfl
theorem T9 : Fits (153, 78) := wz Tryz.func153 SI (by kernel_rfl) (by kernel_rfl)
theorem SJ : wE L Tryz.f154 AP.f79 = some (AP.f79.body, AP.f79.res) := by kernel_rfl
theorem Ua : Fits (154, 79) := wz Tryz.func154 SJ (by kernel_rfl) (by kernel_rfl)
theorem SK : wE L Tryz.f155 AP.f80 = some (AP.f80.body, AP.f80.res) := by kernel_rfl
theorem Ub : Fits (155, 80) := wz Tryz.func155 SK (by kernel_rfl) (by kernel_rfl)
theorem SL : wE L Tryz.f156 AP.f81 = some (AP.f81.body, AP.f81.res) := by kernel_rfl
theorem Uc : Fits (156, 81) := wz Tryz.func156 SL (by kernel_rfl) (by kernel_rfl)
theorem PH : wE L Tryz.f157 AP.f139 = some (AP.f139.body, AP.f139.res) := by kernel_rfl
theorem QC : Fits (157, 139) := wz Tryz.func157 PH (by kernel_rfl) (by kernel_rfl)
theorem PI : wE L Tryz.f158 AP.f140 = some (AP.f140.body, AP.f140.res) := by kernel_rfl
theorem QD : Fits (158, 140) := wz Tryz.func158 PI (by kernel_rfl) (by kernel_rfl)
theorem PJ : wE L Tryz.f159 AP.f141 = some (AP.f141.body, AP.f141.res) := by kernel_rfl
theorem QE : Fits (159, 141) := wz Tryz.func159 PJ (by kernel_rfl) (by kernel_rfl)
theorem SM : wE L Tryz.f161 AP.f82 = some (AP.f82.body, AP.f82.res) := by kernel_rfl
theorem Ud : Fits (161, 82) := wz Tryz.func161 SM (by kernel_rfl) (by kernel_rfl)
theorem Qz : Fits (144, 136) := ⟨Tryz.f144, _, Tryz.func144, rfl, by kernel_rfl, fun af h => by cases h⟩
theorem QA : Fits (145, 137) := ⟨Tryz.f145, _, Tryz.func145, rfl, by kernel_rfl, fun af h => by cases h⟩
theorem QF : Fits (162, 143) := ⟨Tryz.f162, _, Tryz.func162, rfl, by kernel_rfl, fun af h => by cases h⟩
theorem Ut : ∀ p ∈ Ve, Fits p := wy QG (wy Ug (wy UW (wy QH (wy PZ (wy Uj (wy Ui (wy Uh (wy P0 (wy P1 (wy P2 (wy P3 (wy QI (wy P4 (wy P5 (wy P6 (wy P9 (wy Uk (wy Qa (wy Qb (wy SW (wy QJ (wy QK (wy SX (wy Qc (wy Qd (wy Qe (wy Qf (wy Qg (wy Qh (wy Qi (wy Qj (wy Tc (wy Tj (wy QL (wy To (wy Td (wy Tl (wy S9 (wy Ta (wy Tn (wy Te (wy Tf (wy Tg (wy Th (wy Ti (wy Tm (wy Qk (wy Ql (wy UU (wy Ue (wy Qm (wy TF (wy TD (wy TC (wy TA (wy TB (wy TE (wy Qn (wy SY (wy SZ (wy S7 (wy S8 (wy Uf (wy TT (wy TQ (wy TR (wy TU (wy TV (wy Qo (wy Qp (wy Qq (wy Qr (wy Qs (wy Qt (wy Qu (wy Tp (wy Tq (wy Ts (wy Tt (wy Tu (wy Tv (wy Tw (wy Tx (wy Qv (wy Qw (wy Qx (wy Qy (wy TG (wy TH (wy TI (wy TJ (wy TL (wy TM (wy TN (wy TO (wy TP (wy QB (wy TW (wy TX (wy TY (wy TZ (wy T7 (wy T8 (wy T9 (wy Ua (wy Ub (wy Uc (wy QC (wy QD (wy QE (wy Ud (wy Qz (wy QA (wy QF (Lz)))))))))))))))))))))))))))))))))))))))))))))))))))))))))))))))))))))))))))))))))))))))))))))))))))))))))))))))))))
theorem lk : eW L AP.A := ⟨by kernel_rfl, fun fid f h => Ut (fid, f) (Gf h)⟩
end Ab.Ln
