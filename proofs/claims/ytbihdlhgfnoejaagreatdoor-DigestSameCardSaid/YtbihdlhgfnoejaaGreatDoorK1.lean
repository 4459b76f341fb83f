/- Part K1. -/
import Derived.Test.YtbihdlhgfnoejaaGreatDoorProg
import Derived.KernelRfl
import Derived.Test.YtbihdlhgfnoejaaGreatDoorAP
namespace Ab.Ln
open Go Go.Proofs Ab
def HN : List (Nat × Nat) → Nat → Option Nat
 | [], _ => none
 | (i, f) :: r, k => if i = k then some f else HN r k
def wC (L : Lk) (fn : Func) (af : fI) : Option (aH × List RV) := fn.body.bind fun c => (comp L fn.ntmps c af.body).bind fun x => (c9 L fn.results.toList).bind fun r => some (x, r)
def UF : List (Nat × Nat) := [(4, 146), (8, 92), (10, 91), (12, 93), (14, 9), (17, 90), (18, 94), (19, 154), (24, 96), (28, 101), (30, 102), (31, 103), (32, 104), (35, 105), (38, 163), (39, 107), (49, 111), (50, 112), (52, 12), (53, 170), (54, 171), (55, 13), (56, 113), (57, 114), (58, 115), (61, 117), (65, 119), (66, 120), (67, 26), (68, 33), (69, 174), (70, 37), (71, 27), (72, 34), (73, 22), (74, 23), (75, 36), (76, 28), (77, 29), (78, 30), (79, 31), (80, 32), (81, 35), (82, 121), (83, 122), (84, 7), (91, 83), (92, 123), (93, 57), (94, 55), (95, 52), (96, 50), (97, 51), (98, 56), (99, 124), (100, 14), (101, 15), (102, 16), (103, 17), (110, 84), (111, 69), (112, 67), (113, 68), (114, 70), (115, 71), (116, 125), (117, 126), (118, 127), (119, 128), (120, 129), (121, 130), (122, 131), (123, 38), (124, 39), (125, 40), (126, 41), (127, 42), (128, 43), (129, 44), (130, 45), (131, 132), (132, 133), (133, 134), (134, 135), (135, 58), (136, 59), (137, 60), (138, 61), (139, 62), (140, 63), (141, 64), (142, 65), (143, 66), (146, 138), (147, 72), (148, 73), (149, 74), (150, 75), (151, 76), (152, 77), (153, 78), (154, 79), (155, 80), (156, 81), (157, 139), (158, 140), (159, 141), (161, 82), (144, 136), (145, 137), (162, 143)]
def UW : List (Nat × Nat) := [(9, 0)]
def mf (k : Nat) : Option Nat := HN UF k
def mt (k : Nat) : Nat := (HN UW k).getD (k + 100000)
noncomputable def L : Lk := ⟨Tryz.prog, mf, mt⟩
def Fits (p : Nat × Nat) : Prop := ∃ fn c, L.P.funcs[p.1]? = some fn ∧ fn.body = some c ∧ (fn.name == "runtime.NumGoroutine") = false ∧
    ∀ af, AP.A p.2 = some af → (∃ x0, comp L fn.ntmps c x0 = some af.body) ∧ c9 L fn.results.toList = some af.res
theorem wz {k a : Nat} {fn : Func} {af : fI} (h1 : L.P.funcs[k]? = some fn) (h2 : wC L fn af = some (af.body, af.res)) (h3 : (fn.name == "runtime.NumGoroutine") = false) (h4 : AP.A a = some af) : Fits (k, a) := by
 unfold wC at h2
 simp only [vH] at h2
 obtain ⟨c, g1, x, g2, r, g3, g4⟩ := h2
 obtain ⟨rfl, rfl⟩ := vJ (vG g4)
 refine ⟨fn, c, h1, g1, h3, fun af2 g5 => ?_⟩
 rw [h4] at g5
 obtain rfl := vG g5
 exact ⟨⟨_, g2⟩, g3⟩
theorem FM : ∀ {l : List (Nat × Nat)} {k f : Nat}, HN l k = some f → (k, f) ∈ l
 | [], _, _, h => by cases h
 | (i, g) :: r, k, f, h => by
   unfold HN at h
   split at h
   · rename_i e; subst e; obtain rfl := vG h; exact List.mem_cons_self
   · exact List.mem_cons_of_mem _ (FM h)
theorem KX : ∀ p ∈ ([] : List (Nat × Nat)), Fits p := fun p h => by cases h
theorem wy {p : Nat × Nat} {l : List (Nat × Nat)} (h1 : Fits p) (h2 : ∀ q ∈ l, Fits q) : ∀ q ∈ p :: l, Fits q := fun q h => by
 rcases wj.1 h with rfl | h
 · exact h1
 · exact h2 q h
theorem O6 : wC L Tryz.f4 AP.f146 = some (AP.f146.body, AP.f146.res) := by kernel_rfl
theorem P4 : Fits (4, 146) := wz Tryz.func4 O6 (by kernel_rfl) (by kernel_rfl)
theorem Sb : wC L Tryz.f8 AP.f92 = some (AP.f92.body, AP.f92.res) := by kernel_rfl
theorem TG : Fits (8, 92) := wz Tryz.func8 Sb (by kernel_rfl) (by kernel_rfl)
theorem Sa : wC L Tryz.f10 AP.f91 = some (AP.f91.body, AP.f91.res) := by kernel_rfl
theorem TF : Fits (10, 91) := wz Tryz.func10 Sa (by kernel_rfl) (by kernel_rfl)
theorem Sc : wC L Tryz.f12 AP.f93 = some (AP.f93.body, AP.f93.res) := by kernel_rfl
theorem TH : Fits (12, 93) := wz Tryz.func12 Sc (by kernel_rfl) (by kernel_rfl)
theorem T9 : wC L Tryz.f14 AP.f9 = some (AP.f9.body, AP.f9.res) := by kernel_rfl
theorem Uw : Fits (14, 9) := wz Tryz.func14 T9 (by kernel_rfl) (by kernel_rfl)
theorem R9 : wC L Tryz.f17 AP.f90 = some (AP.f90.body, AP.f90.res) := by kernel_rfl
theorem TE : Fits (17, 90) := wz Tryz.func17 R9 (by kernel_rfl) (by kernel_rfl)
theorem Sd : wC L Tryz.f18 AP.f94 = some (AP.f94.body, AP.f94.res) := by kernel_rfl
theorem TI : Fits (18, 94) := wz Tryz.func18 Sd (by kernel_rfl) (by kernel_rfl)
theorem O7 : wC L Tryz.f19 AP.f154 = some (AP.f154.body, AP.f154.res) := by kernel_rfl
theorem P5 : Fits (19, 154) := wz Tryz.func19 O7 (by kernel_rfl) (by kernel_rfl)
theorem Sf : wC L Tryz.f24 AP.f96 = some (AP.f96.body, AP.f96.res) := by kernel_rfl
theorem TJ : Fits (24, 96) := wz Tryz.func24 Sf (by kernel_rfl) (by kernel_rfl)
theorem Oo : wC L Tryz.f28 AP.f101 = some (AP.f101.body, AP.f101.res) := by kernel_rfl
theorem Pn : Fits (28, 101) := wz Tryz.func28 Oo (by kernel_rfl) (by kernel_rfl)
theorem Oq : wC L Tryz.f30 AP.f102 = some (AP.f102.body, AP.f102.res) := by kernel_rfl
theorem Po : Fits (30, 102) := wz Tryz.func30 Oq (by kernel_rfl) (by kernel_rfl)
theorem Ot : wC L Tryz.f31 AP.f103 = some (AP.f103.body, AP.f103.res) := by kernel_rfl
theorem Pp : Fits (31, 103) := wz Tryz.func31 Ot (by kernel_rfl) (by kernel_rfl)
theorem Ou : wC L Tryz.f32 AP.f104 = some (AP.f104.body, AP.f104.res) := by kernel_rfl
theorem Pq : Fits (32, 104) := wz Tryz.func32 Ou (by kernel_rfl) (by kernel_rfl)
theorem Ov : wC L Tryz.f35 AP.f105 = some (AP.f105.body, AP.f105.res) := by kernel_rfl
theorem Pr : Fits (35, 105) := wz Tryz.func35 Ov (by kernel_rfl) (by kernel_rfl)
theorem O8 : wC L Tryz.f38 AP.f163 = some (AP.f163.body, AP.f163.res) := by kernel_rfl
theorem P6 : Fits (38, 163) := wz Tryz.func38 O8 (by kernel_rfl) (by kernel_rfl)
theorem Ow : wC L Tryz.f39 AP.f107 = some (AP.f107.body, AP.f107.res) := by kernel_rfl
theorem Ps : Fits (39, 107) := wz Tryz.func39 Ow (by kernel_rfl) (by kernel_rfl)
theorem Ox : wC L Tryz.f49 AP.f111 = some (AP.f111.body, AP.f111.res) := by kernel_rfl
theorem Pt : Fits (49, 111) := wz Tryz.func49 Ox (by kernel_rfl) (by kernel_rfl)
theorem Oy : wC L Tryz.f50 AP.f112 = some (AP.f112.body, AP.f112.res) := by kernel_rfl
theorem Pu : Fits (50, 112) := wz Tryz.func50 Oy (by kernel_rfl) (by kernel_rfl)
theorem QU : wC L Tryz.f52 AP.f12 = some (AP.f12.body, AP.f12.res) := by kernel_rfl
theorem Sk : Fits (52, 12) := wz Tryz.func52 QU (by kernel_rfl) (by kernel_rfl)
theorem O9 : wC L Tryz.f53 AP.f170 = some (AP.f170.body, AP.f170.res) := by kernel_rfl
theorem P9 : Fits (53, 170) := wz Tryz.func53 O9 (by kernel_rfl) (by kernel_rfl)
theorem Pa : wC L Tryz.f54 AP.f171 = some (AP.f171.body, AP.f171.res) := by kernel_rfl
theorem Qa : Fits (54, 171) := wz Tryz.func54 Pa (by kernel_rfl) (by kernel_rfl)
theorem QV : wC L Tryz.f55 AP.f13 = some (AP.f13.body, AP.f13.res) := by kernel_rfl
theorem Sl : Fits (55, 13) := wz Tryz.func55 QV (by kernel_rfl) (by kernel_rfl)
theorem Oz : wC L Tryz.f56 AP.f113 = some (AP.f113.body, AP.f113.res) := by kernel_rfl
theorem Pv : Fits (56, 113) := wz Tryz.func56 Oz (by kernel_rfl) (by kernel_rfl)
theorem OA : wC L Tryz.f57 AP.f114 = some (AP.f114.body, AP.f114.res) := by kernel_rfl
theorem Px : Fits (57, 114) := wz Tryz.func57 OA (by kernel_rfl) (by kernel_rfl)
theorem OC : wC L Tryz.f58 AP.f115 = some (AP.f115.body, AP.f115.res) := by kernel_rfl
theorem Py : Fits (58, 115) := wz Tryz.func58 OC (by kernel_rfl) (by kernel_rfl)
theorem OD : wC L Tryz.f61 AP.f117 = some (AP.f117.body, AP.f117.res) := by kernel_rfl
theorem Pz : Fits (61, 117) := wz Tryz.func61 OD (by kernel_rfl) (by kernel_rfl)
theorem OE : wC L Tryz.f65 AP.f119 = some (AP.f119.body, AP.f119.res) := by kernel_rfl
theorem PD : Fits (65, 119) := wz Tryz.func65 OE (by kernel_rfl) (by kernel_rfl)
theorem OG : wC L Tryz.f66 AP.f120 = some (AP.f120.body, AP.f120.res) := by kernel_rfl
theorem PF : Fits (66, 120) := wz Tryz.func66 OG (by kernel_rfl) (by kernel_rfl)
theorem Q2 : wC L Tryz.f67 AP.f26 = some (AP.f26.body, AP.f26.res) := by kernel_rfl
theorem Sw : Fits (67, 26) := wz Tryz.func67 Q2 (by kernel_rfl) (by kernel_rfl)
theorem Q9 : wC L Tryz.f68 AP.f33 = some (AP.f33.body, AP.f33.res) := by kernel_rfl
theorem SG : Fits (68, 33) := wz Tryz.func68 Q9 (by kernel_rfl) (by kernel_rfl)
theorem Pb : wC L Tryz.f69 AP.f174 = some (AP.f174.body, AP.f174.res) := by kernel_rfl
theorem Qb : Fits (69, 174) := wz Tryz.func69 Pb (by kernel_rfl) (by kernel_rfl)
theorem Re : wC L Tryz.f70 AP.f37 = some (AP.f37.body, AP.f37.res) := by kernel_rfl
theorem SK : Fits (70, 37) := wz Tryz.func70 Re (by kernel_rfl) (by kernel_rfl)
theorem Q3 : wC L Tryz.f71 AP.f27 = some (AP.f27.body, AP.f27.res) := by kernel_rfl
theorem Sx : Fits (71, 27) := wz Tryz.func71 Q3 (by kernel_rfl) (by kernel_rfl)
theorem Ra : wC L Tryz.f72 AP.f34 = some (AP.f34.body, AP.f34.res) := by kernel_rfl
theorem SH : Fits (72, 34) := wz Tryz.func72 Ra (by kernel_rfl) (by kernel_rfl)
theorem Q0 : wC L Tryz.f73 AP.f22 = some (AP.f22.body, AP.f22.res) := by kernel_rfl
theorem Su : Fits (73, 22) := wz Tryz.func73 Q0 (by kernel_rfl) (by kernel_rfl)
theorem Q1 : wC L Tryz.f74 AP.f23 = some (AP.f23.body, AP.f23.res) := by kernel_rfl
theorem Sv : Fits (74, 23) := wz Tryz.func74 Q1 (by kernel_rfl) (by kernel_rfl)
theorem Rc : wC L Tryz.f75 AP.f36 = some (AP.f36.body, AP.f36.res) := by kernel_rfl
theorem SJ : Fits (75, 36) := wz Tryz.func75 Rc (by kernel_rfl) (by kernel_rfl)
theorem Q4 : wC L Tryz.f76 AP.f28 = some (AP.f28.body, AP.f28.res) := by kernel_rfl
theorem Sz : Fits (76, 28) := wz Tryz.func76 Q4 (by kernel_rfl) (by kernel_rfl)
theorem Q5 : wC L Tryz.f77 AP.f29 = some (AP.f29.body, AP.f29.res) := by kernel_rfl
theorem SA : Fits (77, 29) := wz Tryz.func77 Q5 (by kernel_rfl) (by kernel_rfl)
theorem Q6 : wC L Tryz.f78 AP.f30 = some (AP.f30.body, AP.f30.res) := by kernel_rfl
theorem SD : Fits (78, 30) := wz Tryz.func78 Q6 (by kernel_rfl) (by kernel_rfl)
theorem Q7 : wC L Tryz.f79 AP.f31 = some (AP.f31.body, AP.f31.res) := by kernel_rfl
theorem SE : Fits (79, 31) := wz Tryz.func79 Q7 (by kernel_rfl) (by kernel_rfl)
theorem Q8 : wC L Tryz.f80 AP.f32 = some (AP.f32.body, AP.f32.res) := by kernel_rfl
theorem SF : Fits (80, 32) := wz Tryz.func80 Q8 (by kernel_rfl) (by kernel_rfl)
theorem Rb : wC L Tryz.f81 AP.f35 = some (AP.f35.body, AP.f35.res) := by kernel_rfl
theorem SI : Fits (81, 35) := wz Tryz.func81 Rb (by kernel_rfl) (by kernel_rfl)
theorem OH : wC L Tryz.f82 AP.f121 = some (AP.f121.body, AP.f121.res) := by kernel_rfl
theorem PG : Fits (82, 121) := wz Tryz.func82 OH (by kernel_rfl) (by kernel_rfl)
theorem OI : wC L Tryz.f83 AP.f122 = some (AP.f122.body, AP.f122.res) := by kernel_rfl
theorem PH : Fits (83, 122) := wz Tryz.func83 OI (by kernel_rfl) (by kernel_rfl)
theorem T8 : wC L Tryz.f84 AP.f7 = some (AP.f7.body, AP.f7.res) := by kernel_rfl
theorem Uv : Fits (84, 7) := wz Tryz.func84 T8 (by kernel_rfl) (by kernel_rfl)
theorem R7 : wC L Tryz.f91 AP.f83 = some (AP.f83.body, AP.f83.res) := by kernel_rfl
theorem TC : Fits (91, 83) := wz Tryz.func91 R7 (by kernel_rfl) (by kernel_rfl)
theorem OJ : wC L Tryz.f92 AP.f123 = some (AP.f123.body, AP.f123.res) := by kernel_rfl
theorem PI : Fits (92, 123) := wz Tryz.func92 OJ (by kernel_rfl) (by kernel_rfl)
theorem RD : wC L Tryz.f93 AP.f57 = some (AP.f57.body, AP.f57.res) := by kernel_rfl
theorem S7 : Fits (93, 57) := wz Tryz.func93 RD (by kernel_rfl) (by kernel_rfl)
theorem RB : wC L Tryz.f94 AP.f55 = some (AP.f55.body, AP.f55.res) := by kernel_rfl
theorem SY : Fits (94, 55) := wz Tryz.func94 RB (by kernel_rfl) (by kernel_rfl)
theorem RA : wC L Tryz.f95 AP.f52 = some (AP.f52.body, AP.f52.res) := by kernel_rfl
theorem SX : Fits (95, 52) := wz Tryz.func95 RA (by kernel_rfl) (by kernel_rfl)
theorem Rr : wC L Tryz.f96 AP.f50 = some (AP.f50.body, AP.f50.res) := by kernel_rfl
theorem SV : Fits (96, 50) := wz Tryz.func96 Rr (by kernel_rfl) (by kernel_rfl)
theorem Rw : wC L Tryz.f97 AP.f51 = some (AP.f51.body, AP.f51.res) := by kernel_rfl
theorem SW : Fits (97, 51) := wz Tryz.func97 Rw (by kernel_rfl) (by kernel_rfl)
theorem RC : wC L Tryz.f98 AP.f56 = some (AP.f56.body, AP.f56.res) := by kernel_rfl
theorem SZ : Fits (98, 56) := wz Tryz.func98 RC (by kernel_rfl) (by kernel_rfl)
theorem OK : wC L Tryz.f99 AP.f124 = some (AP.f124.body, AP.f124.res) := by kernel_rfl
theorem PJ : Fits (99, 124) := wz Tryz.func99 OK (by kernel_rfl) (by kernel_rfl)
theorem QW : wC L Tryz.f100 AP.f14 = some (AP.f14.body, AP.f14.res) := by kernel_rfl
theorem Sn : Fits (100, 14) := wz Tryz.func100 QW (by kernel_rfl) (by kernel_rfl)
theorem QX : wC L Tryz.f101 AP.f15 = some (AP.f15.body, AP.f15.res) := by kernel_rfl
theorem Sp : Fits (101, 15) := wz Tryz.func101 QX (by kernel_rfl) (by kernel_rfl)
theorem QY : wC L Tryz.f102 AP.f16 = some (AP.f16.body, AP.f16.res) := by kernel_rfl
theorem Sq : Fits (102, 16) := wz Tryz.func102 QY (by kernel_rfl) (by kernel_rfl)
theorem QZ : wC L Tryz.f103 AP.f17 = some (AP.f17.body, AP.f17.res) := by kernel_rfl
theorem Ss : Fits (103, 17) := wz Tryz.func103 QZ (by kernel_rfl) (by kernel_rfl)
theorem R8 : wC L Tryz.f110 AP.f84 = some (AP.f84.body, AP.f84.res) := by kernel_rfl
theorem TD : Fits (110, 84) := wz Tryz.func110 R8 (by kernel_rfl) (by kernel_rfl)
theorem RQ : wC L Tryz.f111 AP.f69 = some (AP.f69.body, AP.f69.res) := by kernel_rfl
theorem Tl : Fits (111, 69) := wz Tryz.func111 RQ (by kernel_rfl) (by kernel_rfl)
theorem RN : wC L Tryz.f112 AP.f67 = some (AP.f67.body, AP.f67.res) := by kernel_rfl
theorem Ti : Fits (112, 67) := wz Tryz.func112 RN (by kernel_rfl) (by kernel_rfl)
theorem RP : wC L Tryz.f113 AP.f68 = some (AP.f68.body, AP.f68.res) := by kernel_rfl
theorem Tj : Fits (113, 68) := wz Tryz.func113 RP (by kernel_rfl) (by kernel_rfl)
theorem RR : wC L Tryz.f114 AP.f70 = some (AP.f70.body, AP.f70.res) := by kernel_rfl
theorem Tm : Fits (114, 70) := wz Tryz.func114 RR (by kernel_rfl) (by kernel_rfl)
theorem RS : wC L Tryz.f115 AP.f71 = some (AP.f71.body, AP.f71.res) := by kernel_rfl
theorem Tn : Fits (115, 71) := wz Tryz.func115 RS (by kernel_rfl) (by kernel_rfl)
theorem OM : wC L Tryz.f116 AP.f125 = some (AP.f125.body, AP.f125.res) := by kernel_rfl
theorem PK : Fits (116, 125) := wz Tryz.func116 OM (by kernel_rfl) (by kernel_rfl)
theorem ON : wC L Tryz.f117 AP.f126 = some (AP.f126.body, AP.f126.res) := by kernel_rfl
theorem PL : Fits (117, 126) := wz Tryz.func117 ON (by kernel_rfl) (by kernel_rfl)
theorem OP : wC L Tryz.f118 AP.f127 = some (AP.f127.body, AP.f127.res) := by kernel_rfl
theorem PM : Fits (118, 127) := wz Tryz.func118 OP (by kernel_rfl) (by kernel_rfl)
theorem OQ : wC L Tryz.f119 AP.f128 = some (AP.f128.body, AP.f128.res) := by kernel_rfl
theorem PN : Fits (119, 128) := wz Tryz.func119 OQ (by kernel_rfl) (by kernel_rfl)
theorem OS : wC L Tryz.f120 AP.f129 = some (AP.f129.body, AP.f129.res) := by kernel_rfl
theorem PO : Fits (120, 129) := wz Tryz.func120 OS (by kernel_rfl) (by kernel_rfl)
theorem OT : wC L Tryz.f121 AP.f130 = some (AP.f130.body, AP.f130.res) := by kernel_rfl
theorem PQ : Fits (121, 130) := wz Tryz.func121 OT (by kernel_rfl) (by kernel_rfl)
theorem OU : wC L Tryz.f122 AP.f131 = some (AP.f131.body, AP.f131.res) := by kernel_rfl
theorem PR : Fits (122, 131) := wz Tryz.func122 OU (by kernel_rfl) (by kernel_rfl)
theorem Rf : wC L Tryz.f123 AP.f38 = some (AP.f38.body, AP.f38.res) := by kernel_rfl
theorem SL : Fits (123, 38) := wz Tryz.func123 Rf (by kernel_rfl) (by kernel_rfl)
theorem Rh : wC L Tryz.f124 AP.f39 = some (AP.f39.body, AP.f39.res) := by kernel_rfl
theorem SM : Fits (124, 39) := wz Tryz.func124 Rh (by kernel_rfl) (by kernel_rfl)
theorem Ri : wC L Tryz.f125 AP.f40 = some (AP.f40.body, AP.f40.res) := by kernel_rfl
theorem SN : Fits (125, 40) := wz Tryz.func125 Ri (by kernel_rfl) (by kernel_rfl)
theorem Rj : wC L Tryz.f126 AP.f41 = some (AP.f41.body, AP.f41.res) := by kernel_rfl
theorem SO : Fits (126, 41) := wz Tryz.func126 Rj (by kernel_rfl) (by kernel_rfl)
theorem Rl : wC L Tryz.f127 AP.f42 = some (AP.f42.body, AP.f42.res) := by kernel_rfl
theorem SP : Fits (127, 42) := wz Tryz.func127 Rl (by kernel_rfl) (by kernel_rfl)
theorem Rm : wC L Tryz.f128 AP.f43 = some (AP.f43.body, AP.f43.res) := by kernel_rfl
theorem SQ : Fits (128, 43) := wz Tryz.func128 Rm (by kernel_rfl) (by kernel_rfl)
theorem Rn : wC L Tryz.f129 AP.f44 = some (AP.f44.body, AP.f44.res) := by kernel_rfl
theorem SR : Fits (129, 44) := wz Tryz.func129 Rn (by kernel_rfl) (by kernel_rfl)
theorem Rq : wC L Tryz.f130 AP.f45 = some (AP.f45.body, AP.f45.res) := by kernel_rfl
theorem SU : Fits (130, 45) := wz Tryz.func130 Rq (by kernel_rfl) (by kernel_rfl)
theorem OW : wC L Tryz.f131 AP.f132 = some (AP.f132.body, AP.f132.res) := by kernel_rfl
theorem PS : Fits (131, 132) := wz Tryz.func131 OW (by kernel_rfl) (by kernel_rfl)
theorem OX : wC L Tryz.f132 AP.f133 = some (AP.f133.body, AP.f133.res) := by kernel_rfl
theorem PT : Fits (132, 133) := wz Tryz.func132 OX (by kernel_rfl) (by kernel_rfl)
theorem OY : wC L Tryz.f133 AP.f134 = some (AP.f134.body, AP.f134.res) := by kernel_rfl
theorem PU : Fits (133, 134) := wz Tryz.func133 OY (by kernel_rfl) (by kernel_rfl)
theorem OZ : wC L Tryz.f134 AP.f135 = some (AP.f135.body, AP.f135.res) := by kernel_rfl
theorem PV : Fits (134, 135) := wz Tryz.func134 OZ (by kernel_rfl) (by kernel_rfl)
theorem RE : wC L Tryz.f135 AP.f58 = some (AP.f58.body, AP.f58.res) := by kernel_rfl
theorem S8 : Fits (135, 58) := wz Tryz.func135 RE (by kernel_rfl) (by kernel_rfl)
theorem RF : wC L Tryz.f136 AP.f59 = some (AP.f59.body, AP.f59.res) := by kernel_rfl
theorem S9 : Fits (136, 59) := wz Tryz.func136 RF (by kernel_rfl) (by kernel_rfl)
theorem RG : wC L Tryz.f137 AP.f60 = some (AP.f60.body, AP.f60.res) := by kernel_rfl
theorem Ta : Fits (137, 60) := wz Tryz.func137 RG (by kernel_rfl) (by kernel_rfl)
theorem RH : wC L Tryz.f138 AP.f61 = some (AP.f61.body, AP.f61.res) := by kernel_rfl
theorem Tc : Fits (138, 61) := wz Tryz.func138 RH (by kernel_rfl) (by kernel_rfl)
theorem RI : wC L Tryz.f139 AP.f62 = some (AP.f62.body, AP.f62.res) := by kernel_rfl
theorem Td : Fits (139, 62) := wz Tryz.func139 RI (by kernel_rfl) (by kernel_rfl)
theorem RJ : wC L Tryz.f140 AP.f63 = some (AP.f63.body, AP.f63.res) := by kernel_rfl
theorem Te : Fits (140, 63) := wz Tryz.func140 RJ (by kernel_rfl) (by kernel_rfl)
theorem RK : wC L Tryz.f141 AP.f64 = some (AP.f64.body, AP.f64.res) := by kernel_rfl
theorem Tf : Fits (141, 64) := wz Tryz.func141 RK (by kernel_rfl) (by kernel_rfl)
theorem RL : wC L Tryz.f142 AP.f65 = some (AP.f65.body, AP.f65.res) := by kernel_rfl
theorem Tg : Fits (142, 65) := wz Tryz.func142 RL (by kernel_rfl) (by kernel_rfl)
theorem RM : wC L Tryz.f143 AP.f66 = some (AP.f66.body, AP.f66.res) := by kernel_rfl
theorem Th : Fits (143, 66) := wz Tryz.func143 RM (by kernel_rfl) (by kernel_rfl)
theorem O0 : wC L Tryz.f146 AP.f138 = some (AP.f138.body, AP.f138.res) := by kernel_rfl
theorem PZ : Fits (146, 138) := wz Tryz.func146 O0 (by kernel_rfl) (by kernel_rfl)
theorem RT : wC L Tryz.f147 AP.f72 = some (AP.f72.body, AP.f72.res) := by kernel_rfl
theorem To : Fits (147, 72) := wz Tryz.func147 RT (by kernel_rfl) (by kernel_rfl)
theorem RU : wC L Tryz.f148 AP.f73 = some (AP.f73.body, AP.f73.res) := by kernel_rfl
theorem Tp : Fits (148, 73) := wz Tryz.func148 RU (by kernel_rfl) (by kernel_rfl)
theorem RW : wC L Tryz.f149 AP.f74 = some (AP.f74.body, AP.f74.res) := by kernel_rfl
theorem Tq : Fits (149, 74) := wz Tryz.func149 RW (by kernel_rfl) (by kernel_rfl)
theorem RX : wC L Tryz.f150 AP.f75 = some (AP.f75.body, AP.f75.res) := by kernel_rfl
theorem Ts : Fits (150, 75) := wz Tryz.func150 RX (by kernel_rfl) (by kernel_rfl)
theorem RY : wC L Tryz.f151 AP.f76 = some (AP.f76.body, AP.f76.res) := by kernel_rfl
theorem Tt : Fits (151, 76) := wz Tryz.func151 RY (by kernel_rfl) (by kernel_rfl)
theorem RZ : wC L Tryz.f152 AP.f77 = some (AP.f77.body, AP.f77.res) := by kernel_rfl
theorem Tu : Fits (152, 77) := wz Tryz.func152 RZ (by kernel_rfl) (by kernel_rfl)
theorem R1 : wC L Tryz.f153 AP.f78 = some (AP.f78.body, AP.f78.res) := by kernel_rfl
theorem Tv : Fits (153, 78) := wz Tryz.func153 R1 (by kernel_rfl) (by kernel_rfl)
theorem R3 : wC L Tryz.f154 AP.f79 = some (AP.f79.body, AP.f79.res) := by kernel_rfl
theorem Tw : Fits (154, 79) := wz Tryz.func154 R3 (by kernel_rfl) (by kernel_rfl)
theorem R4 : wC L Tryz.f155 AP.f80 = some (AP.f80.body, AP.f80.res) := by kernel_rfl
theorem Tx : Fits (155, 80) := wz Tryz.func155 R4 (by kernel_rfl) (by kernel_rfl)
theorem R5 : wC L Tryz.f156 AP.f81 = some (AP.f81.body, AP.f81.res) := by kernel_rfl
theorem TA : Fits (156, 81) := wz Tryz.func156 R5 (by kernel_rfl) (by kernel_rfl)
theorem O3 : wC L Tryz.f157 AP.f139 = some (AP.f139.body, AP.f139.res) := by kernel_rfl
theorem P0 : Fits (157, 139) := wz Tryz.func157 O3 (by kernel_rfl) (by kernel_rfl)
theorem O4 : wC L Tryz.f158 AP.f140 = some (AP.f140.body, AP.f140.res) := by kernel_rfl
theorem P1 : Fits (158, 140) := wz Tryz.func158 O4 (by kernel_rfl) (by kernel_rfl)
theorem O5 : wC L Tryz.f159 AP.f141 = some (AP.f141.body, AP.f141.res) := by kernel_rfl
theorem P2 : Fits (159, 141) := wz Tryz.func159 O5 (by kernel_rfl) (by kernel_rfl)
theorem R6 : wC L Tryz.f161 AP.f82 = some (AP.f82.body, AP.f82.res) := by kernel_rfl
theorem TB : Fits (161, 82) := wz Tryz.func161 R6 (by kernel_rfl) (by kernel_rfl)
theorem PX : Fits (144, 136) := ⟨Tryz.f144, _, Tryz.func144, rfl, by kernel_rfl, fun af h => by cases h⟩
theorem PY : Fits (145, 137) := ⟨Tryz.f145, _, Tryz.func145, rfl, by kernel_rfl, fun af h => by cases h⟩
theorem P3 : Fits (162, 143) := ⟨Tryz.f162, _, Tryz.func162, rfl, by kernel_rfl, fun af h => by cases h⟩
theorem TX : ∀ p ∈ UF, Fits p := wy P4 (wy TG (wy TF (wy TH (wy Uw (wy TE (wy TI (wy P5 (wy TJ (wy Pn (wy Po (wy Pp (wy Pq (wy Pr (wy P6 (wy Ps (wy Pt (wy Pu (wy Sk (wy P9 (wy Qa (wy Sl (wy Pv (wy Px (wy Py (wy Pz (wy PD (wy PF (wy Sw (wy SG (wy Qb (wy SK (wy Sx (wy SH (wy Su (wy Sv (wy SJ (wy Sz (wy SA (wy SD (wy SE (wy SF (wy SI (wy PG (wy PH (wy Uv (wy TC (wy PI (wy S7 (wy SY (wy SX (wy SV (wy SW (wy SZ (wy PJ (wy Sn (wy Sp (wy Sq (wy Ss (wy TD (wy Tl (wy Ti (wy Tj (wy Tm (wy Tn (wy PK (wy PL (wy PM (wy PN (wy PO (wy PQ (wy PR (wy SL (wy SM (wy SN (wy SO (wy SP (wy SQ (wy SR (wy SU (wy PS (wy PT (wy PU (wy PV (wy S8 (wy S9 (wy Ta (wy Tc (wy Td (wy Te (wy Tf (wy Tg (wy Th (wy PZ (wy To (wy Tp (wy Tq (wy Ts (wy Tt (wy Tu (wy Tv (wy Tw (wy Tx (wy TA (wy P0 (wy P1 (wy P2 (wy TB (wy PX (wy PY (wy P3 (KX)))))))))))))))))))))))))))))))))))))))))))))))))))))))))))))))))))))))))))))))))))))))))))))))))))))))))))))))
theorem lk : eW L AP.A := ⟨by kernel_rfl, fun fid f h => TX (fid, f) (FM h)⟩
end Ab.Ln
