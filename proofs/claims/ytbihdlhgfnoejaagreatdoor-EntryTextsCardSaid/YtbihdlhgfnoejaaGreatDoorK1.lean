/- Part K1. -/
import Derived.Test.YtbihdlhgfnoejaaGreatDoorProg
import Derived.KernelRfl
import Derived.Test.YtbihdlhgfnoejaaGreatDoorAP
namespace Ab.Ln
open Go Go.Proofs Ab
def HD : List (Nat × Nat) → Nat → Option Nat
 | [], _ => none
 | (i, f) :: r, k => if i = k then some f else HD r k
def wE (L : Lk) (fn : Func) (af : fI) : Option (aH × List RV) := fn.body.bind fun c => (comp L fn.ntmps c af.body).bind fun x => (c9 L fn.results.toList).bind fun r => some (x, r)
def Ui : List (Nat × Nat) := [(7, 149), (8, 92), (14, 9), (19, 154), (20, 100), (22, 97), (24, 96), (27, 95), (28, 101), (31, 103), (35, 105), (37, 106), (38, 163), (39, 107), (41, 108), (42, 109), (43, 110), (48, 99), (49, 111), (50, 112), (52, 12), (53, 170), (54, 171), (55, 13), (56, 113), (57, 114), (58, 115), (60, 116), (61, 117), (62, 118), (65, 119), (66, 120), (67, 26), (68, 33), (69, 174), (70, 37), (71, 27), (72, 34), (73, 22), (74, 23), (75, 36), (76, 28), (77, 29), (78, 30), (79, 31), (80, 32), (81, 35), (82, 121), (83, 122), (84, 7), (91, 83), (92, 123), (93, 57), (94, 55), (95, 52), (96, 50), (97, 51), (98, 56), (99, 124), (100, 14), (101, 15), (102, 16), (103, 17), (110, 84), (111, 69), (112, 67), (113, 68), (114, 70), (115, 71), (116, 125), (117, 126), (118, 127), (119, 128), (120, 129), (121, 130), (122, 131), (123, 38), (124, 39), (125, 40), (126, 41), (127, 42), (128, 43), (129, 44), (130, 45), (131, 132), (132, 133), (133, 134), (134, 135), (135, 58), (136, 59), (137, 60), (138, 61), (139, 62), (140, 63), (141, 64), (142, 65), (143, 66), (146, 138), (147, 72), (148, 73), (149, 74), (150, 75), (151, 76), (152, 77), (153, 78), (154, 79), (155, 80), (156, 81), (157, 139), (158, 140), (159, 141), (161, 82), (144, 136), (145, 137), (162, 143)]
def UB : List (Nat × Nat) := [(9, 0)]
def mf (k : Nat) : Option Nat := HD Ui k
def mt (k : Nat) : Nat := (HD UB k).getD (k + 100000)
noncomputable def L : Lk := ⟨Tryz.prog, mf, mt⟩
def Fits (p : Nat × Nat) : Prop := ∃ fn c, L.P.funcs[p.1]? = some fn ∧ fn.body = some c ∧ (fn.name == "runtime.NumGoroutine") = false ∧
    ∀ af, AP.A p.2 = some af → (∃ x0, comp L fn.ntmps c x0 = some af.body) ∧ c9 L fn.results.toList = some af.res
theorem wB {k a : Nat} {fn : Func} {af : fI} (h1 : L.P.funcs[k]? = some fn) (h2 : wE L fn af = some (af.body, af.res)) (h3 : (fn.name == "runtime.NumGoroutine") = false) (h4 : AP.A a = some af) : Fits (k, a) := by
 unfold wE at h2
 simp only [vH] at h2
 obtain ⟨c, g1, x, g2, r, g3, g4⟩ := h2
 obtain ⟨rfl, rfl⟩ := vJ (vG g4)
 refine ⟨fn, c, h1, g1, h3, fun af2 g5 => ?_⟩
 rw [h4] at g5
 obtain rfl := vG g5
 exact ⟨⟨_, g2⟩, g3⟩
theorem Fv : ∀ {l : List (Nat × Nat)} {k f : Nat}, HD l k = some f → (k, f) ∈ l
 | [], _, _, h => by cases h
 | (i, g) :: r, k, f, h => by
   unfold HD at h
   split at h
   · rename_i e; subst e; obtain rfl := vG h; exact List.mem_cons_self
   · exact List.mem_cons_of_mem _ (Fv h)
theorem Kz : ∀ p ∈ ([] : List (Nat × Nat)), Fits p := fun p h => by cases h
theorem wA {p : Nat × Nat} {l : List (Nat × Nat)} (h1 : Fits p) (h2 : ∀ q ∈ l, Fits q) : ∀ q ∈ p :: l, Fits q := fun q h => by
 rcases wj.1 h with rfl | h
 · exact h1
 · exact h2 q h
theorem OI : wE L Tryz.f7 AP.f149 = some (AP.f149.body, AP.f149.res) := by kernel_rfl
theorem PM : Fits (7, 149) := wB Tryz.func7 OI (by kernel_rfl) (by kernel_rfl)
theorem RM : wE L Tryz.f8 AP.f92 = some (AP.f92.body, AP.f92.res) := by kernel_rfl
theorem Td : Fits (8, 92) := wB Tryz.func8 RM (by kernel_rfl) (by kernel_rfl)
theorem Tx : wE L Tryz.f14 AP.f9 = some (AP.f9.body, AP.f9.res) := by kernel_rfl
theorem TY : Fits (14, 9) := wB Tryz.func14 Tx (by kernel_rfl) (by kernel_rfl)
theorem OJ : wE L Tryz.f19 AP.f154 = some (AP.f154.body, AP.f154.res) := by kernel_rfl
theorem PN : Fits (19, 154) := wB Tryz.func19 OJ (by kernel_rfl) (by kernel_rfl)
theorem NZ : wE L Tryz.f20 AP.f100 = some (AP.f100.body, AP.f100.res) := by kernel_rfl
theorem OY : Fits (20, 100) := wB Tryz.func20 NZ (by kernel_rfl) (by kernel_rfl)
theorem RQ : wE L Tryz.f22 AP.f97 = some (AP.f97.body, AP.f97.res) := by kernel_rfl
theorem Tg : Fits (22, 97) := wB Tryz.func22 RQ (by kernel_rfl) (by kernel_rfl)
theorem RP : wE L Tryz.f24 AP.f96 = some (AP.f96.body, AP.f96.res) := by kernel_rfl
theorem Tf : Fits (24, 96) := wB Tryz.func24 RP (by kernel_rfl) (by kernel_rfl)
theorem RN : wE L Tryz.f27 AP.f95 = some (AP.f95.body, AP.f95.res) := by kernel_rfl
theorem Te : Fits (27, 95) := wB Tryz.func27 RN (by kernel_rfl) (by kernel_rfl)
theorem N0 : wE L Tryz.f28 AP.f101 = some (AP.f101.body, AP.f101.res) := by kernel_rfl
theorem OZ : Fits (28, 101) := wB Tryz.func28 N0 (by kernel_rfl) (by kernel_rfl)
theorem N1 : wE L Tryz.f31 AP.f103 = some (AP.f103.body, AP.f103.res) := by kernel_rfl
theorem O0 : Fits (31, 103) := wB Tryz.func31 N1 (by kernel_rfl) (by kernel_rfl)
theorem N2 : wE L Tryz.f35 AP.f105 = some (AP.f105.body, AP.f105.res) := by kernel_rfl
theorem O3 : Fits (35, 105) := wB Tryz.func35 N2 (by kernel_rfl) (by kernel_rfl)
theorem N3 : wE L Tryz.f37 AP.f106 = some (AP.f106.body, AP.f106.res) := by kernel_rfl
theorem O4 : Fits (37, 106) := wB Tryz.func37 N3 (by kernel_rfl) (by kernel_rfl)
theorem OK : wE L Tryz.f38 AP.f163 = some (AP.f163.body, AP.f163.res) := by kernel_rfl
theorem PO : Fits (38, 163) := wB Tryz.func38 OK (by kernel_rfl) (by kernel_rfl)
theorem N4 : wE L Tryz.f39 AP.f107 = some (AP.f107.body, AP.f107.res) := by kernel_rfl
theorem O5 : Fits (39, 107) := wB Tryz.func39 N4 (by kernel_rfl) (by kernel_rfl)
theorem N5 : wE L Tryz.f41 AP.f108 = some (AP.f108.body, AP.f108.res) := by kernel_rfl
theorem O6 : Fits (41, 108) := wB Tryz.func41 N5 (by kernel_rfl) (by kernel_rfl)
theorem N6 : wE L Tryz.f42 AP.f109 = some (AP.f109.body, AP.f109.res) := by kernel_rfl
theorem O7 : Fits (42, 109) := wB Tryz.func42 N6 (by kernel_rfl) (by kernel_rfl)
theorem N7 : wE L Tryz.f43 AP.f110 = some (AP.f110.body, AP.f110.res) := by kernel_rfl
theorem O8 : Fits (43, 110) := wB Tryz.func43 N7 (by kernel_rfl) (by kernel_rfl)
theorem RR : wE L Tryz.f48 AP.f99 = some (AP.f99.body, AP.f99.res) := by kernel_rfl
theorem Th : Fits (48, 99) := wB Tryz.func48 RR (by kernel_rfl) (by kernel_rfl)
theorem N8 : wE L Tryz.f49 AP.f111 = some (AP.f111.body, AP.f111.res) := by kernel_rfl
theorem O9 : Fits (49, 111) := wB Tryz.func49 N8 (by kernel_rfl) (by kernel_rfl)
theorem N9 : wE L Tryz.f50 AP.f112 = some (AP.f112.body, AP.f112.res) := by kernel_rfl
theorem Pa : Fits (50, 112) := wB Tryz.func50 N9 (by kernel_rfl) (by kernel_rfl)
theorem QB : wE L Tryz.f52 AP.f12 = some (AP.f12.body, AP.f12.res) := by kernel_rfl
theorem RS : Fits (52, 12) := wB Tryz.func52 QB (by kernel_rfl) (by kernel_rfl)
theorem OM : wE L Tryz.f53 AP.f170 = some (AP.f170.body, AP.f170.res) := by kernel_rfl
theorem PQ : Fits (53, 170) := wB Tryz.func53 OM (by kernel_rfl) (by kernel_rfl)
theorem ON : wE L Tryz.f54 AP.f171 = some (AP.f171.body, AP.f171.res) := by kernel_rfl
theorem PR : Fits (54, 171) := wB Tryz.func54 ON (by kernel_rfl) (by kernel_rfl)
theorem QC : wE L Tryz.f55 AP.f13 = some (AP.f13.body, AP.f13.res) := by kernel_rfl
theorem RT : Fits (55, 13) := wB Tryz.func55 QC (by kernel_rfl) (by kernel_rfl)
theorem Oa : wE L Tryz.f56 AP.f113 = some (AP.f113.body, AP.f113.res) := by kernel_rfl
theorem Pb : Fits (56, 113) := wB Tryz.func56 Oa (by kernel_rfl) (by kernel_rfl)
theorem Ob : wE L Tryz.f57 AP.f114 = some (AP.f114.body, AP.f114.res) := by kernel_rfl
theorem Pc : Fits (57, 114) := wB Tryz.func57 Ob (by kernel_rfl) (by kernel_rfl)
theorem Oc : wE L Tryz.f58 AP.f115 = some (AP.f115.body, AP.f115.res) := by kernel_rfl
theorem Pd : Fits (58, 115) := wB Tryz.func58 Oc (by kernel_rfl) (by kernel_rfl)
theorem Od : wE L Tryz.f60 AP.f116 = some (AP.f116.body, AP.f116.res) := by kernel_rfl
theorem Pe : Fits (60, 116) := wB Tryz.func60 Od (by kernel_rfl) (by kernel_rfl)
theorem Oe : wE L Tryz.f61 AP.f117 = some (AP.f117.body, AP.f117.res) := by kernel_rfl
theorem Pf : Fits (61, 117) := wB Tryz.func61 Oe (by kernel_rfl) (by kernel_rfl)
theorem Og : wE L Tryz.f62 AP.f118 = some (AP.f118.body, AP.f118.res) := by kernel_rfl
theorem Pg : Fits (62, 118) := wB Tryz.func62 Og (by kernel_rfl) (by kernel_rfl)
theorem Oh : wE L Tryz.f65 AP.f119 = some (AP.f119.body, AP.f119.res) := by kernel_rfl
theorem Ph : Fits (65, 119) := wB Tryz.func65 Oh (by kernel_rfl) (by kernel_rfl)
theorem Oi : wE L Tryz.f66 AP.f120 = some (AP.f120.body, AP.f120.res) := by kernel_rfl
theorem Pj : Fits (66, 120) := wB Tryz.func66 Oi (by kernel_rfl) (by kernel_rfl)
theorem QJ : wE L Tryz.f67 AP.f26 = some (AP.f26.body, AP.f26.res) := by kernel_rfl
theorem R3 : Fits (67, 26) := wB Tryz.func67 QJ (by kernel_rfl) (by kernel_rfl)
theorem QQ : wE L Tryz.f68 AP.f33 = some (AP.f33.body, AP.f33.res) := by kernel_rfl
theorem Sa : Fits (68, 33) := wB Tryz.func68 QQ (by kernel_rfl) (by kernel_rfl)
theorem OP : wE L Tryz.f69 AP.f174 = some (AP.f174.body, AP.f174.res) := by kernel_rfl
theorem PS : Fits (69, 174) := wB Tryz.func69 OP (by kernel_rfl) (by kernel_rfl)
theorem QU : wE L Tryz.f70 AP.f37 = some (AP.f37.body, AP.f37.res) := by kernel_rfl
theorem Sf : Fits (70, 37) := wB Tryz.func70 QU (by kernel_rfl) (by kernel_rfl)
theorem QK : wE L Tryz.f71 AP.f27 = some (AP.f27.body, AP.f27.res) := by kernel_rfl
theorem R4 : Fits (71, 27) := wB Tryz.func71 QK (by kernel_rfl) (by kernel_rfl)
theorem QR : wE L Tryz.f72 AP.f34 = some (AP.f34.body, AP.f34.res) := by kernel_rfl
theorem Sb : Fits (72, 34) := wB Tryz.func72 QR (by kernel_rfl) (by kernel_rfl)
theorem QH : wE L Tryz.f73 AP.f22 = some (AP.f22.body, AP.f22.res) := by kernel_rfl
theorem RZ : Fits (73, 22) := wB Tryz.func73 QH (by kernel_rfl) (by kernel_rfl)
theorem QI : wE L Tryz.f74 AP.f23 = some (AP.f23.body, AP.f23.res) := by kernel_rfl
theorem R1 : Fits (74, 23) := wB Tryz.func74 QI (by kernel_rfl) (by kernel_rfl)
theorem QT : wE L Tryz.f75 AP.f36 = some (AP.f36.body, AP.f36.res) := by kernel_rfl
theorem Sd : Fits (75, 36) := wB Tryz.func75 QT (by kernel_rfl) (by kernel_rfl)
theorem QL : wE L Tryz.f76 AP.f28 = some (AP.f28.body, AP.f28.res) := by kernel_rfl
theorem R5 : Fits (76, 28) := wB Tryz.func76 QL (by kernel_rfl) (by kernel_rfl)
theorem QM : wE L Tryz.f77 AP.f29 = some (AP.f29.body, AP.f29.res) := by kernel_rfl
theorem R6 : Fits (77, 29) := wB Tryz.func77 QM (by kernel_rfl) (by kernel_rfl)
theorem QN : wE L Tryz.f78 AP.f30 = some (AP.f30.body, AP.f30.res) := by kernel_rfl
theorem R7 : Fits (78, 30) := wB Tryz.func78 QN (by kernel_rfl) (by kernel_rfl)
theorem QO : wE L Tryz.f79 AP.f31 = some (AP.f31.body, AP.f31.res) := by kernel_rfl
theorem R8 : Fits (79, 31) := wB Tryz.func79 QO (by kernel_rfl) (by kernel_rfl)
theorem QP : wE L Tryz.f80 AP.f32 = some (AP.f32.body, AP.f32.res) := by kernel_rfl
theorem R9 : Fits (80, 32) := wB Tryz.func80 QP (by kernel_rfl) (by kernel_rfl)
theorem QS : wE L Tryz.f81 AP.f35 = some (AP.f35.body, AP.f35.res) := by kernel_rfl
theorem Sc : Fits (81, 35) := wB Tryz.func81 QS (by kernel_rfl) (by kernel_rfl)
theorem Oj : wE L Tryz.f82 AP.f121 = some (AP.f121.body, AP.f121.res) := by kernel_rfl
theorem Pl : Fits (82, 121) := wB Tryz.func82 Oj (by kernel_rfl) (by kernel_rfl)
theorem Ok : wE L Tryz.f83 AP.f122 = some (AP.f122.body, AP.f122.res) := by kernel_rfl
theorem Pm : Fits (83, 122) := wB Tryz.func83 Ok (by kernel_rfl) (by kernel_rfl)
theorem Tw : wE L Tryz.f84 AP.f7 = some (AP.f7.body, AP.f7.res) := by kernel_rfl
theorem TX : Fits (84, 7) := wB Tryz.func84 Tw (by kernel_rfl) (by kernel_rfl)
theorem RK : wE L Tryz.f91 AP.f83 = some (AP.f83.body, AP.f83.res) := by kernel_rfl
theorem Ta : Fits (91, 83) := wB Tryz.func91 RK (by kernel_rfl) (by kernel_rfl)
theorem Ol : wE L Tryz.f92 AP.f123 = some (AP.f123.body, AP.f123.res) := by kernel_rfl
theorem Pn : Fits (92, 123) := wB Tryz.func92 Ol (by kernel_rfl) (by kernel_rfl)
theorem Q8 : wE L Tryz.f93 AP.f57 = some (AP.f57.body, AP.f57.res) := by kernel_rfl
theorem Sz : Fits (93, 57) := wB Tryz.func93 Q8 (by kernel_rfl) (by kernel_rfl)
theorem Q6 : wE L Tryz.f94 AP.f55 = some (AP.f55.body, AP.f55.res) := by kernel_rfl
theorem Sw : Fits (94, 55) := wB Tryz.func94 Q6 (by kernel_rfl) (by kernel_rfl)
theorem Q5 : wE L Tryz.f95 AP.f52 = some (AP.f52.body, AP.f52.res) := by kernel_rfl
theorem Sv : Fits (95, 52) := wB Tryz.func95 Q5 (by kernel_rfl) (by kernel_rfl)
theorem Q3 : wE L Tryz.f96 AP.f50 = some (AP.f50.body, AP.f50.res) := by kernel_rfl
theorem Ss : Fits (96, 50) := wB Tryz.func96 Q3 (by kernel_rfl) (by kernel_rfl)
theorem Q4 : wE L Tryz.f97 AP.f51 = some (AP.f51.body, AP.f51.res) := by kernel_rfl
theorem Su : Fits (97, 51) := wB Tryz.func97 Q4 (by kernel_rfl) (by kernel_rfl)
theorem Q7 : wE L Tryz.f98 AP.f56 = some (AP.f56.body, AP.f56.res) := by kernel_rfl
theorem Sx : Fits (98, 56) := wB Tryz.func98 Q7 (by kernel_rfl) (by kernel_rfl)
theorem Om : wE L Tryz.f99 AP.f124 = some (AP.f124.body, AP.f124.res) := by kernel_rfl
theorem Po : Fits (99, 124) := wB Tryz.func99 Om (by kernel_rfl) (by kernel_rfl)
theorem QD : wE L Tryz.f100 AP.f14 = some (AP.f14.body, AP.f14.res) := by kernel_rfl
theorem RU : Fits (100, 14) := wB Tryz.func100 QD (by kernel_rfl) (by kernel_rfl)
theorem QE : wE L Tryz.f101 AP.f15 = some (AP.f15.body, AP.f15.res) := by kernel_rfl
theorem RW : Fits (101, 15) := wB Tryz.func101 QE (by kernel_rfl) (by kernel_rfl)
theorem QF : wE L Tryz.f102 AP.f16 = some (AP.f16.body, AP.f16.res) := by kernel_rfl
theorem RX : Fits (102, 16) := wB Tryz.func102 QF (by kernel_rfl) (by kernel_rfl)
theorem QG : wE L Tryz.f103 AP.f17 = some (AP.f17.body, AP.f17.res) := by kernel_rfl
theorem RY : Fits (103, 17) := wB Tryz.func103 QG (by kernel_rfl) (by kernel_rfl)
theorem RL : wE L Tryz.f110 AP.f84 = some (AP.f84.body, AP.f84.res) := by kernel_rfl
theorem Tc : Fits (110, 84) := wB Tryz.func110 RL (by kernel_rfl) (by kernel_rfl)
theorem Rn : wE L Tryz.f111 AP.f69 = some (AP.f69.body, AP.f69.res) := by kernel_rfl
theorem SN : Fits (111, 69) := wB Tryz.func111 Rn (by kernel_rfl) (by kernel_rfl)
theorem Rl : wE L Tryz.f112 AP.f67 = some (AP.f67.body, AP.f67.res) := by kernel_rfl
theorem SL : Fits (112, 67) := wB Tryz.func112 Rl (by kernel_rfl) (by kernel_rfl)
theorem Rm : wE L Tryz.f113 AP.f68 = some (AP.f68.body, AP.f68.res) := by kernel_rfl
theorem SM : Fits (113, 68) := wB Tryz.func113 Rm (by kernel_rfl) (by kernel_rfl)
theorem Rq : wE L Tryz.f114 AP.f70 = some (AP.f70.body, AP.f70.res) := by kernel_rfl
theorem SO : Fits (114, 70) := wB Tryz.func114 Rq (by kernel_rfl) (by kernel_rfl)
theorem Rr : wE L Tryz.f115 AP.f71 = some (AP.f71.body, AP.f71.res) := by kernel_rfl
theorem SP : Fits (115, 71) := wB Tryz.func115 Rr (by kernel_rfl) (by kernel_rfl)
theorem Oo : wE L Tryz.f116 AP.f125 = some (AP.f125.body, AP.f125.res) := by kernel_rfl
theorem Pp : Fits (116, 125) := wB Tryz.func116 Oo (by kernel_rfl) (by kernel_rfl)
theorem Oq : wE L Tryz.f117 AP.f126 = some (AP.f126.body, AP.f126.res) := by kernel_rfl
theorem Pq : Fits (117, 126) := wB Tryz.func117 Oq (by kernel_rfl) (by kernel_rfl)
theorem Ot : wE L Tryz.f118 AP.f127 = some (AP.f127.body, AP.f127.res) := by kernel_rfl
theorem Pr : Fits (118, 127) := wB Tryz.func118 Ot (by kernel_rfl) (by kernel_rfl)
theorem Ou : wE L Tryz.f119 AP.f128 = some (AP.f128.body, AP.f128.res) := by kernel_rfl
theorem Ps : Fits (119, 128) := wB Tryz.func119 Ou (by kernel_rfl) (by kernel_rfl)
theorem Ov : wE L Tryz.f120 AP.f129 = some (AP.f129.body, AP.f129.res) := by kernel_rfl
theorem Pt : Fits (120, 129) := wB Tryz.func120 Ov (by kernel_rfl) (by kernel_rfl)
theorem Ow : wE L Tryz.f121 AP.f130 = some (AP.f130.body, AP.f130.res) := by kernel_rfl
theorem Pu : Fits (121, 130) := wB Tryz.func121 Ow (by kernel_rfl) (by kernel_rfl)
theorem Ox : wE L Tryz.f122 AP.f131 = some (AP.f131.body, AP.f131.res) := by kernel_rfl
theorem Pv : Fits (122, 131) := wB Tryz.func122 Ox (by kernel_rfl) (by kernel_rfl)
theorem QV : wE L Tryz.f123 AP.f38 = some (AP.f38.body, AP.f38.res) := by kernel_rfl
theorem Sg : Fits (123, 38) := wB Tryz.func123 QV (by kernel_rfl) (by kernel_rfl)
theorem QW : wE L Tryz.f124 AP.f39 = some (AP.f39.body, AP.f39.res) := by kernel_rfl
theorem Si : Fits (124, 39) := wB Tryz.func124 QW (by kernel_rfl) (by kernel_rfl)
theorem QX : wE L Tryz.f125 AP.f40 = some (AP.f40.body, AP.f40.res) := by kernel_rfl
theorem Sj : Fits (125, 40) := wB Tryz.func125 QX (by kernel_rfl) (by kernel_rfl)
theorem QY : wE L Tryz.f126 AP.f41 = some (AP.f41.body, AP.f41.res) := by kernel_rfl
theorem Sk : Fits (126, 41) := wB Tryz.func126 QY (by kernel_rfl) (by kernel_rfl)
theorem QZ : wE L Tryz.f127 AP.f42 = some (AP.f42.body, AP.f42.res) := by kernel_rfl
theorem Sl : Fits (127, 42) := wB Tryz.func127 QZ (by kernel_rfl) (by kernel_rfl)
theorem Q0 : wE L Tryz.f128 AP.f43 = some (AP.f43.body, AP.f43.res) := by kernel_rfl
theorem Sn : Fits (128, 43) := wB Tryz.func128 Q0 (by kernel_rfl) (by kernel_rfl)
theorem Q1 : wE L Tryz.f129 AP.f44 = some (AP.f44.body, AP.f44.res) := by kernel_rfl
theorem Sp : Fits (129, 44) := wB Tryz.func129 Q1 (by kernel_rfl) (by kernel_rfl)
theorem Q2 : wE L Tryz.f130 AP.f45 = some (AP.f45.body, AP.f45.res) := by kernel_rfl
theorem Sq : Fits (130, 45) := wB Tryz.func130 Q2 (by kernel_rfl) (by kernel_rfl)
theorem Oy : wE L Tryz.f131 AP.f132 = some (AP.f132.body, AP.f132.res) := by kernel_rfl
theorem Px : Fits (131, 132) := wB Tryz.func131 Oy (by kernel_rfl) (by kernel_rfl)
theorem Oz : wE L Tryz.f132 AP.f133 = some (AP.f133.body, AP.f133.res) := by kernel_rfl
theorem Py : Fits (132, 133) := wB Tryz.func132 Oz (by kernel_rfl) (by kernel_rfl)
theorem OA : wE L Tryz.f133 AP.f134 = some (AP.f134.body, AP.f134.res) := by kernel_rfl
theorem Pz : Fits (133, 134) := wB Tryz.func133 OA (by kernel_rfl) (by kernel_rfl)
theorem OC : wE L Tryz.f134 AP.f135 = some (AP.f135.body, AP.f135.res) := by kernel_rfl
theorem PD : Fits (134, 135) := wB Tryz.func134 OC (by kernel_rfl) (by kernel_rfl)
theorem Q9 : wE L Tryz.f135 AP.f58 = some (AP.f58.body, AP.f58.res) := by kernel_rfl
theorem SA : Fits (135, 58) := wB Tryz.func135 Q9 (by kernel_rfl) (by kernel_rfl)
theorem Ra : wE L Tryz.f136 AP.f59 = some (AP.f59.body, AP.f59.res) := by kernel_rfl
theorem SD : Fits (136, 59) := wB Tryz.func136 Ra (by kernel_rfl) (by kernel_rfl)
theorem Rb : wE L Tryz.f137 AP.f60 = some (AP.f60.body, AP.f60.res) := by kernel_rfl
theorem SE : Fits (137, 60) := wB Tryz.func137 Rb (by kernel_rfl) (by kernel_rfl)
theorem Rc : wE L Tryz.f138 AP.f61 = some (AP.f61.body, AP.f61.res) := by kernel_rfl
theorem SF : Fits (138, 61) := wB Tryz.func138 Rc (by kernel_rfl) (by kernel_rfl)
theorem Re : wE L Tryz.f139 AP.f62 = some (AP.f62.body, AP.f62.res) := by kernel_rfl
theorem SG : Fits (139, 62) := wB Tryz.func139 Re (by kernel_rfl) (by kernel_rfl)
theorem Rf : wE L Tryz.f140 AP.f63 = some (AP.f63.body, AP.f63.res) := by kernel_rfl
theorem SH : Fits (140, 63) := wB Tryz.func140 Rf (by kernel_rfl) (by kernel_rfl)
theorem Rh : wE L Tryz.f141 AP.f64 = some (AP.f64.body, AP.f64.res) := by kernel_rfl
theorem SI : Fits (141, 64) := wB Tryz.func141 Rh (by kernel_rfl) (by kernel_rfl)
theorem Ri : wE L Tryz.f142 AP.f65 = some (AP.f65.body, AP.f65.res) := by kernel_rfl
theorem SJ : Fits (142, 65) := wB Tryz.func142 Ri (by kernel_rfl) (by kernel_rfl)
theorem Rj : wE L Tryz.f143 AP.f66 = some (AP.f66.body, AP.f66.res) := by kernel_rfl
theorem SK : Fits (143, 66) := wB Tryz.func143 Rj (by kernel_rfl) (by kernel_rfl)
theorem OD : wE L Tryz.f146 AP.f138 = some (AP.f138.body, AP.f138.res) := by kernel_rfl
theorem PH : Fits (146, 138) := wB Tryz.func146 OD (by kernel_rfl) (by kernel_rfl)
theorem Rw : wE L Tryz.f147 AP.f72 = some (AP.f72.body, AP.f72.res) := by kernel_rfl
theorem SQ : Fits (147, 72) := wB Tryz.func147 Rw (by kernel_rfl) (by kernel_rfl)
theorem RA : wE L Tryz.f148 AP.f73 = some (AP.f73.body, AP.f73.res) := by kernel_rfl
theorem SR : Fits (148, 73) := wB Tryz.func148 RA (by kernel_rfl) (by kernel_rfl)
theorem RB : wE L Tryz.f149 AP.f74 = some (AP.f74.body, AP.f74.res) := by kernel_rfl
theorem SU : Fits (149, 74) := wB Tryz.func149 RB (by kernel_rfl) (by kernel_rfl)
theorem RC : wE L Tryz.f150 AP.f75 = some (AP.f75.body, AP.f75.res) := by kernel_rfl
theorem SV : Fits (150, 75) := wB Tryz.func150 RC (by kernel_rfl) (by kernel_rfl)
theorem RD : wE L Tryz.f151 AP.f76 = some (AP.f76.body, AP.f76.res) := by kernel_rfl
theorem SW : Fits (151, 76) := wB Tryz.func151 RD (by kernel_rfl) (by kernel_rfl)
theorem RE : wE L Tryz.f152 AP.f77 = some (AP.f77.body, AP.f77.res) := by kernel_rfl
theorem SX : Fits (152, 77) := wB Tryz.func152 RE (by kernel_rfl) (by kernel_rfl)
theorem RF : wE L Tryz.f153 AP.f78 = some (AP.f78.body, AP.f78.res) := by kernel_rfl
theorem SY : Fits (153, 78) := wB Tryz.func153 RF (by kernel_rfl) (by kernel_rfl)
theorem RG : wE L Tryz.f154 AP.f79 = some (AP.f79.body, AP.f79.res) := by kernel_rfl
theorem SZ : Fits (154, 79) := wB Tryz.func154 RG (by kernel_rfl) (by kernel_rfl)
theorem RH : wE L Tryz.f155 AP.f80 = some (AP.f80.body, AP.f80.res) := by kernel_rfl
theorem S7 : Fits (155, 80) := wB Tryz.func155 RH (by kernel_rfl) (by kernel_rfl)
theorem RI : wE L Tryz.f156 AP.f81 = some (AP.f81.body, AP.f81.res) := by kernel_rfl
theorem S8 : Fits (156, 81) := wB Tryz.func156 RI (by kernel_rfl) (by kernel_rfl)
theorem OE : wE L Tryz.f157 AP.f139 = some (AP.f139.body, AP.f139.res) := by kernel_rfl
theorem PI : Fits (157, 139) := wB Tryz.func157 OE (by kernel_rfl) (by kernel_rfl)
theorem OG : wE L Tryz.f158 AP.f140 = some (AP.f140.body, AP.f140.res) := by kernel_rfl
theorem PJ : Fits (158, 140) := wB Tryz.func158 OG (by kernel_rfl) (by kernel_rfl)
theorem OH : wE L Tryz.f159 AP.f141 = some (AP.f141.body, AP.f141.res) := by kernel_rfl
theorem PK : Fits (159, 141) := wB Tryz.func159 OH (by kernel_rfl) (by kernel_rfl)
theorem RJ : wE L Tryz.f161 AP.f82 = some (AP.f82.body, AP.f82.res) := by kernel_rfl
theorem S9 : Fits (161, 82) := wB Tryz.func161 RJ (by kernel_rfl) (by kernel_rfl)
theorem PF : Fits (144, 136) := ⟨Tryz.f144, _, Tryz.func144, rfl, by kernel_rfl, fun af h => by cases h⟩
theorem PG : Fits (145, 137) := ⟨Tryz.f145, _, Tryz.func145, rfl, by kernel_rfl, fun af h => by cases h⟩
theorem PL : Fits (162, 143) := ⟨Tryz.f162, _, Tryz.func162, rfl, by kernel_rfl, fun af h => by cases h⟩
theorem Ts : ∀ p ∈ Ui, Fits p := wA PM (wA Td (wA TY (wA PN (wA OY (wA Tg (wA Tf (wA Te (wA OZ (wA O0 (wA O3 (wA O4 (wA PO (wA O5 (wA O6 (wA O7 (wA O8 (wA Th (wA O9 (wA Pa (wA RS (wA PQ (wA PR (wA RT (wA Pb (wA Pc (wA Pd (wA Pe (wA Pf (wA Pg (wA Ph (wA Pj (wA R3 (wA Sa (wA PS (wA Sf (wA R4 (wA Sb (wA RZ (wA R1 (wA Sd (wA R5 (wA R6 (wA R7 (wA R8 (wA R9 (wA Sc (wA Pl (wA Pm (wA TX (wA Ta (wA Pn (wA Sz (wA Sw (wA Sv (wA Ss (wA Su (wA Sx (wA Po (wA RU (wA RW (wA RX (wA RY (wA Tc (wA SN (wA SL (wA SM (wA SO (wA SP (wA Pp (wA Pq (wA Pr (wA Ps (wA Pt (wA Pu (wA Pv (wA Sg (wA Si (wA Sj (wA Sk (wA Sl (wA Sn (wA Sp (wA Sq (wA Px (wA Py (wA Pz (wA PD (wA SA (wA SD (wA SE (wA SF (wA SG (wA SH (wA SI (wA SJ (wA SK (wA PH (wA SQ (wA SR (wA SU (wA SV (wA SW (wA SX (wA SY (wA SZ (wA S7 (wA S8 (wA PI (wA PJ (wA PK (wA S9 (wA PF (wA PG (wA PL (Kz)))))))))))))))))))))))))))))))))))))))))))))))))))))))))))))))))))))))))))))))))))))))))))))))))))))))))))))))))))
theorem lk : eW L AP.A := ⟨by kernel_rfl, fun fid f h => Ts (fid, f) (Fv h)⟩
end Ab.Ln
