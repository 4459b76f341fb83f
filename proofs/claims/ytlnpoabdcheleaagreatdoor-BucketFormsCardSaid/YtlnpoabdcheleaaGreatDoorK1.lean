/- Part K1. -/
import Derived.Test.YtlnpoabdcheleaaGreatDoorProg
import Derived.KernelRfl
import Derived.Test.YtlnpoabdcheleaaGreatDoorAP
namespace Ab.Ln
open Go Go.Proofs Ab
def DX : List (Nat × Nat) → Nat → Option Nat
 | [], _ => none
 | (i, f) :: r, k => if i = k then some f else DX r k
def xJ (L : Lk) (fn : Func) (af : fR) : Option (aH × List RV) := fn.body.bind fun c => (comp L fn.ntmps c af.body).bind fun x => (dh L fn.results.toList).bind fun r => some (x, r)
def Oq : List (Nat × Nat) := [(4, 194), (6, 196), (8, 177), (10, 181), (12, 178), (14, 106), (15, 9), (16, 182), (17, 179), (23, 176), (24, 180), (26, 204), (28, 183), (29, 91), (30, 93), (34, 184), (35, 185), (36, 118), (38, 115), (39, 101), (47, 92), (48, 186), (49, 187), (50, 188), (51, 96), (52, 102), (53, 103), (54, 104), (55, 105), (62, 189), (63, 111), (68, 190), (69, 191), (70, 107), (71, 112), (81, 113), (82, 192), (83, 114), (84, 117), (85, 119), (86, 120), (103, 121), (104, 122), (105, 7), (106, 83), (107, 123), (120, 124), (121, 14), (122, 15), (123, 16), (124, 17), (125, 84), (137, 125), (138, 126), (139, 127), (140, 128), (141, 129), (142, 130), (143, 131), (144, 38), (145, 39), (146, 40), (147, 41), (148, 42), (149, 43), (150, 44), (151, 45), (152, 132), (153, 133), (154, 134), (155, 135), (156, 58), (157, 59), (158, 60), (159, 61), (160, 62), (161, 63), (162, 64), (163, 65), (164, 66), (167, 138), (168, 72), (169, 73), (170, 74), (171, 75), (172, 76), (173, 77), (174, 78), (175, 79), (176, 80), (177, 81), (178, 139), (179, 140), (180, 141), (182, 82), (165, 136), (166, 137), (183, 143)]
def Oy : List (Nat × Nat) := [(9, 0)]
def mf (k : Nat) : Option Nat := DX Oq k
def mt (k : Nat) : Nat := (DX Oy k).getD (k + 100000)
def iv (_ : String) : Option (Nat × Nat × Bool) := none
noncomputable def L : Lk := ⟨Tryz.prog, mf, mt, iv⟩
def Fits (p : Nat × Nat) : Prop := ∃ fn c, L.P.funcs[p.1]? = some fn ∧ fn.body = some c ∧ (fn.name == "runtime.NumGoroutine") = false ∧
    ∀ af, AP.A p.2 = some af → (∃ x0, comp L fn.ntmps c x0 = some af.body) ∧ dh L fn.results.toList = some af.res
theorem xG {k a : Nat} {fn : Func} {af : fR} (h1 : L.P.funcs[k]? = some fn) (h2 : xJ L fn af = some (af.body, af.res)) (h3 : (fn.name == "runtime.NumGoroutine") = false) (h4 : AP.A a = some af) : Fits (k, a) := by
 unfold xJ at h2
 simp only [wK] at h2
 obtain ⟨c, g1, x, g2, r, g3, g4⟩ := h2
 obtain ⟨rfl, rfl⟩ := wN (wL g4)
 refine ⟨fn, c, h1, g1, h3, fun af2 g5 => ?_⟩
 rw [h4] at g5
 obtain rfl := wL g5
 exact ⟨⟨_, g2⟩, g3⟩
theorem CJ : ∀ {l : List (Nat × Nat)} {k f : Nat}, DX l k = some f → (k, f) ∈ l
 | [], _, _, h => by cases h
 | (i, g) :: r, k, f, h => by
   unfold DX at h
   split at h
   · rename_i e; subst e; obtain rfl := wL h; exact List.mem_cons_self
   · exact List.mem_cons_of_mem _ (CJ h)
theorem Gt : ∀ p ∈ ([] : List (Nat × Nat)), Fits p := fun p h => by cases h
theorem xF {p : Nat × Nat} {l : List (Nat × Nat)} (h1 : Fits p) (h2 : ∀ q ∈ l, Fits q) : ∀ q ∈ p :: l, Fits q := fun q h => by
 rcases xz.1 h with rfl | h
 · exact h1
 · exact h2 q h
theorem Kf : xJ L Tryz.f4 AP.f194 = some (AP.f194.body, AP.f194.res) := by kernel_rfl
theorem LD : Fits (4, 194) := xG Tryz.func4 Kf (by kernel_rfl) (by kernel_rfl)
theorem Kg : xJ L Tryz.f6 AP.f196 = some (AP.f196.body, AP.f196.res) := by kernel_rfl
theorem LF : Fits (6, 196) := xG Tryz.func6 Kg (by kernel_rfl) (by kernel_rfl)
theorem JZ : xJ L Tryz.f8 AP.f177 = some (AP.f177.body, AP.f177.res) := by kernel_rfl
theorem Le : Fits (8, 177) := xG Tryz.func8 JZ (by kernel_rfl) (by kernel_rfl)
theorem J3 : xJ L Tryz.f10 AP.f181 = some (AP.f181.body, AP.f181.res) := by kernel_rfl
theorem Lj : Fits (10, 181) := xG Tryz.func10 J3 (by kernel_rfl) (by kernel_rfl)
theorem J0 : xJ L Tryz.f12 AP.f178 = some (AP.f178.body, AP.f178.res) := by kernel_rfl
theorem Lf : Fits (12, 178) := xG Tryz.func12 J0 (by kernel_rfl) (by kernel_rfl)
theorem Ju : xJ L Tryz.f14 AP.f106 = some (AP.f106.body, AP.f106.res) := by kernel_rfl
theorem KD : Fits (14, 106) := xG Tryz.func14 Ju (by kernel_rfl) (by kernel_rfl)
theorem Oa : xJ L Tryz.f15 AP.f9 = some (AP.f9.body, AP.f9.res) := by kernel_rfl
theorem Od : Fits (15, 9) := xG Tryz.func15 Oa (by kernel_rfl) (by kernel_rfl)
theorem J4 : xJ L Tryz.f16 AP.f182 = some (AP.f182.body, AP.f182.res) := by kernel_rfl
theorem Ll : Fits (16, 182) := xG Tryz.func16 J4 (by kernel_rfl) (by kernel_rfl)
theorem J1 : xJ L Tryz.f17 AP.f179 = some (AP.f179.body, AP.f179.res) := by kernel_rfl
theorem Lh : Fits (17, 179) := xG Tryz.func17 J1 (by kernel_rfl) (by kernel_rfl)
theorem JY : xJ L Tryz.f23 AP.f176 = some (AP.f176.body, AP.f176.res) := by kernel_rfl
theorem Ld : Fits (23, 176) := xG Tryz.func23 JY (by kernel_rfl) (by kernel_rfl)
theorem J2 : xJ L Tryz.f24 AP.f180 = some (AP.f180.body, AP.f180.res) := by kernel_rfl
theorem Li : Fits (24, 180) := xG Tryz.func24 J2 (by kernel_rfl) (by kernel_rfl)
theorem Kh : xJ L Tryz.f26 AP.f204 = some (AP.f204.body, AP.f204.res) := by kernel_rfl
theorem LG : Fits (26, 204) := xG Tryz.func26 Kh (by kernel_rfl) (by kernel_rfl)
theorem J5 : xJ L Tryz.f28 AP.f183 = some (AP.f183.body, AP.f183.res) := by kernel_rfl
theorem Lm : Fits (28, 183) := xG Tryz.func28 J5 (by kernel_rfl) (by kernel_rfl)
theorem MZ : xJ L Tryz.f29 AP.f91 = some (AP.f91.body, AP.f91.res) := by kernel_rfl
theorem NO : Fits (29, 91) := xG Tryz.func29 MZ (by kernel_rfl) (by kernel_rfl)
theorem M7 : xJ L Tryz.f30 AP.f93 = some (AP.f93.body, AP.f93.res) := by kernel_rfl
theorem NQ : Fits (30, 93) := xG Tryz.func30 M7 (by kernel_rfl) (by kernel_rfl)
theorem J6 : xJ L Tryz.f34 AP.f184 = some (AP.f184.body, AP.f184.res) := by kernel_rfl
theorem Lq : Fits (34, 184) := xG Tryz.func34 J6 (by kernel_rfl) (by kernel_rfl)
theorem J7 : xJ L Tryz.f35 AP.f185 = some (AP.f185.body, AP.f185.res) := by kernel_rfl
theorem Lr : Fits (35, 185) := xG Tryz.func35 J7 (by kernel_rfl) (by kernel_rfl)
theorem JC : xJ L Tryz.f36 AP.f118 = some (AP.f118.body, AP.f118.res) := by kernel_rfl
theorem KL : Fits (36, 118) := xG Tryz.func36 JC (by kernel_rfl) (by kernel_rfl)
theorem JA : xJ L Tryz.f38 AP.f115 = some (AP.f115.body, AP.f115.res) := by kernel_rfl
theorem KJ : Fits (38, 115) := xG Tryz.func38 JA (by kernel_rfl) (by kernel_rfl)
theorem Jp : xJ L Tryz.f39 AP.f101 = some (AP.f101.body, AP.f101.res) := by kernel_rfl
theorem Kv : Fits (39, 101) := xG Tryz.func39 Jp (by kernel_rfl) (by kernel_rfl)
theorem M5 : xJ L Tryz.f47 AP.f92 = some (AP.f92.body, AP.f92.res) := by kernel_rfl
theorem NP : Fits (47, 92) := xG Tryz.func47 M5 (by kernel_rfl) (by kernel_rfl)
theorem J8 : xJ L Tryz.f48 AP.f186 = some (AP.f186.body, AP.f186.res) := by kernel_rfl
theorem Ls : Fits (48, 186) := xG Tryz.func48 J8 (by kernel_rfl) (by kernel_rfl)
theorem J9 : xJ L Tryz.f49 AP.f187 = some (AP.f187.body, AP.f187.res) := by kernel_rfl
theorem Lu : Fits (49, 187) := xG Tryz.func49 J9 (by kernel_rfl) (by kernel_rfl)
theorem Ka : xJ L Tryz.f50 AP.f188 = some (AP.f188.body, AP.f188.res) := by kernel_rfl
theorem Lv : Fits (50, 188) := xG Tryz.func50 Ka (by kernel_rfl) (by kernel_rfl)
theorem M9 : xJ L Tryz.f51 AP.f96 = some (AP.f96.body, AP.f96.res) := by kernel_rfl
theorem NR : Fits (51, 96) := xG Tryz.func51 M9 (by kernel_rfl) (by kernel_rfl)
theorem Jq : xJ L Tryz.f52 AP.f102 = some (AP.f102.body, AP.f102.res) := by kernel_rfl
theorem Kw : Fits (52, 102) := xG Tryz.func52 Jq (by kernel_rfl) (by kernel_rfl)
theorem Jr : xJ L Tryz.f53 AP.f103 = some (AP.f103.body, AP.f103.res) := by kernel_rfl
theorem Kx : Fits (53, 103) := xG Tryz.func53 Jr (by kernel_rfl) (by kernel_rfl)
theorem Js : xJ L Tryz.f54 AP.f104 = some (AP.f104.body, AP.f104.res) := by kernel_rfl
theorem Ky : Fits (54, 104) := xG Tryz.func54 Js (by kernel_rfl) (by kernel_rfl)
theorem Jt : xJ L Tryz.f55 AP.f105 = some (AP.f105.body, AP.f105.res) := by kernel_rfl
theorem Kz : Fits (55, 105) := xG Tryz.func55 Jt (by kernel_rfl) (by kernel_rfl)
theorem Kb : xJ L Tryz.f62 AP.f189 = some (AP.f189.body, AP.f189.res) := by kernel_rfl
theorem Lx : Fits (62, 189) := xG Tryz.func62 Kb (by kernel_rfl) (by kernel_rfl)
theorem Jw : xJ L Tryz.f63 AP.f111 = some (AP.f111.body, AP.f111.res) := by kernel_rfl
theorem KF : Fits (63, 111) := xG Tryz.func63 Jw (by kernel_rfl) (by kernel_rfl)
theorem Kc : xJ L Tryz.f68 AP.f190 = some (AP.f190.body, AP.f190.res) := by kernel_rfl
theorem Ly : Fits (68, 190) := xG Tryz.func68 Kc (by kernel_rfl) (by kernel_rfl)
theorem Kd : xJ L Tryz.f69 AP.f191 = some (AP.f191.body, AP.f191.res) := by kernel_rfl
theorem Lz : Fits (69, 191) := xG Tryz.func69 Kd (by kernel_rfl) (by kernel_rfl)
theorem Jv : xJ L Tryz.f70 AP.f107 = some (AP.f107.body, AP.f107.res) := by kernel_rfl
theorem KE : Fits (70, 107) := xG Tryz.func70 Jv (by kernel_rfl) (by kernel_rfl)
theorem Jx : xJ L Tryz.f71 AP.f112 = some (AP.f112.body, AP.f112.res) := by kernel_rfl
theorem KG : Fits (71, 112) := xG Tryz.func71 Jx (by kernel_rfl) (by kernel_rfl)
theorem Jy : xJ L Tryz.f81 AP.f113 = some (AP.f113.body, AP.f113.res) := by kernel_rfl
theorem KH : Fits (81, 113) := xG Tryz.func81 Jy (by kernel_rfl) (by kernel_rfl)
theorem Ke : xJ L Tryz.f82 AP.f192 = some (AP.f192.body, AP.f192.res) := by kernel_rfl
theorem LC : Fits (82, 192) := xG Tryz.func82 Ke (by kernel_rfl) (by kernel_rfl)
theorem Jz : xJ L Tryz.f83 AP.f114 = some (AP.f114.body, AP.f114.res) := by kernel_rfl
theorem KI : Fits (83, 114) := xG Tryz.func83 Jz (by kernel_rfl) (by kernel_rfl)
theorem JB : xJ L Tryz.f84 AP.f117 = some (AP.f117.body, AP.f117.res) := by kernel_rfl
theorem KK : Fits (84, 117) := xG Tryz.func84 JB (by kernel_rfl) (by kernel_rfl)
theorem JD : xJ L Tryz.f85 AP.f119 = some (AP.f119.body, AP.f119.res) := by kernel_rfl
theorem KM : Fits (85, 119) := xG Tryz.func85 JD (by kernel_rfl) (by kernel_rfl)
theorem JE : xJ L Tryz.f86 AP.f120 = some (AP.f120.body, AP.f120.res) := by kernel_rfl
theorem KN : Fits (86, 120) := xG Tryz.func86 JE (by kernel_rfl) (by kernel_rfl)
theorem JF : xJ L Tryz.f103 AP.f121 = some (AP.f121.body, AP.f121.res) := by kernel_rfl
theorem KO : Fits (103, 121) := xG Tryz.func103 JF (by kernel_rfl) (by kernel_rfl)
theorem JG : xJ L Tryz.f104 AP.f122 = some (AP.f122.body, AP.f122.res) := by kernel_rfl
theorem KP : Fits (104, 122) := xG Tryz.func104 JG (by kernel_rfl) (by kernel_rfl)
theorem N9 : xJ L Tryz.f105 AP.f7 = some (AP.f7.body, AP.f7.res) := by kernel_rfl
theorem Oc : Fits (105, 7) := xG Tryz.func105 N9 (by kernel_rfl) (by kernel_rfl)
theorem MX : xJ L Tryz.f106 AP.f83 = some (AP.f83.body, AP.f83.res) := by kernel_rfl
theorem NM : Fits (106, 83) := xG Tryz.func106 MX (by kernel_rfl) (by kernel_rfl)
theorem JH : xJ L Tryz.f107 AP.f123 = some (AP.f123.body, AP.f123.res) := by kernel_rfl
theorem KQ : Fits (107, 123) := xG Tryz.func107 JH (by kernel_rfl) (by kernel_rfl)
theorem JI : xJ L Tryz.f120 AP.f124 = some (AP.f124.body, AP.f124.res) := by kernel_rfl
theorem KR : Fits (120, 124) := xG Tryz.func120 JI (by kernel_rfl) (by kernel_rfl)
theorem Mr : xJ L Tryz.f121 AP.f14 = some (AP.f14.body, AP.f14.res) := by kernel_rfl
theorem Nc : Fits (121, 14) := xG Tryz.func121 Mr (by kernel_rfl) (by kernel_rfl)
theorem Ms : xJ L Tryz.f122 AP.f15 = some (AP.f15.body, AP.f15.res) := by kernel_rfl
theorem Nd : Fits (122, 15) := xG Tryz.func122 Ms (by kernel_rfl) (by kernel_rfl)
theorem Mt : xJ L Tryz.f123 AP.f16 = some (AP.f16.body, AP.f16.res) := by kernel_rfl
theorem Nf : Fits (123, 16) := xG Tryz.func123 Mt (by kernel_rfl) (by kernel_rfl)
theorem Mu : xJ L Tryz.f124 AP.f17 = some (AP.f17.body, AP.f17.res) := by kernel_rfl
theorem Ng : Fits (124, 17) := xG Tryz.func124 Mu (by kernel_rfl) (by kernel_rfl)
theorem MY : xJ L Tryz.f125 AP.f84 = some (AP.f84.body, AP.f84.res) := by kernel_rfl
theorem NN : Fits (125, 84) := xG Tryz.func125 MY (by kernel_rfl) (by kernel_rfl)
theorem JJ : xJ L Tryz.f137 AP.f125 = some (AP.f125.body, AP.f125.res) := by kernel_rfl
theorem KS : Fits (137, 125) := xG Tryz.func137 JJ (by kernel_rfl) (by kernel_rfl)
theorem JK : xJ L Tryz.f138 AP.f126 = some (AP.f126.body, AP.f126.res) := by kernel_rfl
theorem KT : Fits (138, 126) := xG Tryz.func138 JK (by kernel_rfl) (by kernel_rfl)
theorem JL : xJ L Tryz.f139 AP.f127 = some (AP.f127.body, AP.f127.res) := by kernel_rfl
theorem KU : Fits (139, 127) := xG Tryz.func139 JL (by kernel_rfl) (by kernel_rfl)
theorem JM : xJ L Tryz.f140 AP.f128 = some (AP.f128.body, AP.f128.res) := by kernel_rfl
theorem KV : Fits (140, 128) := xG Tryz.func140 JM (by kernel_rfl) (by kernel_rfl)
theorem JN : xJ L Tryz.f141 AP.f129 = some (AP.f129.body, AP.f129.res) := by kernel_rfl
theorem KW : Fits (141, 129) := xG Tryz.func141 JN (by kernel_rfl) (by kernel_rfl)
theorem JO : xJ L Tryz.f142 AP.f130 = some (AP.f130.body, AP.f130.res) := by kernel_rfl
theorem KX : Fits (142, 130) := xG Tryz.func142 JO (by kernel_rfl) (by kernel_rfl)
theorem JP : xJ L Tryz.f143 AP.f131 = some (AP.f131.body, AP.f131.res) := by kernel_rfl
theorem KY : Fits (143, 131) := xG Tryz.func143 JP (by kernel_rfl) (by kernel_rfl)
theorem Mv : xJ L Tryz.f144 AP.f38 = some (AP.f38.body, AP.f38.res) := by kernel_rfl
theorem Nh : Fits (144, 38) := xG Tryz.func144 Mv (by kernel_rfl) (by kernel_rfl)
theorem Mw : xJ L Tryz.f145 AP.f39 = some (AP.f39.body, AP.f39.res) := by kernel_rfl
theorem Ni : Fits (145, 39) := xG Tryz.func145 Mw (by kernel_rfl) (by kernel_rfl)
theorem Mx : xJ L Tryz.f146 AP.f40 = some (AP.f40.body, AP.f40.res) := by kernel_rfl
theorem Nj : Fits (146, 40) := xG Tryz.func146 Mx (by kernel_rfl) (by kernel_rfl)
theorem My : xJ L Tryz.f147 AP.f41 = some (AP.f41.body, AP.f41.res) := by kernel_rfl
theorem Nk : Fits (147, 41) := xG Tryz.func147 My (by kernel_rfl) (by kernel_rfl)
theorem Mz : xJ L Tryz.f148 AP.f42 = some (AP.f42.body, AP.f42.res) := by kernel_rfl
theorem Nl : Fits (148, 42) := xG Tryz.func148 Mz (by kernel_rfl) (by kernel_rfl)
theorem MA : xJ L Tryz.f149 AP.f43 = some (AP.f43.body, AP.f43.res) := by kernel_rfl
theorem Nn : Fits (149, 43) := xG Tryz.func149 MA (by kernel_rfl) (by kernel_rfl)
theorem MB : xJ L Tryz.f150 AP.f44 = some (AP.f44.body, AP.f44.res) := by kernel_rfl
theorem Np : Fits (150, 44) := xG Tryz.func150 MB (by kernel_rfl) (by kernel_rfl)
theorem MC : xJ L Tryz.f151 AP.f45 = some (AP.f45.body, AP.f45.res) := by kernel_rfl
theorem Nq : Fits (151, 45) := xG Tryz.func151 MC (by kernel_rfl) (by kernel_rfl)
theorem JQ : xJ L Tryz.f152 AP.f132 = some (AP.f132.body, AP.f132.res) := by kernel_rfl
theorem KZ : Fits (152, 132) := xG Tryz.func152 JQ (by kernel_rfl) (by kernel_rfl)
theorem JR : xJ L Tryz.f153 AP.f133 = some (AP.f133.body, AP.f133.res) := by kernel_rfl
theorem K0 : Fits (153, 133) := xG Tryz.func153 JR (by kernel_rfl) (by kernel_rfl)
theorem JS : xJ L Tryz.f154 AP.f134 = some (AP.f134.body, AP.f134.res) := by kernel_rfl
theorem K3 : Fits (154, 134) := xG Tryz.func154 JS (by kernel_rfl) (by kernel_rfl)
theorem JT : xJ L Tryz.f155 AP.f135 = some (AP.f135.body, AP.f135.res) := by kernel_rfl
theorem K4 : Fits (155, 135) := xG Tryz.func155 JT (by kernel_rfl) (by kernel_rfl)
theorem MD : xJ L Tryz.f156 AP.f58 = some (AP.f58.body, AP.f58.res) := by kernel_rfl
theorem Nr : Fits (156, 58) := xG Tryz.func156 MD (by kernel_rfl) (by kernel_rfl)
theorem ME : xJ L Tryz.f157 AP.f59 = some (AP.f59.body, AP.f59.res) := by kernel_rfl
theorem Ns : Fits (157, 59) := xG Tryz.func157 ME (by kernel_rfl) (by kernel_rfl)
theorem MF : xJ L Tryz.f158 AP.f60 = some (AP.f60.body, AP.f60.res) := by kernel_rfl
theorem Nt : Fits (158, 60) := xG Tryz.func158 MF (by kernel_rfl) (by kernel_rfl)
theorem MG : xJ L Tryz.f159 AP.f61 = some (AP.f61.body, AP.f61.res) := by kernel_rfl
theorem Nu : Fits (159, 61) := xG Tryz.func159 MG (by kernel_rfl) (by kernel_rfl)
theorem MH : xJ L Tryz.f160 AP.f62 = some (AP.f62.body, AP.f62.res) := by kernel_rfl
theorem Nv : Fits (160, 62) := xG Tryz.func160 MH (by kernel_rfl) (by kernel_rfl)
theorem MI : xJ L Tryz.f161 AP.f63 = some (AP.f63.body, AP.f63.res) := by kernel_rfl
theorem Nw : Fits (161, 63) := xG Tryz.func161 MI (by kernel_rfl) (by kernel_rfl)
theorem MJ : xJ L Tryz.f162 AP.f64 = some (AP.f64.body, AP.f64.res) := by kernel_rfl
theorem Nx : Fits (162, 64) := xG Tryz.func162 MJ (by kernel_rfl) (by kernel_rfl)
theorem MK : xJ L Tryz.f163 AP.f65 = some (AP.f65.body, AP.f65.res) := by kernel_rfl
theorem Ny : Fits (163, 65) := xG Tryz.func163 MK (by kernel_rfl) (by kernel_rfl)
theorem ML : xJ L Tryz.f164 AP.f66 = some (AP.f66.body, AP.f66.res) := by kernel_rfl
theorem Nz : Fits (164, 66) := xG Tryz.func164 ML (by kernel_rfl) (by kernel_rfl)
theorem JU : xJ L Tryz.f167 AP.f138 = some (AP.f138.body, AP.f138.res) := by kernel_rfl
theorem K7 : Fits (167, 138) := xG Tryz.func167 JU (by kernel_rfl) (by kernel_rfl)
theorem MM : xJ L Tryz.f168 AP.f72 = some (AP.f72.body, AP.f72.res) := by kernel_rfl
theorem NA : Fits (168, 72) := xG Tryz.func168 MM (by kernel_rfl) (by kernel_rfl)
theorem MN : xJ L Tryz.f169 AP.f73 = some (AP.f73.body, AP.f73.res) := by kernel_rfl
theorem NB : Fits (169, 73) := xG Tryz.func169 MN (by kernel_rfl) (by kernel_rfl)
theorem MO : xJ L Tryz.f170 AP.f74 = some (AP.f74.body, AP.f74.res) := by kernel_rfl
theorem NC : Fits (170, 74) := xG Tryz.func170 MO (by kernel_rfl) (by kernel_rfl)
theorem MP : xJ L Tryz.f171 AP.f75 = some (AP.f75.body, AP.f75.res) := by kernel_rfl
theorem ND : Fits (171, 75) := xG Tryz.func171 MP (by kernel_rfl) (by kernel_rfl)
theorem MQ : xJ L Tryz.f172 AP.f76 = some (AP.f76.body, AP.f76.res) := by kernel_rfl
theorem NF : Fits (172, 76) := xG Tryz.func172 MQ (by kernel_rfl) (by kernel_rfl)
theorem MR : xJ L Tryz.f173 AP.f77 = some (AP.f77.body, AP.f77.res) := by kernel_rfl
theorem NG : Fits (173, 77) := xG Tryz.func173 MR (by kernel_rfl) (by kernel_rfl)
theorem MS : xJ L Tryz.f174 AP.f78 = some (AP.f78.body, AP.f78.res) := by kernel_rfl
theorem NH : Fits (174, 78) := xG Tryz.func174 MS (by kernel_rfl) (by kernel_rfl)
theorem MT : xJ L Tryz.f175 AP.f79 = some (AP.f79.body, AP.f79.res) := by kernel_rfl
theorem NI : Fits (175, 79) := xG Tryz.func175 MT (by kernel_rfl) (by kernel_rfl)
theorem MU : xJ L Tryz.f176 AP.f80 = some (AP.f80.body, AP.f80.res) := by kernel_rfl
theorem NJ : Fits (176, 80) := xG Tryz.func176 MU (by kernel_rfl) (by kernel_rfl)
theorem MV : xJ L Tryz.f177 AP.f81 = some (AP.f81.body, AP.f81.res) := by kernel_rfl
theorem NK : Fits (177, 81) := xG Tryz.func177 MV (by kernel_rfl) (by kernel_rfl)
theorem JV : xJ L Tryz.f178 AP.f139 = some (AP.f139.body, AP.f139.res) := by kernel_rfl
theorem K8 : Fits (178, 139) := xG Tryz.func178 JV (by kernel_rfl) (by kernel_rfl)
theorem JW : xJ L Tryz.f179 AP.f140 = some (AP.f140.body, AP.f140.res) := by kernel_rfl
theorem K9 : Fits (179, 140) := xG Tryz.func179 JW (by kernel_rfl) (by kernel_rfl)
theorem JX : xJ L Tryz.f180 AP.f141 = some (AP.f141.body, AP.f141.res) := by kernel_rfl
theorem La : Fits (180, 141) := xG Tryz.func180 JX (by kernel_rfl) (by kernel_rfl)
theorem MW : xJ L Tryz.f182 AP.f82 = some (AP.f82.body, AP.f82.res) := by kernel_rfl
theorem NL : Fits (182, 82) := xG Tryz.func182 MW (by kernel_rfl) (by kernel_rfl)
theorem K5 : Fits (165, 136) := ⟨Tryz.f165, _, Tryz.func165, rfl, by kernel_rfl, fun af h => by cases h⟩
theorem K6 : Fits (166, 137) := ⟨Tryz.f166, _, Tryz.func166, rfl, by kernel_rfl, fun af h => by cases h⟩
theorem Lb : Fits (183, 143) := ⟨Tryz.f183, _, Tryz.func183, rfl, by kernel_rfl, fun af h => by cases h⟩
theorem N4 : ∀ p ∈ Oq, Fits p := xF LD (xF LF (xF Le (xF Lj (xF Lf (xF KD (xF Od (xF Ll (xF Lh (xF Ld (xF Li (xF LG (xF Lm (xF NO (xF NQ (xF Lq (xF Lr (xF KL (xF KJ (xF Kv (xF NP (xF Ls (xF Lu (xF Lv (xF NR (xF Kw (xF Kx (xF Ky (xF Kz (xF Lx (xF KF (xF Ly (xF Lz (xF KE (xF KG (xF KH (xF LC (xF KI (xF KK (xF KM (xF KN (xF KO (xF KP (xF Oc (xF NM (xF KQ (xF KR (xF Nc (xF Nd (xF Nf (xF Ng (xF NN (xF KS (xF KT (xF KU (xF KV (xF KW (xF KX (xF KY (xF Nh (xF Ni (xF Nj (xF Nk (xF Nl (xF Nn (xF Np (xF Nq (xF KZ (xF K0 (xF K3 (xF K4 (xF Nr (xF Ns (xF Nt (xF Nu (xF Nv (xF Nw (xF Nx (xF Ny (xF Nz (xF K7 (xF NA (xF NB (xF NC (xF ND (xF NF (xF NG (xF NH (xF NI (xF NJ (xF NK (xF K8 (xF K9 (xF La (xF NL (xF K5 (xF K6 (xF Lb (Gt))))))))))))))))))))))))))))))))))))))))))))))))))))))))))))))))))))))))))))))))))))))))))))))))))
theorem lk : fg L AP.A := ⟨by kernel_rfl, fun fid f h => N4 (fid, f) (CJ h), fun _ _ _ _ h => by cases h⟩
end Ab.Ln
