/- Part K1. -/
import Derived.Test.YtlnpoabdcheleaaDoorProg
import Derived.KernelRfl
import Derived.Test.YtlnpoabdcheleaaDoorAP
namespace Ab.Ln
open Go Go.Proofs Ab
def D8 : List (Nat × Nat) → Nat → Option Nat
 | [], _ => none
 | (i, f) :: r, k => if i = k then some f else D8 r k
def xJ (L : Lk) (fn : Func) (af : fR) : Option (aH × List RV) := fn.body.bind fun c => (comp L fn.ntmps c af.body).bind fun x => (dh L fn.results.toList).bind fun r => some (x, r)
def OH : List (Nat × Nat) := [(3, 175), (4, 176), (5, 177), (6, 9), (7, 178), (8, 106), (9, 179), (10, 180), (11, 181), (12, 182), (13, 183), (14, 91), (15, 93), (16, 184), (17, 185), (18, 118), (19, 115), (20, 101), (21, 186), (22, 187), (23, 188), (24, 96), (25, 102), (26, 103), (27, 104), (28, 105), (29, 189), (30, 111), (31, 190), (32, 191), (33, 107), (34, 112), (35, 113), (36, 192), (37, 114), (38, 117), (39, 119), (40, 120), (41, 121), (42, 122), (43, 7), (44, 83), (45, 123), (46, 124), (47, 14), (48, 15), (49, 16), (50, 17), (51, 84), (52, 125), (53, 126), (54, 127), (55, 128), (56, 129), (57, 130), (58, 131), (59, 38), (60, 39), (61, 40), (62, 41), (63, 42), (64, 43), (65, 44), (66, 45), (67, 132), (68, 133), (69, 134), (70, 135), (71, 58), (72, 59), (73, 60), (74, 61), (75, 62), (76, 63), (77, 64), (78, 65), (79, 66), (82, 138), (83, 72), (84, 73), (85, 74), (86, 75), (87, 76), (88, 77), (89, 78), (90, 79), (91, 80), (92, 81), (93, 139), (94, 140), (95, 141), (97, 82), (80, 136), (81, 137), (98, 143)]
def ON : List (Nat × Nat) := [(9, 0)]
def mf (k : Nat) : Option Nat := D8 OH k
def mt (k : Nat) : Nat := (D8 ON k).getD (k + 100000)
def iv (_ : String) : Option (Nat × Nat × Bool) := none
noncomputable def L : Lk := ⟨Tryd.prog, mf, mt, iv⟩
def Fits (p : Nat × Nat) : Prop := ∃ fn c, L.P.funcs[p.1]? = some fn ∧ fn.body = some c ∧ (fn.name == "runtime.NumGoroutine") = false ∧
    ∀ af, AP.A p.2 = some af → (∃ x0, comp L fn.ntmps c x0 = some af.body) ∧ dh L fn.results.toList = some af.res
theorem xG {k a : Nat} {fn : Func} {af : fR} (h1 : L.P.funcs[k]? = some fn) (h2 : xJ L fn af = some (af.body, af.res)) (h3 : (fn.name == "runtime.NumGoroutine") = false) (h4 : AP.A a = some af) : Fits (k, a) := by
 unfold xJ at h2
 simp only [wK] at h2
 obtain ⟨c, g1, x, g2, r, g3, g4⟩ := h2
 obtain ⟨rfl, rfl⟩ := wN (wL g4)
 refine ⟨fn, c, h1, g1, h3, fun af2 g5 => ?_⟩
 rw [h4] at g5
 obtain rfl := wL g5
 exact ⟨⟨_, g2⟩, g3⟩
theorem CN : ∀ {l : List (Nat × Nat)} {k f : Nat}, D8 l k = some f → (k, f) ∈ l
 | [], _, _, h => by cases h
 | (i, g) :: r, k, f, h => by
   unfold D8 at h
   split at h
   · rename_i e; subst e; obtain rfl := wL h; exact List.mem_cons_self
   · exact List.mem_cons_of_mem _ (CN h)
theorem GB : ∀ p ∈ ([] : List (Nat × Nat)), Fits p := fun p h => by cases h
theorem xF {p : Nat × Nat} {l : List (Nat × Nat)} (h1 : Fits p) (h2 : ∀ q ∈ l, Fits q) : ∀ q ∈ p :: l, Fits q := fun q h => by
 rcases xz.1 h with rfl | h
 · exact h1
 · exact h2 q h
theorem J9 : xJ L Tryd.f3 AP.f175 = some (AP.f175.body, AP.f175.res) := by kernel_rfl
theorem Lv : Fits (3, 175) := xG Tryd.func3 J9 (by kernel_rfl) (by kernel_rfl)
theorem Ka : xJ L Tryd.f4 AP.f176 = some (AP.f176.body, AP.f176.res) := by kernel_rfl
theorem Lx : Fits (4, 176) := xG Tryd.func4 Ka (by kernel_rfl) (by kernel_rfl)
theorem Kb : xJ L Tryd.f5 AP.f177 = some (AP.f177.body, AP.f177.res) := by kernel_rfl
theorem Ly : Fits (5, 177) := xG Tryd.func5 Kb (by kernel_rfl) (by kernel_rfl)
theorem Oo : xJ L Tryd.f6 AP.f9 = some (AP.f9.body, AP.f9.res) := by kernel_rfl
theorem Ou : Fits (6, 9) := xG Tryd.func6 Oo (by kernel_rfl) (by kernel_rfl)
theorem Kc : xJ L Tryd.f7 AP.f178 = some (AP.f178.body, AP.f178.res) := by kernel_rfl
theorem Lz : Fits (7, 178) := xG Tryd.func7 Kc (by kernel_rfl) (by kernel_rfl)
theorem JF : xJ L Tryd.f8 AP.f106 = some (AP.f106.body, AP.f106.res) := by kernel_rfl
theorem KP : Fits (8, 106) := xG Tryd.func8 JF (by kernel_rfl) (by kernel_rfl)
theorem Kd : xJ L Tryd.f9 AP.f179 = some (AP.f179.body, AP.f179.res) := by kernel_rfl
theorem LC : Fits (9, 179) := xG Tryd.func9 Kd (by kernel_rfl) (by kernel_rfl)
theorem Ke : xJ L Tryd.f10 AP.f180 = some (AP.f180.body, AP.f180.res) := by kernel_rfl
theorem LD : Fits (10, 180) := xG Tryd.func10 Ke (by kernel_rfl) (by kernel_rfl)
theorem Kf : xJ L Tryd.f11 AP.f181 = some (AP.f181.body, AP.f181.res) := by kernel_rfl
theorem LF : Fits (11, 181) := xG Tryd.func11 Kf (by kernel_rfl) (by kernel_rfl)
theorem Kg : xJ L Tryd.f12 AP.f182 = some (AP.f182.body, AP.f182.res) := by kernel_rfl
theorem LG : Fits (12, 182) := xG Tryd.func12 Kg (by kernel_rfl) (by kernel_rfl)
theorem Kh : xJ L Tryd.f13 AP.f183 = some (AP.f183.body, AP.f183.res) := by kernel_rfl
theorem LH : Fits (13, 183) := xG Tryd.func13 Kh (by kernel_rfl) (by kernel_rfl)
theorem Nn : xJ L Tryd.f14 AP.f91 = some (AP.f91.body, AP.f91.res) := by kernel_rfl
theorem N0 : Fits (14, 91) := xG Tryd.func14 Nn (by kernel_rfl) (by kernel_rfl)
theorem Np : xJ L Tryd.f15 AP.f93 = some (AP.f93.body, AP.f93.res) := by kernel_rfl
theorem N1 : Fits (15, 93) := xG Tryd.func15 Np (by kernel_rfl) (by kernel_rfl)
theorem Ki : xJ L Tryd.f16 AP.f184 = some (AP.f184.body, AP.f184.res) := by kernel_rfl
theorem LI : Fits (16, 184) := xG Tryd.func16 Ki (by kernel_rfl) (by kernel_rfl)
theorem Kj : xJ L Tryd.f17 AP.f185 = some (AP.f185.body, AP.f185.res) := by kernel_rfl
theorem LJ : Fits (17, 185) := xG Tryd.func17 Kj (by kernel_rfl) (by kernel_rfl)
theorem JN : xJ L Tryd.f18 AP.f118 = some (AP.f118.body, AP.f118.res) := by kernel_rfl
theorem KX : Fits (18, 118) := xG Tryd.func18 JN (by kernel_rfl) (by kernel_rfl)
theorem JL : xJ L Tryd.f19 AP.f115 = some (AP.f115.body, AP.f115.res) := by kernel_rfl
theorem KV : Fits (19, 115) := xG Tryd.func19 JL (by kernel_rfl) (by kernel_rfl)
theorem JA : xJ L Tryd.f20 AP.f101 = some (AP.f101.body, AP.f101.res) := by kernel_rfl
theorem KK : Fits (20, 101) := xG Tryd.func20 JA (by kernel_rfl) (by kernel_rfl)
theorem Kk : xJ L Tryd.f21 AP.f186 = some (AP.f186.body, AP.f186.res) := by kernel_rfl
theorem LK : Fits (21, 186) := xG Tryd.func21 Kk (by kernel_rfl) (by kernel_rfl)
theorem Kl : xJ L Tryd.f22 AP.f187 = some (AP.f187.body, AP.f187.res) := by kernel_rfl
theorem LL : Fits (22, 187) := xG Tryd.func22 Kl (by kernel_rfl) (by kernel_rfl)
theorem Km : xJ L Tryd.f23 AP.f188 = some (AP.f188.body, AP.f188.res) := by kernel_rfl
theorem LM : Fits (23, 188) := xG Tryd.func23 Km (by kernel_rfl) (by kernel_rfl)
theorem Nq : xJ L Tryd.f24 AP.f96 = some (AP.f96.body, AP.f96.res) := by kernel_rfl
theorem N2 : Fits (24, 96) := xG Tryd.func24 Nq (by kernel_rfl) (by kernel_rfl)
theorem JB : xJ L Tryd.f25 AP.f102 = some (AP.f102.body, AP.f102.res) := by kernel_rfl
theorem KL : Fits (25, 102) := xG Tryd.func25 JB (by kernel_rfl) (by kernel_rfl)
theorem JC : xJ L Tryd.f26 AP.f103 = some (AP.f103.body, AP.f103.res) := by kernel_rfl
theorem KM : Fits (26, 103) := xG Tryd.func26 JC (by kernel_rfl) (by kernel_rfl)
theorem JD : xJ L Tryd.f27 AP.f104 = some (AP.f104.body, AP.f104.res) := by kernel_rfl
theorem KN : Fits (27, 104) := xG Tryd.func27 JD (by kernel_rfl) (by kernel_rfl)
theorem JE : xJ L Tryd.f28 AP.f105 = some (AP.f105.body, AP.f105.res) := by kernel_rfl
theorem KO : Fits (28, 105) := xG Tryd.func28 JE (by kernel_rfl) (by kernel_rfl)
theorem Kn : xJ L Tryd.f29 AP.f189 = some (AP.f189.body, AP.f189.res) := by kernel_rfl
theorem LN : Fits (29, 189) := xG Tryd.func29 Kn (by kernel_rfl) (by kernel_rfl)
theorem JH : xJ L Tryd.f30 AP.f111 = some (AP.f111.body, AP.f111.res) := by kernel_rfl
theorem KR : Fits (30, 111) := xG Tryd.func30 JH (by kernel_rfl) (by kernel_rfl)
theorem Ko : xJ L Tryd.f31 AP.f190 = some (AP.f190.body, AP.f190.res) := by kernel_rfl
theorem LO : Fits (31, 190) := xG Tryd.func31 Ko (by kernel_rfl) (by kernel_rfl)
theorem Kq : xJ L Tryd.f32 AP.f191 = some (AP.f191.body, AP.f191.res) := by kernel_rfl
theorem LP : Fits (32, 191) := xG Tryd.func32 Kq (by kernel_rfl) (by kernel_rfl)
theorem JG : xJ L Tryd.f33 AP.f107 = some (AP.f107.body, AP.f107.res) := by kernel_rfl
theorem KQ : Fits (33, 107) := xG Tryd.func33 JG (by kernel_rfl) (by kernel_rfl)
theorem JI : xJ L Tryd.f34 AP.f112 = some (AP.f112.body, AP.f112.res) := by kernel_rfl
theorem KS : Fits (34, 112) := xG Tryd.func34 JI (by kernel_rfl) (by kernel_rfl)
theorem JJ : xJ L Tryd.f35 AP.f113 = some (AP.f113.body, AP.f113.res) := by kernel_rfl
theorem KT : Fits (35, 113) := xG Tryd.func35 JJ (by kernel_rfl) (by kernel_rfl)
theorem Kr : xJ L Tryd.f36 AP.f192 = some (AP.f192.body, AP.f192.res) := by kernel_rfl
theorem LQ : Fits (36, 192) := xG Tryd.func36 Kr (by kernel_rfl) (by kernel_rfl)
theorem JK : xJ L Tryd.f37 AP.f114 = some (AP.f114.body, AP.f114.res) := by kernel_rfl
theorem KU : Fits (37, 114) := xG Tryd.func37 JK (by kernel_rfl) (by kernel_rfl)
theorem JM : xJ L Tryd.f38 AP.f117 = some (AP.f117.body, AP.f117.res) := by kernel_rfl
theorem KW : Fits (38, 117) := xG Tryd.func38 JM (by kernel_rfl) (by kernel_rfl)
theorem JO : xJ L Tryd.f39 AP.f119 = some (AP.f119.body, AP.f119.res) := by kernel_rfl
theorem KY : Fits (39, 119) := xG Tryd.func39 JO (by kernel_rfl) (by kernel_rfl)
theorem JP : xJ L Tryd.f40 AP.f120 = some (AP.f120.body, AP.f120.res) := by kernel_rfl
theorem KZ : Fits (40, 120) := xG Tryd.func40 JP (by kernel_rfl) (by kernel_rfl)
theorem JQ : xJ L Tryd.f41 AP.f121 = some (AP.f121.body, AP.f121.res) := by kernel_rfl
theorem K0 : Fits (41, 121) := xG Tryd.func41 JQ (by kernel_rfl) (by kernel_rfl)
theorem JR : xJ L Tryd.f42 AP.f122 = some (AP.f122.body, AP.f122.res) := by kernel_rfl
theorem K3 : Fits (42, 122) := xG Tryd.func42 JR (by kernel_rfl) (by kernel_rfl)
theorem Om : xJ L Tryd.f43 AP.f7 = some (AP.f7.body, AP.f7.res) := by kernel_rfl
theorem Ot : Fits (43, 7) := xG Tryd.func43 Om (by kernel_rfl) (by kernel_rfl)
theorem Nk : xJ L Tryd.f44 AP.f83 = some (AP.f83.body, AP.f83.res) := by kernel_rfl
theorem NY : Fits (44, 83) := xG Tryd.func44 Nk (by kernel_rfl) (by kernel_rfl)
theorem JS : xJ L Tryd.f45 AP.f123 = some (AP.f123.body, AP.f123.res) := by kernel_rfl
theorem K4 : Fits (45, 123) := xG Tryd.func45 JS (by kernel_rfl) (by kernel_rfl)
theorem JT : xJ L Tryd.f46 AP.f124 = some (AP.f124.body, AP.f124.res) := by kernel_rfl
theorem K5 : Fits (46, 124) := xG Tryd.func46 JT (by kernel_rfl) (by kernel_rfl)
theorem MF : xJ L Tryd.f47 AP.f14 = some (AP.f14.body, AP.f14.res) := by kernel_rfl
theorem Nr : Fits (47, 14) := xG Tryd.func47 MF (by kernel_rfl) (by kernel_rfl)
theorem MG : xJ L Tryd.f48 AP.f15 = some (AP.f15.body, AP.f15.res) := by kernel_rfl
theorem Ns : Fits (48, 15) := xG Tryd.func48 MG (by kernel_rfl) (by kernel_rfl)
theorem MH : xJ L Tryd.f49 AP.f16 = some (AP.f16.body, AP.f16.res) := by kernel_rfl
theorem Nt : Fits (49, 16) := xG Tryd.func49 MH (by kernel_rfl) (by kernel_rfl)
theorem MI : xJ L Tryd.f50 AP.f17 = some (AP.f17.body, AP.f17.res) := by kernel_rfl
theorem Nu : Fits (50, 17) := xG Tryd.func50 MI (by kernel_rfl) (by kernel_rfl)
theorem Nl : xJ L Tryd.f51 AP.f84 = some (AP.f84.body, AP.f84.res) := by kernel_rfl
theorem NZ : Fits (51, 84) := xG Tryd.func51 Nl (by kernel_rfl) (by kernel_rfl)
theorem JU : xJ L Tryd.f52 AP.f125 = some (AP.f125.body, AP.f125.res) := by kernel_rfl
theorem K6 : Fits (52, 125) := xG Tryd.func52 JU (by kernel_rfl) (by kernel_rfl)
theorem JV : xJ L Tryd.f53 AP.f126 = some (AP.f126.body, AP.f126.res) := by kernel_rfl
theorem K7 : Fits (53, 126) := xG Tryd.func53 JV (by kernel_rfl) (by kernel_rfl)
theorem JW : xJ L Tryd.f54 AP.f127 = some (AP.f127.body, AP.f127.res) := by kernel_rfl
theorem K8 : Fits (54, 127) := xG Tryd.func54 JW (by kernel_rfl) (by kernel_rfl)
theorem JX : xJ L Tryd.f55 AP.f128 = some (AP.f128.body, AP.f128.res) := by kernel_rfl
theorem K9 : Fits (55, 128) := xG Tryd.func55 JX (by kernel_rfl) (by kernel_rfl)
theorem JY : xJ L Tryd.f56 AP.f129 = some (AP.f129.body, AP.f129.res) := by kernel_rfl
theorem La : Fits (56, 129) := xG Tryd.func56 JY (by kernel_rfl) (by kernel_rfl)
theorem JZ : xJ L Tryd.f57 AP.f130 = some (AP.f130.body, AP.f130.res) := by kernel_rfl
theorem Lb : Fits (57, 130) := xG Tryd.func57 JZ (by kernel_rfl) (by kernel_rfl)
theorem J0 : xJ L Tryd.f58 AP.f131 = some (AP.f131.body, AP.f131.res) := by kernel_rfl
theorem Ld : Fits (58, 131) := xG Tryd.func58 J0 (by kernel_rfl) (by kernel_rfl)
theorem MJ : xJ L Tryd.f59 AP.f38 = some (AP.f38.body, AP.f38.res) := by kernel_rfl
theorem Nv : Fits (59, 38) := xG Tryd.func59 MJ (by kernel_rfl) (by kernel_rfl)
theorem MK : xJ L Tryd.f60 AP.f39 = some (AP.f39.body, AP.f39.res) := by kernel_rfl
theorem Nw : Fits (60, 39) := xG Tryd.func60 MK (by kernel_rfl) (by kernel_rfl)
theorem ML : xJ L Tryd.f61 AP.f40 = some (AP.f40.body, AP.f40.res) := by kernel_rfl
theorem Nx : Fits (61, 40) := xG Tryd.func61 ML (by kernel_rfl) (by kernel_rfl)
theorem MM : xJ L Tryd.f62 AP.f41 = some (AP.f41.body, AP.f41.res) := by kernel_rfl
theorem Ny : Fits (62, 41) := xG Tryd.func62 MM (by kernel_rfl) (by kernel_rfl)
theorem MN : xJ L Tryd.f63 AP.f42 = some (AP.f42.body, AP.f42.res) := by kernel_rfl
theorem Nz : Fits (63, 42) := xG Tryd.func63 MN (by kernel_rfl) (by kernel_rfl)
theorem MO : xJ L Tryd.f64 AP.f43 = some (AP.f43.body, AP.f43.res) := by kernel_rfl
theorem NA : Fits (64, 43) := xG Tryd.func64 MO (by kernel_rfl) (by kernel_rfl)
theorem MP : xJ L Tryd.f65 AP.f44 = some (AP.f44.body, AP.f44.res) := by kernel_rfl
theorem NB : Fits (65, 44) := xG Tryd.func65 MP (by kernel_rfl) (by kernel_rfl)
theorem MQ : xJ L Tryd.f66 AP.f45 = some (AP.f45.body, AP.f45.res) := by kernel_rfl
theorem NC : Fits (66, 45) := xG Tryd.func66 MQ (by kernel_rfl) (by kernel_rfl)
theorem J1 : xJ L Tryd.f67 AP.f132 = some (AP.f132.body, AP.f132.res) := by kernel_rfl
theorem Le : Fits (67, 132) := xG Tryd.func67 J1 (by kernel_rfl) (by kernel_rfl)
theorem J2 : xJ L Tryd.f68 AP.f133 = some (AP.f133.body, AP.f133.res) := by kernel_rfl
theorem Lf : Fits (68, 133) := xG Tryd.func68 J2 (by kernel_rfl) (by kernel_rfl)
theorem J3 : xJ L Tryd.f69 AP.f134 = some (AP.f134.body, AP.f134.res) := by kernel_rfl
theorem Lh : Fits (69, 134) := xG Tryd.func69 J3 (by kernel_rfl) (by kernel_rfl)
theorem J4 : xJ L Tryd.f70 AP.f135 = some (AP.f135.body, AP.f135.res) := by kernel_rfl
theorem Li : Fits (70, 135) := xG Tryd.func70 J4 (by kernel_rfl) (by kernel_rfl)
theorem MR : xJ L Tryd.f71 AP.f58 = some (AP.f58.body, AP.f58.res) := by kernel_rfl
theorem ND : Fits (71, 58) := xG Tryd.func71 MR (by kernel_rfl) (by kernel_rfl)
theorem MS : xJ L Tryd.f72 AP.f59 = some (AP.f59.body, AP.f59.res) := by kernel_rfl
theorem NF : Fits (72, 59) := xG Tryd.func72 MS (by kernel_rfl) (by kernel_rfl)
theorem MT : xJ L Tryd.f73 AP.f60 = some (AP.f60.body, AP.f60.res) := by kernel_rfl
theorem NG : Fits (73, 60) := xG Tryd.func73 MT (by kernel_rfl) (by kernel_rfl)
theorem MU : xJ L Tryd.f74 AP.f61 = some (AP.f61.body, AP.f61.res) := by kernel_rfl
theorem NH : Fits (74, 61) := xG Tryd.func74 MU (by kernel_rfl) (by kernel_rfl)
theorem MV : xJ L Tryd.f75 AP.f62 = some (AP.f62.body, AP.f62.res) := by kernel_rfl
theorem NI : Fits (75, 62) := xG Tryd.func75 MV (by kernel_rfl) (by kernel_rfl)
theorem MW : xJ L Tryd.f76 AP.f63 = some (AP.f63.body, AP.f63.res) := by kernel_rfl
theorem NJ : Fits (76, 63) := xG Tryd.func76 MW (by kernel_rfl) (by kernel_rfl)
theorem MX : xJ L Tryd.f77 AP.f64 = some (AP.f64.body, AP.f64.res) := by kernel_rfl
theorem NK : Fits (77, 64) := xG Tryd.func77 MX (by kernel_rfl) (by kernel_rfl)
theorem MY : xJ L Tryd.f78 AP.f65 = some (AP.f65.body, AP.f65.res) := by kernel_rfl
theorem NL : Fits (78, 65) := xG Tryd.func78 MY (by kernel_rfl) (by kernel_rfl)
theorem MZ : xJ L Tryd.f79 AP.f66 = some (AP.f66.body, AP.f66.res) := by kernel_rfl
theorem NM : Fits (79, 66) := xG Tryd.func79 MZ (by kernel_rfl) (by kernel_rfl)
theorem J5 : xJ L Tryd.f82 AP.f138 = some (AP.f138.body, AP.f138.res) := by kernel_rfl
theorem Lm : Fits (82, 138) := xG Tryd.func82 J5 (by kernel_rfl) (by kernel_rfl)
theorem M5 : xJ L Tryd.f83 AP.f72 = some (AP.f72.body, AP.f72.res) := by kernel_rfl
theorem NN : Fits (83, 72) := xG Tryd.func83 M5 (by kernel_rfl) (by kernel_rfl)
theorem M7 : xJ L Tryd.f84 AP.f73 = some (AP.f73.body, AP.f73.res) := by kernel_rfl
theorem NO : Fits (84, 73) := xG Tryd.func84 M7 (by kernel_rfl) (by kernel_rfl)
theorem M9 : xJ L Tryd.f85 AP.f74 = some (AP.f74.body, AP.f74.res) := by kernel_rfl
theorem NP : Fits (85, 74) := xG Tryd.func85 M9 (by kernel_rfl) (by kernel_rfl)
theorem Na : xJ L Tryd.f86 AP.f75 = some (AP.f75.body, AP.f75.res) := by kernel_rfl
theorem NQ : Fits (86, 75) := xG Tryd.func86 Na (by kernel_rfl) (by kernel_rfl)
theorem Nc : xJ L Tryd.f87 AP.f76 = some (AP.f76.body, AP.f76.res) := by kernel_rfl
theorem NR : Fits (87, 76) := xG Tryd.func87 Nc (by kernel_rfl) (by kernel_rfl)
theorem Nd : xJ L Tryd.f88 AP.f77 = some (AP.f77.body, AP.f77.res) := by kernel_rfl
theorem NS : Fits (88, 77) := xG Tryd.func88 Nd (by kernel_rfl) (by kernel_rfl)
theorem Nf : xJ L Tryd.f89 AP.f78 = some (AP.f78.body, AP.f78.res) := by kernel_rfl
theorem NT : Fits (89, 78) := xG Tryd.func89 Nf (by kernel_rfl) (by kernel_rfl)
theorem Ng : xJ L Tryd.f90 AP.f79 = some (AP.f79.body, AP.f79.res) := by kernel_rfl
theorem NU : Fits (90, 79) := xG Tryd.func90 Ng (by kernel_rfl) (by kernel_rfl)
theorem Nh : xJ L Tryd.f91 AP.f80 = some (AP.f80.body, AP.f80.res) := by kernel_rfl
theorem NV : Fits (91, 80) := xG Tryd.func91 Nh (by kernel_rfl) (by kernel_rfl)
theorem Ni : xJ L Tryd.f92 AP.f81 = some (AP.f81.body, AP.f81.res) := by kernel_rfl
theorem NW : Fits (92, 81) := xG Tryd.func92 Ni (by kernel_rfl) (by kernel_rfl)
theorem J6 : xJ L Tryd.f93 AP.f139 = some (AP.f139.body, AP.f139.res) := by kernel_rfl
theorem Lq : Fits (93, 139) := xG Tryd.func93 J6 (by kernel_rfl) (by kernel_rfl)
theorem J7 : xJ L Tryd.f94 AP.f140 = some (AP.f140.body, AP.f140.res) := by kernel_rfl
theorem Lr : Fits (94, 140) := xG Tryd.func94 J7 (by kernel_rfl) (by kernel_rfl)
theorem J8 : xJ L Tryd.f95 AP.f141 = some (AP.f141.body, AP.f141.res) := by kernel_rfl
theorem Ls : Fits (95, 141) := xG Tryd.func95 J8 (by kernel_rfl) (by kernel_rfl)
theorem Nj : xJ L Tryd.f97 AP.f82 = some (AP.f82.body, AP.f82.res) := by kernel_rfl
theorem NX : Fits (97, 82) := xG Tryd.func97 Nj (by kernel_rfl) (by kernel_rfl)
theorem Lj : Fits (80, 136) := ⟨Tryd.f80, _, Tryd.func80, rfl, by kernel_rfl, fun af h => by cases h⟩
theorem Ll : Fits (81, 137) := ⟨Tryd.f81, _, Tryd.func81, rfl, by kernel_rfl, fun af h => by cases h⟩
theorem Lu : Fits (98, 143) := ⟨Tryd.f98, _, Tryd.func98, rfl, by kernel_rfl, fun af h => by cases h⟩
theorem Oi : ∀ p ∈ OH, Fits p := xF Lv (xF Lx (xF Ly (xF Ou (xF Lz (xF KP (xF LC (xF LD (xF LF (xF LG (xF LH (xF N0 (xF N1 (xF LI (xF LJ (xF KX (xF KV (xF KK (xF LK (xF LL (xF LM (xF N2 (xF KL (xF KM (xF KN (xF KO (xF LN (xF KR (xF LO (xF LP (xF KQ (xF KS (xF KT (xF LQ (xF KU (xF KW (xF KY (xF KZ (xF K0 (xF K3 (xF Ot (xF NY (xF K4 (xF K5 (xF Nr (xF Ns (xF Nt (xF Nu (xF NZ (xF K6 (xF K7 (xF K8 (xF K9 (xF La (xF Lb (xF Ld (xF Nv (xF Nw (xF Nx (xF Ny (xF Nz (xF NA (xF NB (xF NC (xF Le (xF Lf (xF Lh (xF Li (xF ND (xF NF (xF NG (xF NH (xF NI (xF NJ (xF NK (xF NL (xF NM (xF Lm (xF NN (xF NO (xF NP (xF NQ (xF NR (xF NS (xF NT (xF NU (xF NV (xF NW (xF Lq (xF Lr (xF Ls (xF NX (xF Lj (xF Ll (xF Lu (GB)))))))))))))))))))))))))))))))))))))))))))))))))))))))))))))))))))))))))))))))))))))))))))))))
theorem lk : fg L AP.A := ⟨by kernel_rfl, fun fid f h => Oi (fid, f) (CN h), fun _ _ _ _ h => by cases h⟩
end Ab.Ln
