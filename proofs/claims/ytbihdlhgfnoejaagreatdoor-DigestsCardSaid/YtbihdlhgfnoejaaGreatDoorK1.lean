/- Part K1. -/
import Derived.Test.YtbihdlhgfnoejaaGreatDoorProg
import Derived.KernelRfl
import Derived.Test.YtbihdlhgfnoejaaGreatDoorAP
namespace Ab.Ln
open Go Go.Proofs Ab
def look2 : List (Nat × Nat) → Nat → Option Nat
  | [], _ => none
  | (i, f) :: r, k => if i = k then some f else look2 r k
def fnChk (L : Lk) (fn : Func) (af : AFunc) : Option (ACode × List RV) := fn.body.bind fun c => (comp L fn.ntmps c af.body).bind fun x => (compRes L fn.results.toList).bind fun r => some (x, r)
def mfT : List (Nat × Nat) := [(3, 145), (8, 92), (9, 150), (10, 91), (11, 151), (12, 93), (13, 152), (14, 9), (15, 98), (16, 153), (17, 90), (18, 94), (24, 96), (25, 157), (28, 101), (29, 159), (30, 102), (31, 103), (32, 104), (33, 160), (34, 161), (35, 105), (36, 162), (37, 106), (39, 107), (40, 164), (46, 167), (49, 111), (50, 112), (51, 169), (56, 113), (57, 114), (58, 115), (59, 8), (61, 117), (63, 172), (64, 173), (65, 119), (66, 120), (73, 22), (74, 23), (80, 32), (82, 121), (83, 122), (84, 7), (85, 18), (86, 19), (87, 20), (88, 21), (89, 24), (90, 25), (91, 83), (92, 123), (95, 52), (96, 50), (97, 51), (99, 124), (100, 14), (101, 15), (102, 16), (103, 17), (104, 46), (105, 47), (106, 48), (107, 49), (108, 53), (109, 54), (110, 84), (112, 67), (113, 68), (116, 125), (117, 126), (118, 127), (119, 128), (120, 129), (121, 130), (122, 131), (123, 38), (124, 39), (125, 40), (126, 41), (127, 42), (128, 43), (129, 44), (130, 45), (131, 132), (132, 133), (133, 134), (134, 135), (135, 58), (136, 59), (137, 60), (138, 61), (139, 62), (140, 63), (141, 64), (142, 65), (143, 66), (146, 138), (147, 72), (148, 73), (149, 74), (150, 75), (151, 76), (152, 77), (153, 78), (154, 79), (155, 80), (156, 81), (157, 139), (158, 140), (159, 141), (161, 82), (144, 136), (145, 137), (162, 143)]
def mtT : List (Nat × Nat) := [(9, 0)]
def mf (k : Nat) : Option Nat := look2 mfT k
def mt (k : Nat) : Nat := (look2 mtT k).getD (k + 100000)
noncomputable def L : Lk := ⟨Tryz.prog, mf, mt⟩
def Fits (p : Nat × Nat) : Prop := ∃ fn c, L.P.funcs[p.1]? = some fn ∧ fn.body = some c ∧ (fn.name == "runtime.NumGoroutine") = false ∧
    ∀ af, AP.A p.2 = some af → (∃ x0, comp L fn.ntmps c x0 = some af.body) ∧ compRes L fn.results.toList = some af.res
theorem fits_of {k a : Nat} {fn : Func} {af : AFunc} (h1 : L.P.funcs[k]? = some fn) (h2 : fnChk L fn af = some (af.body, af.res)) (h3 : (fn.name == "runtime.NumGoroutine") = false) (h4 : AP.A a = some af) : Fits (k, a) := by
  unfold fnChk at h2
  simp only [Option.bind_eq_some_iff] at h2
  obtain ⟨c, g1, x, g2, r, g3, g4⟩ := h2
  obtain ⟨rfl, rfl⟩ := Prod.mk.inj (Option.some.inj g4)
  refine ⟨fn, c, h1, g1, h3, fun af2 g5 => ?_⟩
  rw [h4] at g5
  obtain rfl := Option.some.inj g5
  exact ⟨⟨_, g2⟩, g3⟩
theorem look2_mem : ∀ {l : List (Nat × Nat)} {k f : Nat}, look2 l k = some f → (k, f) ∈ l
  | [], _, _, h => by cases h
  | (i, g) :: r, k, f, h => by
    unfold look2 at h
    split at h
    · rename_i e; subst e; obtain rfl := Option.some.inj h; exact List.mem_cons_self
    · exact List.mem_cons_of_mem _ (look2_mem h)
theorem allF_nil : ∀ p ∈ ([] : List (Nat × Nat)), Fits p := fun p h => by cases h
theorem allF_cons {p : Nat × Nat} {l : List (Nat × Nat)} (h1 : Fits p) (h2 : ∀ q ∈ l, Fits q) : ∀ q ∈ p :: l, Fits q := fun q h => by
  rcases List.mem_cons.1 h with rfl | h
  · exact h1
  · exact h2 q h
theorem chk145 : fnChk L Tryz.f3 AP.f145 = some (AP.f145.body, AP.f145.res) := by kernel_rfl
theorem fit145 : Fits (3, 145) := fits_of Tryz.func3 chk145 (by kernel_rfl) (by kernel_rfl)
theorem chk92 : fnChk L Tryz.f8 AP.f92 = some (AP.f92.body, AP.f92.res) := by kernel_rfl
theorem fit92 : Fits (8, 92) := fits_of Tryz.func8 chk92 (by kernel_rfl) (by kernel_rfl)
theorem chk150 : fnChk L Tryz.f9 AP.f150 = some (AP.f150.body, AP.f150.res) := by kernel_rfl
theorem fit150 : Fits (9, 150) := fits_of Tryz.func9 chk150 (by kernel_rfl) (by kernel_rfl)
theorem chk91 : fnChk L Tryz.f10 AP.f91 = some (AP.f91.body, AP.f91.res) := by kernel_rfl
theorem fit91 : Fits (10, 91) := fits_of Tryz.func10 chk91 (by kernel_rfl) (by kernel_rfl)
theorem chk151 : fnChk L Tryz.f11 AP.f151 = some (AP.f151.body, AP.f151.res) := by kernel_rfl
theorem fit151 : Fits (11, 151) := fits_of Tryz.func11 chk151 (by kernel_rfl) (by kernel_rfl)
theorem chk93 : fnChk L Tryz.f12 AP.f93 = some (AP.f93.body, AP.f93.res) := by kernel_rfl
theorem fit93 : Fits (12, 93) := fits_of Tryz.func12 chk93 (by kernel_rfl) (by kernel_rfl)
theorem chk152 : fnChk L Tryz.f13 AP.f152 = some (AP.f152.body, AP.f152.res) := by kernel_rfl
theorem fit152 : Fits (13, 152) := fits_of Tryz.func13 chk152 (by kernel_rfl) (by kernel_rfl)
theorem chk9 : fnChk L Tryz.f14 AP.f9 = some (AP.f9.body, AP.f9.res) := by kernel_rfl
theorem fit9 : Fits (14, 9) := fits_of Tryz.func14 chk9 (by kernel_rfl) (by kernel_rfl)
theorem chk98 : fnChk L Tryz.f15 AP.f98 = some (AP.f98.body, AP.f98.res) := by kernel_rfl
theorem fit98 : Fits (15, 98) := fits_of Tryz.func15 chk98 (by kernel_rfl) (by kernel_rfl)
theorem chk153 : fnChk L Tryz.f16 AP.f153 = some (AP.f153.body, AP.f153.res) := by kernel_rfl
theorem fit153 : Fits (16, 153) := fits_of Tryz.func16 chk153 (by kernel_rfl) (by kernel_rfl)
theorem chk90 : fnChk L Tryz.f17 AP.f90 = some (AP.f90.body, AP.f90.res) := by kernel_rfl
theorem fit90 : Fits (17, 90) := fits_of Tryz.func17 chk90 (by kernel_rfl) (by kernel_rfl)
theorem chk94 : fnChk L Tryz.f18 AP.f94 = some (AP.f94.body, AP.f94.res) := by kernel_rfl
theorem fit94 : Fits (18, 94) := fits_of Tryz.func18 chk94 (by kernel_rfl) (by kernel_rfl)
theorem chk96 : fnChk L Tryz.f24 AP.f96 = some (AP.f96.body, AP.f96.res) := by kernel_rfl
theorem fit96 : Fits (24, 96) := fits_of Tryz.func24 chk96 (by kernel_rfl) (by kernel_rfl)
theorem chk157 : fnChk L Tryz.f25 AP.f157 = some (AP.f157.body, AP.f157.res) := by kernel_rfl
theorem fit157 : Fits (25, 157) := fits_of Tryz.func25 chk157 (by kernel_rfl) (by kernel_rfl)
theorem chk101 : fnChk L Tryz.f28 AP.f101 = some (AP.f101.body, AP.f101.res) := by kernel_rfl
theorem fit101 : Fits (28, 101) := fits_of Tryz.func28 chk101 (by kernel_rfl) (by kernel_rfl)
theorem chk159 : fnChk L Tryz.f29 AP.f159 = some (AP.f159.body, AP.f159.res) := by kernel_rfl
theorem fit159 : Fits (29, 159) := fits_of Tryz.func29 chk159 (by kernel_rfl) (by kernel_rfl)
theorem chk102 : fnChk L Tryz.f30 AP.f102 = some (AP.f102.body, AP.f102.res) := by kernel_rfl
theorem fit102 : Fits (30, 102) := fits_of Tryz.func30 chk102 (by kernel_rfl) (by kernel_rfl)
theorem chk103 : fnChk L Tryz.f31 AP.f103 = some (AP.f103.body, AP.f103.res) := by kernel_rfl
theorem fit103 : Fits (31, 103) := fits_of Tryz.func31 chk103 (by kernel_rfl) (by kernel_rfl)
theorem chk104 : fnChk L Tryz.f32 AP.f104 = some (AP.f104.body, AP.f104.res) := by kernel_rfl
theorem fit104 : Fits (32, 104) := fits_of Tryz.func32 chk104 (by kernel_rfl) (by kernel_rfl)
theorem chk160 : fnChk L Tryz.f33 AP.f160 = some (AP.f160.body, AP.f160.res) := by kernel_rfl
theorem fit160 : Fits (33, 160) := fits_of Tryz.func33 chk160 (by kernel_rfl) (by kernel_rfl)
theorem chk161 : fnChk L Tryz.f34 AP.f161 = some (AP.f161.body, AP.f161.res) := by kernel_rfl
theorem fit161 : Fits (34, 161) := fits_of Tryz.func34 chk161 (by kernel_rfl) (by kernel_rfl)
theorem chk105 : fnChk L Tryz.f35 AP.f105 = some (AP.f105.body, AP.f105.res) := by kernel_rfl
theorem fit105 : Fits (35, 105) := fits_of Tryz.func35 chk105 (by kernel_rfl) (by kernel_rfl)
theorem chk162 : fnChk L Tryz.f36 AP.f162 = some (AP.f162.body, AP.f162.res) := by kernel_rfl
theorem fit162 : Fits (36, 162) := fits_of Tryz.func36 chk162 (by kernel_rfl) (by kernel_rfl)
theorem chk106 : fnChk L Tryz.f37 AP.f106 = some (AP.f106.body, AP.f106.res) := by kernel_rfl
theorem fit106 : Fits (37, 106) := fits_of Tryz.func37 chk106 (by kernel_rfl) (by kernel_rfl)
theorem chk107 : fnChk L Tryz.f39 AP.f107 = some (AP.f107.body, AP.f107.res) := by kernel_rfl
theorem fit107 : Fits (39, 107) := fits_of Tryz.func39 chk107 (by kernel_rfl) (by kernel_rfl)
theorem chk164 : fnChk L Tryz.f40 AP.f164 = some (AP.f164.body, AP.f164.res) := by kernel_rfl
theorem fit164 : Fits (40, 164) := fits_of Tryz.func40 chk164 (by kernel_rfl) (by kernel_rfl)
theorem chk167 : fnChk L Tryz.f46 AP.f167 = some (AP.f167.body, AP.f167.res) := by kernel_rfl
theorem fit167 : Fits (46, 167) := fits_of Tryz.func46 chk167 (by kernel_rfl) (by kernel_rfl)
theorem chk111 : fnChk L Tryz.f49 AP.f111 = some (AP.f111.body, AP.f111.res) := by kernel_rfl
theorem fit111 : Fits (49, 111) := fits_of Tryz.func49 chk111 (by kernel_rfl) (by kernel_rfl)
theorem chk112 : fnChk L Tryz.f50 AP.f112 = some (AP.f112.body, AP.f112.res) := by kernel_rfl
theorem fit112 : Fits (50, 112) := fits_of Tryz.func50 chk112 (by kernel_rfl) (by kernel_rfl)
theorem chk169 : fnChk L Tryz.f51 AP.f169 = some (AP.f169.body, AP.f169.res) := by kernel_rfl
theorem fit169 : Fits (51, 169) := fits_of Tryz.func51 chk169 (by kernel_rfl) (by kernel_rfl)
theorem chk113 : fnChk L Tryz.f56 AP.f113 = some (AP.f113.body, AP.f113.res) := by kernel_rfl
theorem fit113 : Fits (56, 113) := fits_of Tryz.func56 chk113 (by kernel_rfl) (by kernel_rfl)
theorem chk114 : fnChk L Tryz.f57 AP.f114 = some (AP.f114.body, AP.f114.res) := by kernel_rfl
theorem fit114 : Fits (57, 114) := fits_of Tryz.func57 chk114 (by kernel_rfl) (by kernel_rfl)
theorem chk115 : fnChk L Tryz.f58 AP.f115 = some (AP.f115.body, AP.f115.res) := by kernel_rfl
theorem fit115 : Fits (58, 115) := fits_of Tryz.func58 chk115 (by kernel_rfl) (by kernel_rfl)
theorem chk8 : fnChk L Tryz.f59 AP.f8 = some (AP.f8.body, AP.f8.res) := by kernel_rfl
theorem fit8 : Fits (59, 8) := fits_of Tryz.func59 chk8 (by kernel_rfl) (by kernel_rfl)
theorem chk117 : fnChk L Tryz.f61 AP.f117 = some (AP.f117.body, AP.f117.res) := by kernel_rfl
theorem fit117 : Fits (61, 117) := fits_of Tryz.func61 chk117 (by kernel_rfl) (by kernel_rfl)
theorem chk172 : fnChk L Tryz.f63 AP.f172 = some (AP.f172.body, AP.f172.res) := by kernel_rfl
theorem fit172 : Fits (63, 172) := fits_of Tryz.func63 chk172 (by kernel_rfl) (by kernel_rfl)
theorem chk173 : fnChk L Tryz.f64 AP.f173 = some (AP.f173.body, AP.f173.res) := by kernel_rfl
theorem fit173 : Fits (64, 173) := fits_of Tryz.func64 chk173 (by kernel_rfl) (by kernel_rfl)
theorem chk119 : fnChk L Tryz.f65 AP.f119 = some (AP.f119.body, AP.f119.res) := by kernel_rfl
theorem fit119 : Fits (65, 119) := fits_of Tryz.func65 chk119 (by kernel_rfl) (by kernel_rfl)
theorem chk120 : fnChk L Tryz.f66 AP.f120 = some (AP.f120.body, AP.f120.res) := by kernel_rfl
theorem fit120 : Fits (66, 120) := fits_of Tryz.func66 chk120 (by kernel_rfl) (by kernel_rfl)
theorem chk22 : fnChk L Tryz.f73 AP.f22 = some (AP.f22.body, AP.f22.res) := by kernel_rfl
theorem fit22 : Fits (73, 22) := fits_of Tryz.func73 chk22 (by kernel_rfl) (by kernel_rfl)
theorem chk23 : fnChk L Tryz.f74 AP.f23 = some (AP.f23.body, AP.f23.res) := by kernel_rfl
theorem fit23 : Fits (74, 23) := fits_of Tryz.func74 chk23 (by kernel_rfl) (by kernel_rfl)
theorem chk32 : fnChk L Tryz.f80 AP.f32 = some (AP.f32.body, AP.f32.res) := by kernel_rfl
theorem fit32 : Fits (80, 32) := fits_of Tryz.func80 chk32 (by kernel_rfl) (by kernel_rfl)
theorem chk121 : fnChk L Tryz.f82 AP.f121 = some (AP.f121.body, AP.f121.res) := by kernel_rfl
theorem fit121 : Fits (82, 121) := fits_of Tryz.func82 chk121 (by kernel_rfl) (by kernel_rfl)
theorem chk122 : fnChk L Tryz.f83 AP.f122 = some (AP.f122.body, AP.f122.res) := by kernel_rfl
theorem fit122 : Fits (83, 122) := fits_of Tryz.func83 chk122 (by kernel_rfl) (by kernel_rfl)
theorem chk7 : fnChk L Tryz.f84 AP.f7 = some (AP.f7.body, AP.f7.res) := by kernel_rfl
theorem fit7 : Fits (84, 7) := fits_of Tryz.func84 chk7 (by kernel_rfl) (by kernel_rfl)
theorem chk18 : fnChk L Tryz.f85 AP.f18 = some (AP.f18.body, AP.f18.res) := by kernel_rfl
theorem fit18 : Fits (85, 18) := fits_of Tryz.func85 chk18 (by kernel_rfl) (by kernel_rfl)
theorem chk19 : fnChk L Tryz.f86 AP.f19 = some (AP.f19.body, AP.f19.res) := by kernel_rfl
theorem fit19 : Fits (86, 19) := fits_of Tryz.func86 chk19 (by kernel_rfl) (by kernel_rfl)
theorem chk20 : fnChk L Tryz.f87 AP.f20 = some (AP.f20.body, AP.f20.res) := by kernel_rfl
theorem fit20 : Fits (87, 20) := fits_of Tryz.func87 chk20 (by kernel_rfl) (by kernel_rfl)
theorem chk21 : fnChk L Tryz.f88 AP.f21 = some (AP.f21.body, AP.f21.res) := by kernel_rfl
theorem fit21 : Fits (88, 21) := fits_of Tryz.func88 chk21 (by kernel_rfl) (by kernel_rfl)
theorem chk24 : fnChk L Tryz.f89 AP.f24 = some (AP.f24.body, AP.f24.res) := by kernel_rfl
theorem fit24 : Fits (89, 24) := fits_of Tryz.func89 chk24 (by kernel_rfl) (by kernel_rfl)
theorem chk25 : fnChk L Tryz.f90 AP.f25 = some (AP.f25.body, AP.f25.res) := by kernel_rfl
theorem fit25 : Fits (90, 25) := fits_of Tryz.func90 chk25 (by kernel_rfl) (by kernel_rfl)
theorem chk83 : fnChk L Tryz.f91 AP.f83 = some (AP.f83.body, AP.f83.res) := by kernel_rfl
theorem fit83 : Fits (91, 83) := fits_of Tryz.func91 chk83 (by kernel_rfl) (by kernel_rfl)
theorem chk123 : fnChk L Tryz.f92 AP.f123 = some (AP.f123.body, AP.f123.res) := by kernel_rfl
theorem fit123 : Fits (92, 123) := fits_of Tryz.func92 chk123 (by kernel_rfl) (by kernel_rfl)
theorem chk52 : fnChk L Tryz.f95 AP.f52 = some (AP.f52.body, AP.f52.res) := by kernel_rfl
theorem fit52 : Fits (95, 52) := fits_of Tryz.func95 chk52 (by kernel_rfl) (by kernel_rfl)
theorem chk50 : fnChk L Tryz.f96 AP.f50 = some (AP.f50.body, AP.f50.res) := by kernel_rfl
theorem fit50 : Fits (96, 50) := fits_of Tryz.func96 chk50 (by kernel_rfl) (by kernel_rfl)
theorem chk51 : fnChk L Tryz.f97 AP.f51 = some (AP.f51.body, AP.f51.res) := by kernel_rfl
theorem fit51 : Fits (97, 51) := fits_of Tryz.func97 chk51 (by kernel_rfl) (by kernel_rfl)
theorem chk124 : fnChk L Tryz.f99 AP.f124 = some (AP.f124.body, AP.f124.res) := by kernel_rfl
theorem fit124 : Fits (99, 124) := fits_of Tryz.func99 chk124 (by kernel_rfl) (by kernel_rfl)
theorem chk14 : fnChk L Tryz.f100 AP.f14 = some (AP.f14.body, AP.f14.res) := by kernel_rfl
theorem fit14 : Fits (100, 14) := fits_of Tryz.func100 chk14 (by kernel_rfl) (by kernel_rfl)
theorem chk15 : fnChk L Tryz.f101 AP.f15 = some (AP.f15.body, AP.f15.res) := by kernel_rfl
theorem fit15 : Fits (101, 15) := fits_of Tryz.func101 chk15 (by kernel_rfl) (by kernel_rfl)
theorem chk16 : fnChk L Tryz.f102 AP.f16 = some (AP.f16.body, AP.f16.res) := by kernel_rfl
theorem fit16 : Fits (102, 16) := fits_of Tryz.func102 chk16 (by kernel_rfl) (by kernel_rfl)
theorem chk17 : fnChk L Tryz.f103 AP.f17 = some (AP.f17.body, AP.f17.res) := by kernel_rfl
theorem fit17 : Fits (103, 17) := fits_of Tryz.func103 chk17 (by kernel_rfl) (by kernel_rfl)
theorem chk46 : fnChk L Tryz.f104 AP.f46 = some (AP.f46.body, AP.f46.res) := by kernel_rfl
theorem fit46 : Fits (104, 46) := fits_of Tryz.func104 chk46 (by kernel_rfl) (by kernel_rfl)
theorem chk47 : fnChk L Tryz.f105 AP.f47 = some (AP.f47.body, AP.f47.res) := by kernel_rfl
theorem fit47 : Fits (105, 47) := fits_of Tryz.func105 chk47 (by kernel_rfl) (by kernel_rfl)
theorem chk48 : fnChk L Tryz.f106 AP.f48 = some (AP.f48.body, AP.f48.res) := by kernel_rfl
theorem fit48 : Fits (106, 48) := fits_of Tryz.func106 chk48 (by kernel_rfl) (by kernel_rfl)
theorem chk49 : fnChk L Tryz.f107 AP.f49 = some (AP.f49.body, AP.f49.res) := by kernel_rfl
theorem fit49 : Fits (107, 49) := fits_of Tryz.func107 chk49 (by kernel_rfl) (by kernel_rfl)
theorem chk53 : fnChk L Tryz.f108 AP.f53 = some (AP.f53.body, AP.f53.res) := by kernel_rfl
theorem fit53 : Fits (108, 53) := fits_of Tryz.func108 chk53 (by kernel_rfl) (by kernel_rfl)
theorem chk54 : fnChk L Tryz.f109 AP.f54 = some (AP.f54.body, AP.f54.res) := by kernel_rfl
theorem fit54 : Fits (109, 54) := fits_of Tryz.func109 chk54 (by kernel_rfl) (by kernel_rfl)
theorem chk84 : fnChk L Tryz.f110 AP.f84 = some (AP.f84.body, AP.f84.res) := by kernel_rfl
theorem fit84 : Fits (110, 84) := fits_of Tryz.func110 chk84 (by kernel_rfl) (by kernel_rfl)
theorem chk67 : fnChk L Tryz.f112 AP.f67 = some (AP.f67.body, AP.f67.res) := by kernel_rfl
theorem fit67 : Fits (112, 67) := fits_of Tryz.func112 chk67 (by kernel_rfl) (by kernel_rfl)
theorem chk68 : fnChk L Tryz.f113 AP.f68 = some (AP.f68.body, AP.f68.res) := by kernel_rfl
theorem fit68 : Fits (113, 68) := fits_of Tryz.func113 chk68 (by kernel_rfl) (by kernel_rfl)
theorem chk125 : fnChk L Tryz.f116 AP.f125 = some (AP.f125.body, AP.f125.res) := by kernel_rfl
theorem fit125 : Fits (116, 125) := fits_of Tryz.func116 chk125 (by kernel_rfl) (by kernel_rfl)
theorem chk126 : fnChk L Tryz.f117 AP.f126 = some (AP.f126.body, AP.f126.res) := by kernel_rfl
theorem fit126 : Fits (117, 126) := fits_of Tryz.func117 chk126 (by kernel_rfl) (by kernel_rfl)
theorem chk127 : fnChk L Tryz.f118 AP.f127 = some (AP.f127.body, AP.f127.res) := by kernel_rfl
theorem fit127 : Fits (118, 127) := fits_of Tryz.func118 chk127 (by kernel_rfl) (by kernel_rfl)
theorem chk128 : fnChk L Tryz.f119 AP.f128 = some (AP.f128.body, AP.f128.res) := by kernel_rfl
theorem fit128 : Fits (119, 128) := fits_of Tryz.func119 chk128 (by kernel_rfl) (by kernel_rfl)
theorem chk129 : fnChk L Tryz.f120 AP.f129 = some (AP.f129.body, AP.f129.res) := by kernel_rfl
theorem fit129 : Fits (120, 129) := fits_of Tryz.func120 chk129 (by kernel_rfl) (by kernel_rfl)
theorem chk130 : fnChk L Tryz.f121 AP.f130 = some (AP.f130.body, AP.f130.res) := by kernel_rfl
theorem fit130 : Fits (121, 130) := fits_of Tryz.func121 chk130 (by kernel_rfl) (by kernel_rfl)
theorem chk131 : fnChk L Tryz.f122 AP.f131 = some (AP.f131.body, AP.f131.res) := by kernel_rfl
theorem fit131 : Fits (122, 131) := fits_of Tryz.func122 chk131 (by kernel_rfl) (by kernel_rfl)
theorem chk38 : fnChk L Tryz.f123 AP.f38 = some (AP.f38.body, AP.f38.res) := by kernel_rfl
theorem fit38 : Fits (123, 38) := fits_of Tryz.func123 chk38 (by kernel_rfl) (by kernel_rfl)
theorem chk39 : fnChk L Tryz.f124 AP.f39 = some (AP.f39.body, AP.f39.res) := by kernel_rfl
theorem fit39 : Fits (124, 39) := fits_of Tryz.func124 chk39 (by kernel_rfl) (by kernel_rfl)
theorem chk40 : fnChk L Tryz.f125 AP.f40 = some (AP.f40.body, AP.f40.res) := by kernel_rfl
theorem fit40 : Fits (125, 40) := fits_of Tryz.func125 chk40 (by kernel_rfl) (by kernel_rfl)
theorem chk41 : fnChk L Tryz.f126 AP.f41 = some (AP.f41.body, AP.f41.res) := by kernel_rfl
theorem fit41 : Fits (126, 41) := fits_of Tryz.func126 chk41 (by kernel_rfl) (by kernel_rfl)
theorem chk42 : fnChk L Tryz.f127 AP.f42 = some (AP.f42.body, AP.f42.res) := by kernel_rfl
theorem fit42 : Fits (127, 42) := fits_of Tryz.func127 chk42 (by kernel_rfl) (by kernel_rfl)
theorem chk43 : fnChk L Tryz.f128 AP.f43 = some (AP.f43.body, AP.f43.res) := by kernel_rfl
theorem fit43 : Fits (128, 43) := fits_of Tryz.func128 chk43 (by kernel_rfl) (by kernel_rfl)
theorem chk44 : fnChk L Tryz.f129 AP.f44 = some (AP.f44.body, AP.f44.res) := by kernel_rfl
theorem fit44 : Fits (129, 44) := fits_of Tryz.func129 chk44 (by kernel_rfl) (by kernel_rfl)
theorem chk45 : fnChk L Tryz.f130 AP.f45 = some (AP.f45.body, AP.f45.res) := by kernel_rfl
theorem fit45 : Fits (130, 45) := fits_of Tryz.func130 chk45 (by kernel_rfl) (by kernel_rfl)
theorem chk132 : fnChk L Tryz.f131 AP.f132 = some (AP.f132.body, AP.f132.res) := by kernel_rfl
theorem fit132 : Fits (131, 132) := fits_of Tryz.func131 chk132 (by kernel_rfl) (by kernel_rfl)
theorem chk133 : fnChk L Tryz.f132 AP.f133 = some (AP.f133.body, AP.f133.res) := by kernel_rfl
theorem fit133 : Fits (132, 133) := fits_of Tryz.func132 chk133 (by kernel_rfl) (by kernel_rfl)
theorem chk134 : fnChk L Tryz.f133 AP.f134 = some (AP.f134.body, AP.f134.res) := by kernel_rfl
theorem fit134 : Fits (133, 134) := fits_of Tryz.func133 chk134 (by kernel_rfl) (by kernel_rfl)
theorem chk135 : fnChk L Tryz.f134 AP.f135 = some (AP.f135.body, AP.f135.res) := by kernel_rfl
theorem fit135 : Fits (134, 135) := fits_of Tryz.func134 chk135 (by kernel_rfl) (by kernel_rfl)
theorem chk58 : fnChk L Tryz.f135 AP.f58 = some (AP.f58.body, AP.f58.res) := by kernel_rfl
theorem fit58 : Fits (135, 58) := fits_of Tryz.func135 chk58 (by kernel_rfl) (by kernel_rfl)
theorem chk59 : fnChk L Tryz.f136 AP.f59 = some (AP.f59.body, AP.f59.res) := by kernel_rfl
theorem fit59 : Fits (136, 59) := fits_of Tryz.func136 chk59 (by kernel_rfl) (by kernel_rfl)
theorem chk60 : fnChk L Tryz.f137 AP.f60 = some (AP.f60.body, AP.f60.res) := by kernel_rfl
theorem fit60 : Fits (137, 60) := fits_of Tryz.func137 chk60 (by kernel_rfl) (by kernel_rfl)
theorem chk61 : fnChk L Tryz.f138 AP.f61 = some (AP.f61.body, AP.f61.res) := by kernel_rfl
theorem fit61 : Fits (138, 61) := fits_of Tryz.func138 chk61 (by kernel_rfl) (by kernel_rfl)
theorem chk62 : fnChk L Tryz.f139 AP.f62 = some (AP.f62.body, AP.f62.res) := by kernel_rfl
theorem fit62 : Fits (139, 62) := fits_of Tryz.func139 chk62 (by kernel_rfl) (by kernel_rfl)
theorem chk63 : fnChk L Tryz.f140 AP.f63 = some (AP.f63.body, AP.f63.res) := by kernel_rfl
theorem fit63 : Fits (140, 63) := fits_of Tryz.func140 chk63 (by kernel_rfl) (by kernel_rfl)
theorem chk64 : fnChk L Tryz.f141 AP.f64 = some (AP.f64.body, AP.f64.res) := by kernel_rfl
theorem fit64 : Fits (141, 64) := fits_of Tryz.func141 chk64 (by kernel_rfl) (by kernel_rfl)
theorem chk65 : fnChk L Tryz.f142 AP.f65 = some (AP.f65.body, AP.f65.res) := by kernel_rfl
theorem fit65 : Fits (142, 65) := fits_of Tryz.func142 chk65 (by kernel_rfl) (by kernel_rfl)
theorem chk66 : fnChk L Tryz.f143 AP.f66 = some (AP.f66.body, AP.f66.res) := by kernel_rfl
theorem fit66 : Fits (143, 66) := fits_of Tryz.func143 chk66 (by kernel_rfl) (by kernel_rfl)
theorem chk138 : fnChk L Tryz.f146 AP.f138 = some (AP.f138.body, AP.f138.res) := by kernel_rfl
theorem fit138 : Fits (146, 138) := fits_of Tryz.func146 chk138 (by kernel_rfl) (by kernel_rfl)
theorem chk72 : fnChk L Tryz.f147 AP.f72 = some (AP.f72.body, AP.f72.res) := by kernel_rfl
theorem fit72 : Fits (147, 72) := fits_of Tryz.func147 chk72 (by kernel_rfl) (by kernel_rfl)
theorem chk73 : fnChk L Tryz.f148 AP.f73 = some (AP.f73.body, AP.f73.res) := by kernel_rfl
theorem fit73 : Fits (148, 73) := fits_of Tryz.func148 chk73 (by kernel_rfl) (by kernel_rfl)
theorem chk74 : fnChk L Tryz.f149 AP.f74 = some (AP.f74.body, AP.f74.res) := by kernel_rfl
theorem fit74 : Fits (149, 74) := fits_of Tryz.func149 chk74 (by kernel_rfl) (by kernel_rfl)
theorem chk75 : fnChk L Tryz.f150 AP.f75 = some (AP.f75.body, AP.f75.res) := by kernel_rfl
theorem fit75 : Fits (150, 75) := fits_of Tryz.func150 chk75 (by kernel_rfl) (by kernel_rfl)
theorem chk76 : fnChk L Tryz.f151 AP.f76 = some (AP.f76.body, AP.f76.res) := by kernel_rfl
theorem fit76 : Fits (151, 76) := fits_of Tryz.func151 chk76 (by kernel_rfl) (by kernel_rfl)
theorem chk77 : fnChk L Tryz.f152 AP.f77 = some (AP.f77.body, AP.f77.res) := by kernel_rfl
theorem fit77 : Fits (152, 77) := fits_of Tryz.func152 chk77 (by kernel_rfl) (by kernel_rfl)
theorem chk78 : fnChk L Tryz.f153 AP.f78 = some (AP.f78.body, AP.f78.res) := by kernel_rfl
theorem fit78 : Fits (153, 78) := fits_of Tryz.func153 chk78 (by kernel_rfl) (by kernel_rfl)
theorem chk79 : fnChk L Tryz.f154 AP.f79 = some (AP.f79.body, AP.f79.res) := by kernel_rfl
theorem fit79 : Fits (154, 79) := fits_of Tryz.func154 chk79 (by kernel_rfl) (by kernel_rfl)
theorem chk80 : fnChk L Tryz.f155 AP.f80 = some (AP.f80.body, AP.f80.res) := by kernel_rfl
theorem fit80 : Fits (155, 80) := fits_of Tryz.func155 chk80 (by kernel_rfl) (by kernel_rfl)
theorem chk81 : fnChk L Tryz.f156 AP.f81 = some (AP.f81.body, AP.f81.res) := by kernel_rfl
theorem fit81 : Fits (156, 81) := fits_of Tryz.func156 chk81 (by kernel_rfl) (by kernel_rfl)
theorem chk139 : fnChk L Tryz.f157 AP.f139 = some (AP.f139.body, AP.f139.res) := by kernel_rfl
theorem fit139 : Fits (157, 139) := fits_of Tryz.func157 chk139 (by kernel_rfl) (by kernel_rfl)
theorem chk140 : fnChk L Tryz.f158 AP.f140 = some (AP.f140.body, AP.f140.res) := by kernel_rfl
theorem fit140 : Fits (158, 140) := fits_of Tryz.func158 chk140 (by kernel_rfl) (by kernel_rfl)
theorem chk141 : fnChk L Tryz.f159 AP.f141 = some (AP.f141.body, AP.f141.res) := by kernel_rfl
theorem fit141 : Fits (159, 141) := fits_of Tryz.func159 chk141 (by kernel_rfl) (by kernel_rfl)
theorem chk82 : fnChk L Tryz.f161 AP.f82 = some (AP.f82.body, AP.f82.res) := by kernel_rfl
theorem fit82 : Fits (161, 82) := fits_of Tryz.func161 chk82 (by kernel_rfl) (by kernel_rfl)
theorem fit136 : Fits (144, 136) := ⟨Tryz.f144, _, Tryz.func144, rfl, by kernel_rfl, fun af h => by cases h⟩
theorem fit137 : Fits (145, 137) := ⟨Tryz.f145, _, Tryz.func145, rfl, by kernel_rfl, fun af h => by cases h⟩
theorem fit143 : Fits (162, 143) := ⟨Tryz.f162, _, Tryz.func162, rfl, by kernel_rfl, fun af h => by cases h⟩
theorem allF : ∀ p ∈ mfT, Fits p := allF_cons fit145 (allF_cons fit92 (allF_cons fit150 (allF_cons fit91 (allF_cons fit151 (allF_cons fit93 (allF_cons fit152 (allF_cons fit9 (allF_cons fit98 (allF_cons fit153 (allF_cons fit90 (allF_cons fit94 (allF_cons fit96 (allF_cons fit157 (allF_cons fit101 (allF_cons fit159 (allF_cons fit102 (allF_cons fit103 (allF_cons fit104 (allF_cons fit160 (allF_cons fit161 (allF_cons fit105 (allF_cons fit162 (allF_cons fit106 (allF_cons fit107 (allF_cons fit164 (allF_cons fit167 (allF_cons fit111 (allF_cons fit112 (allF_cons fit169 (allF_cons fit113 (allF_cons fit114 (allF_cons fit115 (allF_cons fit8 (allF_cons fit117 (allF_cons fit172 (allF_cons fit173 (allF_cons fit119 (allF_cons fit120 (allF_cons fit22 (allF_cons fit23 (allF_cons fit32 (allF_cons fit121 (allF_cons fit122 (allF_cons fit7 (allF_cons fit18 (allF_cons fit19 (allF_cons fit20 (allF_cons fit21 (allF_cons fit24 (allF_cons fit25 (allF_cons fit83 (allF_cons fit123 (allF_cons fit52 (allF_cons fit50 (allF_cons fit51 (allF_cons fit124 (allF_cons fit14 (allF_cons fit15 (allF_cons fit16 (allF_cons fit17 (allF_cons fit46 (allF_cons fit47 (allF_cons fit48 (allF_cons fit49 (allF_cons fit53 (allF_cons fit54 (allF_cons fit84 (allF_cons fit67 (allF_cons fit68 (allF_cons fit125 (allF_cons fit126 (allF_cons fit127 (allF_cons fit128 (allF_cons fit129 (allF_cons fit130 (allF_cons fit131 (allF_cons fit38 (allF_cons fit39 (allF_cons fit40 (allF_cons fit41 (allF_cons fit42 (allF_cons fit43 (allF_cons fit44 (allF_cons fit45 (allF_cons fit132 (allF_cons fit133 (allF_cons fit134 (allF_cons fit135 (allF_cons fit58 (allF_cons fit59 (allF_cons fit60 (allF_cons fit61 (allF_cons fit62 (allF_cons fit63 (allF_cons fit64 (allF_cons fit65 (allF_cons fit66 (allF_cons fit138 (allF_cons fit72 (allF_cons fit73 (allF_cons fit74 (allF_cons fit75 (allF_cons fit76 (allF_cons fit77 (allF_cons fit78 (allF_cons fit79 (allF_cons fit80 (allF_cons fit81 (allF_cons fit139 (allF_cons fit140 (allF_cons fit141 (allF_cons fit82 (allF_cons fit136 (allF_cons fit137 (allF_cons fit143 (allF_nil))))))))))))))))))))))))))))))))))))))))))))))))))))))))))))))))))))))))))))))))))))))))))))))))))))))))))))))))))))
theorem lk : LinkOk L AP.A := ⟨by kernel_rfl, fun fid f h => allF (fid, f) (look2_mem h)⟩
end Ab.Ln
