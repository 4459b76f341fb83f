/- Part K1. -/
import Derived.Test.YtbihdlhgfnoejaaDoorProg
import Derived.KernelRfl
import Derived.Test.YtbihdlhgfnoejaaDoorAP
namespace Ab.Ln
open Go Go.Proofs Ab
def look2 : List (Nat × Nat) → Nat → Option Nat
  | [], _ => none
  | (i, f) :: r, k => if i = k then some f else look2 r k
def fnChk (L : Lk) (fn : Func) (af : AFunc) : Option (ACode × List RV) := fn.body.bind fun c => (comp L fn.ntmps c af.body).bind fun x => (compRes L fn.results.toList).bind fun r => some (x, r)
def mfT : List (Nat × Nat) := [(5, 87), (10, 9), (11, 92), (14, 95), (15, 96), (16, 97), (17, 98), (18, 99), (19, 100), (20, 101), (22, 103), (24, 105), (25, 106), (26, 107), (27, 108), (28, 109), (29, 110), (30, 111), (31, 112), (32, 113), (33, 114), (34, 115), (35, 116), (36, 117), (37, 118), (38, 119), (39, 120), (40, 121), (41, 122), (42, 7), (43, 83), (44, 123), (45, 124), (46, 14), (47, 15), (48, 16), (49, 17), (50, 84), (51, 125), (52, 126), (53, 127), (54, 128), (55, 129), (56, 130), (57, 131), (58, 38), (59, 39), (60, 40), (61, 41), (62, 42), (63, 43), (64, 44), (65, 45), (66, 132), (67, 133), (68, 134), (69, 135), (70, 58), (71, 59), (72, 60), (73, 61), (74, 62), (75, 63), (76, 64), (77, 65), (78, 66), (81, 138), (82, 72), (83, 73), (84, 74), (85, 75), (86, 76), (87, 77), (88, 78), (89, 79), (90, 80), (91, 81), (92, 139), (93, 140), (94, 141), (96, 82), (79, 136), (80, 137), (97, 143)]
def mtT : List (Nat × Nat) := [(9, 0)]
def mf (k : Nat) : Option Nat := look2 mfT k
def mt (k : Nat) : Nat := (look2 mtT k).getD (k + 100000)
noncomputable def L : Lk := ⟨Tryd.prog, mf, mt⟩
def Fits (p : Nat × Nat) : Prop := ∃ fn c, L.P.funcs[p.1]? = some fn ∧ fn.body = some c ∧ (fn.name == "runtime.NumGoroutine") = false ∧
    ∀ af, AP.A p.2 = some af → (∃ x0, comp L fn.ntmps c x0 = some af.body) ∧ compRes L fn.results.toList = some af.res
theorem fits_of {k a : Nat} {fn : Func} {af : AFunc} (h1 : L.P.funcs[k]? = some fn) (h2 : fnChk L fn af = some (af.body, af.res)) (h3 : (fn.name == "runtime.NumGoroutine") = false) (h4 : AP.A a = some af) : Fits (k, a) := by
  unfold fnChk at h2
  simp only [Option.bind_eq_some_iff] at h2
  obtain ⟨c, g1, x, g2, r, g3, g4⟩ := h2
  obtain ⟨rfl, rfl⟩ := Prod.mk.inj (Option.some.inj g4)
  refine ⟨fn, c, h1, g1, h3, fun af2 g5 => ?_⟩
  rw [h4] at g5
  obtain rfl := Option.some.inj g5
  exact ⟨⟨_, g2⟩, g3⟩
theorem look2_mem : ∀ {l : List (Nat × Nat)} {k f : Nat}, look2 l k = some f → (k, f) ∈ l
  | [], _, _, h => by cases h
  | (i, g) :: r, k, f, h => by
    unfold look2 at h
    split at h
    · rename_i e; subst e; obtain rfl := Option.some.inj h; exact List.mem_cons_self
    · exact List.mem_cons_of_mem _ (look2_mem h)
theorem allF_nil : ∀ p ∈ ([] : List (Nat × Nat)), Fits p := fun p h => by cases h
theorem allF_cons {p : Nat × Nat} {l : List (Nat × Nat)} (h1 : Fits p) (h2 : ∀ q ∈ l, Fits q) : ∀ q ∈ p :: l, Fits q := fun q h => by
  rcases List.mem_cons.1 h with rfl | h
  · exact h1
  · exact h2 q h
theorem chk87 : fnChk L Tryd.f5 AP.f87 = some (AP.f87.body, AP.f87.res) := by kernel_rfl
theorem fit87 : Fits (5, 87) := fits_of Tryd.func5 chk87 (by kernel_rfl) (by kernel_rfl)
theorem chk9 : fnChk L Tryd.f10 AP.f9 = some (AP.f9.body, AP.f9.res) := by kernel_rfl
theorem fit9 : Fits (10, 9) := fits_of Tryd.func10 chk9 (by kernel_rfl) (by kernel_rfl)
theorem chk92 : fnChk L Tryd.f11 AP.f92 = some (AP.f92.body, AP.f92.res) := by kernel_rfl
theorem fit92 : Fits (11, 92) := fits_of Tryd.func11 chk92 (by kernel_rfl) (by kernel_rfl)
theorem chk95 : fnChk L Tryd.f14 AP.f95 = some (AP.f95.body, AP.f95.res) := by kernel_rfl
theorem fit95 : Fits (14, 95) := fits_of Tryd.func14 chk95 (by kernel_rfl) (by kernel_rfl)
theorem chk96 : fnChk L Tryd.f15 AP.f96 = some (AP.f96.body, AP.f96.res) := by kernel_rfl
theorem fit96 : Fits (15, 96) := fits_of Tryd.func15 chk96 (by kernel_rfl) (by kernel_rfl)
theorem chk97 : fnChk L Tryd.f16 AP.f97 = some (AP.f97.body, AP.f97.res) := by kernel_rfl
theorem fit97 : Fits (16, 97) := fits_of Tryd.func16 chk97 (by kernel_rfl) (by kernel_rfl)
theorem chk98 : fnChk L Tryd.f17 AP.f98 = some (AP.f98.body, AP.f98.res) := by kernel_rfl
theorem fit98 : Fits (17, 98) := fits_of Tryd.func17 chk98 (by kernel_rfl) (by kernel_rfl)
theorem chk99 : fnChk L Tryd.f18 AP.f99 = some (AP.f99.body, AP.f99.res) := by kernel_rfl
theorem fit99 : Fits (18, 99) := fits_of Tryd.func18 chk99 (by kernel_rfl) (by kernel_rfl)
theorem chk100 : fnChk L Tryd.f19 AP.f100 = some (AP.f100.body, AP.f100.res) := by kernel_rfl
theorem fit100 : Fits (19, 100) := fits_of Tryd.func19 chk100 (by kernel_rfl) (by kernel_rfl)
theorem chk101 : fnChk L Tryd.f20 AP.f101 = some (AP.f101.body, AP.f101.res) := by kernel_rfl
theorem fit101 : Fits (20, 101) := fits_of Tryd.func20 chk101 (by kernel_rfl) (by kernel_rfl)
theorem chk103 : fnChk L Tryd.f22 AP.f103 = some (AP.f103.body, AP.f103.res) := by kernel_rfl
theorem fit103 : Fits (22, 103) := fits_of Tryd.func22 chk103 (by kernel_rfl) (by kernel_rfl)
theorem chk105 : fnChk L Tryd.f24 AP.f105 = some (AP.f105.body, AP.f105.res) := by kernel_rfl
theorem fit105 : Fits (24, 105) := fits_of Tryd.func24 chk105 (by kernel_rfl) (by kernel_rfl)
theorem chk106 : fnChk L Tryd.f25 AP.f106 = some (AP.f106.body, AP.f106.res) := by kernel_rfl
theorem fit106 : Fits (25, 106) := fits_of Tryd.func25 chk106 (by kernel_rfl) (by kernel_rfl)
theorem chk107 : fnChk L Tryd.f26 AP.f107 = some (AP.f107.body, AP.f107.res) := by kernel_rfl
theorem fit107 : Fits (26, 107) := fits_of Tryd.func26 chk107 (by kernel_rfl) (by kernel_rfl)
theorem chk108 : fnChk L Tryd.f27 AP.f108 = some (AP.f108.body, AP.f108.res) := by kernel_rfl
theorem fit108 : Fits (27, 108) := fits_of Tryd.func27 chk108 (by kernel_rfl) (by kernel_rfl)
theorem chk109 : fnChk L Tryd.f28 AP.f109 = some (AP.f109.body, AP.f109.res) := by kernel_rfl
theorem fit109 : Fits (28, 109) := fits_of Tryd.func28 chk109 (by kernel_rfl) (by kernel_rfl)
theorem chk110 : fnChk L Tryd.f29 AP.f110 = some (AP.f110.body, AP.f110.res) := by kernel_rfl
theorem fit110 : Fits (29, 110) := fits_of Tryd.func29 chk110 (by kernel_rfl) (by kernel_rfl)
theorem chk111 : fnChk L Tryd.f30 AP.f111 = some (AP.f111.body, AP.f111.res) := by kernel_rfl
theorem fit111 : Fits (30, 111) := fits_of Tryd.func30 chk111 (by kernel_rfl) (by kernel_rfl)
theorem chk112 : fnChk L Tryd.f31 AP.f112 = some (AP.f112.body, AP.f112.res) := by kernel_rfl
theorem fit112 : Fits (31, 112) := fits_of Tryd.func31 chk112 (by kernel_rfl) (by kernel_rfl)
theorem chk113 : fnChk L Tryd.f32 AP.f113 = some (AP.f113.body, AP.f113.res) := by kernel_rfl
theorem fit113 : Fits (32, 113) := fits_of Tryd.func32 chk113 (by kernel_rfl) (by kernel_rfl)
theorem chk114 : fnChk L Tryd.f33 AP.f114 = some (AP.f114.body, AP.f114.res) := by kernel_rfl
theorem fit114 : Fits (33, 114) := fits_of Tryd.func33 chk114 (by kernel_rfl) (by kernel_rfl)
theorem chk115 : fnChk L Tryd.f34 AP.f115 = some (AP.f115.body, AP.f115.res) := by kernel_rfl
theorem fit115 : Fits (34, 115) := fits_of Tryd.func34 chk115 (by kernel_rfl) (by kernel_rfl)
theorem chk116 : fnChk L Tryd.f35 AP.f116 = some (AP.f116.body, AP.f116.res) := by kernel_rfl
theorem fit116 : Fits (35, 116) := fits_of Tryd.func35 chk116 (by kernel_rfl) (by kernel_rfl)
theorem chk117 : fnChk L Tryd.f36 AP.f117 = some (AP.f117.body, AP.f117.res) := by kernel_rfl
theorem fit117 : Fits (36, 117) := fits_of Tryd.func36 chk117 (by kernel_rfl) (by kernel_rfl)
theorem chk118 : fnChk L Tryd.f37 AP.f118 = some (AP.f118.body, AP.f118.res) := by kernel_rfl
theorem fit118 : Fits (37, 118) := fits_of Tryd.func37 chk118 (by kernel_rfl) (by kernel_rfl)
theorem chk119 : fnChk L Tryd.f38 AP.f119 = some (AP.f119.body, AP.f119.res) := by kernel_rfl
theorem fit119 : Fits (38, 119) := fits_of Tryd.func38 chk119 (by kernel_rfl) (by kernel_rfl)
theorem chk120 : fnChk L Tryd.f39 AP.f120 = some (AP.f120.body, AP.f120.res) := by kernel_rfl
theorem fit120 : Fits (39, 120) := fits_of Tryd.func39 chk120 (by kernel_rfl) (by kernel_rfl)
theorem chk121 : fnChk L Tryd.f40 AP.f121 = some (AP.f121.body, AP.f121.res) := by kernel_rfl
theorem fit121 : Fits (40, 121) := fits_of Tryd.func40 chk121 (by kernel_rfl) (by kernel_rfl)
theorem chk122 : fnChk L Tryd.f41 AP.f122 = some (AP.f122.body, AP.f122.res) := by kernel_rfl
theorem fit122 : Fits (41, 122) := fits_of Tryd.func41 chk122 (by kernel_rfl) (by kernel_rfl)
theorem chk7 : fnChk L Tryd.f42 AP.f7 = some (AP.f7.body, AP.f7.res) := by kernel_rfl
theorem fit7 : Fits (42, 7) := fits_of Tryd.func42 chk7 (by kernel_rfl) (by kernel_rfl)
theorem chk83 : fnChk L Tryd.f43 AP.f83 = some (AP.f83.body, AP.f83.res) := by kernel_rfl
theorem fit83 : Fits (43, 83) := fits_of Tryd.func43 chk83 (by kernel_rfl) (by kernel_rfl)
theorem chk123 : fnChk L Tryd.f44 AP.f123 = some (AP.f123.body, AP.f123.res) := by kernel_rfl
theorem fit123 : Fits (44, 123) := fits_of Tryd.func44 chk123 (by kernel_rfl) (by kernel_rfl)
theorem chk124 : fnChk L Tryd.f45 AP.f124 = some (AP.f124.body, AP.f124.res) := by kernel_rfl
theorem fit124 : Fits (45, 124) := fits_of Tryd.func45 chk124 (by kernel_rfl) (by kernel_rfl)
theorem chk14 : fnChk L Tryd.f46 AP.f14 = some (AP.f14.body, AP.f14.res) := by kernel_rfl
theorem fit14 : Fits (46, 14) := fits_of Tryd.func46 chk14 (by kernel_rfl) (by kernel_rfl)
theorem chk15 : fnChk L Tryd.f47 AP.f15 = some (AP.f15.body, AP.f15.res) := by kernel_rfl
theorem fit15 : Fits (47, 15) := fits_of Tryd.func47 chk15 (by kernel_rfl) (by kernel_rfl)
theorem chk16 : fnChk L Tryd.f48 AP.f16 = some (AP.f16.body, AP.f16.res) := by kernel_rfl
theorem fit16 : Fits (48, 16) := fits_of Tryd.func48 chk16 (by kernel_rfl) (by kernel_rfl)
theorem chk17 : fnChk L Tryd.f49 AP.f17 = some (AP.f17.body, AP.f17.res) := by kernel_rfl
theorem fit17 : Fits (49, 17) := fits_of Tryd.func49 chk17 (by kernel_rfl) (by kernel_rfl)
theorem chk84 : fnChk L Tryd.f50 AP.f84 = some (AP.f84.body, AP.f84.res) := by kernel_rfl
theorem fit84 : Fits (50, 84) := fits_of Tryd.func50 chk84 (by kernel_rfl) (by kernel_rfl)
theorem chk125 : fnChk L Tryd.f51 AP.f125 = some (AP.f125.body, AP.f125.res) := by kernel_rfl
theorem fit125 : Fits (51, 125) := fits_of Tryd.func51 chk125 (by kernel_rfl) (by kernel_rfl)
theorem chk126 : fnChk L Tryd.f52 AP.f126 = some (AP.f126.body, AP.f126.res) := by kernel_rfl
theorem fit126 : Fits (52, 126) := fits_of Tryd.func52 chk126 (by kernel_rfl) (by kernel_rfl)
theorem chk127 : fnChk L Tryd.f53 AP.f127 = some (AP.f127.body, AP.f127.res) := by kernel_rfl
theorem fit127 : Fits (53, 127) := fits_of Tryd.func53 chk127 (by kernel_rfl) (by kernel_rfl)
theorem chk128 : fnChk L Tryd.f54 AP.f128 = some (AP.f128.body, AP.f128.res) := by kernel_rfl
theorem fit128 : Fits (54, 128) := fits_of Tryd.func54 chk128 (by kernel_rfl) (by kernel_rfl)
theorem chk129 : fnChk L Tryd.f55 AP.f129 = some (AP.f129.body, AP.f129.res) := by kernel_rfl
theorem fit129 : Fits (55, 129) := fits_of Tryd.func55 chk129 (by kernel_rfl) (by kernel_rfl)
theorem chk130 : fnChk L Tryd.f56 AP.f130 = some (AP.f130.body, AP.f130.res) := by kernel_rfl
theorem fit130 : Fits (56, 130) := fits_of Tryd.func56 chk130 (by kernel_rfl) (by kernel_rfl)
theorem chk131 : fnChk L Tryd.f57 AP.f131 = some (AP.f131.body, AP.f131.res) := by kernel_rfl
theorem fit131 : Fits (57, 131) := fits_of Tryd.func57 chk131 (by kernel_rfl) (by kernel_rfl)
theorem chk38 : fnChk L Tryd.f58 AP.f38 = some (AP.f38.body, AP.f38.res) := by kernel_rfl
theorem fit38 : Fits (58, 38) := fits_of Tryd.func58 chk38 (by kernel_rfl) (by kernel_rfl)
theorem chk39 : fnChk L Tryd.f59 AP.f39 = some (AP.f39.body, AP.f39.res) := by kernel_rfl
theorem fit39 : Fits (59, 39) := fits_of Tryd.func59 chk39 (by kernel_rfl) (by kernel_rfl)
theorem chk40 : fnChk L Tryd.f60 AP.f40 = some (AP.f40.body, AP.f40.res) := by kernel_rfl
theorem fit40 : Fits (60, 40) := fits_of Tryd.func60 chk40 (by kernel_rfl) (by kernel_rfl)
theorem chk41 : fnChk L Tryd.f61 AP.f41 = some (AP.f41.body, AP.f41.res) := by kernel_rfl
theorem fit41 : Fits (61, 41) := fits_of Tryd.func61 chk41 (by kernel_rfl) (by kernel_rfl)
theorem chk42 : fnChk L Tryd.f62 AP.f42 = some (AP.f42.body, AP.f42.res) := by kernel_rfl
theorem fit42 : Fits (62, 42) := fits_of Tryd.func62 chk42 (by kernel_rfl) (by kernel_rfl)
theorem chk43 : fnChk L Tryd.f63 AP.f43 = some (AP.f43.body, AP.f43.res) := by kernel_rfl
theorem fit43 : Fits (63, 43) := fits_of Tryd.func63 chk43 (by kernel_rfl) (by kernel_rfl)
theorem chk44 : fnChk L Tryd.f64 AP.f44 = some (AP.f44.body, AP.f44.res) := by kernel_rfl
theorem fit44 : Fits (64, 44) := fits_of Tryd.func64 chk44 (by kernel_rfl) (by kernel_rfl)
theorem chk45 : fnChk L Tryd.f65 AP.f45 = some (AP.f45.body, AP.f45.res) := by kernel_rfl
theorem fit45 : Fits (65, 45) := fits_of Tryd.func65 chk45 (by kernel_rfl) (by kernel_rfl)
theorem chk132 : fnChk L Tryd.f66 AP.f132 = some (AP.f132.body, AP.f132.res) := by kernel_rfl
theorem fit132 : Fits (66, 132) := fits_of Tryd.func66 chk132 (by kernel_rfl) (by kernel_rfl)
theorem chk133 : fnChk L Tryd.f67 AP.f133 = some (AP.f133.body, AP.f133.res) := by kernel_rfl
theorem fit133 : Fits (67, 133) := fits_of Tryd.func67 chk133 (by kernel_rfl) (by kernel_rfl)
theorem chk134 : fnChk L Tryd.f68 AP.f134 = some (AP.f134.body, AP.f134.res) := by kernel_rfl
theorem fit134 : Fits (68, 134) := fits_of Tryd.func68 chk134 (by kernel_rfl) (by kernel_rfl)
theorem chk135 : fnChk L Tryd.f69 AP.f135 = some (AP.f135.body, AP.f135.res) := by kernel_rfl
theorem fit135 : Fits (69, 135) := fits_of Tryd.func69 chk135 (by kernel_rfl) (by kernel_rfl)
theorem chk58 : fnChk L Tryd.f70 AP.f58 = some (AP.f58.body, AP.f58.res) := by kernel_rfl
theorem fit58 : Fits (70, 58) := fits_of Tryd.func70 chk58 (by kernel_rfl) (by kernel_rfl)
theorem chk59 : fnChk L Tryd.f71 AP.f59 = some (AP.f59.body, AP.f59.res) := by kernel_rfl
theorem fit59 : Fits (71, 59) := fits_of Tryd.func71 chk59 (by kernel_rfl) (by kernel_rfl)
theorem chk60 : fnChk L Tryd.f72 AP.f60 = some (AP.f60.body, AP.f60.res) := by kernel_rfl
theorem fit60 : Fits (72, 60) := fits_of Tryd.func72 chk60 (by kernel_rfl) (by kernel_rfl)
theorem chk61 : fnChk L Tryd.f73 AP.f61 = some (AP.f61.body, AP.f61.res) := by kernel_rfl
theorem fit61 : Fits (73, 61) := fits_of Tryd.func73 chk61 (by kernel_rfl) (by kernel_rfl)
theorem chk62 : fnChk L Tryd.f74 AP.f62 = some (AP.f62.body, AP.f62.res) := by kernel_rfl
theorem fit62 : Fits (74, 62) := fits_of Tryd.func74 chk62 (by kernel_rfl) (by kernel_rfl)
theorem chk63 : fnChk L Tryd.f75 AP.f63 = some (AP.f63.body, AP.f63.res) := by kernel_rfl
theorem fit63 : Fits (75, 63) := fits_of Tryd.func75 chk63 (by kernel_rfl) (by kernel_rfl)
theorem chk64 : fnChk L Tryd.f76 AP.f64 = some (AP.f64.body, AP.f64.res) := by kernel_rfl
theorem fit64 : Fits (76, 64) := fits_of Tryd.func76 chk64 (by kernel_rfl) (by kernel_rfl)
theorem chk65 : fnChk L Tryd.f77 AP.f65 = some (AP.f65.body, AP.f65.res) := by kernel_rfl
theorem fit65 : Fits (77, 65) := fits_of Tryd.func77 chk65 (by kernel_rfl) (by kernel_rfl)
theorem chk66 : fnChk L Tryd.f78 AP.f66 = some (AP.f66.body, AP.f66.res) := by kernel_rfl
theorem fit66 : Fits (78, 66) := fits_of Tryd.func78 chk66 (by kernel_rfl) (by kernel_rfl)
theorem chk138 : fnChk L Tryd.f81 AP.f138 = some (AP.f138.body, AP.f138.res) := by kernel_rfl
theorem fit138 : Fits (81, 138) := fits_of Tryd.func81 chk138 (by kernel_rfl) (by kernel_rfl)
theorem chk72 : fnChk L Tryd.f82 AP.f72 = some (AP.f72.body, AP.f72.res) := by kernel_rfl
theorem fit72 : Fits (82, 72) := fits_of Tryd.func82 chk72 (by kernel_rfl) (by kernel_rfl)
theorem chk73 : fnChk L Tryd.f83 AP.f73 = some (AP.f73.body, AP.f73.res) := by kernel_rfl
theorem fit73 : Fits (83, 73) := fits_of Tryd.func83 chk73 (by kernel_rfl) (by kernel_rfl)
theorem chk74 : fnChk L Tryd.f84 AP.f74 = some (AP.f74.body, AP.f74.res) := by kernel_rfl
theorem fit74 : Fits (84, 74) := fits_of Tryd.func84 chk74 (by kernel_rfl) (by kernel_rfl)
theorem chk75 : fnChk L Tryd.f85 AP.f75 = some (AP.f75.body, AP.f75.res) := by kernel_rfl
theorem fit75 : Fits (85, 75) := fits_of Tryd.func85 chk75 (by kernel_rfl) (by kernel_rfl)
theorem chk76 : fnChk L Tryd.f86 AP.f76 = some (AP.f76.body, AP.f76.res) := by kernel_rfl
theorem fit76 : Fits (86, 76) := fits_of Tryd.func86 chk76 (by kernel_rfl) (by kernel_rfl)
theorem chk77 : fnChk L Tryd.f87 AP.f77 = some (AP.f77.body, AP.f77.res) := by kernel_rfl
theorem fit77 : Fits (87, 77) := fits_of Tryd.func87 chk77 (by kernel_rfl) (by kernel_rfl)
theorem chk78 : fnChk L Tryd.f88 AP.f78 = some (AP.f78.body, AP.f78.res) := by kernel_rfl
theorem fit78 : Fits (88, 78) := fits_of Tryd.func88 chk78 (by kernel_rfl) (by kernel_rfl)
theorem chk79 : fnChk L Tryd.f89 AP.f79 = some (AP.f79.body, AP.f79.res) := by kernel_rfl
theorem fit79 : Fits (89, 79) := fits_of Tryd.func89 chk79 (by kernel_rfl) (by kernel_rfl)
theorem chk80 : fnChk L Tryd.f90 AP.f80 = some (AP.f80.body, AP.f80.res) := by kernel_rfl
theorem fit80 : Fits (90, 80) := fits_of Tryd.func90 chk80 (by kernel_rfl) (by kernel_rfl)
theorem chk81 : fnChk L Tryd.f91 AP.f81 = some (AP.f81.body, AP.f81.res) := by kernel_rfl
theorem fit81 : Fits (91, 81) := fits_of Tryd.func91 chk81 (by kernel_rfl) (by kernel_rfl)
theorem chk139 : fnChk L Tryd.f92 AP.f139 = some (AP.f139.body, AP.f139.res) := by kernel_rfl
theorem fit139 : Fits (92, 139) := fits_of Tryd.func92 chk139 (by kernel_rfl) (by kernel_rfl)
theorem chk140 : fnChk L Tryd.f93 AP.f140 = some (AP.f140.body, AP.f140.res) := by kernel_rfl
theorem fit140 : Fits (93, 140) := fits_of Tryd.func93 chk140 (by kernel_rfl) (by kernel_rfl)
theorem chk141 : fnChk L Tryd.f94 AP.f141 = some (AP.f141.body, AP.f141.res) := by kernel_rfl
theorem fit141 : Fits (94, 141) := fits_of Tryd.func94 chk141 (by kernel_rfl) (by kernel_rfl)
theorem chk82 : fnChk L Tryd.f96 AP.f82 = some (AP.f82.body, AP.f82.res) := by kernel_rfl
theorem fit82 : Fits (96, 82) := fits_of Tryd.func96 chk82 (by kernel_rfl) (by kernel_rfl)
theorem fit136 : Fits (79, 136) := ⟨Tryd.f79, _, Tryd.func79, rfl, by kernel_rfl, fun af h => by cases h⟩
theorem fit137 : Fits (80, 137) := ⟨Tryd.f80, _, Tryd.func80, rfl, by kernel_rfl, fun af h => by cases h⟩
theorem fit143 : Fits (97, 143) := ⟨Tryd.f97, _, Tryd.func97, rfl, by kernel_rfl, fun af h => by cases h⟩
theorem allF : ∀ p ∈ mfT, Fits p := allF_cons fit87 (allF_cons fit9 (allF_cons fit92 (allF_cons fit95 (allF_cons fit96 (allF_cons fit97 (allF_cons fit98 (allF_cons fit99 (allF_cons fit100 (allF_cons fit101 (allF_cons fit103 (allF_cons fit105 (allF_cons fit106 (allF_cons fit107 (allF_cons fit108 (allF_cons fit109 (allF_cons fit110 (allF_cons fit111 (allF_cons fit112 (allF_cons fit113 (allF_cons fit114 (allF_cons fit115 (allF_cons fit116 (allF_cons fit117 (allF_cons fit118 (allF_cons fit119 (allF_cons fit120 (allF_cons fit121 (allF_cons fit122 (allF_cons fit7 (allF_cons fit83 (allF_cons fit123 (allF_cons fit124 (allF_cons fit14 (allF_cons fit15 (allF_cons fit16 (allF_cons fit17 (allF_cons fit84 (allF_cons fit125 (allF_cons fit126 (allF_cons fit127 (allF_cons fit128 (allF_cons fit129 (allF_cons fit130 (allF_cons fit131 (allF_cons fit38 (allF_cons fit39 (allF_cons fit40 (allF_cons fit41 (allF_cons fit42 (allF_cons fit43 (allF_cons fit44 (allF_cons fit45 (allF_cons fit132 (allF_cons fit133 (allF_cons fit134 (allF_cons fit135 (allF_cons fit58 (allF_cons fit59 (allF_cons fit60 (allF_cons fit61 (allF_cons fit62 (allF_cons fit63 (allF_cons fit64 (allF_cons fit65 (allF_cons fit66 (allF_cons fit138 (allF_cons fit72 (allF_cons fit73 (allF_cons fit74 (allF_cons fit75 (allF_cons fit76 (allF_cons fit77 (allF_cons fit78 (allF_cons fit79 (allF_cons fit80 (allF_cons fit81 (allF_cons fit139 (allF_cons fit140 (allF_cons fit141 (allF_cons fit82 (allF_cons fit136 (allF_cons fit137 (allF_cons fit143 (allF_nil))))))))))))))))))))))))))))))))))))))))))))))))))))))))))))))))))))))))))))))))))))
theorem lk : LinkOk L AP.A := ⟨by kernel_rfl, fun fid f h => allF (fid, f) (look2_mem h)⟩
end Ab.Ln
