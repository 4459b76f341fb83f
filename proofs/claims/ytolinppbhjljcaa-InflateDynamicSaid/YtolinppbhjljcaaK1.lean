/- Part K1. -/
import Derived.Test.YtolinppbhjljcaaProg
import Derived.KernelRfl
import Derived.Test.YtolinppbhjljcaaAP
namespace Ab.Ln
open Go Go.Proofs Ab
def look2 : List (Nat × Nat) → Nat → Option Nat
  | [], _ => none
  | (i, f) :: r, k => if i = k then some f else look2 r k
def fnChk (L : Lk) (fn : Func) (af : AFunc) : Option (ACode × List RV) := fn.body.bind fun c => (comp L fn.ntmps c af.body).bind fun x => (compRes L fn.results.toList).bind fun r => some (x, r)
def mfT : List (Nat × Nat) := [(9, 6), (10, 7), (12, 9), (13, 10), (15, 12), (16, 13), (17, 14), (18, 15), (19, 16), (20, 17), (29, 26), (30, 27), (31, 28), (32, 29), (33, 30), (34, 31), (35, 32), (36, 33), (37, 34), (38, 35), (39, 36), (40, 37), (41, 38), (42, 39), (43, 40), (44, 41), (45, 42), (46, 43), (47, 44), (48, 45), (53, 50), (54, 51), (55, 52), (58, 55), (59, 56), (60, 57), (61, 58), (62, 59), (63, 60), (64, 61), (65, 62), (66, 63), (67, 64), (68, 65), (69, 66), (70, 67), (71, 68), (72, 69), (73, 70), (74, 71), (75, 72), (76, 73), (77, 74), (78, 75), (79, 76), (80, 77), (81, 78), (82, 79), (83, 80), (84, 81), (85, 82), (86, 83), (87, 84)]
def mtT : List (Nat × Nat) := [(9, 0)]
def mf (k : Nat) : Option Nat := look2 mfT k
def mt (k : Nat) : Nat := (look2 mtT k).getD (k + 100000)
noncomputable def L : Lk := ⟨Try.prog, mf, mt⟩
def Fits (p : Nat × Nat) : Prop := ∃ fn c, L.P.funcs[p.1]? = some fn ∧ fn.body = some c ∧ (fn.name == "runtime.NumGoroutine") = false ∧
    ∀ af, AP.A p.2 = some af → (∃ x0, comp L fn.ntmps c x0 = some af.body) ∧ compRes L fn.results.toList = some af.res
theorem fits_of {k a : Nat} {fn : Func} {af : AFunc} (h1 : L.P.funcs[k]? = some fn) (h2 : fnChk L fn af = some (af.body, af.res)) (h3 : (fn.name == "runtime.NumGoroutine") = false) (h4 : AP.A a = some af) : Fits (k, a) := by
  unfold fnChk at h2
  simp only [Option.bind_eq_some_iff] at h2
  obtain ⟨c, g1, x, g2, r, g3, g4⟩ := h2
  obtain ⟨rfl, rfl⟩ := Prod.mk.inj (Option.some.inj g4)
  refine ⟨fn, c, h1, g1, h3, fun af2 g5 => ?_⟩
  rw [h4] at g5
  obtain rfl := Option.some.inj g5
  exact ⟨⟨_, g2⟩, g3⟩
theorem look2_mem : ∀ {l : List (Nat × Nat)} {k f : Nat}, look2 l k = some f → (k, f) ∈ l
  | [], _, _, h => by cases h
  | (i, g) :: r, k, f, h => by
    unfold look2 at h
    split at h
    · rename_i e; subst e; obtain rfl := Option.some.inj h; exact List.mem_cons_self
    · exact List.mem_cons_of_mem _ (look2_mem h)
theorem allF_nil : ∀ p ∈ ([] : List (Nat × Nat)), Fits p := fun p h => by cases h
theorem allF_cons {p : Nat × Nat} {l : List (Nat × Nat)} (h1 : Fits p) (h2 : ∀ q ∈ l, Fits q) : ∀ q ∈ p :: l, Fits q := fun q h => by
  rcases List.mem_cons.1 h with rfl | h
  · exact h1
  · exact h2 q h
theorem chk6 : fnChk L Try.f9 AP.f6 = some (AP.f6.body, AP.f6.res) := by kernel_rfl
theorem fit6 : Fits (9, 6) := fits_of Try.func9 chk6 (by kernel_rfl) (by kernel_rfl)
theorem chk7 : fnChk L Try.f10 AP.f7 = some (AP.f7.body, AP.f7.res) := by kernel_rfl
theorem fit7 : Fits (10, 7) := fits_of Try.func10 chk7 (by kernel_rfl) (by kernel_rfl)
theorem chk9 : fnChk L Try.f12 AP.f9 = some (AP.f9.body, AP.f9.res) := by kernel_rfl
theorem fit9 : Fits (12, 9) := fits_of Try.func12 chk9 (by kernel_rfl) (by kernel_rfl)
theorem chk10 : fnChk L Try.f13 AP.f10 = some (AP.f10.body, AP.f10.res) := by kernel_rfl
theorem fit10 : Fits (13, 10) := fits_of Try.func13 chk10 (by kernel_rfl) (by kernel_rfl)
theorem chk12 : fnChk L Try.f15 AP.f12 = some (AP.f12.body, AP.f12.res) := by kernel_rfl
theorem fit12 : Fits (15, 12) := fits_of Try.func15 chk12 (by kernel_rfl) (by kernel_rfl)
theorem chk13 : fnChk L Try.f16 AP.f13 = some (AP.f13.body, AP.f13.res) := by kernel_rfl
theorem fit13 : Fits (16, 13) := fits_of Try.func16 chk13 (by kernel_rfl) (by kernel_rfl)
theorem chk14 : fnChk L Try.f17 AP.f14 = some (AP.f14.body, AP.f14.res) := by kernel_rfl
theorem fit14 : Fits (17, 14) := fits_of Try.func17 chk14 (by kernel_rfl) (by kernel_rfl)
theorem chk15 : fnChk L Try.f18 AP.f15 = some (AP.f15.body, AP.f15.res) := by kernel_rfl
theorem fit15 : Fits (18, 15) := fits_of Try.func18 chk15 (by kernel_rfl) (by kernel_rfl)
theorem chk16 : fnChk L Try.f19 AP.f16 = some (AP.f16.body, AP.f16.res) := by kernel_rfl
theorem fit16 : Fits (19, 16) := fits_of Try.func19 chk16 (by kernel_rfl) (by kernel_rfl)
theorem chk17 : fnChk L Try.f20 AP.f17 = some (AP.f17.body, AP.f17.res) := by kernel_rfl
theorem fit17 : Fits (20, 17) := fits_of Try.func20 chk17 (by kernel_rfl) (by kernel_rfl)
theorem chk26 : fnChk L Try.f29 AP.f26 = some (AP.f26.body, AP.f26.res) := by kernel_rfl
theorem fit26 : Fits (29, 26) := fits_of Try.func29 chk26 (by kernel_rfl) (by kernel_rfl)
theorem chk27 : fnChk L Try.f30 AP.f27 = some (AP.f27.body, AP.f27.res) := by kernel_rfl
theorem fit27 : Fits (30, 27) := fits_of Try.func30 chk27 (by kernel_rfl) (by kernel_rfl)
theorem chk28 : fnChk L Try.f31 AP.f28 = some (AP.f28.body, AP.f28.res) := by kernel_rfl
theorem fit28 : Fits (31, 28) := fits_of Try.func31 chk28 (by kernel_rfl) (by kernel_rfl)
theorem chk29 : fnChk L Try.f32 AP.f29 = some (AP.f29.body, AP.f29.res) := by kernel_rfl
theorem fit29 : Fits (32, 29) := fits_of Try.func32 chk29 (by kernel_rfl) (by kernel_rfl)
theorem chk30 : fnChk L Try.f33 AP.f30 = some (AP.f30.body, AP.f30.res) := by kernel_rfl
theorem fit30 : Fits (33, 30) := fits_of Try.func33 chk30 (by kernel_rfl) (by kernel_rfl)
theorem chk31 : fnChk L Try.f34 AP.f31 = some (AP.f31.body, AP.f31.res) := by kernel_rfl
theorem fit31 : Fits (34, 31) := fits_of Try.func34 chk31 (by kernel_rfl) (by kernel_rfl)
theorem chk32 : fnChk L Try.f35 AP.f32 = some (AP.f32.body, AP.f32.res) := by kernel_rfl
theorem fit32 : Fits (35, 32) := fits_of Try.func35 chk32 (by kernel_rfl) (by kernel_rfl)
theorem chk33 : fnChk L Try.f36 AP.f33 = some (AP.f33.body, AP.f33.res) := by kernel_rfl
theorem fit33 : Fits (36, 33) := fits_of Try.func36 chk33 (by kernel_rfl) (by kernel_rfl)
theorem chk34 : fnChk L Try.f37 AP.f34 = some (AP.f34.body, AP.f34.res) := by kernel_rfl
theorem fit34 : Fits (37, 34) := fits_of Try.func37 chk34 (by kernel_rfl) (by kernel_rfl)
theorem chk35 : fnChk L Try.f38 AP.f35 = some (AP.f35.body, AP.f35.res) := by kernel_rfl
theorem fit35 : Fits (38, 35) := fits_of Try.func38 chk35 (by kernel_rfl) (by kernel_rfl)
theorem chk36 : fnChk L Try.f39 AP.f36 = some (AP.f36.body, AP.f36.res) := by kernel_rfl
theorem fit36 : Fits (39, 36) := fits_of Try.func39 chk36 (by kernel_rfl) (by kernel_rfl)
theorem chk37 : fnChk L Try.f40 AP.f37 = some (AP.f37.body, AP.f37.res) := by kernel_rfl
theorem fit37 : Fits (40, 37) := fits_of Try.func40 chk37 (by kernel_rfl) (by kernel_rfl)
theorem chk38 : fnChk L Try.f41 AP.f38 = some (AP.f38.body, AP.f38.res) := by kernel_rfl
theorem fit38 : Fits (41, 38) := fits_of Try.func41 chk38 (by kernel_rfl) (by kernel_rfl)
theorem chk39 : fnChk L Try.f42 AP.f39 = some (AP.f39.body, AP.f39.res) := by kernel_rfl
theorem fit39 : Fits (42, 39) := fits_of Try.func42 chk39 (by kernel_rfl) (by kernel_rfl)
theorem chk40 : fnChk L Try.f43 AP.f40 = some (AP.f40.body, AP.f40.res) := by kernel_rfl
theorem fit40 : Fits (43, 40) := fits_of Try.func43 chk40 (by kernel_rfl) (by kernel_rfl)
theorem chk41 : fnChk L Try.f44 AP.f41 = some (AP.f41.body, AP.f41.res) := by kernel_rfl
theorem fit41 : Fits (44, 41) := fits_of Try.func44 chk41 (by kernel_rfl) (by kernel_rfl)
theorem chk42 : fnChk L Try.f45 AP.f42 = some (AP.f42.body, AP.f42.res) := by kernel_rfl
theorem fit42 : Fits (45, 42) := fits_of Try.func45 chk42 (by kernel_rfl) (by kernel_rfl)
theorem chk43 : fnChk L Try.f46 AP.f43 = some (AP.f43.body, AP.f43.res) := by kernel_rfl
theorem fit43 : Fits (46, 43) := fits_of Try.func46 chk43 (by kernel_rfl) (by kernel_rfl)
theorem chk44 : fnChk L Try.f47 AP.f44 = some (AP.f44.body, AP.f44.res) := by kernel_rfl
theorem fit44 : Fits (47, 44) := fits_of Try.func47 chk44 (by kernel_rfl) (by kernel_rfl)
theorem chk45 : fnChk L Try.f48 AP.f45 = some (AP.f45.body, AP.f45.res) := by kernel_rfl
theorem fit45 : Fits (48, 45) := fits_of Try.func48 chk45 (by kernel_rfl) (by kernel_rfl)
theorem chk50 : fnChk L Try.f53 AP.f50 = some (AP.f50.body, AP.f50.res) := by kernel_rfl
theorem fit50 : Fits (53, 50) := fits_of Try.func53 chk50 (by kernel_rfl) (by kernel_rfl)
theorem chk51 : fnChk L Try.f54 AP.f51 = some (AP.f51.body, AP.f51.res) := by kernel_rfl
theorem fit51 : Fits (54, 51) := fits_of Try.func54 chk51 (by kernel_rfl) (by kernel_rfl)
theorem chk52 : fnChk L Try.f55 AP.f52 = some (AP.f52.body, AP.f52.res) := by kernel_rfl
theorem fit52 : Fits (55, 52) := fits_of Try.func55 chk52 (by kernel_rfl) (by kernel_rfl)
theorem chk55 : fnChk L Try.f58 AP.f55 = some (AP.f55.body, AP.f55.res) := by kernel_rfl
theorem fit55 : Fits (58, 55) := fits_of Try.func58 chk55 (by kernel_rfl) (by kernel_rfl)
theorem chk56 : fnChk L Try.f59 AP.f56 = some (AP.f56.body, AP.f56.res) := by kernel_rfl
theorem fit56 : Fits (59, 56) := fits_of Try.func59 chk56 (by kernel_rfl) (by kernel_rfl)
theorem chk57 : fnChk L Try.f60 AP.f57 = some (AP.f57.body, AP.f57.res) := by kernel_rfl
theorem fit57 : Fits (60, 57) := fits_of Try.func60 chk57 (by kernel_rfl) (by kernel_rfl)
theorem chk58 : fnChk L Try.f61 AP.f58 = some (AP.f58.body, AP.f58.res) := by kernel_rfl
theorem fit58 : Fits (61, 58) := fits_of Try.func61 chk58 (by kernel_rfl) (by kernel_rfl)
theorem chk59 : fnChk L Try.f62 AP.f59 = some (AP.f59.body, AP.f59.res) := by kernel_rfl
theorem fit59 : Fits (62, 59) := fits_of Try.func62 chk59 (by kernel_rfl) (by kernel_rfl)
theorem chk60 : fnChk L Try.f63 AP.f60 = some (AP.f60.body, AP.f60.res) := by kernel_rfl
theorem fit60 : Fits (63, 60) := fits_of Try.func63 chk60 (by kernel_rfl) (by kernel_rfl)
theorem chk61 : fnChk L Try.f64 AP.f61 = some (AP.f61.body, AP.f61.res) := by kernel_rfl
theorem fit61 : Fits (64, 61) := fits_of Try.func64 chk61 (by kernel_rfl) (by kernel_rfl)
theorem chk62 : fnChk L Try.f65 AP.f62 = some (AP.f62.body, AP.f62.res) := by kernel_rfl
theorem fit62 : Fits (65, 62) := fits_of Try.func65 chk62 (by kernel_rfl) (by kernel_rfl)
theorem chk63 : fnChk L Try.f66 AP.f63 = some (AP.f63.body, AP.f63.res) := by kernel_rfl
theorem fit63 : Fits (66, 63) := fits_of Try.func66 chk63 (by kernel_rfl) (by kernel_rfl)
theorem chk64 : fnChk L Try.f67 AP.f64 = some (AP.f64.body, AP.f64.res) := by kernel_rfl
theorem fit64 : Fits (67, 64) := fits_of Try.func67 chk64 (by kernel_rfl) (by kernel_rfl)
theorem chk65 : fnChk L Try.f68 AP.f65 = some (AP.f65.body, AP.f65.res) := by kernel_rfl
theorem fit65 : Fits (68, 65) := fits_of Try.func68 chk65 (by kernel_rfl) (by kernel_rfl)
theorem chk66 : fnChk L Try.f69 AP.f66 = some (AP.f66.body, AP.f66.res) := by kernel_rfl
theorem fit66 : Fits (69, 66) := fits_of Try.func69 chk66 (by kernel_rfl) (by kernel_rfl)
theorem chk67 : fnChk L Try.f70 AP.f67 = some (AP.f67.body, AP.f67.res) := by kernel_rfl
theorem fit67 : Fits (70, 67) := fits_of Try.func70 chk67 (by kernel_rfl) (by kernel_rfl)
theorem chk68 : fnChk L Try.f71 AP.f68 = some (AP.f68.body, AP.f68.res) := by kernel_rfl
theorem fit68 : Fits (71, 68) := fits_of Try.func71 chk68 (by kernel_rfl) (by kernel_rfl)
theorem chk69 : fnChk L Try.f72 AP.f69 = some (AP.f69.body, AP.f69.res) := by kernel_rfl
theorem fit69 : Fits (72, 69) := fits_of Try.func72 chk69 (by kernel_rfl) (by kernel_rfl)
theorem chk70 : fnChk L Try.f73 AP.f70 = some (AP.f70.body, AP.f70.res) := by kernel_rfl
theorem fit70 : Fits (73, 70) := fits_of Try.func73 chk70 (by kernel_rfl) (by kernel_rfl)
theorem chk71 : fnChk L Try.f74 AP.f71 = some (AP.f71.body, AP.f71.res) := by kernel_rfl
theorem fit71 : Fits (74, 71) := fits_of Try.func74 chk71 (by kernel_rfl) (by kernel_rfl)
theorem chk72 : fnChk L Try.f75 AP.f72 = some (AP.f72.body, AP.f72.res) := by kernel_rfl
theorem fit72 : Fits (75, 72) := fits_of Try.func75 chk72 (by kernel_rfl) (by kernel_rfl)
theorem chk73 : fnChk L Try.f76 AP.f73 = some (AP.f73.body, AP.f73.res) := by kernel_rfl
theorem fit73 : Fits (76, 73) := fits_of Try.func76 chk73 (by kernel_rfl) (by kernel_rfl)
theorem chk74 : fnChk L Try.f77 AP.f74 = some (AP.f74.body, AP.f74.res) := by kernel_rfl
theorem fit74 : Fits (77, 74) := fits_of Try.func77 chk74 (by kernel_rfl) (by kernel_rfl)
theorem chk75 : fnChk L Try.f78 AP.f75 = some (AP.f75.body, AP.f75.res) := by kernel_rfl
theorem fit75 : Fits (78, 75) := fits_of Try.func78 chk75 (by kernel_rfl) (by kernel_rfl)
theorem chk76 : fnChk L Try.f79 AP.f76 = some (AP.f76.body, AP.f76.res) := by kernel_rfl
theorem fit76 : Fits (79, 76) := fits_of Try.func79 chk76 (by kernel_rfl) (by kernel_rfl)
theorem chk77 : fnChk L Try.f80 AP.f77 = some (AP.f77.body, AP.f77.res) := by kernel_rfl
theorem fit77 : Fits (80, 77) := fits_of Try.func80 chk77 (by kernel_rfl) (by kernel_rfl)
theorem chk78 : fnChk L Try.f81 AP.f78 = some (AP.f78.body, AP.f78.res) := by kernel_rfl
theorem fit78 : Fits (81, 78) := fits_of Try.func81 chk78 (by kernel_rfl) (by kernel_rfl)
theorem chk79 : fnChk L Try.f82 AP.f79 = some (AP.f79.body, AP.f79.res) := by kernel_rfl
theorem fit79 : Fits (82, 79) := fits_of Try.func82 chk79 (by kernel_rfl) (by kernel_rfl)
theorem chk80 : fnChk L Try.f83 AP.f80 = some (AP.f80.body, AP.f80.res) := by kernel_rfl
theorem fit80 : Fits (83, 80) := fits_of Try.func83 chk80 (by kernel_rfl) (by kernel_rfl)
theorem chk81 : fnChk L Try.f84 AP.f81 = some (AP.f81.body, AP.f81.res) := by kernel_rfl
theorem fit81 : Fits (84, 81) := fits_of Try.func84 chk81 (by kernel_rfl) (by kernel_rfl)
theorem chk82 : fnChk L Try.f85 AP.f82 = some (AP.f82.body, AP.f82.res) := by kernel_rfl
theorem fit82 : Fits (85, 82) := fits_of Try.func85 chk82 (by kernel_rfl) (by kernel_rfl)
theorem chk83 : fnChk L Try.f86 AP.f83 = some (AP.f83.body, AP.f83.res) := by kernel_rfl
theorem fit83 : Fits (86, 83) := fits_of Try.func86 chk83 (by kernel_rfl) (by kernel_rfl)
theorem chk84 : fnChk L Try.f87 AP.f84 = some (AP.f84.body, AP.f84.res) := by kernel_rfl
theorem fit84 : Fits (87, 84) := fits_of Try.func87 chk84 (by kernel_rfl) (by kernel_rfl)
theorem allF : ∀ p ∈ mfT, Fits p := allF_cons fit6 (allF_cons fit7 (allF_cons fit9 (allF_cons fit10 (allF_cons fit12 (allF_cons fit13 (allF_cons fit14 (allF_cons fit15 (allF_cons fit16 (allF_cons fit17 (allF_cons fit26 (allF_cons fit27 (allF_cons fit28 (allF_cons fit29 (allF_cons fit30 (allF_cons fit31 (allF_cons fit32 (allF_cons fit33 (allF_cons fit34 (allF_cons fit35 (allF_cons fit36 (allF_cons fit37 (allF_cons fit38 (allF_cons fit39 (allF_cons fit40 (allF_cons fit41 (allF_cons fit42 (allF_cons fit43 (allF_cons fit44 (allF_cons fit45 (allF_cons fit50 (allF_cons fit51 (allF_cons fit52 (allF_cons fit55 (allF_cons fit56 (allF_cons fit57 (allF_cons fit58 (allF_cons fit59 (allF_cons fit60 (allF_cons fit61 (allF_cons fit62 (allF_cons fit63 (allF_cons fit64 (allF_cons fit65 (allF_cons fit66 (allF_cons fit67 (allF_cons fit68 (allF_cons fit69 (allF_cons fit70 (allF_cons fit71 (allF_cons fit72 (allF_cons fit73 (allF_cons fit74 (allF_cons fit75 (allF_cons fit76 (allF_cons fit77 (allF_cons fit78 (allF_cons fit79 (allF_cons fit80 (allF_cons fit81 (allF_cons fit82 (allF_cons fit83 (allF_cons fit84 (allF_nil)))))))))))))))))))))))))))))))))))))))))))))))))))))))))))))))
theorem lk : LinkOk L AP.A := ⟨by kernel_rfl, fun fid f h => allF (fid, f) (look2_mem h)⟩
end Ab.Ln
