/- Part C4. -/
import Derived.Test.YtbihdlhgfnoejaaGreatDoorC3
set_option linter.unusedSimpArgs false
set_option linter.unusedVariables false
set_option maxRecDepth 100000
namespace Ab
open Go
def QZ (m : Int) (p s : ByteArray) : zw := ⟨nA, false, [0, 1, 0, 0], 1, 1, m, p, s.size, zq s⟩
def JP (m : Int) (p s : ByteArray) : Prop := (m = 0 ∧ p = s) ∨ (m = 8 ∧ p.size < s.size ∧ wU p s.size = .ok (preB s s.size, p.size))
theorem K6 {m : Int} {p s : ByteArray} (hs : s.size ≤ 300) (hp : JP m p s) (e : zw) (h1 : e.method = m) (h2 : e.packed = p) (h3 : e.size = s.size) (h4 : e.gone = false) : yS e = Oq e.I9 ∧ xn e.method e.packed e.size = some s ∧ p.size ≤ 300 := by
 rcases hp with ⟨rfl, rfl⟩ | ⟨rfl, hl, hi⟩
 · refine ⟨?_, ?_, hs⟩
   · unfold yS
     rw [h4, if_neg (by decide), h1, h2, h3, VM (by omega : (0 : Int) ≤ p.size), VM (by omega : (p.size : Int) ≤ 300)]
     simp
   · unfold xn
     rw [h1, h2, h3, if_neg (by omega), if_pos rfl, if_pos rfl]
 · refine ⟨?_, ?_, by omega⟩
   · unfold yS
     rw [h4, if_neg (by decide), h1, h2, h3, VM (by omega : (0 : Int) ≤ s.size), VM (by omega : (s.size : Int) ≤ 300), VM (by omega : p.size ≤ 300)]
     simp
   · unfold xn
     rw [h1, h2, h3, if_neg (by omega), if_neg (by decide), if_pos rfl, hi]
     simp only [yx, E3]
     rw [if_pos ⟨trivial, trivial⟩]
theorem JC {m : Int} {p s : ByteArray} (hs : s.size ≤ 300) (hp : JP m p s) (e : zw) (h1 : e.method = m) (h2 : e.packed = p) (h3 : e.size = s.size) (h4 : e.gone = false) (h5 : e.I9 = (zq s : Nat)) (h6 : zu e.name = true) (h7 : yY e = true) : yo e = some s := by
 obtain ⟨c, u, _⟩ := K6 hs hp e h1 h2 h3 h4
 have hc := GP s
 have is : Oq e.I9 = true := by rw [h5]; simp [Oq]; omega
 have mf : ET [e] = true := by rw [Ou, c, is, h6, h7]; rfl
 unfold yo
 rw [mf, if_neg (by decide), h4, if_neg (by decide), u, h5]
 show (if (zq s : Int) = (zq s : Int) then some s else none) = _
 rw [if_pos rfl]
theorem NT : zu nA = true := by decide +kernel
theorem NY {m : Int} {p s : ByteArray} (hs : s.size ≤ 300) (hp : JP m p s) : yo (QZ m p s) = some s :=
 JC hs hp _ rfl rfl rfl rfl rfl NT (by
  show (C8 [0, 1, 0, 0] && (decide ((1 : Int) ≤ 1) && (yu 1 && Gi 1))) = true
  decide)
def t27 : ByteArray := ⟨#[97, 98, 99, 97, 98, 99, 97, 98, 99, 97, 98, 99, 97, 98, 99, 97, 98, 99, 97, 98, 99, 97, 98, 99, 97, 98, 99]⟩
theorem MS : (xJ (tokens t27)).length < 200 := by decide +kernel
def Da (p : ByteArray) (C Y d : Int) : Nat → zw
 | 0 => ⟨nA, false, [0, 1, 0, 0], 1, 1, 8, p, 26, C⟩
 | 1 => ⟨nA, false, [0, 1, 0, 0], 1, 1, 8, p, 28, C⟩
 | 2 => ⟨nA, false, [0, 1, 0, 0], 1, 1, 8, p ++ ⟨#[120]⟩, 27, C⟩
 | 3 => ⟨nA, false, [0, 1, 0, 0], 1, 1, 8, p.extract 0 (p.size - 1), 27, C⟩
 | 4 => ⟨nA, false, [0, 1, 0, 0], 1, 1, 0, p, 27, C⟩
 | 5 => ⟨nA, false, [0, 1, 0, 0], 1, 1, 8, p, 27, Y⟩
 | 6 => ⟨Ez, false, [0, 1, 0, 0], 1, 1, 8, p, 27, C⟩
 | 7 => ⟨nA, false, [-d, 1, 0, 0], 1, 1, 8, p, 27, C⟩
 | 8 => ⟨nA, true, [0, 1, 0, 0], 1, 1, 8, p, 27, C⟩
 | _ => ⟨nA, false, [0, 1, 0, 0], 1048576 + d, 1, 8, p, 27, C⟩
theorem NB (p : ByteArray) (C Y d : Int) (r : Nat) : (Da p C Y d r).vec.length = 4 ∧ (Da p C Y d r).name.size ≤ 2 ∧ (Da p C Y d r).packed.size ≤ p.size + 1 := by
 unfold Da
 split <;> refine ⟨rfl, ?_, ?_⟩ <;> first | exact (by decide : nA.size ≤ 2) | exact (by decide : Ez.size ≤ 2) | exact Nat.le_succ _ | (show (p ++ ⟨#[120]⟩).size ≤ _; rw [ByteArray.size_append]; exact vR _) | (show (p.extract 0 (p.size - 1)).size ≤ _; rw [Av (by omega)]; omega)
theorem PT {p : ByteArray} {C Y d : Int} (hd : 1 ≤ d ∧ d ≤ 1024) (hi : wU p 27 = .ok (preB t27 27, p.size)) (hl : p.size < 27) (h1 : 1 ≤ p.size) (hC : C = (zq t27 : Nat)) (hY : Y ≠ C) (r : Nat) : ze (Da p C Y d r) = false := by
 rw [NQ]
 match r with
 | 0 =>
   have : xn 8 p 26 = none := by
    unfold xn
    rw [if_neg (by omega), if_neg (by decide), if_pos rfl, Fx (most' := 26) hi (by omega) (by rw [yx]; decide)]
   simp only [Da, this, Bool.or_self, VW]
 | 1 =>
   have : xn 8 p 28 = none := by
    unfold xn
    have pr : N8 p p := by have := DQ (s := p) (n := p.size) (vR _); rw [GV] at this; exact this
    rw [if_neg (by omega), if_neg (by decide), if_pos rfl, BM (most' := 28) pr hi (by omega) (by omega), if_pos (vR _)]
    dsimp only
    rw [if_neg (by rw [yx]; omega)]
   simp only [Da, this, Bool.or_self, VW]
 | 2 =>
   have : xn 8 (p ++ ⟨#[120]⟩) 27 = none := by
    unfold xn
    rw [if_neg (by omega), if_neg (by decide), if_pos rfl, Fz (JD p _) hi]
    dsimp only
    rw [if_neg (by rw [ByteArray.size_append]; have : (⟨#[120]⟩ : ByteArray).size = 1 := rfl; omega)]
   simp only [Da, this, Bool.or_self, VW]
 | 3 =>
   have : xn 8 (p.extract 0 (p.size - 1)) 27 = none := by
    unfold xn
    rw [if_neg (by omega), if_neg (by decide), if_pos rfl, BM (most' := 27) (DQ (by omega)) hi (by omega) (by omega), if_neg (by rw [Av (by omega)]; omega)]
   simp only [Da, this, Bool.or_self, VW]
 | 4 =>
   have : yS (Da p C Y d 4) = false := by
    unfold yS
    simp only [Da, vP, wq]
    rw [VJ (by omega : ¬ (p.size : Int) = 27)]
    simp
   rw [this, VW, VW, V1]
 | 5 =>
   have : xn 8 p 27 = some t27 := by
    unfold xn
    rw [if_neg (by omega), if_neg (by decide), if_pos rfl, hi]
    dsimp only
    rw [if_pos ⟨by rw [yx]; rfl, rfl⟩]
    exact Wh some (E3 t27)
   simp only [Da, this]
   rw [VJ (fun q => hY (by omega)), Bool.or_self, VW]
 | 6 =>
   have : zu (Da p C Y d 6).name = false := (by decide +kernel : zu Ez = false)
   rw [this, V1, V1]
 | 7 =>
   have : yY (Da p C Y d 7) = false := by
    unfold yY
    have : C8 (Da p C Y d 7).vec = false := by
     show C8 [-d, 1, 0, 0] = false
     unfold C8
     simp only [List.all_cons]
     rw [show yu (-d) = false by unfold yu; rw [VJ (by omega), V1], V1, VW]
    rw [this, V1]
   rw [this, V1, VW, V1]
 | 8 =>
   have : yS (Da p C Y d 8) = false := by
    unfold yS
    simp only [Da, if_true]
    rw [VJ (by decide : ¬ (8 : Int) = 0), V1]
   rw [this, VW, VW, V1]
 | n + 9 =>
   have : yY (Da p C Y d (n + 9)) = false := by
    unfold yY
    have : yu (Da p C Y d (n + 9)).wZ = false := by
     show yu (1048576 + d) = false
     unfold yu
     rw [VJ (by omega : ¬ 1048576 + d ≤ 1048576), VW]
    rw [this, V1, VW, VW]
   rw [this, V1, VW, V1]
theorem Im {e a : zw} (hn : ze e = false) (g : H) (hg : g.floor ≤ g.next) (v w : AV) (hv : v.sc = true) (hw : w.sc = true) (oe : BR g (e, v)) (oa : BR g (a, w)) :
 aS AP.A 100 [.agg (wD e v)] g = some (.bU [.str ⟨#[]⟩, .int .i64 1500], g) ∧ aS AP.A 96 [.agg (wD e v)] g = some (.bool false, g) ∧
 aS AP.A 97 [.agg (wD e v), .agg (wD a w)] g = some (.bU [.agg Z9, .int .i64 1500], g) ∧ aS AP.A 97 [.agg (wD a w), .agg (wD e v)] g = some (.bU [.agg Z9, .int .i64 1500], g) := by
 have tx : yo e = none := by unfold ze at hn; simpa using hn
 refine ⟨?_, ?_, ?_, ?_⟩
 · rw [GU g hg e v hv oe]; unfold JL; rw [tx]
 · rw [A5 g hg e v hv oe, hn]
 · have m : yw e a = none := by unfold yw; rw [hn, V1]; rfl
   have := EV g hg e a v w hv hw oe oa m
   rw [m] at this; exact this
 · have m : yw a e = none := by unfold yw; rw [hn, V1, VW]; rfl
   have := EV g hg a e w v hw hv oa oe m
   rw [m] at this; exact this
set_option maxHeartbeats 4000000 in
theorem LV (which x : Int) (h : H) : aS AP.A 148 [.int .i64 which, .int .i64 x] h = some (.bool true, h) := by
 obtain ⟨d, hd⟩ : ∃ d, d = 1 + x % 1024 := ⟨_, rfl⟩
 have hd2 : 1 ≤ d ∧ d ≤ 1024 := by omega
 have b1 := Nj x
 have w1 : IntKind.wrap .i64 (1 + x % 1024) = d := by rw [hd]; exact wi (by omega)
 obtain ⟨r, hr, hu⟩ := Va which 10 (by omega)
 obtain ⟨C, hC⟩ : ∃ K, K = ((zq t27 : Nat) : Int) := ⟨_, rfl⟩
 obtain ⟨Y, hY⟩ : ∃ Y, Y = bits .xor .i64 C d := ⟨_, rfl⟩
 have ne : Y ≠ C := by
  obtain ⟨n, hn⟩ : ∃ n : Nat, d = n := ⟨d.toNat, by omega⟩
  have := GP t27
  rw [hY, hC, hn, Jj (by omega) (by omega)]
  have := Rf (a := zq t27) (d := n) (by omega)
  omega
 have k0 : ∀ g, aS AP.A 95 [] g = some (.bool true, g) := Ky
 obtain ⟨m, p, k1, hp, h8⟩ := QY h.ez t27 (by decide)
 have bz : (BE t27).size < t27.size := by
  have q : (BE t27).size = ((xJ (tokens t27)).length + 7) / 8 := CB
  have := MS
  have : t27.size = 27 := rfl
  omega
 have hm := h8 bz
 subst hm
 have hpk : JP 8 p t27 := hp
 rcases hp with ⟨q, _⟩ | ⟨_, hl, hi⟩
 · omega
 have tx := NY (by decide) hpk
 have hl' : p.size < 27 := hl
 have hi' : wU p 27 = .ok (preB t27 27, p.size) := hi
 have p1 : 1 ≤ p.size := by
  obtain ⟨q, _, q2, q3, _⟩ := zY hi'
  omega
 have mt : ze (QZ 8 p t27) = true := by unfold ze; rw [tx]; rfl
 have okp : ∀ (g : H) (i : Nat), g.get i = some (ints [0, 1, 0, 0]) → BR g (QZ 8 p t27, .aF i 0 4 1) := fun g i hi => BR.obj hi rfl rfl (by show nA.size < _; decide) (by show p.size < _; omega)
 have oke : ∀ (g : H) (i : Nat), g.get i = some (ints (Da p C Y d r).vec) → BR g (Da p C Y d r, .aF i 0 4 1) := fun g i hi => by
  obtain ⟨v1, v2, v3⟩ := NB p C Y d r
  exact BR.obj hi v1 rfl (by omega) (by omega)
 have no := PT hd2 hi' hl' p1 hC ne r
 have km0 : ∀ (g : H) (i : Nat), g.floor ≤ g.next → g.get i = some (ints [0, 1, 0, 0]) → aS AP.A 96 [.agg (wD (QZ 8 p t27) (.aF i 0 4 1))] g = some (.bool true, g) := fun g i hg hi => by
  rw [A5 g hg _ _ rfl (okp g i hi), mt]
 have kt : ∀ (g : H) (i : Nat), g.floor ≤ g.next → g.get i = some (ints (Da p C Y d r).vec) → aS AP.A 100 [.agg (wD (Da p C Y d r) (.aF i 0 4 1))] g = some (.bU [.str ⟨#[]⟩, .int .i64 1500], g) ∧ aS AP.A 96 [.agg (wD (Da p C Y d r) (.aF i 0 4 1))] g = some (.bool false, g) := fun g i hg hi => by
  obtain ⟨a1, a2, _⟩ := Im no g hg (.aF i 0 4 1) (.aF i 0 4 1) rfl rfl (oke g i hi) (oke g i hi)
  exact ⟨a1, a2⟩
 have kg : ∀ (g : H) (i j : Nat), g.floor ≤ g.next → g.get i = some (ints (Da p C Y d r).vec) → g.get j = some (ints [0, 1, 0, 0]) → aS AP.A 97 [.agg (wD (Da p C Y d r) (.aF i 0 4 1)), .agg (wD (QZ 8 p t27) (.aF j 0 4 1))] g = some (.bU [.agg Z9, .int .i64 1500], g) ∧ aS AP.A 97 [.agg (wD (QZ 8 p t27) (.aF j 0 4 1)), .agg (wD (Da p C Y d r) (.aF i 0 4 1))] g = some (.bU [.agg Z9, .int .i64 1500], g) := fun g i j hg hi hj => by
  obtain ⟨_, _, a3, a4⟩ := Im no g hg (.aF i 0 4 1) (.aF j 0 4 1) rfl rfl (oke g i hi) (okp g j hj)
  exact ⟨a3, a4⟩
 have kc : ∀ g, aS AP.A 101 [.str t27] g = some (.int .i64 C, g) := fun g => by rw [hC]; exact LO g t27 (by decide)
 obtain ⟨G, hG⟩ : ∃ G, G = ((h.ez.alloc (ints [0, 1, 0, 0])).alloc Z9).set (h.next + 1) (wD ⟨nA, false, [0, 1, 0, 0], 1, 1, 8, p, 27, C⟩ (.aF h.next 0 4 1)) := ⟨_, rfl⟩
 have gv : G.get h.next = some (ints [0, 1, 0, 0]) := by rw [hG]; simp (disch := first | omega | (simp only [y7, VK, VN, vW, Nat.reduceAdd]; first | done | omega | fail) | fail) only [y7, Gp, VO, VK, VN, vW, Nat.reduceAdd]
 have ge : G.get (h.next + 1) = some (wD ⟨nA, false, [0, 1, 0, 0], 1, 1, 8, p, 27, C⟩ (.aF h.next 0 4 1)) := by rw [hG]; simp (disch := first | omega | (simp only [y7, VK, VN, vW, Nat.reduceAdd]; first | done | omega | fail) | fail) only [y7, Gp, VO, VK, VN, vW, Nat.reduceAdd]
 have gf : G.floor = h.next := by rw [hG]; simp
 have gn : G.next = h.next + 1 + 1 := by rw [hG]; simp
 have kC := JV G (by omega) ⟨nA, false, [0, 1, 0, 0], 1, 1, 8, p, 27, C⟩ (.aF h.next 0 4 1) rfl (by show 4 < _; omega) (by
  simp only [aT, if_true]
  rw [wR (by simp; omega), wR (by simp; omega), wR (by omega), gv]
  rfl) (by show 0 < 4; omega)
 rw [gn] at kC
 have pe : QZ 8 p t27 = ⟨nA, false, [0, 1, 0, 0], 1, 1, 8, p, 27, C⟩ := by rw [hC]; rfl
 rw [pe] at km0 kg
 have k9 := fun (g : H) n => Ox g n
 simp only [I] at k9
 have gg := hG.symm
 have wn : IntKind.wrap .i64 (0 - d) = -d := by rw [wi (by omega)]; omega
 have w3 : IntKind.wrap .i64 (1048576 + d) = 1048576 + d := wi (by omega)
 have w4 : IntKind.wrap .i64 ((p.size : Int) - 1) = ((p.size - 1 : Nat) : Int) := by rw [wi (by omega)]; omega
 have xs : oK (.str p) none (some (.int .i64 ((p.size - 1 : Nat) : Int))) = some (.str (p.extract 0 (p.size - 1))) := HE (by omega)
 have ad : bw .add (.str p) (.str ⟨#[120]⟩) = some (.str (p ++ ⟨#[120]⟩)) := Dx (by have : (⟨#[120]⟩ : ByteArray).size = 1 := rfl; omega)
 have rm : bw .rem (.int .u64 (IntKind.wrap .u64 which)) (.int .u64 10) = some (.int .u64 r) := by
  show (if (10 : Int) = 0 then none else some (AV.int .u64 ((IntKind.wrap .u64 which).tmod 10))) = _
  rw [if_neg (by decide), show (IntKind.wrap .u64 which).tmod 10 = (r : Int) from hu]
 have xq : bits .xor .i64 C d = Y := hY.symm
 have ye : bw .eql (.str ⟨#[]⟩) (.str ⟨#[]⟩) = some (.bool true) := by rw [AL]; rfl
 obtain ⟨h2, hh⟩ : ∃ h2, aM (aS AP.A) bG AP.f148.body (params 0 [.int .i64 which, .int .i64 x]) h.ez = some (.ret, [(4, .bool true)], h2) := by
  clear no oke okp mt tx hpk hi hi' hl h8 bz hC hY pe hd hG
  simp only [wD, ints, I, VR, Wk, nA, t27] at gg ge gv km0 kC kc k1
  have : r = 0 ∨ r = 1 ∨ r = 2 ∨ r = 3 ∨ r = 4 ∨ r = 5 ∨ r = 6 ∨ r = 7 ∨ r = 8 ∨ r = 9 := by omega
  rcases this with rfl | rfl | rfl | rfl | rfl | rfl | rfl | rfl | rfl | rfl <;>
   (simp only [Da, wD, ints, I, VR, Wk, nA, Ez] at kt kg
    refine ⟨?_, ?_⟩
    rotate_left
    simp (disch := first | omega | (simp only [y7, VK, VN, vW, Nat.reduceAdd]; first | done | omega | fail) | (simp (disch := first | omega | (simp only [y7, VK, VN, vW, Nat.reduceAdd]; first | done | omega | fail) | fail) only [y7, Gp, VO, VK, VN, vW, Nat.reduceAdd, ge, gf, gn, gv]; done) | fail) only [go_sem, wH, Hx, AP.f148, b1, w1, rm, k0, k1, kc, gg, ge, gf, gn, gv, km0, kC, kt, kg, k9, ye, wn, w3, w4, xs, ad, xq, u5]
    rfl)
 exact u7 (fn := AP.f148) (h2 := h2) (e := [(4, .bool true)]) rfl rfl rfl hh rfl rfl
theorem EK (r : List (Ty × List AV)) (h : r.map (·.1) = [Jw, Jw]) (hp : ∀ x ∈ r, Sh reachBytes x.1 x.2) : aS AP.A 148 (r.map ke) H.empty = some (.bool true, H.empty) := by
 obtain ⟨x, y, rfl, h1, h2⟩ := U6 h hp
 obtain ⟨a, rfl, _⟩ := MG h1
 obtain ⟨b, rfl, _⟩ := MG h2
 exact LV a b H.empty
end Ab
