/- Part C3. -/
import Derived.Test.YtbihdlhgfnoejaaGreatDoorC2
set_option linter.unusedSimpArgs false
set_option linter.unusedVariables false
set_option maxRecDepth 100000
namespace Ab
open Go
structure FS where
 W : List Int
 U : List Int
 F : List Bool
def FS.add (s : FS) (x : Int) : FS := ⟨s.W ++ [x], s.U ++ [-1], s.F ++ [true]⟩
def FS.a (s : FS) : Nat := xp s.W s.F
def FS.F1 (s : FS) : List Bool := s.F.set s.a false
def FS.b (s : FS) : Nat := xp s.W s.F1
def FS.F2 (s : FS) : List Bool := s.F1.set s.b false
def FS.sum (s : FS) : Int := s.W.getD s.a 0 + s.W.getD s.b 0
def FS.Iw (s : FS) : FS := FS.add ⟨s.W, (s.U.set s.a s.U.length).set s.b s.U.length, s.F2⟩ s.sum
structure FS.ok (s : FS) : Prop where
 lu : s.U.length = s.W.length
 lf : s.F.length = s.W.length
 l1 : 0 ≤ xF s.W s.F s.W.length 0 (-1)
 l2 : 0 ≤ xF s.W s.F1 s.W.length 0 (-1)
 sm : 0 ≤ s.sum ∧ s.sum < 1000000000000000
abbrev FS.C (s : FS) : List (List AV) := NW s.W s.U s.F
theorem FB {W : List Int} {F : List Bool} (h : 0 ≤ xF W F W.length 0 (-1)) : xp W F < W.length := by
 have rg := BQ (W := W) (F := F) (n := W.length) W.length 0 (-1) (by omega) (.inl rfl)
 unfold xp; omega
theorem xS (l : List Int) (i : Nat) (x : Int) : (ints l).set i (.int .i64 x) = ints (l.set i x) := by simp [ints, List.map_set, I]
theorem Qc {h : H} {f : Nat} {s : FS} {wv uv fv : AV} {N : Nat} {x : AV} {i : Nat} (r : Ro h f [wv, uv, fv] s.C) (ok : s.ok) (hn : s.W.length < 10000) (ln : jy false x = some (.int .i64 N)) (hi : i < N) (hN : N < 100000) :
 ∃ h' wv' uv' fv', aM (aS AP.A) bG AP.f56L2 (ay [(0, x), (3, .aE f 0), (5, .int .i64 i)] [0, 3, 5]) h = some (.normal, [(0, x), (3, .aE f 0), (5, .int .i64 (i + 1 : Nat))], h') ∧ Ro h' f [wv', uv', fv'] s.Iw.C ∧ Lo h h' := by
 obtain ⟨lu, lf, l1, l2, sm⟩ := ok
 have la := FB l1
 have lb := FB l2
 change s.a < s.W.length at la
 change s.b < s.W.length at lb
 obtain ⟨h1, k1, r1, o1⟩ := HC r lf (by omega) l1
 obtain ⟨h2, k2, r2, o2⟩ := HC r1 (by rw [Vi]; exact lf) (by omega) l2
 change aS AP.A 71 [.aE f 0] h = some (.int .i64 (s.a : Nat), h1) at k1
 change aS AP.A 71 [.aE f 0] h1 = some (.int .i64 (s.b : Nat), h2) at k2
 obtain ⟨iw, p1, p2, p3, p4, p5, _⟩ := r2.put 0 s.a (v := wv) (c := ints s.W) rfl rfl (.int .i64 0) rfl (by rw [qy]; exact la)
 obtain ⟨iu, q1, q2, q3, q4, q5, r3, o3⟩ := r2.put 1 s.a (v := uv) (c := ints s.U) rfl rfl (.int .i64 s.U.length) rfl (by rw [qy]; omega)
 rw [xS] at r3 o3
 obtain ⟨h3, eh3⟩ : ∃ g, g = h2.set iu (ints (s.U.set s.a s.U.length)) := ⟨_, rfl⟩
 rw [← eh3] at r3 o3
 obtain ⟨iu2, q1', q2', q3', q4', q5', r4, o4⟩ := r3.put 1 s.b (v := uv) (c := ints (s.U.set s.a s.U.length)) rfl rfl (.int .i64 s.U.length) rfl (by rw [qy, Vi]; omega)
 rw [xS] at r4 o4
 have : iu2 = iu := by rw [q1] at q1'; injection q1' with a _ _ _; exact a.symm
 subst this
 obtain ⟨h4, eh4⟩ : ∃ g, g = h3.set iu2 (ints ((s.U.set s.a s.U.length).set s.b s.U.length)) := ⟨_, rfl⟩
 rw [← eh4] at r4 o4
 obtain ⟨h5, wv', uv', fv', k5, r5, o5⟩ := Lm r4 s.sum (by
  refine ⟨by omega, by rw [Vi, Vi]; omega, by rw [Vi, Vi]; omega⟩)
 refine ⟨h5, wv', uv', fv', ?_, r5, o1.trans (o2.trans (o3.trans (o4.trans o5)))⟩
 have hwu : iw ≠ iu2 := by
  intro e
  exact p5 1 uv (by omega) rfl (by rw [q1, e]; rfl)
 have gf2 := r2.get
 have gf3 := r3.get
 have gf4 := r4.get
 have gw4 : h4.get iw = some (ints s.W) := by rw [eh4, wI hwu, eh3, wI hwu, p2]
 rw [p1, q1] at gf2 gf3 gf4
 rw [qy] at gf2 gf3 gf4
 rw [qy] at gf2 gf3 gf4
 have n1 : ((i + 1 : Nat) : Int) = (i : Int) + 1 := by omega
 have luI := qy s.U
 have lwI := qy s.W
 have lsI := qy (s.U.set s.a s.U.length)
 rw [Vi] at lsI
 have e1 := xS s.U s.a s.U.length
 have e2 := xS (s.U.set s.a s.U.length) s.b s.U.length
 have ga : (ints s.W)[s.a]? = some (.int .i64 (s.W.getD s.a 0)) := tU (by rw [U3, U6 la]; rfl)
 have gb : (ints s.W)[s.b]? = some (.int .i64 (s.W.getD s.b 0)) := tU (by rw [U3, U6 lb]; rfl)
 have es : s.W.getD s.a 0 + s.W.getD s.b 0 = s.sum := rfl
 clear r r1 r2 r3 r4 r5 o1 o2 o3 o4 o5 p5 q5 q5' l1 l2 p1 q1 q1'
 rw [n1]
 generalize ints ((s.U.set s.a s.U.length).set s.b s.U.length) = U2 at *
 generalize ints (s.U.set s.a s.U.length) = U1 at *
 generalize ints s.U = U0 at *
 generalize ints s.W = W0 at *
 generalize s.W.getD s.a 0 = wa at *
 generalize s.W.getD s.b 0 = wb0 at *
 generalize s.sum = S at *
 generalize s.a = a at *
 generalize s.b = b at *
 generalize s.U.length = ul at *
 generalize s.W.length = wl at *
 subst lu
 simp (disch := omega) only [go_sem, wG, AP.f56L2, ln, k1, k2, gf2, gf3, gf4, q2, q2', gw4, luI, lwI, lsI, ga, gb, e1, e2, es, ← eh3, ← eh4, k5]
def FS.y7 : Nat → FS → FS
 | 0, s => s
 | n + 1, s => FS.y7 n s.Iw
theorem FS.JF (s : FS) : s.Iw.W.length = s.W.length + 1 := by simp [FS.Iw, FS.add]
theorem FS.AR : ∀ (n : Nat) (s : FS), (FS.y7 n s).W.length = s.W.length + n
 | 0, s => rfl
 | n + 1, s => by rw [FS.y7, FS.AR n, FS.JF]; omega
theorem Fq {f : Nat} {N : Nat} {x : AV} (hN : N < 1000) : ∀ (m i : Nat) (s : FS) (h : H) (wv uv fv : AV), i + m = N → Ro h f [wv, uv, fv] s.C → (∀ k, k < m → (FS.y7 k s).ok) → s.W.length + m < 10000 → jy false x = some (.int .i64 N) →
 ∃ h' wv' uv' fv', Lp AP.A [0, 3, 5] AP.f56L2 [(0, x), (3, .aE f 0), (5, .int .i64 i)] h = some (.exit 2, [(0, x), (3, .aE f 0), (5, .int .i64 N), (29, .bool false)], h') ∧ Ro h' f [wv', uv', fv'] (FS.y7 m s).C ∧ Lo h h'
 | 0, i, s, h, wv, uv, fv, hi, r, ok, hl, ln => by
   obtain rfl : i = N := by omega
   refine ⟨h, wv, uv, fv, ux ?_, r, Lo.refl h⟩
   simp (disch := omega) only [go_sem, wG, AP.f56L2, ln]
 | m + 1, i, s, h, wv, uv, fv, hi, r, ok, hl, ln => by
   obtain ⟨h1, w1, u1, f1, k1, r1, o1⟩ := Qc r (ok 0 (by omega)) (by omega) ln (show i < N by omega) (by omega)
   obtain ⟨h', w', u', f', k2, r2, o2⟩ := Fq hN m (i + 1) s.Iw h1 w1 u1 f1 (by omega) r1 (fun k hk => ok (k + 1) (by omega)) (by rw [FS.JF]; omega) ln
   exact ⟨h', w', u', f', uy k1 k2, r2, o1.trans o2⟩
def Ay (ws : List Int) : FS := ⟨ws, List.replicate ws.length (-1), List.replicate ws.length true⟩
theorem Lx (p : List Int) (x : Int) : Ay (p ++ [x]) = (Ay p).add x := by
 unfold Ay FS.add
 simp only [wo, List.length_singleton, List.replicate_succ']
theorem Fm {f : Nat} {x : AV} {ws : List Int} (hn : ws.length < 1000) (h0 : H) (rd : Rd h0 x (ints ws)) : ∀ (q p : List Int) (h : H) (wv uv fv : AV), ws = p ++ q → Ext h0 h → h.floor = h0.next → Ro h f [wv, uv, fv] (Ay p).C →
 ∃ h' wv' uv' fv', Lp AP.A [0, 3, 4] AP.f56L3 [(0, x), (3, .aE f 0), (4, .int .i64 p.length)] h = some (.exit 0, [(0, x), (3, .aE f 0), (4, .int .i64 ws.length), (17, .bool false)], h') ∧ Ro h' f [wv', uv', fv'] (Ay ws).C ∧ Lo h h'
 | [], p, h, wv, uv, fv, hp, hx, hf, r => by
   rw [Vm] at hp; subst hp
   have ln := rd.len
   rw [qy] at ln
   simp only [I] at ln
   refine ⟨h, wv, uv, fv, ux ?_, r, Lo.refl h⟩
   simp (disch := omega) only [go_sem, wG, AP.f56L3, ln]
 | y :: q, p, h, wv, uv, fv, hp, hx, hf, r => by
   have ln := rd.len
   rw [qy] at ln
   simp only [I] at ln
   have hl : ws.length = p.length + (q.length + 1) := by rw [hp]; simp
   obtain ⟨ad, a1, a2⟩ := rd.xZ
   have b1 := a1 p.length ⟨by omega, by omega⟩
   have b2 := a2 h hx p.length y (by rw [hp]; simp)
   obtain ⟨h1, w1, u1, f1, k1, r1, o1⟩ := Lm r y (by simp [Ay]; omega)
   have r1' : Ro h1 f [w1, u1, f1] (Ay (p ++ [y])).C := by rw [Lx]; exact r1
   obtain ⟨h', w', u', f', k2, r2, o2⟩ := Fm hn h0 rd q (p ++ [y]) h1 w1 u1 f1 (by rw [hp]; simp) (hx.lo o1 hf) (by rw [o1.floor, hf]) r1'
   have n1 : (((p ++ [y]).length : Nat) : Int) = (p.length : Int) + 1 := by simp
   refine ⟨h', w', u', f', uy ?_ k2, r2, o1.trans o2⟩
   rw [n1]
   clear r r1 r1' k2 r2 o1 o2 hx rd a1 a2
   simp (disch := omega) only [go_sem, wG, AP.f56L3, ln, b1, b2, k1]
def Af (U : List Int) : Nat → Int → Nat
 | 0, _ => 0
 | m + 1, j => if 0 ≤ j then Af U m (U.getD j.toNat (-1)) + 1 else 0
def E9 (U : List Int) : Prop := ∀ j : Nat, j < U.length → U.getD j (-1) = -1 ∨ ((j : Int) < U.getD j (-1) ∧ U.getD j (-1) < U.length)
theorem Gg {h : H} {f iu n : Nat} {wv fv x ov : AV} {U : List Int} {i : Nat} (gf : h.get f = some [wv, .aF iu 0 n 1, fv]) (gu : h.get iu = some (ints U)) (hU : U.length = n) (hn : n < 10000) (ok : E9 U) : ∀ (m : Nat) (j : Int) (k : Nat), (j = -1 ∨ (0 ≤ j ∧ j < n)) → (0 ≤ j → (n : Int) ≤ j + m) → k + m < 100000 →
 ∃ j', Lp AP.A [0, 3, 8, 9, 10, 11] AP.f56L0 [(0, x), (3, .aE f 0), (8, ov), (9, .int .i64 i), (10, .int .i64 k), (11, .int .i64 j)] h = some (.exit 6, [(0, x), (3, .aE f 0), (8, ov), (9, .int .i64 i), (10, .int .i64 (k + Af U m j : Nat)), (11, .int .i64 j'), (89, .bool false)], h)
 | 0, j, k, hj, hm, hk => by
   obtain rfl : j = -1 := by omega
   refine ⟨-1, ux ?_⟩
   rw [Af]
   simp (disch := omega) only [go_sem, wG, AP.f56L0]
 | m + 1, j, k, hj, hm, hk => by
   by_cases c : 0 ≤ j
   · obtain ⟨q, rfl⟩ := U9 c
     have hq : q < n := by omega
     have o := ok q (by omega)
     have lu : (ints U).length = n := by rw [qy, hU]
     have gq : (ints U)[q]? = some (.int .i64 (U.getD q (-1))) := tU (by rw [U3, U6 (by omega)]; rfl)
     rw [hU] at o
     obtain ⟨j', r1⟩ := Gg (x := x) (ov := ov) (i := i) gf gu hU hn ok m (U.getD q (-1)) (k + 1) (by omega) (by omega) (by omega)
     have n1 : ((k + 1 : Nat) : Int) = (k : Int) + 1 := by omega
     have tq : ((q : Nat) : Int).toNat = q := by omega
     rw [Af, if_pos c, tq]
     rw [show k + (Af U m (U.getD q (-1)) + 1) = k + 1 + Af U m (U.getD q (-1)) by omega]
     refine ⟨j', uy ?_ r1⟩
     rw [n1]
     clear r1 o ok
     generalize U.getD q (-1) = y at *
     generalize ints U = IU at *
     simp (disch := omega) only [go_sem, wG, AP.f56L0, gf, gu, lu, gq]
   · rw [Af, if_neg c]
     refine ⟨j, ux ?_⟩
     simp (disch := omega) only [go_sem, wG, AP.f56L0]
def CY (U : List Int) (n : Nat) : List Int := (List.range n).map fun i => ((Af U U.length (U.getD i (-1)) : Nat) : Int)
theorem Kb (U : List Int) (n : Nat) : CY U (n + 1) = CY U n ++ [((Af U U.length (U.getD n (-1)) : Nat) : Int)] := by simp [CY, List.range_succ]
theorem Ld (U : List Int) (n : Nat) : (CY U n).length = n := by simp [CY]
theorem Hs {f iu n N : Nat} {wv fv x : AV} {U : List Int} (hU : U.length = n) (hn : n < 10000) (ok : E9 U) (hN : N ≤ n) (ln : jy false x = some (.int .i64 N)) (B : Nat) : ∀ (m i : Nat) (h : H) (ov : AV), i + m = N → h.get f = some [wv, .aF iu 0 n 1, fv] → h.get iu = some (ints U) → f < B → iu < B → B ≤ h.next → wS 1 h ov i (ints (CY U i)) → h.floor ≤ h.next → (∀ j, ov.id? = some j → B ≤ j) →
 ∃ h' ov', Lp AP.A [0, 3, 8, 9] AP.f56L1 [(0, x), (3, .aE f 0), (8, ov), (9, .int .i64 i)] h = some (.exit 4, [(0, x), (3, .aE f 0), (8, ov'), (9, .int .i64 N), (78, .bool false)], h') ∧ wS 1 h' ov' N (ints (CY U N)) ∧ h'.floor = h.floor
 | 0, i, h, ov, hi, gf, gu, hf, hiu, hB, ow, hfl, hov => by
   obtain rfl : i = N := by omega
   refine ⟨h, ov, ux ?_, ow, rfl⟩
   simp (disch := omega) only [go_sem, wG, AP.f56L1, ln]
 | m + 1, i, h, ov, hi, gf, gu, hf, hiu, hB, ow, hfl, hov => by
   have o := ok i (by omega)
   rw [hU] at o
   have lu : (ints U).length = n := by rw [qy, hU]
   have gq : (ints U)[i]? = some (.int .i64 (U.getD i (-1))) := tU (by rw [U3, U6 (by omega)]; rfl)
   obtain ⟨j', L⟩ := Gg (x := x) (ov := ov) (i := i) gf gu hU hn ok n (U.getD i (-1)) 0 (by omega) (by omega) (by omega)
   rw [vW] at L
   obtain ⟨v', h1, p1, p2, p3, p4, p5, p6⟩ := ow.push hfl (z := 8) (m := 1) (by omega) (by omega) [.int .i64 (Af U n (U.getD i (-1)) : Nat)] rfl rfl (yh (by omega))
   have e := Kb U i
   rw [hU] at e
   have ow2 : wS 1 h1 v' (i + 1) (ints (CY U (i + 1))) := by rw [e, qx]; exact p2
   obtain ⟨h', ov', r1, r2, r3⟩ := Hs hU hn ok hN ln B m (i + 1) h1 v' (by omega) (by rw [p5 f (fun q => by have := hov f q; omega) (by omega), gf]) (by rw [p5 iu (fun q => by have := hov iu q; omega) (by omega), gu]) hf hiu (by omega) ow2 (by omega) (fun j hj => by rw [p6] at hj; have := vG hj; omega)
   have n1 : ((i + 1 : Nat) : Int) = (i : Int) + 1 := by omega
   have L' : Lp AP.A [0, 3, 8, 9, 10, 11] AP.f56L0 [(0, x), (3, .aE f 0), (8, ov), (9, .int .i64 i), (10, .int .i64 0), (11, .int .i64 (U.getD i (-1)))] h = _ := L
   refine ⟨h', ov', uy ?_ r1, r2, by omega⟩
   rw [n1]
   clear r1 r2 r3 ow2 e p2 p5 p6 ok o L hov ow
   generalize Af U n (U.getD i (-1)) = K at *
   generalize U.getD i (-1) = y at *
   generalize ints U = IU at *
   simp (disch := omega) only [go_sem, wG, AP.f56L1, ln, gf, gu, lu, gq, th, L', p1]
def wM (ws : List Int) : List Int := CY (FS.y7 (ws.length - 1) (Ay ws)).U ws.length
theorem Le (h : H) (x : AV) (ws : List Int) (h2 : 1 ≤ ws.length) (hn : ws.length < 1000) (rd : Rd h x (ints ws)) (ok : ∀ k, k < ws.length - 1 → (FS.y7 k (Ay ws)).ok) (up : E9 (FS.y7 (ws.length - 1) (Ay ws)).U) (lu : (FS.y7 (ws.length - 1) (Ay ws)).U.length = (FS.y7 (ws.length - 1) (Ay ws)).W.length) :
 aS AP.A 56 [x] h = some (AK 1 ws.length (ints (wM ws)), h) := by
 have EG : Rd h.ez x (ints ws) := rd.mono (wK h)
 have ln := rd.len
 rw [qy] at ln
 simp only [I] at ln
 obtain ⟨h1, eh1⟩ : ∃ g, g = h.ez.alloc [.aQ, .aQ, .aQ] := ⟨_, rfl⟩
 have g1 : h1.get h.next = some [.aQ, .aQ, .aQ] := by rw [eh1, wO (by simp)]
 have r0 : Ro h1 h.next [.aQ, .aQ, .aQ] (Ay []).C := by
  have nl : ∀ (i : Nat) (v : AV), ([.aQ, .aQ, .aQ] : List AV)[i]? = some v → v = .aQ := by
   intro i v hv
   have := vV hv
   simp at this; exact this
  refine ⟨g1, ?_, rfl, ?_, ?_, by rw [eh1]; simp, by rw [eh1]; simp⟩
  · intro i v c hv hc
    have := nl i v hv
    subst this
    have hc' : c = [] := by
     have := vV hc
     simp [Ay, ints, Ff] at this; exact this
    subst hc'
    exact wS.nil
  · intro i v hv; rw [nl i v hv]; simp [AV.id?]
  · intro i j v u _ hv _ id hid; rw [nl i v hv] at hid; simp [AV.id?] at hid
 obtain ⟨h2', w2, u2, f2, k2, r2, o2⟩ := Fm hn h.ez EG ws [] h1 .aQ .aQ .aQ rfl (by rw [eh1]; exact (Ext.refl _).alloc _) (by rw [eh1]; simp) r0
 have k2' : Lp AP.A [0, 3, 4] AP.f56L3 [(0, x), (3, .aE h.next 0), (4, .int .i64 0)] h1 = _ := k2
 obtain ⟨h3, w3, u3, f3, k3, r3, o3⟩ := Fq (N := ws.length) (x := x) hn (ws.length - 1) 1 (Ay ws) h2' w2 u2 f2 (by omega) r2 ok (by simp [Ay]; omega) ln
 have k3' : Lp AP.A [0, 3, 5] AP.f56L2 [(0, x), (3, .aE h.next 0), (5, .int .i64 1)] h2' = _ := k3
 unfold wM
 have wl := FS.AR (ws.length - 1) (Ay ws)
 have wl0 : (Ay ws).W.length = ws.length := rfl
 generalize hS : FS.y7 (ws.length - 1) (Ay ws) = S at *
 obtain ⟨iu, q1, q2, q3, q4, q5, _⟩ := r3.put 1 0 (v := u3) (c := ints S.U) rfl rfl (.int .i64 0) rfl (by rw [qy]; omega)
 rw [qy] at q1
 have gf := r3.get
 rw [q1] at gf
 obtain ⟨h4, o4, k4, ow4, fl4⟩ := Hs (x := x) (N := ws.length) (f := h.next) (iu := iu) (wv := w3) (fv := f3) (n := S.U.length) (U := S.U) rfl (by omega) up (by omega) ln h3.next ws.length 0 h3 .aQ (by omega) gf q2 (h3.lt _ _ gf) (h3.lt _ _ q2) (vR _) wS.nil r3.KP (fun j hj => by simp [AV.id?] at hj)
 have k4' : Lp AP.A [0, 3, 8, 9] AP.f56L1 [(0, x), (3, .aE h.next 0), (8, .aQ), (9, .int .i64 0)] h3 = _ := k4
 have hnx : h.ez.next = h.next := rfl
 have fl : h4.floor = h.next := by rw [fl4, o3.floor, o2.floor, eh1]; simp
 refine u7 (fn := AP.f56) (h2 := h4) (e := [(2, o4)]) (vs := [o4]) rfl rfl rfl ?_ rfl ?_
 · clear k2 k3 k4 r0 r2 r3 ow4 rd EG ok up o2 o3 q5
   simp (disch := omega) only [go_sem, wG, AP.f56, hnx, ← eh1, th, k2', k3', k4']
 · exact ow4.yT (fl := h.next) (m := 14) (t := true) (by omega)
def B8 (u v : AV) : Prop := ∀ j, u.id? = some j → v.id? ≠ some j
theorem B8.symm {u v : AV} (a : B8 u v) : B8 v u := fun j h q => a j q h
def xu : Nat → List Int → List Int
 | _, [] => []
 | i, c :: r => if 0 < c then (i : Int) :: xu (i + 1) r else xu (i + 1) r
def zD : List Int → List Int
 | [] => []
 | c :: r => if 0 < c then c :: zD r else zD r
theorem wS.EG {h : H} {v : AV} {cs : List AV} (o : wS 1 h v cs.length cs) : Rd h v cs := ⟨o.rd.1, o.rd.2.2⟩
theorem wS.N3 {h : H} {v : AV} {l : List Int} (o : wS 1 h v l.length (ints l)) : Rd h v (ints l) := by
 refine wS.EG ?_
 rw [qy]; exact o
theorem Em {x mv : AV} {C : List Int} (hC : C.length < 1000) (hr : ∀ y ∈ C, 0 ≤ y ∧ y ≤ 2147483647) (h0 : H) (rd : Rd h0 x (ints C)) : ∀ (q p S W : List Int) (h : H) (sv wv : AV), C = p ++ q → Ext h0 h → h.floor = h0.next → h.floor ≤ h.next → wS 1 h sv S.length (ints S) → wS 1 h wv W.length (ints W) → B8 sv wv → S.length ≤ p.length → W.length ≤ p.length →
 ∃ h' sv' wv', Lp AP.A [0, 1, 6, 7, 8] AP.f30L3 [(0, x), (1, mv), (6, sv), (7, wv), (8, .int .i64 p.length)] h = some (.exit 0, [(0, x), (1, mv), (6, sv'), (7, wv'), (8, .int .i64 C.length), (33, .bool false)], h') ∧ wS 1 h' sv' (S ++ xu p.length q).length (ints (S ++ xu p.length q)) ∧ wS 1 h' wv' (W ++ zD q).length (ints (W ++ zD q)) ∧ B8 sv' wv' ∧ h'.floor = h.floor ∧ h'.floor ≤ h'.next
 | [], p, S, W, h, sv, wv, hp, hx, hf, hfl, os, ow, ap, hS, hW => by
   rw [Vm] at hp; subst hp
   have ln := rd.len
   rw [qy] at ln
   simp only [I] at ln
   refine ⟨h, sv, wv, ux ?_, by simpa [xu] using os, by simpa [zD] using ow, ap, rfl, hfl⟩
   simp (disch := omega) only [go_sem, wG, AP.f30L3, ln]
 | y :: q, p, S, W, h, sv, wv, hp, hx, hf, hfl, os, ow, ap, hS, hW => by
   have ln := rd.len
   rw [qy] at ln
   simp only [I] at ln
   have hl : C.length = p.length + (q.length + 1) := by rw [hp]; simp
   obtain ⟨ad, a1, a2⟩ := rd.xZ
   have b1 := a1 p.length ⟨by omega, by omega⟩
   have hyC : C[p.length]? = some y := by rw [hp]; simp
   have b2 := a2 h hx p.length y hyC
   have yr := hr y (vV hyC)
   have n1 : (((p ++ [y]).length : Nat) : Int) = (p.length : Int) + 1 := by simp
   have n2 : (p ++ [y]).length = p.length + 1 := by simp
   by_cases c : 0 < y
   · obtain ⟨v1, h1, p1, p2, p3, p4, p5, p6⟩ := os.push hfl (z := 8) (m := 1) (by omega) (by omega) [.int .i64 p.length] rfl rfl (yh (by omega))
     have ow1 : wS 1 h1 wv W.length (ints W) := ow.mono p3 fun j hj => p5 j (fun e => ap j e hj) (ow.lt hj).2
     have hx1 : Ext h0 h1 := fun i d hi => by
      have := h0.lt _ _ hi
      rw [p5 i (fun e => by have := (os.lt e).1; omega) (by omega), hx i d hi]
     have b3 := a2 h1 hx1 p.length y hyC
     obtain ⟨v2, h2, q1, q2, q3, q4, q5, q6⟩ := ow1.push (by omega) (z := 8) (m := 1) (by omega) (by omega) [.int .i64 y] rfl rfl (yh (by omega))
     have hx2 : Ext h0 h2 := fun i d hi => by
      have := h0.lt _ _ hi
      rw [q5 i (fun e => by have := (ow1.lt e).1; omega) (by omega), hx1 i d hi]
     have os2 : wS 1 h2 v1 (S ++ [(p.length : Int)]).length (ints (S ++ [(p.length : Int)])) := by
      rw [qx, wo]
      exact p2.mono (by omega) fun j hj => q5 j (fun e => by rw [p6] at hj; have := vG hj; have := (ow.lt e).2; omega) (p2.lt hj).2
     have ow2 : wS 1 h2 v2 (W ++ [y]).length (ints (W ++ [y])) := by rw [qx, wo]; exact q2
     obtain ⟨h', sv', wv', r1, r2, r3, r4, r5, r6⟩ := Em hC hr h0 rd q (p ++ [y]) (S ++ [(p.length : Int)]) (W ++ [y]) h2 v1 v2 (by rw [hp]; simp) hx2 (by omega) (by omega) os2 ow2 (fun j hj e => by rw [p6] at hj; rw [q6] at e; have := vG hj; have := vG e; omega) (by simp; omega) (by simp; omega)
     rw [xu, if_pos c, zD, if_pos c]
     rw [n2, Vb] at r2
     rw [Vb] at r3
     refine ⟨h', sv', wv', uy ?_ r1, r2, r3, r4, by omega, r6⟩
     rw [n1]
     clear r1 r2 r3 r4 os ow os2 ow2 ow1 hx hx1 hx2 rd a1 a2 hr p2 p5 q2 q5 ap
     simp (disch := omega) only [go_sem, wG, AP.f30L3, ln, b1, b2, b3, p1, q1]
   · obtain ⟨h', sv', wv', r1, r2, r3, r4, r5, r6⟩ := Em hC hr h0 rd q (p ++ [y]) S W h sv wv (by rw [hp]; simp) hx hf hfl os ow ap (by simp; omega) (by simp; omega)
     rw [xu, if_neg c, zD, if_neg c]
     rw [n2] at r2
     refine ⟨h', sv', wv', uy ?_ r1, r2, r3, r4, by omega, r6⟩
     rw [n1]
     clear r1 r2 r3 r4 os ow hx rd a1 a2 hr ap
     simp (disch := omega) only [go_sem, wG, AP.f30L3, ln, b1, b2]
def xh : List Int → List Int → List Int → List Int
 | s :: ss, d :: ds, o => xh ss ds (o.set s.toNat d)
 | _, _, o => o
theorem xP : ∀ (ss ds o : List Int), (xh ss ds o).length = o.length
 | [], _, o => by simp [xh]
 | s :: ss, [], o => by simp [xh]
 | s :: ss, d :: ds, o => by rw [xh, xP ss ds, Vi]
def AH : List Int → Int → Int
 | [], m => m
 | d :: ds, m => AH ds (GB m d)
theorem Ext.GR {hb h : H} {o : Nat} (x : Ext hb h) (hn : hb.get o = none) (c : List AV) : Ext hb (h.set o c) := fun i d q => by
 have : i ≠ o := fun e => by rw [e, hn] at q; cases q
 rw [wI this, x i d q]
theorem FN {mv wv dv sv : AV} {S D : List Int} {n oid : Nat} (hS : S.length < 1000) (hDS : D.length = S.length) (hn : n < 1000) (hr : ∀ s ∈ S, 0 ≤ s ∧ s < n) (hb : H) (rds : Rd hb sv (ints S)) (rdd : Rd hb dv (ints D)) (hno : hb.get oid = none) : ∀ (q p s1 s2 : List Int) (O : List Int) (m : Int) (h : H), D = p ++ q → S = s1 ++ s2 → s1.length = p.length → Ext hb h → O.length = n → h.get oid = some (ints O) → h.floor ≤ oid → (∀ d ∈ q, 0 ≤ d ∧ d < 1000) → 0 ≤ m →
 ∃ h', Lp AP.A [1, 6, 7, 9, 10, 11, 12] AP.f30L1 [(1, mv), (6, sv), (7, wv), (9, .aF oid 0 n 1), (10, dv), (11, .int .i64 m), (12, .int .i64 p.length)] h = some (.exit 4, [(1, mv), (6, sv), (7, wv), (9, .aF oid 0 n 1), (10, dv), (11, .int .i64 (AH q m)), (12, .int .i64 D.length), (103, .bool false)], h') ∧ h'.get oid = some (ints (xh s2 q O)) ∧ h'.floor = h.floor ∧ h'.next = h.next ∧ (∀ i, i ≠ oid → h'.get i = h.get i)
 | [], p, s1, s2, O, m, h, hp, hs, hl, hx, hO, go, hfo, hd, hm => by
   rw [Vm] at hp; subst hp
   have ln := rdd.len
   rw [qy] at ln
   simp only [I] at ln
   have e : xh s2 [] O = O := by cases s2 <;> rfl
   rw [e]
   refine ⟨h, ux ?_, go, rfl, rfl, fun _ _ => rfl⟩
   rw [AH]
   simp (disch := omega) only [go_sem, wG, AP.f30L1, ln]
 | d :: q, p, s1, s2, O, m, h, hp, hs, hl, hx, hO, go, hfo, hd, hm => by
   have ln := rdd.len
   rw [qy] at ln
   simp only [I] at ln
   have hDl : D.length = p.length + (q.length + 1) := by rw [hp]; simp
   have hSl : S.length = s1.length + s2.length := by rw [hs]; simp
   obtain ⟨s, s2, rfl⟩ : ∃ s r, s2 = s :: r := by
    cases s2 with
    | nil => simp at hSl; omega
    | cons s r => exact ⟨s, r, rfl⟩
   have dr := hd d (by simp)
   have hs' : S[p.length]? = some s := by rw [hs, ← hl]; simp
   have sr := hr s (vV hs')
   obtain ⟨sn, rfl⟩ := U9 sr.1
   obtain ⟨as, a1, a2⟩ := rds.xZ
   obtain ⟨ad, d1, d2⟩ := rdd.xZ
   have b1 := a1 p.length ⟨by omega, by omega⟩
   have b2 := a2 h hx p.length _ hs'
   have c1 := d1 p.length ⟨by omega, by omega⟩
   have c2 := d2 h hx p.length d (by rw [hp]; simp)
   have lO : (ints O).length = n := by rw [qy, hO]
   have es := xS O sn d
   have tsn : ((sn : Nat) : Int).toNat = sn := by omega
   have fr' : ∀ i, i ≠ oid → (h.set oid (ints (O.set sn d))).get i = h.get i := fun i hi => wI hi
   have hx2 := hx.GR hno (ints (O.set sn d))
   have gO : (h.set oid (ints (O.set sn d))).get oid = some (ints (O.set sn d)) := by rw [wV rfl, go]; rfl
   obtain ⟨h', k1, k2, k3, k4, k5⟩ := FN hS hDS hn hr hb rds rdd hno q (p ++ [d]) (s1 ++ [(sn : Int)]) s2 (O.set sn d) (GB m d) (h.set oid (ints (O.set sn d))) (by rw [hp]; simp) (by rw [hs]; simp) (by simp [hl]) hx2 (by rw [Vi, hO]) gO (by simpa using hfo) (fun e he => hd e (by simp [he])) (by unfold GB; split <;> omega)
   have b1' : gG 1 dv (.int .i64 p.length) = some (ad p.length) := c1
   have c3 : cJ false 1 (ad p.length) (h.set oid (ints (O.set sn d))) = some (.int .i64 d) := d2 _ hx2 p.length d (by rw [hp]; simp)
   have n1 : (((p ++ [d]).length : Nat) : Int) = (p.length : Int) + 1 := by simp
   rw [xh, tsn, AH]
   refine ⟨h', uy ?_ k1, k2, by rw [k3]; simp, by rw [k4]; simp, fun i hi => (k5 i hi).trans (fr' i hi)⟩
   rw [n1]
   have snn : sn < n := by omega
   clear k1 k2 k3 k4 k5 fr' hx hx2 rds rdd a1 a2 d1 d2 hd hr hs hp hs'
   generalize ints (O.set sn d) = O2 at *
   generalize ints O = O1 at *
   simp (disch := omega) only [go_sem, wG, AP.f30L1, ln, b1, b2, c1, c2, c3, go, lO, es, Qo, MK]
def Bv (w : Int) : Int := (w + 1) / 2
def xz (ws : List Int) : List Int := ws.map Bv
theorem zg (ws : List Int) : (xz ws).length = ws.length := by simp [xz]
theorem Fs {mv sv ov : AV} {n wid : Nat} (hn : n < 1000) : ∀ (q p : List Int) (h : H), p.length + q.length = n → (∀ y ∈ q, 0 ≤ y ∧ y < 1000000000000) → h.get wid = some (ints (xz p ++ q)) → h.floor ≤ wid → h.floor ≤ h.next →
 ∃ h', Lp AP.A [1, 6, 7, 9, 13] AP.f30L0 [(1, mv), (6, sv), (7, .aF wid 0 n 1), (9, ov), (13, .int .i64 p.length)] h = some (.exit 6, [(1, mv), (6, sv), (7, .aF wid 0 n 1), (9, ov), (13, .int .i64 n), (129, .bool false)], h') ∧ h'.get wid = some (ints (xz (p ++ q))) ∧ h'.floor = h.floor ∧ h'.next = h.next ∧ (∀ i, i ≠ wid → h'.get i = h.get i)
 | [], p, h, hl, hr, hg, hf, hfl => by
   obtain rfl : p.length = n := by simpa using hl
   refine ⟨h, ux ?_, by simpa using hg, rfl, rfl, fun _ _ => rfl⟩
   simp (disch := omega) only [go_sem, wG, AP.f30L0]
 | y :: q, p, h, hl, hr, hg, hf, hfl => by
   have yr := hr y (by simp)
   simp only [UZ] at hl
   have n1 : (((p ++ [y]).length : Nat) : Int) = (p.length : Int) + 1 := by simp
   have hp : (xz p).length = p.length := zg p
   have ix : (ints (xz p ++ y :: q))[p.length]? = some (.int .i64 y) := tU (by rw [Vj (by omega), hp]; simp)
   have il : (ints (xz p ++ y :: q)).length = n := by rw [qy, wo, hp, UZ]; omega
   have st : (ints (xz p ++ y :: q)).set p.length (.int .i64 (Bv y)) = ints (xz (p ++ [y]) ++ q) := by
    rw [xS, List.set_append_right _ _ (by omega), hp, Nat.sub_self]
    simp [xz]
   have q1 : bw .quo (.int .i64 (y + 1)) (.int .i64 2) = some (.int .i64 (Bv y)) := by
    rw [sV _ _ _ (by omega), Int.tdiv_eq_ediv_of_nonneg (by omega), wi (by omega)]; rfl
   have g2 : (h.set wid (ints (xz (p ++ [y]) ++ q))).get wid = some (ints (xz (p ++ [y]) ++ q)) := by rw [wV rfl, hg]; rfl
   obtain ⟨h', k1, k2, k3, k4, k5⟩ := Fs (mv := mv) (sv := sv) (ov := ov) hn q (p ++ [y]) (h.set wid (ints (xz (p ++ [y]) ++ q))) (by simp; omega) (fun e he => hr e (by simp [he])) g2 (by simpa using hf) (by simpa using hfl)
   refine ⟨h', uy ?_ k1, by rw [k2]; simp, by rw [k3]; simp, by rw [k4]; simp, fun i hi => by rw [k5 i hi, wI hi]⟩
   rw [n1]
   clear k1 k2 k3 k4 k5 g2 hr
   generalize ints (xz p ++ y :: q) = A at *
   generalize ints (xz (p ++ [y]) ++ q) = B at *
   simp (disch := omega) only [go_sem, wG, AP.f30L0, ix, il, st, q1, hg]
def FQ (ws : List Int) : Prop := ws = [] ∨ (1 ≤ ws.length ∧ ws.length ≤ 288 ∧ (∀ k, k < ws.length - 1 → (FS.y7 k (Ay ws)).ok) ∧ E9 (FS.y7 (ws.length - 1) (Ay ws)).U ∧ (FS.y7 (ws.length - 1) (Ay ws)).U.length = (FS.y7 (ws.length - 1) (Ay ws)).W.length)
theorem JU (U : List Int) : ∀ (m : Nat) (j : Int), Af U m j ≤ m
 | 0, j => vR _
 | m + 1, j => by
   rw [Af]
   split
   · have := JU U m (U.getD j.toNat (-1)); omega
   · omega
theorem Dh {ws : List Int} (o : FQ ws) : ∀ d ∈ wM ws, 0 ≤ d ∧ d < 1000 := by
 intro d hd
 rcases o with rfl | ⟨h1, h2, _, _, h5⟩
 · simp [wM, CY] at hd
 · unfold wM CY at hd
   obtain ⟨i, _, rfl⟩ := Vl.1 hd
   have := JU (FS.y7 (ws.length - 1) (Ay ws)).U (FS.y7 (ws.length - 1) (Ay ws)).U.length ((FS.y7 (ws.length - 1) (Ay ws)).U.getD i (-1))
   rw [h5, FS.AR] at this
   rw [h5, FS.AR]
   have : (Ay ws).W.length = ws.length := rfl
   omega
theorem AN (ws : List Int) : (wM ws).length = ws.length := Ld _ _
theorem Kc (h : H) (x : AV) (ws : List Int) (rd : Rd h x (ints ws)) (o : FQ ws) : aS AP.A 56 [x] h = some (AK 1 ws.length (ints (wM ws)), h) := by
 rcases o with rfl | ⟨h1, h2, h3, h4, h5⟩
 · have ln := rd.len
   simp only [I, qy] at ln
   have ln' : jy false x = some (.int .i64 0) := ln
   have l3 : ∀ g : H, Lp AP.A [0, 3, 4] AP.f56L3 [(0, x), (3, .aE h.next 0), (4, .int .i64 0)] g = some (.exit 0, [(0, x), (3, .aE h.next 0), (4, .int .i64 0), (17, .bool false)], g) := fun g => by
    refine ux ?_
    simp (disch := omega) only [go_sem, wG, AP.f56L3, ln']
   have l2 : ∀ g : H, Lp AP.A [0, 3, 5] AP.f56L2 [(0, x), (3, .aE h.next 0), (5, .int .i64 1)] g = some (.exit 2, [(0, x), (3, .aE h.next 0), (5, .int .i64 1), (29, .bool false)], g) := fun g => by
    refine ux ?_
    simp (disch := omega) only [go_sem, wG, AP.f56L2, ln']
   have l1 : ∀ g : H, Lp AP.A [0, 3, 8, 9] AP.f56L1 [(0, x), (3, .aE h.next 0), (8, .aQ), (9, .int .i64 0)] g = some (.exit 4, [(0, x), (3, .aE h.next 0), (8, .aQ), (9, .int .i64 0), (78, .bool false)], g) := fun g => by
    refine ux ?_
    simp (disch := omega) only [go_sem, wG, AP.f56L1, ln']
   have hnx : h.ez.next = h.next := rfl
   refine u7 (fn := AP.f56) (h2 := h.ez.alloc [.aQ, .aQ, .aQ]) (e := [(2, .aQ)]) (vs := [.aQ]) rfl rfl rfl ?_ rfl rfl
   simp (disch := omega) only [go_sem, wG, AP.f56, hnx, th, l1, l2, l3]
 · exact Le h x ws h1 (by omega) rd h3 h4 h5
def Bw (S : List Int) : Nat → List Int → List Int → List Int
 | 0, W, O => xh S (wM W) O
 | K + 1, W, O => Bw S K (xz W) (xh S (wM W) O)
theorem Iy {h : H} {v : AV} {k : Nat} {cs : List AV} (o : wS 1 h v k cs) (hk : 0 < k) : ∃ id, v = .aF id 0 k 1 ∧ h.get id = some cs ∧ h.floor ≤ id := by
 rcases o.2 with ⟨_, q⟩ | ⟨id, q1, q2, q3, _⟩
 · omega
 · exact ⟨id, q1, q2, q3⟩
theorem LN {S W O : List Int} {h : H} {sv wv : AV} {n oid : Nat} {most : Int} (hW : W.length = S.length) (hS : S.length ≤ 288) (hn : n ≤ 288) (hO : O.length = n) (hr : ∀ s ∈ S, 0 ≤ s ∧ s < n) (hfl : h.floor ≤ h.next) (os : wS 1 h sv S.length (ints S)) (ow : wS 1 h wv W.length (ints W)) (go : h.get oid = some (ints O)) (hfo : h.floor ≤ oid) (ap : B8 sv wv) (ns : sv.id? ≠ some oid) (nw : wv.id? ≠ some oid) (o : FQ W) (hm : 1 ≤ most ∧ most ≤ 15) (wr : ∀ y ∈ W, 0 ≤ y ∧ y < 1000000000000) :
 (AH (wM W) 0 ≤ most → ∃ h', aM (aS AP.A) bG AP.f30L2 (ay [(1, .int .i64 most), (6, sv), (7, wv), (9, .aF oid 0 n 1)] [1, 6, 7, 9]) h = some (.ret, [(4, .aF oid 0 n 1), (5, .int .i64 0)], h') ∧ h'.get oid = some (ints (xh S (wM W) O)) ∧ h'.floor = h.floor) ∧
 (most < AH (wM W) 0 → W ≠ [] → ∃ h', aM (aS AP.A) bG AP.f30L2 (ay [(1, .int .i64 most), (6, sv), (7, wv), (9, .aF oid 0 n 1)] [1, 6, 7, 9]) h = some (.normal, [(1, .int .i64 most), (6, sv), (7, wv), (9, .aF oid 0 n 1)], h') ∧ h'.get oid = some (ints (xh S (wM W) O)) ∧ wS 1 h' sv S.length (ints S) ∧ wS 1 h' wv (xz W).length (ints (xz W)) ∧ h'.floor = h.floor ∧ h'.floor ≤ h'.next) := by
 have k1 := Kc h wv W ow.N3 o
 have dl := AN W
 have dr := Dh o
 obtain ⟨D, eD⟩ : ∃ D, D = wM W := ⟨_, rfl⟩
 rw [← eD] at k1 dl dr ⊢
 obtain ⟨hb, ehb⟩ : ∃ g, g = h.del oid := ⟨_, rfl⟩
 have hbn : hb.get oid = none := by rw [ehb, H.eI, if_pos rfl]
 have ext : Ext hb h := fun i c q => by
  rw [ehb, H.eI] at q
  split at q
  · cases q
  · exact q
 have hbk : ∀ i, i ≠ oid → hb.get i = h.get i := fun i hi => by rw [ehb, H.eI, if_neg hi]
 have rs : Rd hb sv (ints S) := (os.mono (by rw [ehb]; simp) fun i q => hbk i (fun e => ns (by rw [q, e]))).N3
 have rdd : Rd hb (AK 1 W.length (ints D)) (ints D) := by
  have := GQ (n := 1) (k := D.length) (h := hb) (cs := ints D) (by rw [qy]; omega)
  rw [dl] at this
  exact ⟨by have := this.1; rw [qy, dl]; exact this, this.2.2⟩
 obtain ⟨h1, L1, g1, f1, n1, t1⟩ := FN (mv := .int .i64 most) (wv := wv) (O := O) (oid := oid) (h := h) (s1 := []) (p := []) (q := D) (s2 := S) (m := 0) (by omega) (dl.trans hW) (by omega) hr hb rs rdd hbn rfl rfl rfl ext hO go hfo dr (by omega)
 have L1' : Lp AP.A [1, 6, 7, 9, 10, 11, 12] AP.f30L1 [(1, .int .i64 most), (6, sv), (7, wv), (9, .aF oid 0 n 1), (10, AK 1 W.length (ints D)), (11, .int .i64 0), (12, .int .i64 0)] h = _ := L1
 constructor
 · intro c
   refine ⟨h1, ?_, g1, f1⟩
   clear L1 rs rdd os ow dr hr wr
   generalize AK 1 W.length (ints D) = dv at *
   generalize AH D 0 = M at *
   simp (disch := omega) only [go_sem, wG, AP.f30L2, k1, th, L1', U7 c]
 · intro c hne
   have hWp : 0 < W.length := List.length_pos_iff.2 hne
   obtain ⟨wid, q1, q2, q3⟩ := Iy ow hWp
   have hwo : wid ≠ oid := fun e => nw (by rw [q1, e]; rfl)
   have hsw : ∀ j, sv.id? = some j → j ≠ wid := fun j hj e => ap j hj (by rw [q1, e]; rfl)
   obtain ⟨h2, L2, g2, f2, n2, t2⟩ := Fs (mv := .int .i64 most) (sv := sv) (ov := .aF oid 0 n 1) (n := W.length) (wid := wid) (by omega) W [] h1 (by simp) wr (by rw [t1 wid hwo, q2]; rfl) (by omega) (by omega)
   have L2' : Lp AP.A [1, 6, 7, 9, 13] AP.f30L0 [(1, .int .i64 most), (6, sv), (7, .aF wid 0 W.length 1), (9, .aF oid 0 n 1), (13, .int .i64 0)] h1 = _ := L2
   have os2 : wS 1 h2 sv S.length (ints S) := os.mono (by omega) fun j hj => by
    rw [t2 j (hsw j hj), t1 j (fun e => ns (by rw [hj, e]))]
   have ow2 : wS 1 h2 wv (xz W).length (ints (xz W)) := by
    rw [zg]
    exact ⟨by rw [qy, zg]; omega, .inr ⟨wid, q1, by simpa using g2, by omega, hWp⟩⟩
   refine ⟨h2, ?_, by rw [t2 oid hwo.symm, g1], os2, ow2, by omega, by omega⟩
   clear L1 L2 rs rdd os ow os2 ow2 dr hr wr
   rw [q1] at L1' k1 ⊢
   have c' : ¬ AH D 0 ≤ most := by omega
   generalize AK 1 W.length (ints D) = dv at *
   generalize AH D 0 = M at *
   simp (disch := omega) only [go_sem, wG, AP.f30L2, k1, th, L1', L2', U5 c']
inductive yH (most : Int) : Nat → List Int → Prop
 | last {W : List Int} : FQ W → AH (wM W) 0 ≤ most → yH most 0 W
 | more {K : Nat} {W : List Int} : FQ W → most < AH (wM W) 0 → W ≠ [] → yH most K (xz W) → yH most (K + 1) W
theorem Ki {W : List Int} (wr : ∀ y ∈ W, 0 ≤ y ∧ y < 1000000000000) : ∀ y ∈ xz W, 0 ≤ y ∧ y < 1000000000000 := by
 intro y hy
 obtain ⟨z, hz, rfl⟩ := Vl.1 hy
 have := wr z hz
 unfold Bv; omega
theorem JC {S : List Int} {sv wv : AV} {n oid : Nat} {most : Int} (hS : S.length ≤ 288) (hn : n ≤ 288) (hr : ∀ s ∈ S, 0 ≤ s ∧ s < n) (ap : B8 sv wv) (ns : sv.id? ≠ some oid) (nw : wv.id? ≠ some oid) (hm : 1 ≤ most ∧ most ≤ 15) : ∀ (K : Nat) (W O : List Int) (h : H), yH most K W → W.length = S.length → O.length = n → h.floor ≤ h.next → wS 1 h sv S.length (ints S) → wS 1 h wv W.length (ints W) → h.get oid = some (ints O) → h.floor ≤ oid → (∀ y ∈ W, 0 ≤ y ∧ y < 1000000000000) →
 ∃ h', Lp AP.A [1, 6, 7, 9] AP.f30L2 [(1, .int .i64 most), (6, sv), (7, wv), (9, .aF oid 0 n 1)] h = some (.ret, [(4, .aF oid 0 n 1), (5, .int .i64 0)], h') ∧ h'.get oid = some (ints (Bw S K W O)) ∧ h'.floor = h.floor
 | 0, W, O, h, r, hW, hO, hfl, os, ow, go, hfo, wr => by
   cases r with
   | last o c =>
     obtain ⟨h', k, g, f⟩ := (LN hW hS hn hO hr hfl os ow go hfo ap ns nw o hm wr).1 c
     exact ⟨h', uT k, g, f⟩
 | K + 1, W, O, h, r, hW, hO, hfl, os, ow, go, hfo, wr => by
   cases r with
   | more o c hne r =>
     obtain ⟨h1, k, g, os1, ow1, f, fl⟩ := (LN hW hS hn hO hr hfl os ow go hfo ap ns nw o hm wr).2 c hne
     obtain ⟨h', k2, g2, f2⟩ := JC hS hn hr ap ns nw hm K (xz W) _ h1 r (by rw [zg, hW]) (by rw [xP, hO]) fl os1 ow1 g (by omega) (Ki wr)
     exact ⟨h', uy k k2, g2, by omega⟩
def zM (S : List Int) : List Int := if S.length = 1 then (if 0 < S.getD 0 0 then [0, S.getD 0 0] else S ++ [1]) else S
def Bp (S W : List Int) : List Int := if S.length = 1 then (if 0 < S.getD 0 0 then [1, W.getD 0 0] else W ++ [1]) else W
theorem Ny {S W : List Int} (h : W.length = S.length) : (Bp S W).length = (zM S).length := by
 unfold Bp zM
 split
 · split
   · rfl
   · simp [h]
 · exact h
theorem Ux {x : AV} {most : Int} {S W : List Int} {h : H} {sv wv : AV} (hl : W.length = S.length) (hS : S.length ≤ 288) (hfl : h.floor ≤ h.next) (os : wS 1 h sv S.length (ints S)) (ow : wS 1 h wv W.length (ints W)) (ap : B8 sv wv) :
 ∃ h' sv' wv', aM (aS AP.A) bG (at_ 4 AP.f30.body) [(0, x), (1, .int .i64 most), (6, sv), (7, wv)] h = some (.normal, [(0, x), (1, .int .i64 most), (6, sv'), (7, wv')], h') ∧ wS 1 h' sv' (zM S).length (ints (zM S)) ∧ wS 1 h' wv' (Bp S W).length (ints (Bp S W)) ∧ B8 sv' wv' ∧ h'.floor = h.floor ∧ h'.floor ≤ h'.next := by
 have ln := os.rd.len
 by_cases c1 : S.length = 1
 · obtain ⟨s0, rfl⟩ : ∃ s, S = [s] := by
    match S, c1 with
    | [s], _ => exact ⟨s, rfl⟩
   obtain ⟨w0, rfl⟩ : ∃ s, W = [s] := by
    match W, hl with
    | [s], _ => exact ⟨s, rfl⟩
   obtain ⟨sid, q1, q2, q3⟩ := Iy os (by simp)
   obtain ⟨wid, p1, p2, p3⟩ := Iy ow (by simp)
   simp only [UZ, U4, ints, Ve, VD, I] at q1 q2 p1 p2
   subst q1
   subst p1
   by_cases c2 : 0 < s0
   · have e1 : zM [s0] = [0, s0] := by simp [zM, c2]
     have e2 : Bp [s0] [w0] = [1, w0] := by simp [Bp, c2]
     rw [e1, e2]
     refine ⟨(h.alloc [.int .i64 0, .int .i64 s0]).alloc [.int .i64 1, .int .i64 w0], .aF h.next 0 2 1, .aF (h.next + 1) 0 2 1, ?_, ⟨rfl, .inr ⟨h.next, rfl, ?_, by simpa using hfl, by simp⟩⟩, ⟨rfl, .inr ⟨h.next + 1, rfl, ?_, by simp; omega, by simp⟩⟩, ?_, by simp, by simp; omega⟩
     · have w2 := h.lt _ _ p2
       simp (disch := first | omega | (simp only [xe, UZ, U4, vW, Nat.reduceAdd]; first | done | omega | fail) | (simp (disch := first | omega | (simp only [xe, UZ, U4, vW, Nat.reduceAdd]; first | done | omega | fail) | fail) only [xe, Aa, U8, UZ, U4, vW, Nat.reduceAdd]; done) | fail) only [go_sem, wG, Au, AP.f30, q2, p2, U7 c2]
     · rw [w9 (by simp), wO rfl]; rfl
     · rw [wO (by simp)]; rfl
     · intro j hj e; have := vG hj; have := vG e; omega
   · have e1 : zM [s0] = [s0, 1] := by simp [zM, c2]
     have e2 : Bp [s0] [w0] = [w0, 1] := by simp [Bp, c2]
     rw [e1, e2]
     obtain ⟨v1, h1, a1, a2, a3, a4, a5, a6⟩ := os.push hfl (z := 8) (m := 1) (by omega) (by omega) [.int .i64 1] rfl rfl (yh (by simp))
     have ow1 : wS 1 h1 (.aF wid 0 1 1) 1 (ints [w0]) := ow.mono a3 fun j hj => a5 j (fun e => ap j e hj) (ow.lt hj).2
     obtain ⟨v2, h2, b1, b2, b3, b4, b5, b6⟩ := ow1.push (by omega) (z := 8) (m := 1) (by omega) (by omega) [.int .i64 1] rfl rfl (yh (by simp))
     refine ⟨h2, v1, v2, ?_, ?_, b2, fun j hj e => by rw [a6] at hj; rw [b6] at e; have := vG hj; have := vG e; omega, by omega, by omega⟩
     · clear os ow ow1 ap a2 b2 a5 b5
       simp only [UZ, U4] at a1 b1 ln
       simp (disch := omega) only [go_sem, wG, AP.f30, xR, xV, ln, q2, p2, a1, b1, U5 c2]
     · exact a2.mono b3 fun j hj => b5 j (fun e => by rw [a6] at hj; have := vG hj; have := vG e; have := h.lt _ _ p2; omega) (a2.lt hj).2
 · have e1 : zM S = S := by simp [zM, c1]
   have e2 : Bp S W = W := by simp [Bp, c1]
   rw [e1, e2]
   refine ⟨h, sv, wv, ?_, os, ow, ap, rfl, hfl⟩
   have c1' : ¬ ((S.length : Int) = 1) := by omega
   clear os ow ap
   simp (disch := omega) only [go_sem, wG, AP.f30, xR, xV, ln]
theorem yA : ∀ (i : Nat) (C : List Int), (xu i C).length = (zD C).length
 | i, [] => rfl
 | i, c :: r => by
   rw [xu, zD]
   split
   · simp [yA (i + 1) r]
   · exact yA (i + 1) r
theorem zO : ∀ (i : Nat) (C : List Int), (xu i C).length ≤ C.length
 | i, [] => vR _
 | i, c :: r => by
   have := zO (i + 1) r
   rw [xu]
   split <;> simp <;> omega
theorem yU : ∀ (i : Nat) (C : List Int), ∀ s ∈ xu i C, (i : Int) ≤ s ∧ s < i + C.length
 | i, [], s, h => by simp [xu] at h
 | i, c :: r, s, h => by
   rw [xu] at h
   split at h
   · rcases wj.1 h with q | q
     · subst q; simp; omega
     · have := yU (i + 1) r s q; simp only [UZ]; omega
   · have := yU (i + 1) r s h; simp only [UZ]; omega
theorem Ah : ∀ (C : List Int), ∀ y ∈ zD C, y ∈ C ∧ 0 < y
 | [], y, h => by simp [zD] at h
 | c :: r, y, h => by
   rw [zD] at h
   split at h
   · rcases wj.1 h with q | q
     · subst q; exact ⟨by simp, by assumption⟩
     · have := Ah r y q; exact ⟨by simp [this.1], this.2⟩
   · have := Ah r y h; exact ⟨by simp [this.1], this.2⟩
theorem H2 {S : List Int} {n : Nat} (hn : 2 ≤ n) (h : ∀ s ∈ S, 0 ≤ s ∧ s < n) : ∀ s ∈ zM S, 0 ≤ s ∧ s < n := by
 intro s hs
 unfold zM at hs
 split at hs
 · split at hs
   · rename_i h1 h2
     rcases wj.1 hs with q | q
     · subst q; omega
     · simp at q
       subst q
       match S, h1 with
       | [t], _ => exact h t (by simp)
   · rcases Vq.1 hs with q | q
     · exact h s q
     · simp at q; subst q; omega
 · exact h s hs
theorem L6 {S W : List Int} (hl : W.length = S.length) (h : ∀ y ∈ W, 0 ≤ y ∧ y < 1000000000000) : ∀ y ∈ Bp S W, 0 ≤ y ∧ y < 1000000000000 := by
 intro s hs
 unfold Bp at hs
 split at hs
 · split at hs
   · rename_i h1 h2
     rcases wj.1 hs with q | q
     · subst q; omega
     · simp at q
       subst q
       rw [← hl] at h1
       match W, h1 with
       | [t], _ => exact h t (by simp)
   · rcases Vq.1 hs with q | q
     · exact h s q
     · simp at q; subst q; omega
 · exact h s hs
theorem Ds {S : List Int} {n : Nat} (hn : 2 ≤ n) (h : S.length ≤ n) : (zM S).length ≤ n := by
 unfold zM
 split
 · split
   · simpa using hn
   · simp; omega
 · exact h
theorem zr (n : Nat) : yd n [.int .i64 0] = ints (List.replicate n 0) := by
 unfold yd; rw [EH]; simp [ints, I]
def xi (C : List Int) : List Int := zM (xu 0 C)
def xI (C : List Int) : List Int := Bp (xu 0 C) (zD C)
theorem GA (C : List Int) : (xI C).length = (xi C).length := Ny (yA 0 C).symm
def xC (C : List Int) (K : Nat) : List Int := Bw (xi C) K (xI C) (List.replicate C.length 0)
theorem BT (h : H) (x : AV) (C : List Int) (m K : Nat) (h2 : 2 ≤ C.length) (hn : C.length ≤ 288) (rd : Rd h x (ints C)) (hm : 1 ≤ m ∧ m ≤ 15) (hr : ∀ y ∈ C, 0 ≤ y ∧ y ≤ 2147483647) (hs : (xi C).length ≤ 2 ^ m) (ro : yH m K (xI C)) :
 aS AP.A 30 [x, .int .i64 m] h = some (.bU [AK 1 C.length (ints (xC C K)), .int .i64 0], h) := by
 have EG : Rd h.ez x (ints C) := rd.mono (wK h)
 have ln := rd.len
 rw [qy] at ln
 simp only [I] at ln
 obtain ⟨h1, sv, wv, L1, os, ow, ap, f1, fl1⟩ := Em (mv := .int .i64 m) (by omega) hr h.ez EG C [] [] [] h.ez .aQ .aQ rfl (Ext.refl _) rfl (by simp) wS.nil wS.nil (fun j hj => by simp [AV.id?] at hj) (by simp) (by simp)
 have L1' : Lp AP.A [0, 1, 6, 7, 8] AP.f30L3 [(0, x), (1, .int .i64 m), (6, .aQ), (7, .aQ), (8, .int .i64 0)] h.ez = _ := L1
 simp only [List.nil_append, U4] at os ow
 have sl := zO 0 C
 obtain ⟨h2', sv2, wv2, P, os2, ow2, ap2, f2, fl2⟩ := Ux (x := x) (most := m) (yA 0 C).symm (by omega) fl1 os ow ap
 change wS 1 h2' sv2 (xi C).length (ints (xi C)) at os2
 change wS 1 h2' wv2 (xI C).length (ints (xI C)) at ow2
 have hSl : (xi C).length ≤ C.length := Ds h2 sl
 have hSr : ∀ s ∈ xi C, 0 ≤ s ∧ s < C.length := H2 h2 fun s hs => by have := yU 0 C s hs; omega
 have hWr : ∀ y ∈ xI C, 0 ≤ y ∧ y < 1000000000000 := L6 (yA 0 C).symm fun y hy => by
  have := hr y (Ah C y hy).1; omega
 have hWS := GA C
 obtain ⟨h3, eh3⟩ : ∃ g, g = h2'.alloc (yd C.length [.int .i64 0]) := ⟨_, rfl⟩
 have g3 : h3.get h2'.next = some (ints (List.replicate C.length 0)) := by rw [eh3, wO rfl, zr]
 have os3 : wS 1 h3 sv2 (xi C).length (ints (xi C)) := os2.mono (by rw [eh3]; simp) fun j hj => by rw [eh3, w9 (by have := (os2.lt hj).2; omega)]
 have ow3 : wS 1 h3 wv2 (xI C).length (ints (xI C)) := ow2.mono (by rw [eh3]; simp) fun j hj => by rw [eh3, w9 (by have := (ow2.lt hj).2; omega)]
 have fl3 : h3.floor = h.next := by rw [eh3]; simp [f2, f1]
 obtain ⟨h4, L4, g4, f4⟩ := JC (n := C.length) (oid := h2'.next) (most := m) (by omega) hn hSr ap2 (fun q => by have := (os2.lt q).2; omega) (fun q => by have := (ow2.lt q).2; omega) (by omega) K (xI C) (List.replicate C.length 0) h3 ro hWS (by simp) (by rw [eh3]; simp; omega) os3 ow3 g3 (by rw [eh3]; simp; omega) hWr
 have s1 : qe .shl .i64 1 (m : Int) = some (.int .i64 ((2 ^ m : Nat) : Int)) := by
  have := ze (a := 1) (s := m) (by omega) (by
   have : 2 ^ m ≤ 2 ^ 15 := Vd (by omega) hm.2
   omega)
  rwa [Nat.one_mul] at this
 have lS : jy false sv2 = some (.int .i64 (xi C).length) := os2.rd.len
 have t5 : aM (aS AP.A) bG (MG 5 AP.f30.body) [(0, x), (1, .int .i64 m), (6, sv2), (7, wv2)] h2' = some (.ret, [(4, .aF h2'.next 0 C.length 1), (5, .int .i64 0)], h4) := by
  clear os ow os2 ow2 os3 ow3 rd EG hSr hWr ro hr L1 P
  generalize 2 ^ m = M at *
  generalize (xi C).length = sL at *
  simp (disch := omega) only [go_sem, wG, AP.f30, NI, NH, lS, s1, ln, ← eh3, th, L4]
 have lo : (xC C K).length = C.length := by
  unfold xC
  have : ∀ (K : Nat) (S W O : List Int), (Bw S K W O).length = O.length := by
   intro K
   induction K with
   | zero => intro S W O; rw [Bw, xP]
   | succ K ih => intro S W O; rw [Bw, ih, xP]
  rw [this]; simp
 have ow4 : wS 1 h4 (.aF h2'.next 0 C.length 1) C.length (ints (xC C K)) := ⟨by rw [qy, lo]; omega, .inr ⟨h2'.next, rfl, g4, by rw [f4, fl3]; have := fl2; rw [f2, f1] at this; simpa using this, by omega⟩⟩
 refine u7 (fn := AP.f30) (h2 := h4) (e := [(4, .aF h2'.next 0 C.length 1), (5, .int .i64 0)]) (vs := [.aF h2'.next 0 C.length 1, .int .i64 0]) rfl rfl rfl ?_ rfl ?_
 · have hb : AP.f30.body = .seq (at_ 0 AP.f30.body) (.seq (at_ 1 AP.f30.body) (.seq (at_ 2 AP.f30.body) (.seq (at_ 3 AP.f30.body) (.seq (at_ 4 AP.f30.body) (MG 5 AP.f30.body))))) := rfl
   have a0 : aM (aS AP.A) bG (at_ 0 AP.f30.body) (params 0 [x, .int .i64 m]) h.ez = some (.normal, [(0, x), (1, .int .i64 m)], h.ez) := by
    simp (disch := omega) only [go_sem, wG, AP.f30, xR, xV]
   have a1 : aM (aS AP.A) bG (at_ 1 AP.f30.body) [(0, x), (1, .int .i64 m)] h.ez = some (.normal, [(0, x), (1, .int .i64 m)], h.ez) := by
    clear os ow os2 ow2 os3 ow3 rd EG hSr hWr ro hr L1 P t5
    simp (disch := omega) only [go_sem, wG, AP.f30, xR, xV, ln]
   have a2 : aM (aS AP.A) bG (at_ 2 AP.f30.body) [(0, x), (1, .int .i64 m)] h.ez = some (.normal, [(0, x), (1, .int .i64 m), (6, .aQ), (7, .aQ)], h.ez) := by
    simp (disch := omega) only [go_sem, wG, AP.f30, xR, xV]
   have a3 : aM (aS AP.A) bG (at_ 3 AP.f30.body) [(0, x), (1, .int .i64 m), (6, .aQ), (7, .aQ)] h.ez = some (.normal, [(0, x), (1, .int .i64 m), (6, sv), (7, wv)], h1) := by
    simp (disch := omega) only [go_sem, wG, AP.f30, xR, xV, th, L1']
   rw [hb, sS, a0, tP, sS, a1, tP, sS, a2, tP, sS, a3, tP, sS, P, tP, t5]
 · have s1 := ow4.yT (fl := h.next) (m := 13) (t := true) (by omega)
   show (fV (snap h4.get h.next 15 true) [.aF h2'.next 0 C.length 1, .int .i64 0]).bind _ = _
   simp only [fV, s1, vO]
   rfl
theorem Ei (W : List Int) (F : List Bool) : ∀ (m i : Nat) (a : Int), (a = -1 ∧ (∀ j, j < i → F.getD j false = false)) ∨ (∃ k : Nat, a = k ∧ k < i ∧ F.getD k false = true ∧ ∀ j, j < i → F.getD j false = true → W.getD k 0 ≤ W.getD j 0) →
 (xF W F m i a = -1 ∧ (∀ j, j < i + m → F.getD j false = false)) ∨ (∃ k : Nat, xF W F m i a = k ∧ k < i + m ∧ F.getD k false = true ∧ ∀ j, j < i + m → F.getD j false = true → W.getD k 0 ≤ W.getD j 0)
 | 0, i, a, h => by simpa [xF] using h
 | m + 1, i, a, h => by
   rw [xF]
   have e : i + (m + 1) = i + 1 + m := by omega
   rw [e]
   refine Ei W F m (i + 1) _ ?_
   by_cases c : F.getD i false = true ∧ (a < 0 ∨ W.getD i 0 < W.getD a.toNat 0)
   · rw [if_pos c]
     refine .inr ⟨i, rfl, by omega, c.1, fun j hj hf => ?_⟩
     by_cases q : j = i
     · subst q; exact Int.le_refl _
     · rcases h with ⟨_, h2⟩ | ⟨k, rfl, h1, h2, h3⟩
       · rw [h2 j (by omega)] at hf; cases hf
       · have := h3 j (by omega) hf
         have tk : ((k : Nat) : Int).toNat = k := by omega
         rw [tk] at c
         have := c.2
         omega
   · rw [if_neg c]
     rcases h with ⟨rfl, h2⟩ | ⟨k, rfl, h1, h2, h3⟩
     · refine .inl ⟨rfl, fun j hj => ?_⟩
       by_cases q : j = i
       · subst q
         cases e : F.getD j false with
         | false => rfl
         | true => exact absurd ⟨e, .inl (by omega)⟩ c
       · exact h2 j (by omega)
     · refine .inr ⟨k, rfl, by omega, h2, fun j hj hf => ?_⟩
       by_cases q : j = i
       · subst q
         have tk : ((k : Nat) : Int).toNat = k := by omega
         rw [tk] at c
         have : ¬ (W.getD j 0 < W.getD k 0) := fun x => c ⟨hf, .inr x⟩
         omega
       · exact h3 j (by omega) hf
theorem Ej {W : List Int} {F : List Bool} (hl : F.length = W.length) {i : Nat} (hi : F.getD i false = true) : 0 ≤ xF W F W.length 0 (-1) ∧ xp W F < W.length ∧ F.getD (xp W F) false = true ∧ ∀ j, F.getD j false = true → W.getD (xp W F) 0 ≤ W.getD j 0 := by
 have hiL : ∀ j, F.getD j false = true → j < F.length := by
  intro j hj
  rw [U3] at hj
  cases e : F[j]? with
  | none => rw [e] at hj; cases hj
  | some b => exact (vN.1 e).1
 rcases Ei W F W.length 0 (-1) (.inl ⟨rfl, fun j hj => by omega⟩) with ⟨_, h2⟩ | ⟨k, h1, h2, h3, h4⟩
 · have := h2 i (by have := hiL i hi; omega)
   rw [hi] at this; cases this
 · have ek : xp W F = k := by unfold xp; rw [h1]; omega
   rw [ek]
   exact ⟨by omega, by omega, h3, fun j hj => h4 j (by have := hiL j hj; omega) hj⟩
def Nz (U : List Int) : Nat → Nat → Nat → Prop
 | 0, i, r => i = r
 | d + 1, i, r => ∃ j : Nat, U[i]? = some (j : Int) ∧ Nz U d j r
theorem EC {U : List Int} : ∀ {d i r : Nat} {j : Nat}, Nz U d i r → U[r]? = some (j : Int) → Nz U (d + 1) i j
 | 0, i, r, j, h, hj => by
   have : i = r := h
   subst this
   exact ⟨j, hj, rfl⟩
 | d + 1, i, r, j, ⟨k, h1, h2⟩, hj => ⟨k, h1, EC h2 hj⟩
theorem JK {U : List Int} (up : E9 U) : ∀ {d i r : Nat}, Nz U d i r → U.getD r (-1) = -1 → ∀ m, d ≤ m → Af U m (U.getD i (-1)) = d
 | 0, i, r, h, hr, m, hm => by
   have : i = r := h
   subst this
   rw [hr]
   cases m with
   | zero => rfl
   | succ m => rw [Af, if_neg (by omega)]
 | d + 1, i, r, ⟨j, h1, h2⟩, hr, m, hm => by
   obtain ⟨m, rfl⟩ : ∃ k, m = k + 1 := ⟨m - 1, by omega⟩
   have e : U.getD i (-1) = (j : Int) := by rw [U3, h1]; rfl
   rw [e, Af, if_pos (by omega)]
   have tj : ((j : Nat) : Int).toNat = j := by omega
   rw [tj, JK up h2 hr m (by omega)]
theorem I0 {U : List Int} (up : E9 U) : ∀ {d i r : Nat}, Nz U d i r → i + d ≤ r
 | 0, i, r, h => by
   have : i = r := h
   omega
 | d + 1, i, r, ⟨j, h1, h2⟩ => by
   have := I0 up h2
   have hi := (vN.1 h1).1
   have e : U.getD i (-1) = (j : Int) := by rw [U3, h1]; rfl
   have := up i hi
   rw [e] at this
   omega
def zq (U : List Int) (a b : Nat) : List Int := (U.set a U.length).set b U.length ++ [-1]
theorem Fx (U : List Int) (a b : Nat) : (zq U a b).length = U.length + 1 := by simp [zq]
theorem C5 {U : List Int} {a b i : Nat} (hi : i < U.length) (ha : a ≠ i) (hb : b ≠ i) : (zq U a b)[i]? = U[i]? := by
 unfold zq
 rw [Vs (by simpa using hi), Vh, if_neg hb, Vh, if_neg ha]
theorem Jy {U : List Int} {a b : Nat} (ha : a < U.length) : (zq U a b)[a]? = some (U.length : Int) := by
 unfold zq
 rw [Vs (by simpa using ha), Vh]
 split
 · rename_i e; subst e; simp [ha]
 · rw [Vh, if_pos rfl, if_pos ha]
theorem Jz {U : List Int} {a b : Nat} (hb : b < U.length) : (zq U a b)[b]? = some (U.length : Int) := by
 unfold zq
 rw [Vs (by simpa using hb), Vh, if_pos rfl, if_pos (by simpa using hb)]
theorem JA {U : List Int} {a b : Nat} : (zq U a b)[U.length]? = some (-1) := by
 unfold zq
 rw [Vj (by simp)]; simp
theorem CN {U : List Int} {a b : Nat} (ha : U[a]? = some (-1)) (hb : U[b]? = some (-1)) : ∀ {d i r : Nat}, Nz U d i r → Nz (zq U a b) d i r
 | 0, i, r, h => h
 | d + 1, i, r, ⟨j, h1, h2⟩ => by
   refine ⟨j, ?_, CN ha hb h2⟩
   rw [C5 (vN.1 h1).1 (fun e => by rw [e, h1] at ha; have := vG ha; omega) (fun e => by rw [e, h1] at hb; have := vG hb; omega), h1]
theorem KL {U : List Int} {a b : Nat} (ha : a < U.length) (hb : b < U.length) (up : E9 U) : E9 (zq U a b) := by
 intro j hj
 rw [Fx] at hj ⊢
 by_cases e : j = U.length
 · subst e
   left
   rw [U3, JA]; rfl
 · by_cases ea : a = j
   · subst ea
     right
     rw [U3, Jy ha]
     simp; omega
   · by_cases eb : b = j
     · subst eb
       right
       rw [U3, Jz hb]
       simp; omega
     · have := up j (by omega)
       rw [U3, C5 (by omega) ea eb, ← U3]
       omega
theorem FS.TO (s : FS) : s.Iw.U = zq s.U s.a s.b := rfl
abbrev Tr := Nat × List (Nat × Nat)
def kr (D : Nat) (l : List (Nat × Nat)) : Nat := (l.map fun p => 2 ^ (D - p.2)).sum
structure Bn (bal : Bool) (n : Nat) (tot : Int) (s : FS) (T : List Tr) : Prop where
 lu : s.U.length = s.W.length
 lf : s.F.length = s.W.length
 root : ∀ t ∈ T, s.F.getD t.1 false = true ∧ s.U[t.1]? = some (-1)
 free : ∀ i, s.F.getD i false = true → ∃ t ∈ T, t.1 = i
 nd : (T.map (·.1)).Nodup
 pt : ∀ t ∈ T, ∀ p ∈ t.2, Nz s.U p.2 p.1 t.1
 leaves : (T.flatMap fun t => t.2.map (·.1)).Perm (List.range n)
 Eg : ∀ t ∈ T, ∀ D, (∀ p ∈ t.2, p.2 ≤ D) → kr D t.2 = 2 ^ D
 ne : ∀ t ∈ T, t.2 ≠ []
 KM : ∀ t ∈ T, 1 ≤ s.W.getD t.1 0
 up : E9 s.U
 sum : (T.map fun t => s.W.getD t.1 0).sum = tot
 MP : bal = true → ∀ t ∈ T, ∀ u ∈ T, s.W.getD t.1 0 ≤ 2 * s.W.getD u.1 0
 J4 : bal = true → ∀ t ∈ T, ∀ p ∈ t.2, (3 : Int) ^ p.2 ≤ s.W.getD t.1 0 * 2 ^ p.2
theorem Kz {l l' : List Int} (p : l.Perm l') : l.sum = l'.sum := by
 induction p with
 | nil => rfl
 | cons x _ ih => simp only [Vv, ih]
 | swap x y l => simp only [Vv]; omega
 | trans _ _ h1 h2 => exact h1.trans h2
theorem FU {l l' : List Nat} (p : l.Perm l') : l.sum = l'.sum := by
 induction p with
 | nil => rfl
 | cons x _ ih => simp only [Vv, ih]
 | swap x y l => simp only [Vv]; omega
 | trans _ _ h1 h2 => exact h1.trans h2
theorem Bn.perm {bal : Bool} {n : Nat} {tot : Int} {s : FS} {T T' : List Tr} (v : Bn bal n tot s T) (p : T.Perm T') : Bn bal n tot s T' where
 lu := v.lu
 lf := v.lf
 root t h := v.root t (p.mem_iff.2 h)
 free i h := by
  obtain ⟨t, h1, h2⟩ := v.free i h
  exact ⟨t, p.mem_iff.1 h1, h2⟩
 nd := (p.map _).nodup_iff.1 v.nd
 pt t h := v.pt t (p.mem_iff.2 h)
 leaves := ((p.flatMap_right _).symm).trans v.leaves
 Eg t h := v.Eg t (p.mem_iff.2 h)
 ne t h := v.ne t (p.mem_iff.2 h)
 KM t h := v.KM t (p.mem_iff.2 h)
 up := v.up
 sum := by rw [← v.sum]; exact (Kz (p.map _)).symm
 MP hb t h u h2 := v.MP hb t (p.mem_iff.2 h) u (p.mem_iff.2 h2)
 J4 hb t h := v.J4 hb t (p.mem_iff.2 h)
def Aq (l : List (Nat × Nat)) : List (Nat × Nat) := l.map fun p => (p.1, p.2 + 1)
theorem Kk {D : Nat} {l : List (Nat × Nat)} : kr (D + 1) (Aq l) = kr D l := by
 unfold kr Aq
 rw [List.map_map]
 congr 1
 refine Vu fun p _ => ?_
 show 2 ^ (D + 1 - (p.2 + 1)) = _
 rw [Nat.add_sub_add_right]
theorem Qk (D : Nat) (a b : List (Nat × Nat)) : kr D (a ++ b) = kr D a + kr D b := by simp [kr]
theorem getD_set_ne {α : Type} {l : List α} {i j : Nat} {x d : α} (h : i ≠ j) : (l.set i x).getD j d = l.getD j d := by
 rw [U3, Vh, if_neg h, ← U3]
theorem BM {l : List Bool} {i : Nat} : (l.set i false).getD i false = false := by
 rw [U3, Vh, if_pos rfl]
 split <;> rfl
theorem Bn.two {bal : Bool} {n : Nat} {tot : Int} {s : FS} {T : List Tr} (v : Bn bal n tot s T) (h2 : 2 ≤ T.length) :
 ∃ ta tb T2, T.Perm (ta :: tb :: T2) ∧ ta.1 = s.a ∧ tb.1 = s.b ∧ 0 ≤ xF s.W s.F s.W.length 0 (-1) ∧ 0 ≤ xF s.W s.F1 s.W.length 0 (-1) ∧ s.W.getD s.a 0 ≤ s.W.getD s.b 0 ∧ (∀ t ∈ T2, s.W.getD s.b 0 ≤ s.W.getD t.1 0) := by
 obtain ⟨t0, t1, T0, rfl⟩ : ∃ t0 t1 T0, T = t0 :: t1 :: T0 := by
  match T, h2 with
  | t0 :: t1 :: T0, _ => exact ⟨t0, t1, T0, rfl⟩
 obtain ⟨l1, la, fa, ma⟩ := Ej v.lf (v.root t0 (by simp)).1
 obtain ⟨ta, hta, ea⟩ := v.free _ fa
 have p1 := List.perm_cons_erase hta
 have v1 := v.perm p1
 obtain ⟨T1, eT1⟩ : ∃ T1, T1 = (t0 :: t1 :: T0).erase ta := ⟨_, rfl⟩
 rw [← eT1] at p1 v1
 have lT1 : T1 ≠ [] := by
  intro e
  have := p1.length_eq
  rw [e] at this
  simp at this
 obtain ⟨tx, hx⟩ := List.exists_mem_of_ne_nil _ lT1
 have nd1 : ∀ t ∈ T1, t.1 ≠ ta.1 := by
  intro t ht e
  have := v1.nd
  rw [Ve, List.nodup_cons] at this
  exact this.1 (Vl.2 ⟨t, ht, e⟩)
 have f1 : ∀ t ∈ T1, s.F1.getD t.1 false = true := by
  intro t ht
  have := (v1.root t (by simp [ht])).1
  show (s.F.set s.a false).getD t.1 false = true
  rw [getD_set_ne (by have := nd1 t ht; intro e; exact this (by rw [ea, ← e]; rfl)), this]
 obtain ⟨l2, lb, fb, mb⟩ := Ej (W := s.W) (F := s.F1) (by show (s.F.set s.a false).length = _; rw [Vi]; exact v.lf) (f1 tx hx)
 have hnb : s.a ≠ s.b := by
  intro e
  have fb' : s.F1.getD s.b false = true := fb
  rw [← e] at fb'
  have : (s.F.set s.a false).getD s.a false = true := fb'
  rw [BM] at this; cases this
 have fb2 : s.F.getD s.b false = true := by
  have fb' : (s.F.set s.a false).getD s.b false = true := fb
  rwa [getD_set_ne hnb] at fb'
 obtain ⟨tb, htb, eb⟩ := v1.free _ fb2
 have htb1 : tb ∈ T1 := by
  rcases wj.1 htb with q | q
  · subst q; exact absurd (ea.symm.trans eb) hnb
  · exact q
 have p2 := List.perm_cons_erase htb1
 refine ⟨ta, tb, T1.erase tb, p1.trans (p2.cons ta), ea, eb, l1, l2, ma _ fb2, fun t ht => mb _ (f1 t (List.mem_of_mem_erase ht))⟩
theorem Bn.step {bal : Bool} {n : Nat} {tot : Int} {s : FS} {T : List Tr} (v : Bn bal n tot s T) (h2 : 2 ≤ T.length) (ht : tot < 1000000000000000) : s.ok ∧ ∃ T', T'.length + 1 = T.length ∧ Bn bal n tot s.Iw T' := by
 obtain ⟨ta, tb, T2, p, ea, eb, l1, l2, wab, wbt⟩ := v.two h2
 have lT := p.length_eq
 have v1 := v.perm p
 have nd := v1.nd
 rw [Ve, Ve, List.nodup_cons, List.nodup_cons] at nd
 obtain ⟨nd1, nd2, nd3⟩ := nd
 have ra := v1.root ta (by simp)
 have rb := v1.root tb (by simp)
 rw [ea] at ra
 rw [eb] at rb
 have hla : s.a < s.U.length := (vN.1 ra.2).1
 have hlb : s.b < s.U.length := (vN.1 rb.2).1
 have wa := v1.KM ta (by simp)
 have wb1 := v1.KM tb (by simp)
 rw [ea] at wa
 rw [eb] at wb1
 have sm := v1.sum
 rw [Ve, Ve, Vv, Vv, ea, eb] at sm
 have nn : 0 ≤ (T2.map fun t => s.W.getD t.1 0).sum := by
  have : ∀ l : List Tr, (∀ t ∈ l, 1 ≤ s.W.getD t.1 0) → 0 ≤ (l.map fun t => s.W.getD t.1 0).sum := by
   intro l
   induction l with
   | nil => intro _; simp
   | cons x l ih => intro h; have := ih fun t ht => h t (by simp [ht]); have := h x (by simp); simp only [Ve, Vv]; omega
  exact this T2 fun t ht => v1.KM t (by simp [ht])
 have es : s.sum = s.W.getD s.a 0 + s.W.getD s.b 0 := rfl
 refine ⟨⟨v.lu, v.lf, l1, l2, by omega⟩, (s.U.length, Aq (ta.2 ++ tb.2)) :: T2, by rw [lT]; simp, ?_⟩
 have nT2 : ∀ t ∈ T2, t.1 ≠ s.a ∧ t.1 ≠ s.b ∧ t.1 < s.U.length := fun t ht => ⟨fun e => nd1 (by simp only [wj, Vl]; exact .inr ⟨t, ht, by rw [e, ea]⟩), fun e => nd2 (Vl.2 ⟨t, ht, by rw [e, eb]⟩), (vN.1 (v1.root t (by simp [ht])).2).1⟩
 have mW : ∀ i, i < s.W.length → s.Iw.W.getD i 0 = s.W.getD i 0 := fun i hi => by
  show (s.W ++ [s.sum]).getD i 0 = _
  rw [U3, Vs hi, ← U3]
 have mWn : s.Iw.W.getD s.U.length 0 = s.sum := by
  show (s.W ++ [s.sum]).getD s.U.length 0 = _
  rw [v.lu, U3, Vj (vR _)]; simp
 have lF2 : s.F2.length = s.W.length := by show ((s.F.set s.a false).set s.b false).length = _; rw [Vi, Vi, v.lf]
 have mF : ∀ i, i < s.W.length → s.Iw.F.getD i false = s.F2.getD i false := fun i hi => by
  show (s.F2 ++ [true]).getD i false = _
  rw [U3, Vs (by omega), ← U3]
 have mFn : s.Iw.F.getD s.U.length false = true := by
  show (s.F2 ++ [true]).getD s.U.length false = _
  rw [v.lu, U3, Vj (by omega), lF2]; simp
 have F2o : ∀ i, i ≠ s.a → i ≠ s.b → s.F2.getD i false = s.F.getD i false := fun i h1 h2 => by
  show ((s.F.set s.a false).set s.b false).getD i false = _
  rw [getD_set_ne h2.symm, getD_set_ne h1.symm]
 have F2a : s.a ≠ s.b → s.F2.getD s.a false = false := fun h => by
  show ((s.F.set s.a false).set s.b false).getD s.a false = _
  rw [getD_set_ne h.symm, BM]
 have F2b : s.F2.getD s.b false = false := BM
 have hab : s.a ≠ s.b := fun e => nd1 (by simp only [wj]; exact .inl (by rw [ea, eb, e]))
 have jl : ∀ p ∈ ta.2 ++ tb.2, Nz (zq s.U s.a s.b) (p.2 + 1) p.1 s.U.length := fun q hq => by
  rcases Vq.1 hq with h | h
  · have := v1.pt ta (by simp) q h
    rw [ea] at this
    exact EC (CN ra.2 rb.2 this) (Jy hla)
  · have := v1.pt tb (by simp) q h
    rw [eb] at this
    exact EC (CN ra.2 rb.2 this) (Jz hlb)
 have lu := v.lu
 have lf := v.lf
 have getT2 : ∀ t ∈ T2, s.Iw.W.getD t.1 0 = s.W.getD t.1 0 := fun t ht => mW _ (by have := (nT2 t ht).2.2; omega)
 have W2 : ∀ t ∈ (s.U.length, Aq (ta.2 ++ tb.2)) :: T2, (t.1 = s.U.length ∧ t.2 = Aq (ta.2 ++ tb.2) ∧ s.Iw.W.getD t.1 0 = s.sum) ∨ (t ∈ T2 ∧ s.Iw.W.getD t.1 0 = s.W.getD t.1 0) := fun t ht => by
  rcases wj.1 ht with q | q
  · subst q; exact .inl ⟨rfl, rfl, mWn⟩
  · exact .inr ⟨q, getT2 t q⟩
 constructor
 · show (zq s.U s.a s.b).length = (s.W ++ [s.sum]).length
   rw [Fx]; simp [lu]
 · show (s.F2 ++ [true]).length = (s.W ++ [s.sum]).length
   simp [lF2]
 · intro t ht
   rcases wj.1 ht with q | q
   · subst q
     exact ⟨mFn, JA⟩
   · have n := nT2 t q
     have r := v1.root t (by simp [q])
     refine ⟨by rw [mF _ (by omega), F2o _ n.1 n.2.1]; exact r.1, ?_⟩
     rw [FS.TO, C5 n.2.2 n.1.symm n.2.1.symm]; exact r.2
 · intro i hi
   by_cases e : i = s.U.length
   · exact ⟨_, List.mem_cons_self .., e.symm⟩
   · have hiL : i < s.W.length := by
      apply Vp
      intro c
      have : s.Iw.F.length = s.W.length + 1 := by show (s.F2 ++ [true]).length = _; simp [lF2]
      rw [U3, Vk (by omega)] at hi
      cases hi
     rw [mF i hiL] at hi
     have h1 : i ≠ s.a := fun q => by rw [q, F2a hab] at hi; cases hi
     have h2 : i ≠ s.b := fun q => by rw [q, F2b] at hi; cases hi
     rw [F2o i h1 h2] at hi
     obtain ⟨t, ht, et⟩ := v1.free i hi
     rcases wj.1 ht with q | q
     · subst q; exact absurd (et.symm.trans ea) h1
     · rcases wj.1 q with q | q
       · subst q; exact absurd (et.symm.trans eb) h2
       · exact ⟨t, List.mem_cons_of_mem _ q, et⟩
 · rw [Ve, List.nodup_cons]
   refine ⟨fun hm => ?_, nd3⟩
   obtain ⟨t, ht, e⟩ := Vl.1 hm
   have := (nT2 t ht).2.2
   rw [e] at this
   exact absurd this (by simp)
 · intro t ht
   rcases wj.1 ht with q | q
   · subst q
     intro q hq
     obtain ⟨q', hq', rfl⟩ := Vl.1 hq
     exact jl q' hq'
   · intro x hx
     exact CN ra.2 rb.2 (v1.pt t (by simp [q]) x hx)
 · have lv := v1.leaves
   refine List.Perm.trans ?_ lv
   rw [Va, Va, Va, ← Vb]
   have : (Aq (ta.2 ++ tb.2)).map (·.1) = ta.2.map (·.1) ++ tb.2.map (·.1) := by
    unfold Aq; rw [List.map_map, List.map_append]; rfl
   rw [this]
 · intro t ht
   rcases wj.1 ht with q | q
   · subst q
     intro D hD
     have hne := v1.ne ta (by simp)
     obtain ⟨x, hx⟩ := List.exists_mem_of_ne_nil _ hne
     have h1 := hD (x.1, x.2 + 1) (Vl.2 ⟨x, List.mem_append_left _ hx, rfl⟩)
     obtain ⟨D, rfl⟩ : ∃ E, D = E + 1 := ⟨D - 1, by simp at h1; omega⟩
     rw [Kk, Qk]
     rw [v1.Eg ta (by simp) D fun y hy => by have := hD (y.1, y.2 + 1) (Vl.2 ⟨y, List.mem_append_left _ hy, rfl⟩); simp at this; omega]
     rw [v1.Eg tb (by simp) D fun y hy => by have := hD (y.1, y.2 + 1) (Vl.2 ⟨y, List.mem_append_right _ hy, rfl⟩); simp at this; omega]
     rw [Nat.pow_succ]; omega
   · exact v1.Eg t (by simp [q])
 · intro t ht
   rcases wj.1 ht with q | q
   · subst q
     have hne := v1.ne ta (by simp)
     intro e
     have : Aq (ta.2 ++ tb.2) = [] := e
     unfold Aq at this
     rw [List.map_eq_nil_iff, List.append_eq_nil_iff] at this
     exact hne this.1
   · exact v1.ne t (by simp [q])
 · intro t ht
   rcases W2 t ht with ⟨_, _, e⟩ | ⟨q, e⟩
   · rw [e]; omega
   · rw [e]; exact v1.KM t (by simp [q])
 · exact KL hla hlb v.up
 · rw [Ve, Vv, mWn, Vu getT2]; omega
 · intro hb t ht u hu
   have b1 := v1.MP hb
   have ba := b1 tb (by simp) ta (by simp)
   rw [ea, eb] at ba
   rcases W2 t ht with ⟨_, _, e⟩ | ⟨q, e⟩
   · rcases W2 u hu with ⟨_, _, e'⟩ | ⟨q', e'⟩
     · rw [e, e']; omega
     · rw [e, e']; have := wbt u q'; omega
   · rcases W2 u hu with ⟨_, _, e'⟩ | ⟨q', e'⟩
     · rw [e, e']; have := b1 t (by simp [q]) ta (by simp); rw [ea] at this; omega
     · rw [e, e']; exact b1 t (by simp [q]) u (by simp [q'])
 · intro hb t ht x hx
   have b1 := v1.MP hb
   have ba := b1 tb (by simp) ta (by simp)
   have bb := b1 ta (by simp) tb (by simp)
   rw [ea, eb] at ba bb
   rcases W2 t ht with ⟨_, e2, e⟩ | ⟨q, e⟩
   · rw [e]
     rw [e2] at hx
     obtain ⟨y, hy, rfl⟩ := Vl.1 hx
     have p2 : (0 : Int) < 2 ^ y.2 := Int.pow_pos (by omega)
     show (3 : Int) ^ (y.2 + 1) ≤ s.sum * 2 ^ (y.2 + 1)
     rw [Int.pow_succ, Int.pow_succ]
     have key : ∀ w : Int, (3 : Int) ^ y.2 ≤ w * 2 ^ y.2 → 3 * w ≤ 2 * s.sum → (3 : Int) ^ y.2 * 3 ≤ s.sum * (2 ^ y.2 * 2) := fun w h1 h2 => by
      have a1 : (3 : Int) ^ y.2 * 3 ≤ (w * 2 ^ y.2) * 3 := Int.mul_le_mul_of_nonneg_right h1 (by omega)
      have a2 : (3 * w) * 2 ^ y.2 ≤ (2 * s.sum) * 2 ^ y.2 := Int.mul_le_mul_of_nonneg_right h2 (by omega)
      have a3 : (w * 2 ^ y.2) * 3 = (3 * w) * 2 ^ y.2 := by rw [Int.mul_comm 3 w, Int.mul_assoc, Int.mul_assoc, Int.mul_comm _ 3]
      have a4 : s.sum * (2 ^ y.2 * 2) = (2 * s.sum) * 2 ^ y.2 := by rw [Int.mul_comm 2 s.sum, Int.mul_assoc, Int.mul_comm 2 (2 ^ y.2)]
      omega
     rcases Vq.1 hy with h | h
     · have := v1.J4 hb ta (by simp) y h
       rw [ea] at this
       exact key _ this (by omega)
     · have := v1.J4 hb tb (by simp) y h
       rw [eb] at this
       exact key _ this (by omega)
   · rw [e]; exact v1.J4 hb t (by simp [q]) x hx
def T0 (n : Nat) : List Tr := (List.range n).map fun i => (i, [(i, 0)])
theorem ET : ∀ (ws : List Int), ((List.range ws.length).map fun i => ws.getD i 0).sum = ws.sum := by
 intro ws
 have : (List.range ws.length).map (fun i => ws.getD i 0) = ws := by
  apply List.ext_getElem?
  intro i
  rw [v7]
  by_cases h : i < ws.length
  · rw [VB h, U6 h]; simp [U3, h]
  · rw [Vk (by simp; omega), Vk (by omega)]; rfl
 rw [this]
theorem Bi {α : Type} {n i : Nat} {x d : α} (h : i < n) : (List.replicate n x).getD i d = x := by
 rw [U3, List.getElem?_replicate, if_pos h]; rfl
theorem Bn.init (ws : List Int) (bal : Bool) (pos : ∀ y ∈ ws, 1 ≤ y) (hb : bal = true → ∀ y ∈ ws, y = 1) : Bn bal ws.length ws.sum (Ay ws) (T0 ws.length) := by
 have mem : ∀ t ∈ T0 ws.length, ∃ i, i < ws.length ∧ t = (i, [(i, 0)]) := fun t ht => by
  obtain ⟨i, hi, rfl⟩ := Vl.1 ht
  exact ⟨i, VE.1 hi, rfl⟩
 have gw : ∀ i, i < ws.length → ws.getD i 0 ∈ ws := fun i hi => by
  rw [U3, U6 hi]; exact Vo hi
 constructor
 · simp [Ay]
 · simp [Ay]
 · intro t ht
   obtain ⟨i, hi, rfl⟩ := mem t ht
   exact ⟨Bi hi, by show (List.replicate ws.length (-1 : Int))[i]? = _; rw [List.getElem?_replicate, if_pos hi]⟩
 · intro i hi
   have : i < ws.length := by
    apply Vp
    intro c
    have e : (Ay ws).F.getD i false = false := by
     show (List.replicate ws.length true).getD i false = false
     rw [U3, Vk (by simp; omega)]; rfl
    rw [e] at hi; cases hi
   exact ⟨(i, [(i, 0)]), Vl.2 ⟨i, VE.2 this, rfl⟩, rfl⟩
 · unfold T0
   rw [List.map_map]
   have : ((fun t : Tr => t.1) ∘ fun i => ((i, [(i, 0)]) : Tr)) = id := rfl
   rw [this, List.map_id]; exact List.nodup_range
 · intro t ht q hq
   obtain ⟨i, hi, rfl⟩ := mem t ht
   simp at hq
   subst hq
   exact rfl
 · have : (T0 ws.length).flatMap (fun t => t.2.map (·.1)) = List.range ws.length := by
    unfold T0
    rw [List.flatMap_map]
    have : ∀ l : List Nat, (l.flatMap fun i => ([(i, 0)] : List (Nat × Nat)).map (·.1)) = l := by
     intro l
     induction l with
     | nil => rfl
     | cons x l ih => rw [Va, ih]; rfl
    exact this _
   rw [this]
 · intro t ht D _
   obtain ⟨i, hi, rfl⟩ := mem t ht
   simp [kr]
 · intro t ht
   obtain ⟨i, hi, rfl⟩ := mem t ht
   simp
 · intro t ht
   obtain ⟨i, hi, rfl⟩ := mem t ht
   exact pos _ (gw i hi)
 · intro j hj
   have : j < ws.length := by simpa [Ay] using hj
   exact .inl (Bi this)
 · unfold T0
   rw [List.map_map]
   exact ET ws
 · intro h t ht u hu
   obtain ⟨i, hi, rfl⟩ := mem t ht
   obtain ⟨j, hj, rfl⟩ := mem u hu
   have a := hb h _ (gw i hi)
   have b := hb h _ (gw j hj)
   show ws.getD i 0 ≤ 2 * ws.getD j 0
   omega
 · intro h t ht q hq
   obtain ⟨i, hi, rfl⟩ := mem t ht
   simp at hq
   subst hq
   have a := hb h _ (gw i hi)
   show (3 : Int) ^ 0 ≤ ws.getD i 0 * 2 ^ 0
   rw [a]; simp
theorem Bn.run {bal : Bool} {n : Nat} {tot : Int} (ht : tot < 1000000000000000) : ∀ (m : Nat) (s : FS) (T : List Tr), Bn bal n tot s T → T.length = m + 1 → (∀ k, k < m → (FS.y7 k s).ok) ∧ ∃ t, Bn bal n tot (FS.y7 m s) [t]
 | 0, s, T, v, h => by
   refine ⟨fun k hk => by omega, ?_⟩
   match T, h with
   | [t], _ => exact ⟨t, v⟩
 | m + 1, s, T, v, h => by
   obtain ⟨ok, T', hl, v'⟩ := v.step (by omega) ht
   obtain ⟨h1, t, h2⟩ := Bn.run ht m s.Iw T' v' (by omega)
   refine ⟨fun k hk => ?_, t, h2⟩
   cases k with
   | zero => exact ok
   | succ k => exact h1 k (by omega)
theorem Qg (ws : List Int) (bal : Bool) (h1 : 1 ≤ ws.length) (pos : ∀ y ∈ ws, 1 ≤ y) (hs : ws.sum < 1000000000000000) (hb : bal = true → ∀ y ∈ ws, y = 1) :
 (∀ k, k < ws.length - 1 → (FS.y7 k (Ay ws)).ok) ∧ E9 (FS.y7 (ws.length - 1) (Ay ws)).U ∧ (FS.y7 (ws.length - 1) (Ay ws)).U.length = (FS.y7 (ws.length - 1) (Ay ws)).W.length ∧
 (∀ D : Nat, (∀ d ∈ wM ws, d ≤ (D : Int)) → ((wM ws).map fun d => 2 ^ (D - d.toNat)).sum = 2 ^ D) ∧
 (bal = true → ∀ d ∈ wM ws, (3 : Int) ^ d.toNat ≤ ws.sum * 2 ^ d.toNat) ∧ (2 ≤ ws.length → ∀ d ∈ wM ws, 1 ≤ d) := by
 obtain ⟨ok, t, v⟩ := Bn.run hs (ws.length - 1) (Ay ws) (T0 ws.length) (Bn.init ws bal pos hb) (by simp [T0]; omega)
 obtain ⟨S, hS⟩ : ∃ S, S = FS.y7 (ws.length - 1) (Ay ws) := ⟨_, rfl⟩
 have eD : wM ws = CY S.U ws.length := by rw [hS]; rfl
 rw [← hS] at v ⊢
 have up := v.up
 have rt := (v.root t (by simp)).2
 have rtD : S.U.getD t.1 (-1) = -1 := by rw [U3, rt]; rfl
 have rl := (vN.1 rt).1
 have lv := v.leaves
 simp only [Va, List.flatMap_nil, Vm] at lv
 have dep : ∀ q ∈ t.2, Af S.U S.U.length (S.U.getD q.1 (-1)) = q.2 := fun q hq => by
  have := v.pt t (by simp) q hq
  have l := I0 up this
  exact JK up this rtD _ (by omega)
 have pm : (wM ws).Perm (t.2.map fun q => ((q.2 : Nat) : Int)) := by
  rw [eD]
  unfold CY
  have := lv.symm.map (fun i => ((Af S.U S.U.length (S.U.getD i (-1)) : Nat) : Int))
  refine this.trans ?_
  rw [List.map_map]
  have e : t.2.map ((fun i => ((Af S.U S.U.length (S.U.getD i (-1)) : Nat) : Int)) ∘ fun x => x.1) = t.2.map fun q => ((q.2 : Nat) : Int) := Vu fun q hq => by
   show ((Af S.U S.U.length (S.U.getD q.1 (-1)) : Nat) : Int) = _
   rw [dep q hq]
  rw [e]
 have mem : ∀ d ∈ wM ws, ∃ q ∈ t.2, d = ((q.2 : Nat) : Int) := fun d hd => by
  obtain ⟨q, hq, rfl⟩ := Vl.1 (pm.mem_iff.1 hd)
  exact ⟨q, hq, rfl⟩
 refine ⟨ok, up, v.lu, fun D hD => ?_, fun hbt d hd => ?_, fun h2 d hd => ?_⟩
 · have := FU (pm.map fun d => 2 ^ (D - d.toNat))
   rw [this, List.map_map]
   have kk := v.Eg t (by simp) D fun q hq => by
    have := hD ((q.2 : Nat) : Int) (pm.mem_iff.2 (Vl.2 ⟨q, hq, rfl⟩))
    omega
   rw [← kk]
   unfold kr
   congr 1
 · obtain ⟨q, hq, rfl⟩ := mem d hd
   have := v.J4 hbt t (by simp) q hq
   have sm := v.sum
   rw [Ve, VD, Vv, List.sum_nil, Int.add_zero] at sm
   rw [← sm]
   exact this
 · obtain ⟨q, hq, rfl⟩ := mem d hd
   have pq := v.pt t (by simp) q hq
   apply Vp
   intro c
   have z : q.2 = 0 := by omega
   rw [z] at pq
   have e : q.1 = t.1 := pq
   have ql : q.1 < ws.length := VE.1 (lv.mem_iff.1 (Vl.2 ⟨q, hq, rfl⟩))
   have rr : S.W.length = ws.length + (ws.length - 1) := by rw [hS, FS.AR]; rfl
   have kk : ∀ D, (∀ p ∈ t.2, p.2 ≤ D) → kr D t.2 = 2 ^ D := v.Eg t (by simp)
   obtain ⟨D, hDD⟩ : ∃ D, ∀ p ∈ t.2, p.2 ≤ D := ⟨t.1, fun p hp => by have := I0 up (v.pt t (by simp) p hp); omega⟩
   have k := kk D hDD
   have l2 : t.2.length = ws.length := by
    have := lv.length_eq
    simpa using this
   have pe := List.perm_cons_erase hq
   have : kr D t.2 = kr D (q :: t.2.erase q) := FU (pe.map _)
   rw [this] at k
   have : kr D (q :: t.2.erase q) = 2 ^ (D - q.2) + kr D (t.2.erase q) := by simp [kr]
   rw [this, z, Nat.sub_zero] at k
   have le := pe.length_eq
   rw [UZ] at le
   cases hE : t.2.erase q with
   | nil => rw [hE] at le; simp at le; omega
   | cons y r =>
     rw [hE] at k
     have : kr D (y :: r) = 2 ^ (D - y.2) + kr D r := by simp [kr]
     have := Nat.pow_pos (n := D - y.2) (show 0 < 2 by omega)
     omega
def yG (l : List Int) (i : Nat) : List Int := l.set i (l.getD i 0 + 1)
theorem zo (l : List Int) (i : Nat) : (yG l i).length = l.length := by simp [yG]
theorem CF {l : List Int} {i : Nat} {n : Int} (h : ∀ y ∈ l, 0 ≤ y ∧ y ≤ n) (hn : 0 ≤ n) : ∀ y ∈ yG l i, 0 ≤ y ∧ y ≤ n + 1 := by
 intro y hy
 rcases Vt hy with q | q
 · have := h y q; omega
 · subst q
   rw [U3]
   cases e : l[i]? with
   | none => simp; omega
   | some z => have := h z (vV e); simp; omega
def AY (t : Tok) : Prop := (t.len = 0 ∧ 0 ≤ t.lit ∧ t.lit ≤ 255) ∨ (3 ≤ t.len ∧ t.len ≤ 258 ∧ 1 ≤ t.w8 ∧ t.w8 ≤ 32768)
def Ak : List Tok → List Int → List Int
 | [], A => A
 | t :: r, A => Ak r (if t.len = 0 then yG A t.lit.toNat else yG A (xJ t.len.toNat))
def AE : List Tok → List Int → List Int
 | [], B => B
 | t :: r, B => AE r (if t.len = 0 then B else yG B (xX t.w8.toNat))
structure MH (h h' : H) (a b : Nat) : Prop where
 floor : h'.floor = h.floor
 next : h.next ≤ h'.next
 xU : ∀ i, i < h.next → i ≠ a → i ≠ b → h'.get i = h.get i
theorem MH.refl (h : H) (a b : Nat) : MH h h a b := ⟨rfl, vR _, fun _ _ _ _ => rfl⟩
theorem MH.trans {x y z : H} {a b : Nat} (p : MH x y a b) (q : MH y z a b) : MH x z a b := ⟨q.floor.trans p.floor, wk p.next q.next, fun i h1 h2 h3 => (q.xU i (Nat.lt_of_lt_of_le h1 p.next) h2 h3).trans (p.xU i h1 h2 h3)⟩
theorem CC {l : List Int} {i : Nat} (h : i < l.length) : (ints l)[i]? = some (.int .i64 (l.getD i 0)) := tU (by rw [U3, U6 h]; rfl)
theorem Hr {v : AV} {ts : List Tok} (hn : ts.length < 1000000) (h0 : H) (rd : zE 3 h0 v ts.length (xw ts)) (ia ib i : Nat) (t : Tok) (ht : ts[i]? = some t) (o : AY t) (hab : ia ≠ ib) (hia : h0.next ≤ ia) (hib : h0.next ≤ ib) {A B : List Int} {h : H} (hx : Ext h0 h) (ga : h.get ia = some (ints A)) (gb : h.get ib = some (ints B)) (hA : A.length = 286) (hB : B.length = 30) (rA : ∀ y ∈ A, 0 ≤ y ∧ y ≤ (i : Int) + 1) (rB : ∀ y ∈ B, 0 ≤ y ∧ y ≤ (i : Int) + 1) (fa : h.floor ≤ ia) (fb : h.floor ≤ ib) (hfl : h.floor ≤ h.next) :
 ∃ h', aM (aS AP.A) bG AP.f13L4 (ay [(0, v), (4, .aF ia 0 286 1), (5, .aF ib 0 30 1), (6, .int .i64 i)] [0, 4, 5, 6]) h = some (.normal, [(0, v), (4, .aF ia 0 286 1), (5, .aF ib 0 30 1), (6, .int .i64 (i + 1 : Nat))], h') ∧ h'.get ia = some (ints (Ak [t] A)) ∧ h'.get ib = some (ints (AE [t] B)) ∧ MH h h' ia ib := by
 have ln := rd.len
 obtain ⟨ad, a1, a2, a3⟩ := rd.KH
 have hi : i < ts.length := (vN.1 ht).1
 have hI : (0 : Int) ≤ (i : Int) ∧ (i : Int) < ts.length := ⟨by omega, by omega⟩
 have b1 := a1 _ hI
 have b2 := a2 i 0 1 hI
 have b20 := a2 i 0 0 hI
 have b22 := a2 i 0 2 hI
 obtain ⟨b3, b4, b5, _⟩ := a3 h hx _ _ ht
 have n1 : ((i + 1 : Nat) : Int) = (i : Int) + 1 := by omega
 have la : (ints A).length = 286 := by rw [qy, hA]
 have lb : (ints B).length = 30 := by rw [qy, hB]
 have hian := h.lt _ _ ga
 have hibn := h.lt _ _ gb
 rcases o with ⟨c0, h2, h3⟩ | ⟨h1, h2, h3, h4⟩
 · obtain ⟨y, hy⟩ : ∃ y : Nat, t.lit = y := U9 h2
   have yt : t.lit.toNat = y := by omega
   have gx := CC (l := A) (i := y) (by omega)
   have xr : 0 ≤ A.getD y 0 ∧ A.getD y 0 ≤ (i : Int) + 1 := by
    rw [U3, U6 (by omega)]
    exact rA _ (Vo _)
   have es := xS A y (A.getD y 0 + 1)
   change _ = ints (yG A y) at es
   rw [hy] at b3
   rw [c0] at b4
   have yb : y ≤ 255 := by omega
   have eA : Ak [t] A = yG A y := by rw [Ak, if_pos c0, yt]; rfl
   have eB : AE [t] B = B := by rw [AE, if_pos c0]; rfl
   rw [eA, eB]
   refine ⟨h.set ia (ints (yG A y)), ?_, by rw [wV rfl, ga]; rfl, by rw [wI hab.symm, gb], ⟨by simp, by simp, fun j _ h2 _ => wI h2⟩⟩
   rw [n1]
   clear rd a1 a2 a3 hx rA rB ht b5 h2 h3 eA eB
   generalize A.getD y 0 = z at *
   generalize ints (yG A y) = A2 at *
   generalize ints A = A0 at *
   generalize ints B = B0 at *
   simp (disch := omega) only [go_sem, wG, AP.f13L4, ln, b1, b2, b20, b3, b4, ga, la, gx, es]
 · obtain ⟨L, hL⟩ : ∃ y : Nat, t.len = y := U9 (by omega)
   obtain ⟨K, hK⟩ : ∃ y : Nat, t.w8 = y := U9 (by omega)
   have Lt : t.len.toNat = L := by omega
   have Kt : t.w8.toNat = K := by omega
   have kl : ∀ g : H, aS AP.A 28 [.int .i64 L] g = _ := fun g => HL g L (by omega) (by omega)
   have kd : ∀ g : H, aS AP.A 29 [.int .i64 K] g = _ := fun g => Lh g K (by omega) (by omega)
   have sl := z8 (k := L) (by omega) (by omega)
   have sd := zV (k := K) (by omega) (by omega)
   have slt : xJ L < 286 := by omega
   have sdt : xX K < 30 := by omega
   obtain ⟨h1', eh1⟩ : ∃ g, g = (h.alloc [.int .i64 0, .int .i64 0, .int .i64 0]).set h.next [.int .i64 (xJ L : Nat), .int .i64 (zY L : Nat), .int .i64 (AG L : Nat)] := ⟨_, rfl⟩
   have kp1 : ∀ j, j < h.next → h1'.get j = h.get j := fun j hj => by rw [eh1, wI (by omega), w9 (by omega)]
   have x1 : Ext h0 h1' := fun j c hj => by
    have hj2 := h.lt _ _ (hx j c hj)
    rw [kp1 j hj2, hx j c hj]
   have g1 : h1'.get h.next = some [.int .i64 (xJ L : Nat), .int .i64 (zY L : Nat), .int .i64 (AG L : Nat)] := by rw [eh1, wV rfl, wO rfl]; rfl
   have nx1 : h1'.next = h.next + 1 := by rw [eh1]; simp
   have fx1 : h1'.floor = h.floor := by rw [eh1]; simp
   obtain ⟨_, _, b5', _⟩ := a3 h1' x1 _ _ ht
   obtain ⟨h2', eh2⟩ : ∃ g, g = (h1'.alloc [.int .i64 0, .int .i64 0, .int .i64 0]).set h1'.next [.int .i64 (xX K : Nat), .int .i64 (zU K : Nat), .int .i64 (AF K : Nat)] := ⟨_, rfl⟩
   have kp2 : ∀ j, j < h1'.next → h2'.get j = h1'.get j := fun j hj => by rw [eh2, wI (by omega), w9 (by omega)]
   have g2 : h2'.get h1'.next = some [.int .i64 (xX K : Nat), .int .i64 (zU K : Nat), .int .i64 (AF K : Nat)] := by rw [eh2, wV rfl, wO rfl]; rfl
   have g21 : h2'.get h.next = some [.int .i64 (xJ L : Nat), .int .i64 (zY L : Nat), .int .i64 (AG L : Nat)] := by rw [kp2 _ (by omega), g1]
   have ga2 : h2'.get ia = some (ints A) := by rw [kp2 ia (by omega), kp1 ia hian, ga]
   have gb2 : h2'.get ib = some (ints B) := by rw [kp2 ib (by omega), kp1 ib hibn, gb]
   have fx2 : h2'.floor = h.floor := by rw [eh2]; simp [fx1]
   have nx2 : h2'.next = h.next + 2 := by rw [eh2]; simp [nx1]
   have gx := CC (l := A) (i := xJ L) (by omega)
   have gy := CC (l := B) (i := xX K) (by omega)
   have xr : 0 ≤ A.getD (xJ L) 0 ∧ A.getD (xJ L) 0 ≤ (i : Int) + 1 := by
    rw [U3, U6 (by omega)]
    exact rA _ (Vo _)
   have yr : 0 ≤ B.getD (xX K) 0 ∧ B.getD (xX K) 0 ≤ (i : Int) + 1 := by
    rw [U3, U6 (by omega)]
    exact rB _ (Vo _)
   have es := xS A (xJ L) (A.getD (xJ L) 0 + 1)
   change _ = ints (yG A (xJ L)) at es
   have et := xS B (xX K) (B.getD (xX K) 0 + 1)
   change _ = ints (yG B (xX K)) at et
   rw [hL] at b4
   rw [hK] at b5'
   have cL : ¬ (L : Int) = 0 := by omega
   obtain ⟨h3', eh3⟩ : ∃ g, g = h2'.set ia (ints (yG A (xJ L))) := ⟨_, rfl⟩
   have gb3 : h3'.get ib = some (ints B) := by rw [eh3, wI hab.symm, gb2]
   have g31 : h3'.get h1'.next = some [.int .i64 (xX K : Nat), .int .i64 (zU K : Nat), .int .i64 (AF K : Nat)] := by rw [eh3, wI (by omega), g2]
   have eA : Ak [t] A = yG A (xJ L) := by rw [Ak, if_neg (by omega), Lt]; rfl
   have eB : AE [t] B = yG B (xX K) := by rw [AE, if_neg (by omega), Kt]; rfl
   have fx3 : h3'.floor = h.floor := by rw [eh3]; simp [fx2]
   rw [eA, eB]
   refine ⟨h3'.set ib (ints (yG B (xX K))), ?_, by rw [wI hab, eh3, wV rfl, ga2]; rfl, by rw [wV rfl, gb3]; rfl, ⟨by simp [fx3], by rw [eh3]; simp [nx2], fun j h1 h2 h3 => by rw [wI h3, eh3, wI h2, kp2 j (by omega), kp1 j h1]⟩⟩
   rw [n1]
   clear rd a1 a2 a3 hx x1 rA rB ht b5 h2 h3 eA eB b3 h1 h4 sl sd kp1 kp2
   generalize xJ L = S at *
   generalize zY L = B1 at *
   generalize AG L = V at *
   generalize xX K = S' at *
   generalize zU K = B' at *
   generalize AF K = V' at *
   generalize A.getD S 0 = z at *
   generalize B.getD S' 0 = z' at *
   generalize ints (yG A S) = A2 at *
   generalize ints (yG B S') = B2 at *
   generalize ints A = A0 at *
   generalize ints B = B0 at *
   simp (disch := omega) only [go_sem, wG, AP.f13L4, ln, b1, b2, b22, b4, b5', kl, kd, cL, ← eh1, ← eh2, g1, g2, g21, ga2, gb2, la, lb, gx, gy, es, et, ← eh3, gb3, g31]
theorem Ch : ∀ (ts : List Tok) (A : List Int), (Ak ts A).length = A.length
 | [], A => rfl
 | t :: r, A => by rw [Ak, Ch r]; split <;> rw [zo]
theorem Cm : ∀ (ts : List Tok) (A : List Int), (AE ts A).length = A.length
 | [], A => rfl
 | t :: r, A => by
   rw [AE, Cm r]
   split
   · rfl
   · rw [zo]
theorem Cj : ∀ (ts : List Tok) (A : List Int) (n : Int), 0 ≤ n → (∀ y ∈ A, 0 ≤ y ∧ y ≤ n) → ∀ y ∈ Ak ts A, 0 ≤ y ∧ y ≤ n + ts.length
 | [], A, n, hn, h => by simpa [Ak] using h
 | t :: r, A, n, hn, h => by
   intro y hy
   rw [Ak] at hy
   have := Cj r _ (n + 1) (by omega) (by split <;> exact CF h hn) y hy
   simp only [UZ]; omega
theorem Co : ∀ (ts : List Tok) (A : List Int) (n : Int), 0 ≤ n → (∀ y ∈ A, 0 ≤ y ∧ y ≤ n) → ∀ y ∈ AE ts A, 0 ≤ y ∧ y ≤ n + ts.length
 | [], A, n, hn, h => by simpa [AE] using h
 | t :: r, A, n, hn, h => by
   intro y hy
   rw [AE] at hy
   have := Co r _ (n + 1) (by omega) (by
    split
    · intro z hz; have := h z hz; omega
    · exact CF h hn) y hy
   simp only [UZ]; omega
theorem Df {v : AV} {ts : List Tok} (hn : ts.length < 1000000) (h0 : H) (rd : zE 3 h0 v ts.length (xw ts)) (ia ib : Nat) (ok : ∀ t ∈ ts, AY t) (hab : ia ≠ ib) (hia : h0.next ≤ ia) (hib : h0.next ≤ ib) : ∀ (q p : List Tok) (A B : List Int) (h : H), ts = p ++ q → Ext h0 h → h0.next ≤ h.next → h.get ia = some (ints A) → h.get ib = some (ints B) → A.length = 286 → B.length = 30 → (∀ y ∈ A, 0 ≤ y ∧ y ≤ (p.length : Int) + 1) → (∀ y ∈ B, 0 ≤ y ∧ y ≤ (p.length : Int) + 1) → h.floor ≤ ia → h.floor ≤ ib → h.floor ≤ h.next →
 ∃ h', Lp AP.A [0, 4, 5, 6] AP.f13L4 [(0, v), (4, .aF ia 0 286 1), (5, .aF ib 0 30 1), (6, .int .i64 p.length)] h = some (.exit 0, [(0, v), (4, .aF ia 0 286 1), (5, .aF ib 0 30 1), (6, .int .i64 ts.length), (43, .bool false)], h') ∧ h'.get ia = some (ints (Ak q A)) ∧ h'.get ib = some (ints (AE q B)) ∧ MH h h' ia ib
 | [], p, A, B, h, hp, hx, hnx, ga, gb, hA, hB, rA, rB, fa, fb, hfl => by
   rw [Vm] at hp; subst hp
   have ln := rd.len
   refine ⟨h, ux ?_, ga, gb, MH.refl h ia ib⟩
   simp (disch := omega) only [go_sem, wG, AP.f13L4, ln]
 | t :: q, p, A, B, h, hp, hx, hnx, ga, gb, hA, hB, rA, rB, fa, fb, hfl => by
   have ht : ts[p.length]? = some t := by rw [hp]; simp
   have o := ok t (vV ht)
   obtain ⟨h1, s1, ga1, gb1, f1⟩ := Hr hn h0 rd ia ib p.length t ht o hab hia hib hx ga gb hA hB rA rB fa fb hfl
   have n1 : (((p ++ [t]).length : Nat) : Int) = ((p.length + 1 : Nat) : Int) := by simp
   have hx1 : Ext h0 h1 := fun j c hj => by
    have := h0.lt _ _ hj
    rw [f1.xU j (by omega) (by omega) (by omega), hx j c hj]
   obtain ⟨h', k, g1, g2, f2⟩ := Df hn h0 rd ia ib ok hab hia hib q (p ++ [t]) (Ak [t] A) (AE [t] B) h1 (by rw [hp]; simp) hx1 (wk hnx f1.next) ga1 gb1 (by rw [Ch, hA]) (by rw [Cm, hB]) (fun y hy => by have := Cj [t] A _ (by omega) rA y hy; simp at this ⊢; omega) (fun y hy => by have := Co [t] B _ (by omega) rB y hy; simp at this ⊢; omega) (by rw [f1.floor]; exact fa) (by rw [f1.floor]; exact fb) (by rw [f1.floor]; exact wk hfl f1.next)
   rw [n1] at k
   exact ⟨h', uy s1 k, g1, g2, f1.trans f2⟩
def ym : List Int → List Int → List Int
 | [], C => C
 | d :: r, C => ym r (yG C d.toNat)
theorem Cp : ∀ (ds C : List Int), (ym ds C).length = C.length
 | [], C => rfl
 | d :: r, C => by rw [ym, Cp r, zo]
theorem Cq : ∀ (ds A : List Int) (n : Int), 0 ≤ n → (∀ y ∈ A, 0 ≤ y ∧ y ≤ n) → ∀ y ∈ ym ds A, 0 ≤ y ∧ y ≤ n + ds.length
 | [], A, n, hn, h => by simpa [ym] using h
 | t :: r, A, n, hn, h => by
   intro y hy
   rw [ym] at hy
   have := Cq r _ (n + 1) (by omega) (CF h hn) y hy
   simp only [UZ]; omega
theorem De {lv dv mv av : AV} {D : List Int} (hD : D.length < 1000) (hr : ∀ d ∈ D, 0 ≤ d ∧ d < 19) (ic : Nat) (hb : H) (rd : Rd hb av (ints D)) (hno : hb.get ic = none) : ∀ (q p C : List Int) (h : H), D = p ++ q → Ext hb h → h.get ic = some (ints C) → C.length = 19 → (∀ y ∈ C, 0 ≤ y ∧ y ≤ (p.length : Int)) → h.floor ≤ ic →
 ∃ h', Lp AP.A [0, 11, 13, 15, 16, 17] AP.f13L3 [(0, lv), (11, dv), (13, mv), (15, av), (16, .aF ic 0 19 1), (17, .int .i64 p.length)] h = some (.exit 2, [(0, lv), (11, dv), (13, mv), (15, av), (16, .aF ic 0 19 1), (17, .int .i64 D.length), (122, .bool false)], h') ∧ h'.get ic = some (ints (ym q C)) ∧ h'.floor = h.floor ∧ h'.next = h.next ∧ (∀ i, i ≠ ic → h'.get i = h.get i)
 | [], p, C, h, hp, hx, gc, hC, rC, fc => by
   rw [Vm] at hp; subst hp
   have ln := rd.len
   rw [qy] at ln
   simp only [I] at ln
   refine ⟨h, ux ?_, gc, rfl, rfl, fun _ _ => rfl⟩
   simp (disch := omega) only [go_sem, wG, AP.f13L3, ln]
 | d :: q, p, C, h, hp, hx, gc, hC, rC, fc => by
   have ln := rd.len
   rw [qy] at ln
   simp only [I] at ln
   have hl : D.length = p.length + (q.length + 1) := by rw [hp]; simp
   obtain ⟨ad, a1, a2⟩ := rd.xZ
   have b1 := a1 p.length ⟨by omega, by omega⟩
   have hd : D[p.length]? = some d := by rw [hp]; simp
   have dr := hr d (vV hd)
   obtain ⟨y, rfl⟩ := U9 dr.1
   have b2 := a2 h hx p.length _ hd
   have lc : (ints C).length = 19 := by rw [qy, hC]
   have gx := CC (l := C) (i := y) (by omega)
   have xr : 0 ≤ C.getD y 0 ∧ C.getD y 0 ≤ (p.length : Int) := by
    rw [U3, U6 (by omega)]
    exact rC _ (Vo _)
   have es := xS C y (C.getD y 0 + 1)
   change _ = ints (yG C y) at es
   have ty : ((y : Nat) : Int).toNat = y := by omega
   have g2 : (h.set ic (ints (yG C y))).get ic = some (ints (yG C y)) := by rw [wV rfl, gc]; rfl
   obtain ⟨h', k, g, f, n, t⟩ := De (lv := lv) (dv := dv) (mv := mv) hD hr ic hb rd hno q (p ++ [(y : Int)]) (yG C y) (h.set ic (ints (yG C y))) (by rw [hp]; simp) (hx.GR hno _) g2 (by rw [zo, hC]) (fun z hz => by have := CF rC (by omega) z hz; simp; omega) (by simpa using fc)
   have n1 : (((p ++ [(y : Int)]).length : Nat) : Int) = (p.length : Int) + 1 := by simp
   rw [ym, ty]
   refine ⟨h', uy ?_ k, g, by rw [f]; simp, by rw [n]; simp, fun i hi => by rw [t i hi, wI hi]⟩
   rw [n1]
   clear k g f n t g2 rd a1 a2 hr hp hd hx rC
   generalize C.getD y 0 = z at *
   generalize ints (yG C y) = C2 at *
   generalize ints C = C0 at *
   simp (disch := omega) only [go_sem, wG, AP.f13L3, ln, b1, b2, gc, lc, gx, es]
theorem H7 {a0 a1 a2 a3 lv ov : AV} {L : List Int} (hL : L.length = 19) (ir : Nat) (hb : H) (rl : Rd hb lv (ints L)) (ro : Rd hb ov (ints wH)) (hno : hb.get ir = none) : ∀ (m i : Nat) (h : H), i + m = 19 → Ext hb h → h.get ir = some (ints ((wH.take i).map (fun o => L.getD o.toNat 0) ++ List.replicate m 0)) → h.floor ≤ ir →
 ∃ h', Lp AP.A [0, 11, 13, 15, 18, 20, 21, 22] AP.f13L2 [(0, a0), (11, a1), (13, a2), (15, a3), (18, lv), (20, ov), (21, .aF ir 0 19 1), (22, .int .i64 i)] h = some (.exit 4, [(0, a0), (11, a1), (13, a2), (15, a3), (18, lv), (20, ov), (21, .aF ir 0 19 1), (22, .int .i64 19), (142, .bool false)], h') ∧ h'.get ir = some (ints (wH.map (fun o => L.getD o.toNat 0))) ∧ h'.floor = h.floor ∧ h'.next = h.next ∧ (∀ i, i ≠ ir → h'.get i = h.get i)
 | 0, i, h, hi, hx, gr, fr => by
   obtain rfl : i = 19 := by omega
   have e : wH.take 19 = wH := rfl
   rw [e, List.replicate_zero, Vm] at gr
   refine ⟨h, ux ?_, gr, rfl, rfl, fun _ _ => rfl⟩
   simp (disch := omega) only [go_sem, wG, AP.f13L2]
 | m + 1, i, h, hi, hx, gr, fr => by
   have hi19 : i < wH.length := by show i < 19; omega
   obtain ⟨ad, d1, d2⟩ := rl.xZ
   obtain ⟨ao, o1, o2⟩ := ro.xZ
   have b1 := o1 i ⟨by omega, by omega⟩
   have ho : wH[i]? = some (wH[i]) := U6 hi19
   have orr : 0 ≤ wH[i] ∧ wH[i] < 19 := Bb _ (Vo hi19)
   have tk : wH.take (i + 1) = wH.take i ++ [wH[i]] := by rw [List.take_add_one, ho]; rfl
   obtain ⟨y, hy⟩ := U9 orr.1
   have ho2 : wH[i]? = some (y : Int) := by rw [ho, hy]
   have b2 := o2 h hx i _ ho2
   have c1 := d1 y ⟨by omega, by omega⟩
   have lgy : L[y]? = some (L.getD y 0) := by rw [U3, U6 (by omega)]; rfl
   have c2 := d2 h hx y _ lgy
   have ty : ((y : Nat) : Int).toNat = y := by omega
   have lr : (ints ((wH.take i).map (fun o => L.getD o.toNat 0) ++ List.replicate (m + 1) 0)).length = 19 := by
    rw [qy, wo, List.length_map, Vy, Vf]; show min i 19 + (m + 1) = 19; omega
   have il : ((wH.take i).map (fun o => L.getD o.toNat 0)).length = i := by rw [List.length_map, Vy]; show min i 19 = i; omega
   have es : (ints ((wH.take i).map (fun o => L.getD o.toNat 0) ++ List.replicate (m + 1) 0)).set i (.int .i64 (L.getD y 0)) = ints ((wH.take (i + 1)).map (fun o => L.getD o.toNat 0) ++ List.replicate m 0) := by
    rw [xS, List.set_append_right _ _ (by omega), il, Nat.sub_self, tk, List.map_append, Vb, hy]
    rfl
   have g2 : (h.set ir (ints ((wH.take (i + 1)).map (fun o => L.getD o.toNat 0) ++ List.replicate m 0))).get ir = some (ints ((wH.take (i + 1)).map (fun o => L.getD o.toNat 0) ++ List.replicate m 0)) := by rw [wV rfl, gr]; rfl
   obtain ⟨h', k, g, f, n, t⟩ := H7 (a0 := a0) (a1 := a1) (a2 := a2) (a3 := a3) hL ir hb rl ro hno m (i + 1) _ (by omega) (hx.GR hno _) g2 (by simpa using fr)
   have n1 : ((i + 1 : Nat) : Int) = (i : Int) + 1 := by omega
   refine ⟨h', uy ?_ k, g, by rw [f]; simp, by rw [n]; simp, fun i hi => by rw [t i hi, wI hi]⟩
   rw [n1]
   clear k g f n t g2 rl ro d1 d2 o1 o2 hx ho ho2 hy orr tk lgy il
   generalize L.getD y 0 = z at *
   generalize ints ((wH.take (i + 1)).map (fun o => L.getD o.toNat 0) ++ List.replicate m 0) = R2 at *
   generalize ints ((wH.take i).map (fun o => L.getD o.toNat 0) ++ List.replicate (m + 1) 0) = R0 at *
   simp (disch := omega) only [go_sem, wG, AP.f13L2, b1, b2, c1, c2, gr, lr, es]
def AJ (R : List Int) : List Nat := R.flatMap fun y => wW y.toNat 3
theorem EJ : ∀ R : List Int, (AJ R).length = 3 * R.length
 | [] => rfl
 | y :: R => by
   have := EJ R
   unfold AJ at *
   rw [Va, wo, this]; simp [wW, xb]; omega
theorem FY {a0 a1 a2 a3 a4 rv : AV} {R : List Int} (h0 : H) (rr : Rd h0 rv (ints R)) (k : Nat) (hk : k ≤ R.length) (hR : R.length = 19) (w : Nat) (hr : ∀ y ∈ R, 0 ≤ y ∧ y < 8) : ∀ (m i : Nat) (bs : List Nat) (h : H) (ov : AV), i + m = k → WX h0 h w bs ov → bs.length + 3 * m ≤ 65000 →
 ∃ e' h' ov', Lp AP.A [0, 11, 13, 15, 18, 21, 23, 24, 25] AP.f13L1 [(0, a0), (11, a1), (13, a2), (15, a3), (18, a4), (21, rv), (23, .int .i64 k), (24, .aE w 0), (25, .int .i64 i)] h = some (.exit 6, e', h') ∧ look e' 0 = a0 ∧ look e' 11 = a1 ∧ look e' 13 = a2 ∧ look e' 15 = a3 ∧ look e' 18 = a4 ∧ look e' 24 = .aE w 0 ∧ WX h0 h' w (bs ++ AJ ((R.drop i).take m)) ov'
 | 0, i, bs, h, ov, hi, x, hb => by
   obtain rfl : i = k := by omega
   refine ⟨[(0, a0), (11, a1), (13, a2), (15, a3), (18, a4), (21, rv), (23, .int .i64 i), (24, .aE w 0), (25, .int .i64 i), (177, .bool false)], h, ov, ux ?_, rfl, rfl, rfl, rfl, rfl, rfl, by simpa [AJ] using x⟩
   simp (disch := omega) only [go_sem, wG, AP.f13L1]
 | m + 1, i, bs, h, ov, hi, x, hb => by
   obtain ⟨ad, d1, d2⟩ := rr.xZ
   have b1 := d1 i ⟨by omega, by omega⟩
   have hg : R[i]? = some (R.getD i 0) := by rw [U3, U6 (by omega)]; rfl
   have yr := hr _ (vV hg)
   obtain ⟨y, hy⟩ := U9 yr.1
   rw [hy] at hg yr
   have b2 := d2 h x.ext i _ hg
   have dr : R.drop i = (y : Int) :: R.drop (i + 1) := by
    rw [List.drop_eq_getElem_cons (by omega)]
    rw [U6 (by omega)] at hg
    rw [vG hg]
   obtain ⟨h1, o1, k1, w1, f1⟩ := zC x.wr y 3 (by omega) (by omega) (by omega)
   have k1' : aS AP.A 33 [.aE w 0, .int .i64 y, .int .i64 3] h = _ := k1
   have x1 := x.step w1 f1
   have hl1 : (bs ++ wW y 3).length = bs.length + 3 := by simp [wW, xb]
   obtain ⟨e', h', ov', r1, r2, r3, r4, r5, r6, r7, x2⟩ := FY (a0 := a0) (a1 := a1) (a2 := a2) (a3 := a3) (a4 := a4) h0 rr k hk hR w hr m (i + 1) _ h1 o1 (by omega) x1 (by rw [hl1]; omega)
   have n1 : ((i + 1 : Nat) : Int) = (i : Int) + 1 := by omega
   refine ⟨e', h', ov', uy ?_ r1, r2, r3, r4, r5, r6, r7, ?_⟩
   · rw [n1]
     clear r1 r2 r3 r4 r5 r6 r7 x2 x1 w1 f1 x rr d1 d2 hr dr hy hg
     simp (disch := omega) only [go_sem, wG, AP.f13L1, b1, b2, k1']
   · rw [dr, vY]
     have : AJ ((y : Int) :: (R.drop (i + 1)).take m) = wW y 3 ++ AJ ((R.drop (i + 1)).take m) := by unfold AJ; rw [Va]; rfl
     rw [this, ← Vb]
     exact x2
def zP (E : List (Int × Int)) (D : List Int) : List Nat := D.flatMap fun y => wL E y.toNat
theorem G4 {E : List (Int × Int)} : ∀ {D : List Int}, (∀ y ∈ D, Ez E y.toNat) → (zP E D).length ≤ 15 * D.length
 | [], _ => by simp [zP]
 | y :: D, h => by
   have := G4 (E := E) (D := D) fun z hz => h z (by simp [hz])
   obtain ⟨n, v, _, q1, q2, q3, q4⟩ := (h y (by simp)).bits
   unfold zP at *
   rw [Va, wo, q4, xm, UZ]; omega
theorem EF {a0 a1 a2 av ev : AV} {D : List Int} {E : List (Int × Int)} (h0 : H) (ra : Rd h0 av (ints D)) (re : zE 2 h0 ev E.length (E.flatMap xK)) (hD : D.length < 1000) (hE : E.length = 19) (w : Nat) (hr : ∀ y ∈ D, 0 ≤ y ∧ y < 19) (ok : ∀ y ∈ D, Ez E y.toNat) : ∀ (q p : List Int) (bs : List Nat) (h : H) (ov : AV), D = p ++ q → WX h0 h w bs ov → bs.length + 15 * q.length ≤ 65000 →
 ∃ e' h' ov', Lp AP.A [0, 11, 13, 15, 24, 26, 28] AP.f13L0 [(0, a0), (11, a1), (13, a2), (15, av), (24, .aE w 0), (26, ev), (28, .int .i64 p.length)] h = some (.exit 8, e', h') ∧ look e' 0 = a0 ∧ look e' 11 = a1 ∧ look e' 13 = a2 ∧ look e' 24 = .aE w 0 ∧ WX h0 h' w (bs ++ zP E q) ov'
 | [], p, bs, h, ov, hp, x, hb => by
   rw [Vm] at hp; subst hp
   have ln := ra.len
   rw [qy] at ln
   simp only [I] at ln
   refine ⟨[(0, a0), (11, a1), (13, a2), (15, av), (24, .aE w 0), (26, ev), (28, .int .i64 D.length), (194, .bool false)], h, ov, ux ?_, rfl, rfl, rfl, rfl, by simpa [zP] using x⟩
   simp (disch := omega) only [go_sem, wG, AP.f13L0, ln]
 | d :: q, p, bs, h, ov, hp, x, hb => by
   have ln := ra.len
   rw [qy] at ln
   simp only [I] at ln
   have hl : D.length = p.length + (q.length + 1) := by rw [hp]; simp
   obtain ⟨ad, d1, d2⟩ := ra.xZ
   obtain ⟨ae, e1, e2⟩ := re.JJ
   have b1 := d1 p.length ⟨by omega, by omega⟩
   have hd : D[p.length]? = some d := by rw [hp]; simp
   have dr := hr d (vV hd)
   have oc := ok d (vV hd)
   obtain ⟨y, rfl⟩ := U9 dr.1
   have b2 := d2 h x.ext p.length _ hd
   have ty : ((y : Nat) : Int).toNat = y := by omega
   rw [ty] at oc
   obtain ⟨n, c, q0, q1, q2, q3, q4⟩ := oc.bits
   have yl := oc.lt
   have c1 := e1 y ⟨by omega, by omega⟩
   have c2 := e2 h x.ext _ _ q0
   simp only [UZ] at hb
   obtain ⟨h1, o1, k1, w1, f1⟩ := CR x.wr c n q1 q2 q3 (by omega)
   have x1 := x.step w1 f1
   have hl1 : (bs ++ zk c n).length = bs.length + n := by simp [xm]
   obtain ⟨e', h', ov', r1, r2, r3, r4, r5, x2⟩ := EF (a0 := a0) (a1 := a1) (a2 := a2) h0 ra re hD hE w hr ok q (p ++ [(y : Int)]) _ h1 o1 (by rw [hp]; simp) x1 (by rw [hl1]; omega)
   have n1 : (((p ++ [(y : Int)]).length : Nat) : Int) = (p.length : Int) + 1 := by simp
   refine ⟨e', h', ov', uy ?_ r1, r2, r3, r4, r5, ?_⟩
   · rw [n1]
     clear r1 r2 r3 r4 r5 x2 x1 w1 f1 x ra re d1 d2 e1 e2 hr hp hd ok oc q4 q0 q3
     simp (disch := omega) only [go_sem, wG, AP.f13L0, ln, b1, b2, c1, c2, k1]
   · have : zP E ((y : Int) :: q) = zk c n ++ zP E q := by unfold zP; rw [Va, ty, q4]
     rw [this, ← Vb]
     exact x2
theorem UL {v0 : AV} {g : H} : aM (aS AP.A) bG (at_ 0 AP.f13.body) (params 0 [v0]) g = some (.normal, [(0, v0)], g) := by
 simp (disch := omega) only [go_sem, wG, AP.f13, xR, xV]
theorem UM {v0 : AV} {g : H} (k : aS AP.A 27 [v0] g = some (.bool true, g)) : aM (aS AP.A) bG (at_ 1 AP.f13.body) [(0, v0)] g = some (.normal, [(0, v0)], g) := by
 simp (disch := omega) only [go_sem, wG, AP.f13, xR, xV, k]
theorem UQ {v0 v4 v5 v11 : AV} {g : H} (k : aS AP.A 30 [v4, .int .i64 15] g = some (.bU [v11, .int .i64 0], g)) : aM (aS AP.A) bG (at_ 5 AP.f13.body) [(0, v0), (4, v4), (5, v5)] g = some (.normal, [(0, v0), (5, v5), (11, v11)], g) := by
 simp (disch := omega) only [go_sem, wG, AP.f13, xR, xV, k]
theorem UR {v0 v5 v11 v13 : AV} {g : H} (k : aS AP.A 30 [v5, .int .i64 15] g = some (.bU [v13, .int .i64 0], g)) : aM (aS AP.A) bG (at_ 6 AP.f13.body) [(0, v0), (5, v5), (11, v11)] g = some (.normal, [(0, v0), (11, v11), (13, v13)], g) := by
 simp (disch := omega) only [go_sem, wG, AP.f13, xR, xV, k]
theorem Ud {v0 v11 v13 v15 v16 v18 : AV} {g : H} (k : aS AP.A 30 [v16, .int .i64 7] g = some (.bU [v18, .int .i64 0], g)) : aM (aS AP.A) bG (at_ 13 AP.f13.body) [(0, v0), (11, v11), (13, v13), (15, v15), (16, v16)] g = some (.normal, [(0, v0), (11, v11), (13, v13), (15, v15), (18, v18)], g) := by
 simp (disch := omega) only [go_sem, wG, AP.f13, xR, xV, k]
theorem Ue {v0 v11 v13 v15 v18 v20 : AV} {g : H} (k : aS AP.A 32 [] g = some (v20, g)) : aM (aS AP.A) bG (at_ 14 AP.f13.body) [(0, v0), (11, v11), (13, v13), (15, v15), (18, v18)] g = some (.normal, [(0, v0), (11, v11), (13, v13), (15, v15), (18, v18), (20, v20)], g) := by
 simp (disch := omega) only [go_sem, wG, AP.f13, xR, xV, k]
theorem Uh {v0 v11 v13 v15 v18 v21 v23 : AV} {g : H} (k : aS AP.A 31 [v21, .int .i64 4] g = some (v23, g)) : aM (aS AP.A) bG (at_ 17 AP.f13.body) [(0, v0), (11, v11), (13, v13), (15, v15), (18, v18), (21, v21)] g = some (.normal, [(0, v0), (11, v11), (13, v13), (15, v15), (18, v18), (21, v21), (23, v23)], g) := by
 simp (disch := omega) only [go_sem, wG, AP.f13, xR, xV, k]
theorem Ui {v0 v11 v13 v15 v18 v21 v23 : AV} {g : H}  : aM (aS AP.A) bG (at_ 18 AP.f13.body) [(0, v0), (11, v11), (13, v13), (15, v15), (18, v18), (21, v21), (23, v23)] g = some (.normal, [(0, v0), (11, v11), (13, v13), (15, v15), (18, v18), (21, v21), (23, v23), (24, .aE g.next 0)], (g.alloc [.aQ, .int .i64 0])) := by
 simp (disch := omega) only [go_sem, wG, AP.f13, xR, xV]
theorem Uj {v0 v11 v13 v15 v18 v21 v23 v24 : AV} {g g2 : H} (k : aS AP.A 33 [v24, .int .i64 5, .int .i64 3] g = some (.int .i64 0, g2)) : aM (aS AP.A) bG (at_ 19 AP.f13.body) [(0, v0), (11, v11), (13, v13), (15, v15), (18, v18), (21, v21), (23, v23), (24, v24)] g = some (.normal, [(0, v0), (11, v11), (13, v13), (15, v15), (18, v18), (21, v21), (23, v23), (24, v24)], g2) := by
 simp (disch := omega) only [go_sem, wG, AP.f13, xR, xV, k]
theorem Uk {v0 v11 v13 v15 v18 v21 v23 v24 : AV} {g g2 : H} {n : Nat} (ln : jy false v11 = some (.int .i64 n)) (hn : n < 1000) (k : aS AP.A 33 [v24, .int .i64 ((n : Int) - 257), .int .i64 5] g = some (.int .i64 0, g2)) : aM (aS AP.A) bG (at_ 20 AP.f13.body) [(0, v0), (11, v11), (13, v13), (15, v15), (18, v18), (21, v21), (23, v23), (24, v24)] g = some (.normal, [(0, v0), (11, v11), (13, v13), (15, v15), (18, v18), (21, v21), (23, v23), (24, v24)], g2) := by
 simp (disch := omega) only [go_sem, wG, AP.f13, xR, xV, ln, k]
theorem Ul {v0 v11 v13 v15 v18 v21 v23 v24 : AV} {g g2 : H} {n : Nat} (ln : jy false v13 = some (.int .i64 n)) (hn : n < 1000) (k : aS AP.A 33 [v24, .int .i64 ((n : Int) - 1), .int .i64 5] g = some (.int .i64 0, g2)) : aM (aS AP.A) bG (at_ 21 AP.f13.body) [(0, v0), (11, v11), (13, v13), (15, v15), (18, v18), (21, v21), (23, v23), (24, v24)] g = some (.normal, [(0, v0), (11, v11), (13, v13), (15, v15), (18, v18), (21, v21), (23, v23), (24, v24)], g2) := by
 simp (disch := omega) only [go_sem, wG, AP.f13, xR, xV, ln, k]
theorem Um {v0 v11 v13 v15 v18 v21 v24 : AV} {g g2 : H} {n : Nat} (hn : n < 1000) (k : aS AP.A 33 [v24, .int .i64 ((n : Int) - 4), .int .i64 4] g = some (.int .i64 0, g2)) : aM (aS AP.A) bG (at_ 22 AP.f13.body) [(0, v0), (11, v11), (13, v13), (15, v15), (18, v18), (21, v21), (23, .int .i64 n), (24, v24)] g = some (.normal, [(0, v0), (11, v11), (13, v13), (15, v15), (18, v18), (21, v21), (23, .int .i64 n), (24, v24)], g2) := by
 simp (disch := omega) only [go_sem, wG, AP.f13, xR, xV, k]
theorem Un {v0 v11 v13 v15 v18 v21 v23 v24 : AV} {g g2 : H} {e : Env} (L : Lp AP.A [0, 11, 13, 15, 18, 21, 23, 24, 25] AP.f13L1 [(0, v0), (11, v11), (13, v13), (15, v15), (18, v18), (21, v21), (23, v23), (24, v24), (25, .int .i64 0)] g = some (.exit 6, e, g2)) (q0 : look e 0 = v0) (q11 : look e 11 = v11) (q13 : look e 13 = v13) (q15 : look e 15 = v15) (q18 : look e 18 = v18) (q24 : look e 24 = v24) : aM (aS AP.A) bG (at_ 23 AP.f13.body) [(0, v0), (11, v11), (13, v13), (15, v15), (18, v18), (21, v21), (23, v23), (24, v24)] g = some (.normal, [(0, v0), (11, v11), (13, v13), (15, v15), (18, v18), (24, v24)], g2) := by
 simp (disch := omega) only [go_sem, wG, AP.f13, xR, xV, th, L, q0, q11, q13, q15, q18, q24]
theorem Uo {v0 v11 v13 v15 v18 v24 v26 : AV} {g : H} (k : aS AP.A 34 [v18] g = some (.bU [v26, .int .i64 0], g)) : aM (aS AP.A) bG (at_ 24 AP.f13.body) [(0, v0), (11, v11), (13, v13), (15, v15), (18, v18), (24, v24)] g = some (.normal, [(0, v0), (11, v11), (13, v13), (15, v15), (24, v24), (26, v26)], g) := by
 simp (disch := omega) only [go_sem, wG, AP.f13, xR, xV, k]
theorem Up {v0 v11 v13 v15 v24 v26 : AV} {g g2 : H} {e : Env} (L : Lp AP.A [0, 11, 13, 15, 24, 26, 28] AP.f13L0 [(0, v0), (11, v11), (13, v13), (15, v15), (24, v24), (26, v26), (28, .int .i64 0)] g = some (.exit 8, e, g2)) (q0 : look e 0 = v0) (q11 : look e 11 = v11) (q13 : look e 13 = v13) (q24 : look e 24 = v24) : aM (aS AP.A) bG (at_ 25 AP.f13.body) [(0, v0), (11, v11), (13, v13), (15, v15), (24, v24), (26, v26)] g = some (.normal, [(0, v0), (11, v11), (13, v13), (24, v24)], g2) := by
 simp (disch := omega) only [go_sem, wG, AP.f13, xR, xV, th, L, q0, q11, q13, q24]
theorem Uq {v0 v11 v13 v24 v29 : AV} {g : H} (k : aS AP.A 34 [v11] g = some (.bU [v29, .int .i64 0], g)) : aM (aS AP.A) bG (at_ 26 AP.f13.body) [(0, v0), (11, v11), (13, v13), (24, v24)] g = some (.normal, [(0, v0), (13, v13), (24, v24), (29, v29)], g) := by
 simp (disch := omega) only [go_sem, wG, AP.f13, xR, xV, k]
theorem Ur {v0 v13 v24 v29 v31 : AV} {g : H} (k : aS AP.A 34 [v13] g = some (.bU [v31, .int .i64 0], g)) : aM (aS AP.A) bG (at_ 27 AP.f13.body) [(0, v0), (13, v13), (24, v24), (29, v29)] g = some (.normal, [(0, v0), (24, v24), (29, v29), (31, v31)], g) := by
 simp (disch := omega) only [go_sem, wG, AP.f13, xR, xV, k]
theorem Us {v0 v24 v29 v31 : AV} {g g2 : H} (k : aS AP.A 36 [v24, v0, v29, v31] g = some (.bU [], g2)) : aM (aS AP.A) bG (at_ 28 AP.f13.body) [(0, v0), (24, v24), (29, v29), (31, v31)] g = some (.normal, [(24, v24)], g2) := by
 simp (disch := omega) only [go_sem, wG, AP.f13, xR, xV, k]
theorem Ut {v24 : AV} {g : H} {t : ByteArray} (k : aS AP.A 37 [v24] g = some (.str t, g)) : aM (aS AP.A) bG (MG 29 AP.f13.body) [(24, v24)] g = some (.ret, [(2, .str t), (3, .int .i64 0)], g) := by
 simp (disch := omega) only [go_sem, wG, AP.f13, NI, NH, k]
theorem K0 {h : H} {cs : List AV} {N k : Nat} (hN : cs.length = N) (h0 : 0 < N) (hk : k ≤ N) : sZ h 1 (AK 1 N cs) none (some (.int .i64 k)) none = some (.aV false cs 0 k 1) := by
 unfold AK
 rw [if_neg (by omega)]
 exact DO hN hk
theorem US {v0 v11 v13 : AV} {g : H} {cs : List AV} {N k : Nat} (hN : cs.length = N) (h0 : 0 < N) (hk : k ≤ N) (e : v11 = AK 1 N cs) (u : aS AP.A 31 [AK 1 N cs, .int .i64 257] g = some (.int .i64 k, g)) : aM (aS AP.A) bG (at_ 7 AP.f13.body) [(0, v0), (11, v11), (13, v13)] g = some (.normal, [(0, v0), (11, .aV false cs 0 k 1), (13, v13)], g) := by
 subst e
 have s := K0 (h := g) hN h0 hk
 generalize AK 1 N cs = S at *
 simp (disch := omega) only [go_sem, wG, AP.f13, xR, xV, u, s]
theorem UT {v0 v11 v13 : AV} {g : H} {cs : List AV} {N k : Nat} (hN : cs.length = N) (h0 : 0 < N) (hk : k ≤ N) (e : v13 = AK 1 N cs) (u : aS AP.A 31 [AK 1 N cs, .int .i64 1] g = some (.int .i64 k, g)) : aM (aS AP.A) bG (at_ 8 AP.f13.body) [(0, v0), (11, v11), (13, v13)] g = some (.normal, [(0, v0), (11, v11), (13, .aV false cs 0 k 1)], g) := by
 subst e
 have s := K0 (h := g) hN h0 hk
 generalize AK 1 N cs = S at *
 simp (disch := omega) only [go_sem, wG, AP.f13, xR, xV, u, s]
theorem UU {v0 v11 v13 v15 : AV} {g g2 : H} (p : lL (g.alloc []) 1 8 (.aF g.next 0 0 1) v11 = some (v15, g2)) : aM (aS AP.A) bG (at_ 9 AP.f13.body) [(0, v0), (11, v11), (13, v13)] g = some (.normal, [(0, v0), (11, v11), (13, v13), (15, v15)], g2) := by
 simp (disch := omega) only [go_sem, wG, AP.f13, xR, xV, p]
theorem Ua {v0 v11 v13 v15 v16 : AV} {g g2 : H} (p : lL g 1 8 v15 v13 = some (v16, g2)) : aM (aS AP.A) bG (at_ 10 AP.f13.body) [(0, v0), (11, v11), (13, v13), (15, v15)] g = some (.normal, [(0, v0), (11, v11), (13, v13), (15, v16)], g2) := by
 simp (disch := omega) only [go_sem, wG, AP.f13, xR, xV, p]
theorem Ub {v0 v11 v13 v15 : AV} {g : H}  : aM (aS AP.A) bG (at_ 11 AP.f13.body) [(0, v0), (11, v11), (13, v13), (15, v15)] g = some (.normal, [(0, v0), (11, v11), (13, v13), (15, v15), (16, .aF g.next 0 19 1)], (g.alloc (yd 19 [.int .i64 0]))) := by
 simp (disch := omega) only [go_sem, wG, AP.f13, xR, xV]
theorem Uf {v0 v11 v13 v15 v18 v20 : AV} {g : H}  : aM (aS AP.A) bG (at_ 15 AP.f13.body) [(0, v0), (11, v11), (13, v13), (15, v15), (18, v18), (20, v20)] g = some (.normal, [(0, v0), (11, v11), (13, v13), (15, v15), (18, v18), (20, v20), (21, .aF g.next 0 19 1)], (g.alloc (yd 19 [.int .i64 0]))) := by
 simp (disch := omega) only [go_sem, wG, AP.f13, xR, xV]
theorem Uc {v0 v11 v13 v15 v16 x17 x122 : AV} {g g2 : H} (L : Lp AP.A [0, 11, 13, 15, 16, 17] AP.f13L3 [(0, v0), (11, v11), (13, v13), (15, v15), (16, v16), (17, .int .i64 0)] g = some (.exit 2, [(0, v0), (11, v11), (13, v13), (15, v15), (16, v16), (17, x17), (122, x122)], g2)) : aM (aS AP.A) bG (at_ 12 AP.f13.body) [(0, v0), (11, v11), (13, v13), (15, v15), (16, v16)] g = some (.normal, [(0, v0), (11, v11), (13, v13), (15, v15), (16, v16)], g2) := by
 simp (disch := omega) only [go_sem, wG, AP.f13, xR, xV, th, L]
theorem Ug {v0 v11 v13 v15 v18 v20 v21 x22 x142 : AV} {g g2 : H} (L : Lp AP.A [0, 11, 13, 15, 18, 20, 21, 22] AP.f13L2 [(0, v0), (11, v11), (13, v13), (15, v15), (18, v18), (20, v20), (21, v21), (22, .int .i64 0)] g = some (.exit 4, [(0, v0), (11, v11), (13, v13), (15, v15), (18, v18), (20, v20), (21, v21), (22, x22), (142, x142)], g2)) : aM (aS AP.A) bG (at_ 16 AP.f13.body) [(0, v0), (11, v11), (13, v13), (15, v15), (18, v18), (20, v20), (21, v21)] g = some (.normal, [(0, v0), (11, v11), (13, v13), (15, v15), (18, v18), (21, v21)], g2) := by
 simp (disch := omega) only [go_sem, wG, AP.f13, xR, xV, th, L]
theorem UP {v0 v4 v5 x6 x43 : AV} {g g2 : H} (L : Lp AP.A [0, 4, 5, 6] AP.f13L4 [(0, v0), (4, v4), (5, v5), (6, .int .i64 0)] g = some (.exit 0, [(0, v0), (4, v4), (5, v5), (6, x6), (43, x43)], g2)) : aM (aS AP.A) bG (at_ 4 AP.f13.body) [(0, v0), (4, v4), (5, v5)] g = some (.normal, [(0, v0), (4, v4), (5, v5)], g2) := by
 simp (disch := omega) only [go_sem, wG, AP.f13, xR, xV, th, L]
theorem UN {v0 : AV} {g : H} : aM (aS AP.A) bG (at_ 2 AP.f13.body) [(0, v0)] g = some (.normal, [(0, v0), (4, .aF g.next 0 286 1), (5, .aF (g.next + 1) 0 30 1)], (g.alloc (yd 286 [.int .i64 0])).alloc (yd 30 [.int .i64 0])) := by
 simp (disch := first | omega | (simp only [xe, UZ, U4, vW, Nat.reduceAdd]; first | done | omega | fail) | (simp (disch := first | omega | (simp only [xe, UZ, U4, vW, Nat.reduceAdd]; first | done | omega | fail) | fail) only [xe, Aa, U8, UZ, U4, vW, Nat.reduceAdd]; done) | fail) only [go_sem, wG, Au, AP.f13, xR, xV]
theorem UO {v0 v5 : AV} {g : H} {ia : Nat} {A : List AV} (ga : g.get ia = some A) (hA : A.length = 286) (fa : g.floor ≤ ia) : aM (aS AP.A) bG (at_ 3 AP.f13.body) [(0, v0), (4, .aF ia 0 286 1), (5, v5)] g = some (.normal, [(0, v0), (4, .aF ia 0 286 1), (5, v5)], g.set ia (A.set 256 (.int .i64 1))) := by
 simp (disch := omega) only [go_sem, wG, AP.f13, xR, xV, ga, hA]
theorem M9 : AP.f13.body = .seq (at_ 0 AP.f13.body) (.seq (at_ 1 AP.f13.body) (.seq (at_ 2 AP.f13.body) (.seq (at_ 3 AP.f13.body) (.seq (at_ 4 AP.f13.body) (.seq (at_ 5 AP.f13.body) (.seq (at_ 6 AP.f13.body) (.seq (at_ 7 AP.f13.body) (.seq (at_ 8 AP.f13.body) (.seq (at_ 9 AP.f13.body) (.seq (at_ 10 AP.f13.body) (.seq (at_ 11 AP.f13.body) (.seq (at_ 12 AP.f13.body) (.seq (at_ 13 AP.f13.body) (.seq (at_ 14 AP.f13.body) (.seq (at_ 15 AP.f13.body) (.seq (at_ 16 AP.f13.body) (.seq (at_ 17 AP.f13.body) (.seq (at_ 18 AP.f13.body) (.seq (at_ 19 AP.f13.body) (.seq (at_ 20 AP.f13.body) (.seq (at_ 21 AP.f13.body) (.seq (at_ 22 AP.f13.body) (.seq (at_ 23 AP.f13.body) (.seq (at_ 24 AP.f13.body) (.seq (at_ 25 AP.f13.body) (.seq (at_ 26 AP.f13.body) (.seq (at_ 27 AP.f13.body) (.seq (at_ 28 AP.f13.body) ((MG 29 AP.f13.body)))))))))))))))))))))))))))))) := rfl
theorem yV (l : List Int) (k : Nat) : ∀ n, k ≤ xj l k n ∧ xj l k n ≤ max k n
 | 0 => ⟨vR _, by rw [xj]; omega⟩
 | n + 1 => by
   rw [xj]
   have := yV l k n
   split
   · omega
   · split
     · omega
     · omega
theorem FI : ∀ (K : Nat) (S W O : List Int), (Bw S K W O).length = O.length
 | 0, S, W, O => by rw [Bw, xP]
 | K + 1, S, W, O => by rw [Bw, FI K, xP]
theorem A9 (C : List Int) (K : Nat) : (xC C K).length = C.length := by unfold xC; rw [FI]; simp
theorem JL (h : H) (l : List Int) {k : Nat} (hk : k ≤ l.length) : Rd h (.aV false (ints l) 0 k 1) (ints (l.take k)) := by
 refine ⟨?_, by intro s e; cases e⟩
 have : (ints (l.take k)).length = k := by rw [qy, Vy]; omega
 rw [this]
 simp [aT, ints, hk, List.map_take]
def dA (ts : List Tok) : List Int := Ak ts ((List.replicate 286 0).set 256 1)
def dB (ts : List Tok) : List Int := AE ts (List.replicate 30 0)
def Cy (l : List Int) (k : Nat) : List Int := l.take (xj l k l.length)
theorem D6 (l : List Int) {k : Nat} (h : k ≤ l.length) : (Cy l k).length = xj l k l.length := by
 have := yV l k l.length
 unfold Cy; rw [Vy]; omega
def xD (ts : List Tok) (la lb Lc : List Int) : List Nat :=
 let all := la ++ lb
 let row := wH.map (fun o => Lc.getD o.toNat 0)
 let k := xj row 4 19
 wW 5 3 ++ (wW (la.length - 257) 5 ++ (wW (lb.length - 1) 5 ++ (wW (k - 4) 4 ++ (AJ (row.take k) ++ (zP (wB Lc) all ++ (xM (wB la) (wB lb) ts ++ wL (wB la) 256))))))
structure GY (ts : List Tok) (KA KB KC : Nat) (la lb Lc : List Int) : Prop where
 Pl : Kf ts = true
 n : ts.length ≤ 300
 tok : ∀ t ∈ ts, AY t
 ra : yH 15 KA (xI (dA ts))
 rb : yH 15 KB (xI (dB ts))
 ea : la = Cy (xC (dA ts) KA) 257
 eb : lb = Cy (xC (dB ts) KB) 1
 all : ∀ y ∈ la ++ lb, 0 ≤ y ∧ y < 19
 rc : yH 7 KC (xI (ym (la ++ lb) (List.replicate 19 0)))
 ec : Lc = xC (ym (la ++ lb) (List.replicate 19 0)) KC
 row : ∀ y ∈ Lc, 0 ≤ y ∧ y < 8
 ca : wP la = 0 ∨ wP la = 302
 cb : wP lb = 0 ∨ wP lb = 302
 cc : wP Lc = 0 ∨ wP Lc = 302
 FR : ∀ y ∈ la ++ lb, Ez (wB Lc) y.toNat
 N1 : ∀ t ∈ ts, KQ (wB la) (wB lb) t
 HQ : Ez (wB la) 256
theorem Ao (l : List Int) : (wB l).length = l.length := by simp [wB]
theorem AW (h : H) (l : List Int) : zE 2 h (DX l) (wB l).length ((wB l).flatMap xK) := by
 have := GQ (n := 2) (k := l.length) (h := h) (cs := (wB l).flatMap xK) (by rw [C3 z9, Ao])
 rw [Ao]; exact this
theorem GP (h : H) (l : List Int) : Rd h (AK 1 l.length (ints l)) (ints l) := by
 have := GQ (n := 1) (k := l.length) (h := h) (cs := ints l) (by rw [qy]; omega)
 exact ⟨by have := this.1; rw [qy]; exact this, this.2.2⟩
theorem zZ {C : List Int} (h : 2 ≤ C.length) : (xi C).length ≤ C.length := Ds h (zO 0 C)
theorem II (h : H) (v : AV) (ts : List Tok) (KA KB KC : Nat) (la lb Lc : List Int) (ok : GY ts KA KB KC la lb Lc) (rd : zE 3 h v ts.length (xw ts)) :
 aS AP.A 13 [v] h = some (.bU [.str (bytesOf (xn (xD ts la lb Lc))), .int .i64 0], h) := by
 obtain ⟨Pl, hn, tok, ra, rb, ea, eb, hall, rc, ec, hrow, ca, cb, cc, FR, N1, HQ⟩ := ok
 have rd0 : zE 3 h.ez v ts.length (xw ts) := rd.mono fun i c q => q
 obtain ⟨h2', eh2⟩ : ∃ g, g = (h.ez.alloc (yd 286 [.int .i64 0])).alloc (yd 30 [.int .i64 0]) := ⟨_, rfl⟩
 have d2 := UN (v0 := v) (g := h.ez)
 rw [← eh2] at d2
 change aM (aS AP.A) bG (at_ 2 AP.f13.body) [(0, v)] h.ez = some (.normal, [(0, v), (4, .aF h.next 0 286 1), (5, .aF (h.next + 1) 0 30 1)], h2') at d2
 have gA2 : h2'.get h.next = some (ints (List.replicate 286 0)) := by rw [eh2, w9 (by simp), wO (by simp), zr]
 have gB2 : h2'.get (h.next + 1) = some (ints (List.replicate 30 0)) := by rw [eh2, wO (by simp), zr]
 have fl2 : h2'.floor = h.next := by rw [eh2]; simp
 have nx2 : h2'.next = h.next + 2 := by rw [eh2]; simp
 have x2 : Ext h.ez h2' := by rw [eh2]; exact ((Ext.refl _).alloc _).alloc _
 have d3 := UO (v0 := v) (v5 := .aF (h.next + 1) 0 30 1) gA2 (by rw [qy]; simp) (by omega)
 rw [show (ints (List.replicate 286 0)).set 256 (.int .i64 1) = ints ((List.replicate 286 0).set 256 1) from xS _ _ _] at d3
 obtain ⟨h3', eh3⟩ : ∃ g, g = h2'.set h.next (ints ((List.replicate 286 0).set 256 1)) := ⟨_, rfl⟩
 rw [← eh3] at d3
 have gA3 : h3'.get h.next = some (ints ((List.replicate 286 0).set 256 1)) := by rw [eh3, wV rfl, gA2]; rfl
 have gB3 : h3'.get (h.next + 1) = some (ints (List.replicate 30 0)) := by rw [eh3, wI (by omega), gB2]
 have fl3 : h3'.floor = h.next := by rw [eh3]; simp [fl2]
 have nx3 : h3'.next = h.next + 2 := by rw [eh3]; simp [nx2]
 have x3 : Ext h.ez h3' := by rw [eh3]; exact x2.set (by simp) _
 obtain ⟨h4, L4, gA4, gB4, f4⟩ := Df (by omega) h.ez rd0 h.next (h.next + 1) tok (by omega) (by simp) (by simp) ts [] _ _ h3' rfl x3 (by simp; omega) gA3 gB3 (by simp) (by simp) (fun y hy => by
  rcases Vt hy with q | q
  · have := Vn q; omega
  · omega) (fun y hy => by have := Vn hy; omega) (by omega) (by omega) (by omega)
 change h4.get h.next = some (ints (dA ts)) at gA4
 change h4.get (h.next + 1) = some (ints (dB ts)) at gB4
 have d4 := UP L4
 have fl4 : h4.floor = h.next := by rw [f4.floor, fl3]
 have nx4 : h.next + 2 ≤ h4.next := by have := f4.next; omega
 have x4 : Ext h.ez h4 := fun i c q => by
  have := h.ez.lt _ _ q
  simp at this
  rw [f4.xU i (by omega) (by omega) (by omega), x3 i c q]
 have lA : (dA ts).length = 286 := by unfold dA; rw [Ch]; simp
 have lB : (dB ts).length = 30 := by unfold dB; rw [Cm]; simp
 have rgA : ∀ y ∈ dA ts, 0 ≤ y ∧ y ≤ 2147483647 := fun y hy => by
  have := Cj ts ((List.replicate 286 0).set 256 1) 1 (by omega) (fun y hy => by
   rcases Vt hy with q | q
   · have := Vn q; omega
   · omega) y hy
  omega
 have rgB : ∀ y ∈ dB ts, 0 ≤ y ∧ y ≤ 2147483647 := fun y hy => by
  have := Co ts (List.replicate 30 0) 0 (by omega) (fun y hy => by have := Vn hy; omega) y hy
  omega
 have rdA : Rd h4 (.aF h.next 0 286 1) (ints (dA ts)) := by
  have : wS 1 h4 (.aF h.next 0 286 1) (dA ts).length (ints (dA ts)) := by rw [lA]; exact ⟨by rw [qy, lA], .inr ⟨h.next, rfl, gA4, by omega, by omega⟩⟩
  exact this.N3
 have rdB : Rd h4 (.aF (h.next + 1) 0 30 1) (ints (dB ts)) := by
  have : wS 1 h4 (.aF (h.next + 1) 0 30 1) (dB ts).length (ints (dB ts)) := by rw [lB]; exact ⟨by rw [qy, lB], .inr ⟨h.next + 1, rfl, gB4, by omega, by omega⟩⟩
  exact this.N3
 have sA := zZ (C := dA ts) (by omega)
 have sB := zZ (C := dB ts) (by omega)
 have kA := BT h4 _ (dA ts) 15 KA (by omega) (by omega) rdA (by omega) rgA (by omega) ra
 have kB := BT h4 _ (dB ts) 15 KB (by omega) (by omega) rdB (by omega) rgB (by omega) rb
 have lLA := A9 (dA ts) KA
 have lLB := A9 (dB ts) KB
 generalize xC (dA ts) KA = LA at *
 generalize xC (dB ts) KB = LB at *
 rw [lA] at lLA
 rw [lB] at lLB
 have kA' : aS AP.A 30 [.aF h.next 0 286 1, .int .i64 15] h4 = some (.bU [AK 1 LA.length (ints LA), .int .i64 0], h4) := by rw [lLA]; rw [lA] at kA; exact kA
 have kB' : aS AP.A 30 [.aF (h.next + 1) 0 30 1, .int .i64 15] h4 = some (.bU [AK 1 LB.length (ints LB), .int .i64 0], h4) := by rw [lLB]; rw [lB] at kB; exact kB
 have d5 := UQ (v0 := v) (v5 := .aF (h.next + 1) 0 30 1) kA'
 have d6 := UR (v0 := v) (v11 := AK 1 LA.length (ints LA)) kB'
 have uA := I9 h4 _ LA (by omega) (GP h4 LA) 257 (by omega)
 have uB := I9 h4 _ LB (by omega) (GP h4 LB) 1 (by omega)
 have ugA := yV LA 257 LA.length
 have ugB := yV LB 1 LB.length
 have d7 := US (v0 := v) (v13 := AK 1 LB.length (ints LB)) (qy LA) (by omega) (by omega) rfl uA
 have d8 := UT (v0 := v) (v11 := .aV false (ints LA) 0 (xj LA 257 LA.length) 1) (qy LB) (by omega) (by omega) rfl uB
 have r11 : ∀ g : H, Rd g (.aV false (ints LA) 0 (xj LA 257 LA.length) 1) (ints la) := fun g => by rw [ea]; exact JL g LA (by omega)
 have r13 : ∀ g : H, Rd g (.aV false (ints LB) 0 (xj LB 1 LB.length) 1) (ints lb) := fun g => by rw [eb]; exact JL g LB (by omega)
 have lla : la.length = xj LA 257 LA.length := by rw [ea]; exact D6 LA (by omega)
 have llb : lb.length = xj LB 1 LB.length := by rw [eb]; exact D6 LB (by omega)
 generalize hv11 : AV.aV false (ints LA) 0 (xj LA 257 LA.length) 1 = v11 at *
 generalize hv13 : AV.aV false (ints LB) 0 (xj LB 1 LB.length) 1 = v13 at *
 have la1 : 257 ≤ la.length ∧ la.length ≤ 286 := by omega
 have lb1 : 1 ≤ lb.length ∧ lb.length ≤ 30 := by omega
 clear uA uB kA kB kA' kB' ugA ugB rdA rdB rgA rgB sA sB
 have a1 := J2 (z := 8) (r11 h4).TV (by omega) (by omega) (by rw [qy]; omega) (yh (by rw [qy]; omega)) (j5 la)
 obtain ⟨h5, eh5⟩ : ∃ g, g = ((h4.alloc []).del h4.next).alloc (ints la) := ⟨_, rfl⟩
 rw [← eh5] at a1
 rw [qy] at a1
 have d9 := UU (v0 := v) (v13 := v13) a1
 have ow5 : wS 1 h5 (.aF (h4.next + 1) 0 la.length 1) la.length (ints la) := ⟨by rw [qy]; omega, .inr ⟨h4.next + 1, rfl, by rw [eh5, wO (by simp)], by rw [eh5]; simp; omega, by omega⟩⟩
 have fl5 : h5.floor = h.next := by rw [eh5]; simp [fl4]
 have nx5 : h4.next ≤ h5.next := by rw [eh5]; simp; omega
 have k5 : ∀ i, i < h4.next → h5.get i = h4.get i := fun i hi => by rw [eh5, w9 (by simp; omega), AM (by omega), w9 (by omega)]
 obtain ⟨v15, h6, p1, ow6, fl6, nx6, k6, id6⟩ := ow5.app (by omega) (z := 8) (m := lb.length) (by omega) (by omega) (ints lb) (by rw [qy]; omega) (j5 lb) (yh (by omega))
 have a2 : lL h5 1 8 (.aF (h4.next + 1) 0 la.length 1) v13 = some (v15, h6) := by
  unfold lL
  rw [(r13 h5).1, vO, qy]
  exact p1
 have d10 := Ua (v0 := v) (v11 := v11) a2
 rw [← qx, ← wo] at ow6
 have k6' : ∀ i, i < h4.next → h6.get i = h4.get i := fun i hi => by
  rw [k6 i (fun e => by have := vG e; omega) (by omega), k5 i hi]
 have id6' : v15.id? = some h5.next := id6
 generalize hal : la ++ lb = all at *
 have lal : all.length ≤ 316 ∧ 0 < all.length := by rw [← hal, wo]; omega
 have d11 := Ub (v0 := v) (v11 := v11) (v13 := v13) (v15 := v15) (g := h6)
 obtain ⟨h7, eh7⟩ : ∃ g, g = h6.alloc (yd 19 [.int .i64 0]) := ⟨_, rfl⟩
 rw [← eh7] at d11
 have gC7 : h7.get h6.next = some (ints (List.replicate 19 0)) := by rw [eh7, wO rfl, zr]
 have h6n : h6.get h6.next = none := by
  cases e : h6.get h6.next with
  | none => rfl
  | some c => have := h6.lt _ _ e; omega
 have x7 : Ext h6 h7 := by rw [eh7]; exact (Ext.refl _).alloc _
 obtain ⟨h8, L8, gC8, fl8, nx8, k8⟩ := De (lv := v) (dv := v11) (mv := v13) (by omega) hall h6.next h6 ow6.N3 h6n all [] _ h7 rfl x7 gC7 (by simp) (fun y hy => by have := Vn hy; simp; omega) (by rw [eh7]; simp; have := (ow6.lt id6').2; omega)
 have d12 := Uc L8
 have lC : (ym all (List.replicate 19 0)).length = 19 := by rw [Cp]; simp
 have rgC : ∀ y ∈ ym all (List.replicate 19 0), 0 ≤ y ∧ y ≤ 2147483647 := fun y hy => by
  have := Cq all (List.replicate 19 0) 0 (by omega) (fun y hy => by have := Vn hy; omega) y hy
  omega
 have fl7 : h7.floor = h.next := by rw [eh7]; simp; omega
 have rdC : Rd h8 (.aF h6.next 0 19 1) (ints (ym all (List.replicate 19 0))) := by
  have : wS 1 h8 (.aF h6.next 0 19 1) (ym all (List.replicate 19 0)).length (ints (ym all (List.replicate 19 0))) := by
   rw [lC]; exact ⟨by rw [qy, lC], .inr ⟨h6.next, rfl, gC8, by rw [fl8, fl7]; have := (ow6.lt id6'); omega, by omega⟩⟩
  exact this.N3
 have sC := zZ (C := ym all (List.replicate 19 0)) (by omega)
 have kC := BT h8 _ (ym all (List.replicate 19 0)) 7 KC (by omega) (by omega) rdC (by omega) rgC (by omega) rc
 have lLc : Lc.length = 19 := by rw [ec, A9, lC]
 have kC' : aS AP.A 30 [.aF h6.next 0 19 1, .int .i64 7] h8 = some (.bU [AK 1 Lc.length (ints Lc), .int .i64 0], h8) := by rw [lLc]; rw [← ec, lC] at kC; exact kC
 have d13 := Ud (v0 := v) (v11 := v11) (v13 := v13) (v15 := v15) kC'
 have d14 := Ue (v0 := v) (v11 := v11) (v13 := v13) (v15 := v15) (v18 := AK 1 Lc.length (ints Lc)) (LX h8)
 have d15 := Uf (v0 := v) (v11 := v11) (v13 := v13) (v15 := v15) (v18 := AK 1 Lc.length (ints Lc)) (v20 := yR wH) (g := h8)
 obtain ⟨h9, eh9⟩ : ∃ g, g = h8.alloc (yd 19 [.int .i64 0]) := ⟨_, rfl⟩
 rw [← eh9] at d15
 have gR9 : h9.get h8.next = some (ints (List.replicate 19 0)) := by rw [eh9, wO rfl, zr]
 have h8n : h8.get h8.next = none := by
  cases e : h8.get h8.next with
  | none => rfl
  | some c => have := h8.lt _ _ e; omega
 have x9 : Ext h8 h9 := by rw [eh9]; exact (Ext.refl _).alloc _
 have fl8' : h8.floor = h.next := by rw [fl8, fl7]
 have nx8' : h6.next + 1 = h8.next := by rw [nx8, eh7]; simp
 have nx6' : h.next + 2 ≤ h6.next := by omega
 obtain ⟨h10, L10, gR10, fl10, nx10, k10⟩ := H7 (a0 := v) (a1 := v11) (a2 := v13) (a3 := v15) lLc h8.next h8 (GP h8 Lc) (zN h8 wH) h8n 19 0 h9 (by omega) x9 gR9 (by rw [eh9]; simp; omega)
 have d16 := Ug L10
 obtain ⟨R, hR⟩ : ∃ R, R = wH.map (fun o => Lc.getD o.toNat 0) := ⟨_, rfl⟩
 rw [← hR] at gR10
 have lR : R.length = 19 := by rw [hR]; rfl
 have rR : ∀ y ∈ R, 0 ≤ y ∧ y < 8 := by
  intro y hy
  rw [hR] at hy
  obtain ⟨o, ho, rfl⟩ := Vl.1 hy
  have := Bb o ho
  have hol : o.toNat < Lc.length := by omega
  rw [U3, U6 hol]
  exact hrow _ (Vo hol)
 have fl10' : h10.floor = h.next := by rw [fl10, eh9]; simp [fl8']
 have nx10' : h8.next + 1 = h10.next := by rw [nx10, eh9]; simp
 have rdR : Rd h10 (.aF h8.next 0 19 1) (ints R) := by
  have : wS 1 h10 (.aF h8.next 0 19 1) R.length (ints R) := by
   rw [lR]; exact ⟨by rw [qy, lR], .inr ⟨h8.next, rfl, gR10, by omega, by omega⟩⟩
  exact this.N3
 have kU := I9 h10 _ R (by omega) rdR 4 (by omega)
 have uk := yV R 4 R.length
 rw [lR] at uk
 have d17 := Uh (v0 := v) (v11 := v11) (v13 := v13) (v15 := v15) (v18 := AK 1 Lc.length (ints Lc)) kU
 rw [lR] at d17
 obtain ⟨k, hk⟩ : ∃ k, k = xj R 4 19 := ⟨_, rfl⟩
 rw [← hk] at d17 uk
 have b10 : ∀ i, i < h6.next → h10.get i = h6.get i := fun i hi => by
  rw [k10 i (by omega), eh9, w9 (by omega), k8 i (by omega), eh7, w9 (by omega)]
 have x10 : Ext h.ez h10 := fun i c q => by
  have hi := h.ez.lt _ _ q
  simp at hi
  rw [b10 i (by omega), k6' i (by omega), x4 i c q]
 have rdv : zE 3 h10 v ts.length (xw ts) := rd0.mono x10
 have rda : Rd h10 v15 (ints all) := (ow6.mono (by omega) fun i hi => b10 i (ow6.lt hi).2).N3
 have d18 := Ui (v0 := v) (v11 := v11) (v13 := v13) (v15 := v15) (v18 := AK 1 Lc.length (ints Lc)) (v21 := .aF h8.next 0 19 1) (v23 := .int .i64 (k : Nat)) (g := h10)
 obtain ⟨h11, eh11⟩ : ∃ g, g = h10.alloc [.aQ, .int .i64 0] := ⟨_, rfl⟩
 rw [← eh11] at d18
 have wx0 : WX h10 h11 h10.next [] .aQ := by
  refine ⟨⟨by rw [eh11, wO rfl]; rfl, wS.nil, by rw [eh11]; simp; omega, by rw [eh11]; simp; omega, by simp [AV.id?], fun b hb => by simp [xn, yy] at hb⟩, by rw [eh11]; exact (Ext.refl _).alloc _, vR _, by rw [eh11]; simp, fun j hj => by simp [AV.id?] at hj⟩
 obtain ⟨h12, o12, p12, w12, f12⟩ := zC wx0.wr 5 3 (by omega) (by omega) (by simp)
 have wx1 := wx0.step w12 f12
 have l1 : ([] ++ wW 5 3).length = 3 := by simp [wW, xb]
 obtain ⟨h13, o13, p13, w13, f13⟩ := zC wx1.wr (la.length - 257) 5 (by omega) (by omega) (by omega)
 have wx2 := wx1.step w13 f13
 have l2 : ([] ++ wW 5 3 ++ wW (la.length - 257) 5).length = 8 := by simp [wW, xb]
 obtain ⟨h14, o14, p14, w14, f14⟩ := zC wx2.wr (lb.length - 1) 5 (by omega) (by omega) (by omega)
 have wx3 := wx2.step w14 f14
 have l3 : ([] ++ wW 5 3 ++ wW (la.length - 257) 5 ++ wW (lb.length - 1) 5).length = 13 := by simp [wW, xb]
 obtain ⟨h15, o15, p15, w15, f15⟩ := zC wx3.wr (k - 4) 4 (by omega) (by omega) (by omega)
 have wx4 := wx3.step w15 f15
 have l4 : ([] ++ wW 5 3 ++ wW (la.length - 257) 5 ++ wW (lb.length - 1) 5 ++ wW (k - 4) 4).length = 17 := by simp [wW, xb]
 have p12' : aS AP.A 33 [.aE h10.next 0, .int .i64 5, .int .i64 3] h11 = some (.int .i64 0, h12) := p12
 have p13' : aS AP.A 33 [.aE h10.next 0, .int .i64 ((la.length : Int) - 257), .int .i64 5] h12 = some (.int .i64 0, h13) := by
  have e : ((la.length - 257 : Nat) : Int) = (la.length : Int) - 257 := by omega
  rw [e] at p13; exact p13
 have p14' : aS AP.A 33 [.aE h10.next 0, .int .i64 ((lb.length : Int) - 1), .int .i64 5] h13 = some (.int .i64 0, h14) := by
  have e : ((lb.length - 1 : Nat) : Int) = (lb.length : Int) - 1 := by omega
  rw [e] at p14; exact p14
 have p15' : aS AP.A 33 [.aE h10.next 0, .int .i64 ((k : Int) - 4), .int .i64 4] h14 = some (.int .i64 0, h15) := by
  have e : ((k - 4 : Nat) : Int) = (k : Int) - 4 := by omega
  rw [e] at p15; exact p15
 have ln11 : jy false v11 = some (.int .i64 la.length) := by have := (r11 h10).len; rw [qy] at this; exact this
 have ln13 : jy false v13 = some (.int .i64 lb.length) := by have := (r13 h10).len; rw [qy] at this; exact this
 have d19 := Uj (v0 := v) (v11 := v11) (v13 := v13) (v15 := v15) (v18 := AK 1 Lc.length (ints Lc)) (v21 := .aF h8.next 0 19 1) (v23 := .int .i64 (k : Nat)) p12'
 have d20 := Uk (v0 := v) (v13 := v13) (v15 := v15) (v18 := AK 1 Lc.length (ints Lc)) (v21 := .aF h8.next 0 19 1) (v23 := .int .i64 (k : Nat)) ln11 (by omega) p13'
 have d21 := Ul (v0 := v) (v11 := v11) (v15 := v15) (v18 := AK 1 Lc.length (ints Lc)) (v21 := .aF h8.next 0 19 1) (v23 := .int .i64 (k : Nat)) ln13 (by omega) p14'
 have d22 := Um (v0 := v) (v11 := v11) (v13 := v13) (v15 := v15) (v18 := AK 1 Lc.length (ints Lc)) (v21 := .aF h8.next 0 19 1) (n := k) (by omega) p15'
 obtain ⟨e16, h16, o16, L16, q0, q11, q13, q15, q18, q24, wx5⟩ := FY (a0 := v) (a1 := v11) (a2 := v13) (a3 := v15) (a4 := AK 1 Lc.length (ints Lc)) h10 rdR k (by omega) lR h10.next rR k 0 _ h15 o15 (by omega) wx4 (by omega)
 have d23 := Un L16 q0 q11 q13 q15 q18 q24
 have k24 := Ct h16 _ Lc (by omega) (by omega) (GP h16 Lc) cc
 have d24 := Uo (v0 := v) (v11 := v11) (v13 := v13) (v15 := v15) (v24 := .aE h10.next 0) k24
 have l5 : ([] ++ wW 5 3 ++ wW (la.length - 257) 5 ++ wW (lb.length - 1) 5 ++ wW (k - 4) 4 ++ AJ ((R.drop 0).take k)).length ≤ 17 + 57 := by
  rw [wo, l4, EJ, Vy]; omega
 obtain ⟨e17, h17, o17, L17, q0', q11', q13', q24', wx6⟩ := EF (a0 := v) (a1 := v11) (a2 := v13) h10 rda (AW h10 Lc) (by omega) (by rw [Ao]; exact lLc) h10.next hall FR all [] _ h16 o16 rfl wx5 (by omega)
 have d25 := Up L17 q0' q11' q13' q24'
 have k26 := Ct h17 v11 la (by omega) (by omega) (r11 h17) ca
 have k27 := Ct h17 v13 lb (by omega) (by omega) (r13 h17) cb
 have d26 := Uq (v0 := v) (v13 := v13) (v24 := .aE h10.next 0) k26
 have d27 := Ur (v0 := v) (v24 := .aE h10.next 0) (v29 := DX la) k27
 have l6 := G4 FR
 obtain ⟨h18, o18, k28, wx7⟩ := My (by omega) h10 rdv (AW h10 la) (AW h10 lb) N1 HQ h10.next _ h17 o17 wx6 (by rw [wo]; omega)
 have d28 := Us k28
 have k29 := GX wx7.wr
 have d29 := Ut k29
 have eB : [] ++ wW 5 3 ++ wW (la.length - 257) 5 ++ wW (lb.length - 1) 5 ++ wW (k - 4) 4 ++ AJ ((R.drop 0).take k) ++ zP (wB Lc) all ++ (xM (wB la) (wB lb) ts ++ wL (wB la) 256) = xD ts la lb Lc := by
  unfold xD
  simp only [List.nil_append, Vb, Vr, hk, hR, hal]
 rw [eB] at d29
 have k1 := NV h.ez v ts (by omega) rd0
 rw [Pl] at k1
 have d0 := UL (v0 := v) (g := h.ez)
 have d1 := UM k1
 refine u7 (fn := AP.f13) (h2 := h18) (e := [(2, .str (bytesOf (xn (xD ts la lb Lc)))), (3, .int .i64 0)]) rfl rfl rfl ?_ rfl rfl
 rw [M9, sS, d0, tP, sS, d1, tP, sS, d2, tP, sS, d3, tP, sS, d4, tP, sS, d5, tP, sS, d6, tP, sS, d7, tP]
 rw [sS, d8, tP, sS, d9, tP, sS, d10, tP, sS, d11, tP, sS, d12, tP, sS, d13, tP, sS, d14, tP, sS, d15, tP, sS, d16, tP]
 rw [sS, d17, tP, sS, d18, tP, sS, d19, tP, sS, d20, tP, sS, d21, tP, sS, d22, tP, sS, d23, tP, sS, d24, tP, sS, d25, tP]
 rw [sS, d26, tP, sS, d27, tP, sS, d28, tP, d29]
theorem N2 (c : Int) : ∀ k : Nat, c * 2 ^ k < 3 ^ k → 0 ≤ c → ∀ m : Nat, c * 2 ^ (k + m) < 3 ^ (k + m)
 | k, h, hc, 0 => h
 | k, h, hc, m + 1 => by
   have ih := N2 c k h hc m
   rw [← vQ, Int.pow_succ, Int.pow_succ, ← Int.mul_assoc]
   have p : (0 : Int) ≤ c * 2 ^ (k + m) := Int.mul_nonneg hc (Int.pow_nonneg (by omega))
   omega
theorem GC : ∀ (ds : List Int) (a m : Int), (∀ d ∈ ds, d ≤ m) → a ≤ m → AH ds a ≤ m
 | [], a, m, _, h => h
 | d :: ds, a, m, hd, h => by
   rw [AH]
   refine GC ds _ m (fun x hx => hd x (by simp [hx])) ?_
   have := hd d (by simp)
   unfold GB; split <;> omega
theorem JE : ∀ (ds : List Int) (a : Int), a ≤ AH ds a ∧ ∀ d ∈ ds, d ≤ AH ds a
 | [], a => ⟨Int.le_refl _, by simp⟩
 | d :: ds, a => by
   have ⟨h1, h2⟩ := JE ds (GB a d)
   have : a ≤ GB a d ∧ d ≤ GB a d := by unfold GB; split <;> omega
   rw [AH]
   refine ⟨by omega, fun x hx => ?_⟩
   rcases wj.1 hx with q | q
   · subst q; omega
   · exact h2 x q
theorem HS : ∀ ws : List Int, (∀ y ∈ ws, y = 1) → ws.sum = ws.length
 | [], _ => rfl
 | y :: ws, h => by
   have := HS ws fun z hz => h z (by simp [hz])
   have := h y (by simp)
   rw [Vv, UZ]; omega
theorem GL : ∀ ws : List Int, (∀ y ∈ ws, 1 ≤ y) → (ws.length : Int) ≤ ws.sum
 | [], _ => by simp
 | y :: ws, h => by
   have := GL ws fun z hz => h z (by simp [hz])
   have := h y (by simp)
   rw [Vv, UZ]; omega
theorem C4 : ∀ ws : List Int, (∀ y ∈ ws, 1 ≤ y) → (xz ws).sum ≤ ws.sum ∧ ((∃ y ∈ ws, y ≠ 1) → (xz ws).sum < ws.sum)
 | [], _ => ⟨Int.le_refl _, by simp⟩
 | y :: ws, h => by
   obtain ⟨h1, h2⟩ := C4 ws fun z hz => h z (by simp [hz])
   have hy := h y (by simp)
   have e : (xz (y :: ws)).sum = Bv y + (xz ws).sum := by simp [xz]
   rw [e, Vv]
   have a : Bv y ≤ y := by unfold Bv; omega
   refine ⟨by omega, fun ⟨z, hz, hz1⟩ => ?_⟩
   rcases wj.1 hz with q | q
   · subst q
     have : Bv z < z := by unfold Bv; omega
     omega
   · have := h2 ⟨z, q, hz1⟩; omega
theorem Fu {ws : List Int} (h : ∀ y ∈ ws, 1 ≤ y) : ∀ y ∈ xz ws, 1 ≤ y := by
 intro y hy
 obtain ⟨z, hz, rfl⟩ := Vl.1 hy
 have := h z hz
 unfold Bv; omega
theorem EA {ws : List Int} (h1 : 1 ≤ ws.length) (ho : ∀ y ∈ ws, y = 1) {c : Int} {k : Nat} (hc : (ws.length : Int) ≤ c) (hk : c * 2 ^ (k + 1) < 3 ^ (k + 1)) (hs : ws.length ≤ 288) : ∀ d ∈ wM ws, d ≤ k := by
 intro d hd
 have sm := HS ws ho
 obtain ⟨_, _, _, _, hb, _⟩ := Qg ws true h1 (fun y hy => by have := ho y hy; omega) (by omega) (fun _ => ho)
 have b := hb rfl d hd
 apply Vp
 intro q
 obtain ⟨m, hm⟩ : ∃ m : Nat, d.toNat = k + 1 + m := ⟨d.toNat - (k + 1), by omega⟩
 rw [hm] at b
 have := N2 c (k + 1) hk (by omega) m
 have p : (0 : Int) < 2 ^ (k + 1 + m) := Int.pow_pos (by omega)
 have : ws.sum * 2 ^ (k + 1 + m) ≤ c * 2 ^ (k + 1 + m) := Int.mul_le_mul_of_nonneg_right (by omega) (by omega)
 omega
theorem HR {ws : List Int} (hl : ws.length ≤ 288) (pos : ∀ y ∈ ws, 1 ≤ y) (hs : ws.sum < 1000000000000000) : FQ ws := by
 by_cases e : ws = []
 · exact .inl e
 · have h1 : 1 ≤ ws.length := List.length_pos_iff.2 e
   obtain ⟨a, b, c, _⟩ := Qg ws false h1 pos hs (fun h => by cases h)
   exact .inr ⟨h1, hl, a, b, c⟩
theorem KE {most : Int} (hm : 0 ≤ most) : ∀ (f : Nat) (ws : List Int), ws.sum ≤ f → (∀ y ∈ ws, 1 ≤ y) → ws.sum < 1000000000000000 → ((13 ≤ most ∧ ws.length ≤ 288) ∨ (7 ≤ most ∧ ws.length ≤ 19)) → ∃ K, yH most K ws := by
 intro f
 induction f with
 | zero =>
   intro ws hf pos hs hl
   have := GL ws pos
   have : ws = [] := List.length_eq_zero_iff.1 (by omega)
   subst this
   exact ⟨0, .last (.inl rfl) hm⟩
 | succ f ih =>
   intro ws hf pos hs hl
   have o := HR (by omega) pos hs
   by_cases c : AH (wM ws) 0 ≤ most
   · exact ⟨0, .last o c⟩
   · have hne : ws ≠ [] := fun e => by subst e; exact c hm
     have h1 : 1 ≤ ws.length := List.length_pos_iff.2 hne
     have ho : ∃ y ∈ ws, y ≠ 1 := by
      apply Vp
      intro q
      have all1 : ∀ y ∈ ws, y = 1 := fun y hy => Vp fun r => q ⟨y, hy, r⟩
      rcases hl with ⟨a, b⟩ | ⟨a, b⟩
      · have := EA (c := 288) (k := 13) h1 all1 (by omega) (by decide) (by omega)
        exact c (GC _ _ _ (fun d hd => by have := this d hd; omega) hm)
      · have := EA (c := 19) (k := 7) h1 all1 (by omega) (by decide) (by omega)
        exact c (GC _ _ _ (fun d hd => by have := this d hd; omega) hm)
     have hh := (C4 ws pos).2 ho
     obtain ⟨K, r⟩ := ih (xz ws) (by omega) (Fu pos) (by omega) (by rw [zg]; exact hl)
     exact ⟨K + 1, .more o (by omega) hne r⟩
theorem yS : ∀ (S D O : List Int) (p : Nat), (∀ s ∈ S, s.toNat ≠ p) → (xh S D O)[p]? = O[p]?
 | [], D, O, p, h => by simp [xh]
 | s :: S, [], O, p, h => by simp [xh]
 | s :: S, d :: D, O, p, h => by
   rw [xh, yS S D _ p fun t ht => h t (by simp [ht]), Vh, if_neg (h s (by simp))]
theorem Bj : ∀ (S D O : List Int) (j : Nat) (s d : Int), (S.map Int.toNat).Nodup → S[j]? = some s → D[j]? = some d → s.toNat < O.length → (xh S D O)[s.toNat]? = some d
 | [], D, O, j, s, d, nd, h1, h2, h3 => by simp at h1
 | t :: S, [], O, j, s, d, nd, h1, h2, h3 => by simp at h2
 | t :: S, e :: D, O, 0, s, d, nd, h1, h2, h3 => by
   simp at h1 h2
   subst h1; subst h2
   rw [Ve, List.nodup_cons] at nd
   rw [xh, yS S D _ _ fun u hu q => nd.1 (Vl.2 ⟨u, hu, q⟩), Vh, if_pos rfl, if_pos h3]
 | t :: S, e :: D, O, j + 1, s, d, nd, h1, h2, h3 => by
   rw [Ve, List.nodup_cons] at nd
   rw [xh]
   exact Bj S D _ j s d nd.2 (by simpa using h1) (by simpa using h2) (by rw [Vi]; exact h3)
theorem Ib {S D O : List Int} {n : Nat} (hl : D.length = S.length) (nd : (S.map Int.toNat).Nodup) (hO : O.length = n) (hr : ∀ s ∈ S, s.toNat < n) (hz : ∀ p, p < n → (∀ s ∈ S, s.toNat ≠ p) → O[p]? = some 0) : xh S D O = xh S D (List.replicate n 0) := by
 apply List.ext_getElem?
 intro p
 by_cases hp : p < n
 · by_cases c : ∃ s ∈ S, s.toNat = p
   · obtain ⟨s, hs, rfl⟩ := c
     obtain ⟨j, hj, ej⟩ := List.mem_iff_getElem.1 hs
     have h1 : S[j]? = some s := by rw [U6 hj, ej]
     have h2 : D[j]? = some (D[j]'(by omega)) := U6 (by omega)
     rw [Bj S D O j s _ nd h1 h2 (by omega), Bj S D _ j s _ nd h1 h2 (by simpa using hp)]
   · have c' : ∀ s ∈ S, s.toNat ≠ p := fun s hs q => c ⟨s, hs, q⟩
     rw [yS _ _ _ _ c', yS _ _ _ _ c', hz p hp c', List.getElem?_replicate, if_pos hp]
 · rw [Vk (by rw [xP]; omega), Vk (by rw [xP]; simp; omega)]
theorem El {most : Int} {S : List Int} {n : Nat} (nd : (S.map Int.toNat).Nodup) (hr : ∀ s ∈ S, s.toNat < n) : ∀ (K : Nat) (W O : List Int), yH most K W → W.length = S.length → (∀ y ∈ W, 1 ≤ y) → W.sum < 1000000000000000 → O.length = n → (∀ p, p < n → (∀ s ∈ S, s.toNat ≠ p) → O[p]? = some 0) →
 ∃ W', W'.length = S.length ∧ (∀ y ∈ W', 1 ≤ y) ∧ W'.sum < 1000000000000000 ∧ AH (wM W') 0 ≤ most ∧ Bw S K W O = xh S (wM W') (List.replicate n 0)
 | 0, W, O, r, hl, pos, hs, hO, hz => by
   cases r with
   | last o c => exact ⟨W, hl, pos, hs, c, Ib (by rw [AN, hl]) nd hO hr hz⟩
 | K + 1, W, O, r, hl, pos, hs, hO, hz => by
   cases r with
   | more o c hne r =>
     have := (C4 W pos).1
     exact El nd hr K (xz W) _ r (by rw [zg, hl]) (Fu pos) (by omega) (by rw [xP, hO]) (fun p hp hq => by rw [yS _ _ _ _ hq]; exact hz p hp hq)
theorem JS (f : Int → Nat) : ∀ (O : List Int) (i : Nat) (d : Int), i < O.length → ((O.set i d).map f).sum + f (O.getD i 0) = (O.map f).sum + f d
 | [], i, d, h => by simp at h
 | x :: O, 0, d, h => by simp; omega
 | x :: O, i + 1, d, h => by
   have := JS f O i d (by simpa using h)
   simp only [List.set_cons_succ, Ve, Vv, List.getD_cons_succ]; omega
theorem EL (f : Int → Nat) : ∀ (S D O : List Int), D.length = S.length → (S.map Int.toNat).Nodup → (∀ s ∈ S, s.toNat < O.length) → ((xh S D O).map f).sum + (S.map fun s => f (O.getD s.toNat 0)).sum = (O.map f).sum + (D.map f).sum
 | [], D, O, hl, nd, hr => by
   have : D = [] := List.length_eq_zero_iff.1 (by simpa using hl)
   subst this
   simp [xh]
 | s :: S, [], O, hl, nd, hr => by simp at hl
 | s :: S, d :: D, O, hl, nd, hr => by
   rw [Ve, List.nodup_cons] at nd
   have ih := EL f S D (O.set s.toNat d) (by simpa using hl) nd.2 (fun t ht => by rw [Vi]; exact hr t (by simp [ht]))
   have e : (S.map fun t => f ((O.set s.toNat d).getD t.toNat 0)) = S.map fun t => f (O.getD t.toNat 0) := Vu fun t ht => by
    rw [getD_set_ne (fun q => nd.1 (Vl.2 ⟨t, ht, q.symm⟩))]
   rw [e] at ih
   have ss := JS f O s.toNat d (hr s (by simp))
   simp only [xh, Ve, Vv]
   omega
def f15 (n : Nat) (x : Int) : Nat := if 1 ≤ x ∧ x ≤ n then 2 ^ (n - x.toNat) else 0
theorem FG : ∀ n, wJ [] n = 2 ^ n
 | 0 => rfl
 | n + 1 => by
   have c : yw [] (n + 1) = 0 := Jj _
   rw [wJ, FG n, c, Int.pow_succ]; omega
theorem FD (n : Nat) : ∀ (q p : List Int), wJ (p ++ q) n = wJ p n - ((q.map (f15 n)).sum : Nat)
 | [], p => by simp
 | x :: q, p => by
   have e : p ++ x :: q = (p ++ [x]) ++ q := by simp
   rw [e, FD n q (p ++ [x]), BR, Ve, Vv]
   unfold f15
   split
   · push_cast; omega
   · push_cast; omega
theorem A8 (l : List Int) (n : Nat) : wJ l n = 2 ^ n - ((l.map (f15 n)).sum : Nat) := by
 have := FD n l []
 rwa [List.nil_append, FG] at this
theorem FE (l : List Int) : ∀ n, wF l n + yw l n + wJ l n = 2 ^ n
 | 0 => by simp [wF, wJ, yw]
 | n + 1 => by
   have := FE l n
   rw [wF, wJ, Int.pow_succ]; omega
theorem IP {l : List Int} {n : Nat} (h : 0 ≤ wJ l n) : ∀ m, m ≤ n → 0 ≤ wJ l m := by
 have : ∀ k m, m + k = n → 0 ≤ wJ l m := by
  intro k
  induction k with
  | zero => intro m hm; have : m = n := by omega
            subst this; exact h
  | succ k ih =>
    intro m hm
    have := ih (m + 1) (by omega)
    rw [wJ] at this
    omega
 exact fun m hm => this (n - m) m (by omega)
theorem Hm {l : List Int} {s : Nat} (hs : s < l.length) {n : Nat} (hn : 1 ≤ n) (e : l.getD s 0 = (n : Int)) : yw (l.take s) n < yw l n := by
 have a := Bq hs n hn
 rw [if_pos e] at a
 have : ∀ (p q : List Int), yw p n ≤ yw (p ++ q) n := fun p q => by
  unfold yw; split
  · exact vR _
  · rw [List.countP_append]; omega
 have b := this (l.take (s + 1)) (l.drop (s + 1))
 rw [List.take_append_drop] at b
 omega
theorem GH {l : List Int} (hl : 0 ≤ wJ l 15) (hr : ∀ y ∈ l, 0 ≤ y ∧ y < 16) {s : Nat} (hs : s < l.length) (h1 : 1 ≤ l.getD s 0) : Ez (wB l) s := by
 have hm : l.getD s 0 ∈ l := by rw [U3, U6 hs]; exact Vo hs
 have r := hr _ hm
 obtain ⟨n, hn⟩ := U9 r.1
 have n1 : 1 ≤ n := by omega
 have lt := Hm hs n1 hn
 have f := FE l n
 have m := IP hl n (by omega)
 have fb := (show 0 ≤ wF l n from by
  have : ∀ n, 0 ≤ wF l n := by
   intro n
   induction n with
   | zero => simp [wF]
   | succ n ih => rw [wF]; omega
  exact this n)
 have tn : ((n : Nat) : Int).toNat = n := by omega
 refine ⟨n, (wF l n + yw (l.take s) n).toNat, ?_, n1, by omega, ?_⟩
 · unfold wB
   rw [v7, VB hs, U8]
   unfold Br
   rw [if_pos h1, hn, tn]
   congr 2
   omega
 · have e2 : ((2 ^ n : Nat) : Int) = (2 : Int) ^ n := by push_cast; rfl
   omega
theorem F7 : ∀ (C : List Int) (i : Nat), ((xu i C).map Int.toNat).Nodup
 | [], i => by simp [xu]
 | c :: r, i => by
   have ih := F7 r (i + 1)
   rw [xu]
   split
   · rw [Ve, List.nodup_cons]
     refine ⟨fun h => ?_, ih⟩
     obtain ⟨s, hs, e⟩ := Vl.1 h
     have := yU (i + 1) r s hs
     omega
   · exact ih
theorem B5 : ∀ (C : List Int) (i p : Nat), 0 < C.getD p 0 → ((i + p : Nat) : Int) ∈ xu i C
 | [], i, p, h => by simp at h
 | c :: r, i, 0, h => by
   rw [xu, if_pos (by simpa using h)]
   simp
 | c :: r, i, p + 1, h => by
   have ih := B5 r (i + 1) p (by simpa using h)
   have e : i + 1 + p = i + (p + 1) := by omega
   rw [e] at ih
   rw [xu]
   split
   · exact List.mem_cons_of_mem _ ih
   · exact ih
theorem EV : ∀ (C : List Int) (i : Nat), (∀ y ∈ C, ¬ 0 < y) → xu i C = []
 | [], i, h => rfl
 | c :: r, i, h => by
   rw [xu, if_neg (h c (by simp))]
   exact EV r (i + 1) fun y hy => h y (by simp [hy])
theorem H0 {S : List Int} {s : Int} (h : s ∈ S) : s ∈ zM S := by
 unfold zM
 split
 · rename_i h1
   match S, h1 with
   | [t], _ =>
     simp at h; subst h
     split <;> simp
 · exact h
theorem Nx {S : List Int} (h : (S.map Int.toNat).Nodup) (hp : ∀ s ∈ S, 0 ≤ s) : ((zM S).map Int.toNat).Nodup := by
 unfold zM
 split
 · rename_i h1
   match S, h1 with
   | [t], _ =>
     have := hp t (by simp)
     split
     · rename_i c
       simp at c ⊢
       omega
     · rename_i c
       simp at c ⊢
       omega
 · exact h
theorem LZ {S : List Int} (h : S ≠ []) : 2 ≤ (zM S).length := by
 unfold zM
 split
 · rename_i h1
   split
   · simp
   · simp [h1]
 · rename_i h1
   have := List.length_pos_iff.2 h
   omega
theorem L5 {S W : List Int} (hl : W.length = S.length) (h : ∀ y ∈ W, 1 ≤ y) : ∀ y ∈ Bp S W, 1 ≤ y := by
 intro s hs
 unfold Bp at hs
 split at hs
 · rename_i h1
   rw [← hl] at h1
   match W, h1 with
   | [t], _ =>
     have := h t (by simp)
     split at hs
     · simp at hs; omega
     · simp at hs; omega
 · exact h s hs
theorem Ig {α : Type} : ∀ l : List α, (l.map fun _ => (0 : Nat)).sum = 0
 | [] => rfl
 | x :: l => by rw [Ve, Vv, Ig l]
theorem Ko {C : List Int} (h : ∀ y ∈ C, ¬ 0 < y) : xi C = [] := by
 unfold xi; rw [EV C 0 h]; rfl
theorem ES : ∀ (l : List Int) (b : Int), (∀ y ∈ l, y ≤ b) → l.sum ≤ b * l.length
 | [], b, _ => by simp
 | y :: l, b, h => by
   have := ES l b fun z hz => h z (by simp [hz])
   have hy := h y (by simp)
   rw [Vv, UZ]
   have e : b * ((l.length + 1 : Nat) : Int) = b * l.length + b := by rw [Int.natCast_add, Int.mul_add]; simp
   omega
theorem HM {C : List Int} (hC : ∀ y ∈ C, 0 ≤ y ∧ y ≤ 2147483647) (h2 : 2 ≤ C.length) (hl : C.length ≤ 288) : (∀ y ∈ xI C, 1 ≤ y) ∧ (xI C).sum < 1000000000000000 := by
 have pos : ∀ y ∈ xI C, 1 ≤ y := L5 (yA 0 C).symm fun y hy => by have := (Ah C y hy).2; omega
 refine ⟨pos, ?_⟩
 have up : ∀ y ∈ xI C, y ≤ 2147483647 := by
  intro y hy
  have w : ∀ z ∈ zD C, z ≤ 2147483647 := fun z hz => (hC z (Ah C z hz).1).2
  unfold xI Bp at hy
  split at hy
  · rename_i h1
    rw [yA] at h1
    match hW : zD C, h1 with
    | [t], _ =>
      rw [hW] at w hy
      have := w t (by simp)
      split at hy
      · simp at hy; omega
      · simp at hy; omega
  · exact w y hy
 have := ES (xI C) 2147483647 up
 have l1 : (xI C).length = (xi C).length := GA C
 have l2 := zZ h2
 omega
theorem AQ {C : List Int} {most : Int} (hC : ∀ y ∈ C, 0 ≤ y ∧ y ≤ 2147483647) (h2 : 2 ≤ C.length) (hm : 0 ≤ most) (hl : (13 ≤ most ∧ C.length ≤ 288) ∨ (7 ≤ most ∧ C.length ≤ 19)) : ∃ K, yH most K (xI C) := by
 obtain ⟨a, b⟩ := HM hC h2 (by omega)
 have l1 : (xI C).length = (xi C).length := GA C
 have l2 := zZ h2
 exact KE hm (xI C).sum.toNat (xI C) (by have := GL _ a; omega) a b (by omega)
theorem Ba {C : List Int} {most : Int} {K : Nat} (hC : ∀ y ∈ C, 0 ≤ y ∧ y ≤ 2147483647) (h2 : 2 ≤ C.length) (hl : C.length ≤ 288) (hm : 0 ≤ most ∧ most ≤ 15) (r : yH most K (xI C)) :
 (xC C K).length = C.length ∧ (∀ y ∈ xC C K, 0 ≤ y ∧ y ≤ most) ∧ (∀ p, 0 < C.getD p 0 → 1 ≤ (xC C K).getD p 0) ∧ ((∃ y ∈ C, 0 < y) → wJ (xC C K) 15 = 0) ∧ ((∀ y ∈ C, ¬ 0 < y) → xC C K = List.replicate C.length 0) := by
 obtain ⟨a, b⟩ := HM hC h2 hl
 have nd : ((xi C).map Int.toNat).Nodup := Nx (F7 C 0) fun s hs => by have := yU 0 C s hs; omega
 have rg : ∀ s ∈ xi C, 0 ≤ s ∧ s < C.length := H2 h2 fun s hs => by have := yU 0 C s hs; omega
 have rg' : ∀ s ∈ xi C, s.toNat < C.length := fun s hs => by have := rg s hs; omega
 obtain ⟨W', w1, w2, w3, w4, w5⟩ := El nd rg' K (xI C) (List.replicate C.length 0) r (GA C) a b (by simp) (fun p hp _ => by rw [List.getElem?_replicate, if_pos hp])
 have e : xC C K = xh (xi C) (wM W') (List.replicate C.length 0) := w5
 have dl : (wM W').length = (xi C).length := by rw [AN, w1]
 have dm : ∀ d ∈ wM W', d ≤ most := fun d hd => by have := (JE (wM W') 0).2 d hd; omega
 have o := HR (ws := W') (by have := zZ h2; omega) w2 w3
 have d0 := Dh o
 have gin : ∀ (j : Nat) (s d : Int), (xi C)[j]? = some s → (wM W')[j]? = some d → (xC C K)[s.toNat]? = some d := fun j s d h1 h2 => by
  rw [e]; exact Bj _ _ _ j s d nd h1 h2 (by simpa using rg' s (vV h1))
 have gout : ∀ p : Nat, (∀ s ∈ xi C, s.toNat ≠ p) → (xC C K)[p]? = (List.replicate C.length (0 : Int))[p]? := fun p hp => by rw [e, yS _ _ _ _ hp]
 have hu : xi C ≠ [] → 2 ≤ (xi C).length := fun hne => by
  refine LZ fun q => hne ?_
  unfold xi; rw [q]; rfl
 have h1w : xi C ≠ [] → _ := fun hne => Qg W' false (by have := hu hne; omega) w2 w3 (fun h => by cases h)
 refine ⟨A9 C K, ?_, ?_, ?_, ?_⟩
 · intro y hy
   obtain ⟨p, hp⟩ := wc.1 hy
   by_cases c : ∃ s ∈ xi C, s.toNat = p
   · obtain ⟨s, hs, rfl⟩ := c
     obtain ⟨j, hj⟩ := wc.1 hs
     have jl := (vN.1 hj).1
     have hd : (wM W')[j]? = some ((wM W')[j]'(by omega)) := U6 (by omega)
     rw [gin j s _ hj hd] at hp
     obtain rfl := vG hp
     have m := Vo (l := wM W') (n := j) (by omega)
     exact ⟨(d0 _ m).1, dm _ m⟩
   · rw [gout p fun s hs q => c ⟨s, hs, q⟩, List.getElem?_replicate] at hp
     split at hp
     · obtain rfl := vG hp; omega
     · cases hp
 · intro p hp
   have sm := B5 C 0 p hp
   rw [vW] at sm
   have hs : (p : Int) ∈ xi C := H0 sm
   obtain ⟨j, hj⟩ := wc.1 hs
   have jl := (vN.1 hj).1
   have hd : (wM W')[j]? = some ((wM W')[j]'(by omega)) := U6 (by omega)
   have g := gin j _ _ hj hd
   have tp : ((p : Nat) : Int).toNat = p := by omega
   rw [tp] at g
   rw [U3, g]
   have hne : xi C ≠ [] := fun q => by rw [q] at hs; simp at hs
   exact (h1w hne).2.2.2.2.2 (by have := hu hne; omega) _ (Vo _)
 · rintro ⟨y, hy, hpos⟩
   obtain ⟨p, hp⟩ := wc.1 hy
   have sm := B5 C 0 p (by rw [U3, hp]; exact hpos)
   have hs : ((0 + p : Nat) : Int) ∈ xi C := H0 sm
   have hne : xi C ≠ [] := fun q => by rw [q] at hs; simp at hs
   have H := h1w hne
   have kr := H.2.2.2.1 15 (fun d hd => by have := dm d hd; omega)
   have one := H.2.2.2.2.2 (by have := hu hne; omega)
   have ss := EL (f15 15) (xi C) (wM W') (List.replicate C.length 0) dl nd (fun s hs => by simpa using rg' s hs)
   rw [← e] at ss
   have z1 : ((xi C).map fun s => f15 15 ((List.replicate C.length (0 : Int)).getD s.toNat 0)).sum = 0 := by
    have : (xi C).map (fun s => f15 15 ((List.replicate C.length (0 : Int)).getD s.toNat 0)) = (xi C).map fun _ => 0 := Vu fun s hs => by
     rw [Bi (rg' s hs)]; rfl
    rw [this, Ig]
   have z2 : ((List.replicate C.length (0 : Int)).map (f15 15)).sum = 0 := by
    rw [List.map_replicate]
    have : f15 15 0 = 0 := rfl
    rw [this]; simp
   have z3 : (wM W').map (f15 15) = (wM W').map fun d => 2 ^ (15 - d.toNat) := Vu fun d hd => by
    unfold f15
    rw [if_pos ⟨one d hd, by have := dm d hd; omega⟩]
   rw [z1, z2, z3, kr] at ss
   rw [A8, show ((xC C K).map (f15 15)).sum = 2 ^ 15 by omega]
   rfl
 · intro h
   rw [e, Ko h]
   simp [xh]
theorem Ax (l : List Int) (k : Nat) : ∀ n p, xj l k n ≤ p → p < n → ¬ 0 < l.getD p 0
 | 0, p, h1, h2 => by omega
 | n + 1, p, h1, h2 => by
   rw [xj] at h1
   split at h1
   · omega
   · split at h1
     · omega
     · by_cases e : p = n
       · subst e; assumption
       · exact Ax l k n p h1 (by omega)
theorem Jq {l : List Int} (hr : ∀ y ∈ l, 0 ≤ y) (k n : Nat) : wJ (Cy l k) n = wJ l n := by
 have e : l = Cy l k ++ l.drop (xj l k l.length) := (List.take_append_drop _ _).symm
 have z : ((l.drop (xj l k l.length)).map (f15 n)).sum = 0 := by
  have : ∀ q : List Int, (∀ y ∈ q, y = 0) → (q.map (f15 n)).sum = 0 := by
   intro q
   induction q with
   | nil => intro _; rfl
   | cons x q ih =>
     intro h
     rw [Ve, Vv, ih fun y hy => h y (by simp [hy]), h x (by simp)]
     unfold f15; simp
  refine this _ fun y hy => ?_
  obtain ⟨j, hj⟩ := wc.1 hy
  rw [v9] at hj
  have hl := (vN.1 hj).1
  have := Ax l k l.length (xj l k l.length + j) (by omega) hl
  rw [U3, hj] at this
  have := hr y (List.mem_of_mem_drop hy)
  simp at *
  omega
 rw [A8, A8]
 have : (l.map (f15 n)).sum = ((Cy l k).map (f15 n)).sum := by
  conv => lhs; rw [e]
  rw [List.map_append, List.sum_append, z, Nat.add_zero]
 rw [this]
theorem MY {l : List Int} (k : Nat) {p : Nat} (h : 0 < l.getD p 0) : p < (Cy l k).length ∧ (Cy l k).getD p 0 = l.getD p 0 := by
 have hp : p < l.length := by
  apply Vp
  intro c
  rw [U3, Vk (by omega)] at h
  simp at h
 have : p < xj l k l.length := by
  apply Vp
  intro c
  exact Ax l k l.length p (by omega) hp h
 unfold Cy
 refine ⟨by rw [Vy]; omega, ?_⟩
 rw [U3, wm, if_pos this, ← U3]
theorem zS {l : List Int} (h1 : 1 ≤ l.length) (h2 : l.length ≤ 288) (hr : ∀ y ∈ l, 0 ≤ y ∧ y < 16) (h : 0 ≤ wJ l 15) : wP l = if wJ l 15 = 0 then 0 else 302 := by
 have hm : BV l = true := by
  unfold BV
  have : (ints l).any AD = false := by
   rw [List.any_eq_false]
   intro x hx
   obtain ⟨y, hy, rfl⟩ := Vl.1 hx
   have := hr y hy
   simp [AD, I]; omega
  rw [this]; simp; omega
 unfold wP
 rw [if_neg (by rw [hm]; simp), if_neg (by omega)]
 split
 · rw [if_neg (by omega)]
 · rw [if_pos (by omega)]
theorem H8 (s : ByteArray) (i j : Nat) : ∀ f k, (∀ m, m < k → yk s (i + m) = yk s (j + m)) → ∀ m, m < zu s i j f k → yk s (i + m) = yk s (j + m)
 | 0, k, h => by simpa [zu] using h
 | f + 1, k, h => by
   unfold zu
   split
   · rename_i q
     refine H8 s i j f (k + 1) fun m hm => ?_
     by_cases e : m = k
     · subst e; exact q.2.2
     · exact h m (by omega)
   · exact h
theorem DR (s : ByteArray) (i : Nat) (hi : i ≤ s.size) : ∀ (n : Nat) (b : Nat × Nat), n ≤ i → (b.1 = 0 ∨ (b.1 ≤ 258 ∧ 1 ≤ b.2 ∧ b.2 ≤ i ∧ i + b.1 ≤ s.size ∧ ∀ m, m < b.1 → yk s (i + m) = yk s (i - b.2 + m))) →
 ((xY s i n b).1 = 0 ∨ ((xY s i n b).1 ≤ 258 ∧ 1 ≤ (xY s i n b).2 ∧ (xY s i n b).2 ≤ i ∧ i + (xY s i n b).1 ≤ s.size ∧ ∀ m, m < (xY s i n b).1 → yk s (i + m) = yk s (i - (xY s i n b).2 + m)))
 | 0, b, hn, h => h
 | n + 1, b, hn, h => by
   unfold xY
   refine DR s i hi n _ (by omega) ?_
   split
   · right
     refine ⟨JM s i n, by show 1 ≤ i - n; omega, by show i - n ≤ i; omega, F3 s i n hi, fun m hm => ?_⟩
     have := H8 s i n 258 0 (fun m hm => by omega) m hm
     have e : i - (i - n) = n := by omega
     show yk s (i + m) = yk s (i - (i - n) + m)
     rw [e]; exact this
   · exact h
def preB (s : ByteArray) (i : Nat) : List Nat := (List.range i).map (yk s)
theorem yY (s : ByteArray) (i : Nat) : (preB s i).length = i := by simp [preB]
theorem FV (s : ByteArray) (i : Nat) : preB s (i + 1) = preB s i ++ [yk s i] := by simp [preB, List.range_succ]
theorem H3 (s : ByteArray) {i j : Nat} (h : j < i) : (preB s i).getD j 0 = yk s j := by
 rw [U3, preB, v7, VB h]; rfl
theorem Jo (s : ByteArray) {d : Nat} (hd : 1 ≤ d) : ∀ (n i : Nat), d ≤ i → (∀ m, m < n → yk s (i + m) = yk s (i - d + m)) → Iv d n (preB s i) = preB s (i + n)
 | 0, i, h, _ => rfl
 | n + 1, i, h, hm => by
   have e0 := hm 0 (by omega)
   simp only [Nat.add_zero] at e0
   rw [Iv, yY, H3 s (by omega), ← e0, ← FV, Jo s hd n (i + 1) (by omega) fun m h2 => by
    have := hm (m + 1) (by omega)
    have a1 : i + (m + 1) = i + 1 + m := by omega
    have a2 : i - d + (m + 1) = i + 1 - d + m := by omega
    rw [a1, a2] at this; exact this]
   congr 1; omega
theorem I6 (s : ByteArray) {i : Nat} (hi : i < s.size) : ((xL s i).1.len = 0 ∧ (xL s i).1.lit = yk s i ∧ (xL s i).1.w8 = 0 ∧ (xL s i).2 = i + 1) ∨
 (∃ L D : Nat, (xL s i).1.len = L ∧ (xL s i).1.w8 = D ∧ (xL s i).1.lit = 0 ∧ 3 ≤ L ∧ L ≤ 258 ∧ 1 ≤ D ∧ D ≤ i ∧ (xL s i).2 = i + L ∧ i + L ≤ s.size ∧ ∀ m, m < L → yk s (i + m) = yk s (i - D + m)) := by
 unfold xL
 split
 · exact .inl ⟨rfl, rfl, rfl, rfl⟩
 · rename_i c
   right
   rcases DR s i (by omega) i (0, 0) (vR _) (.inl rfl) with h | ⟨h1, h2, h3, h4, h5⟩
   · omega
   · exact ⟨_, _, rfl, rfl, rfl, by omega, h1, h2, h3, rfl, h4, h5⟩
theorem Ae (s : ByteArray) (hs : s.size ≤ 300) : ∀ (f i : Nat), s.size - i ≤ f → i ≤ s.size → (B6 s f i).length ≤ s.size - i ∧ (∀ t ∈ B6 s f i, AY t) ∧ wY i (B6 s f i) = true ∧ zd (B6 s f i) (preB s i) = preB s s.size
 | 0, i, hf, hi => by
   have : i = s.size := by omega
   subst this
   simp [B6, wY, zd]
 | f + 1, i, hf, hi => by
   rw [B6]
   split
   · rename_i c
     have lt := Iq s i
     have le := Ip s i c
     obtain ⟨i1, i2, i3, i4⟩ := Ae s hs f (xL s i).2 (by omega) le
     have sp := I6 s c
     refine ⟨by rw [UZ]; omega, ?_, ?_, ?_⟩
     · intro t ht
       rcases wj.1 ht with q | q
       · subst q
         rcases sp with ⟨a, b, _, _⟩ | ⟨L, D, a, b, _, c1, c2, c3, c4, _, _, _⟩
         · have := zK s i
           exact .inl ⟨a, by omega, by omega⟩
         · exact .inr ⟨by omega, by omega, by omega, by omega⟩
       · exact i2 t q
     · rw [wY]
       rcases sp with ⟨a, b, c0, d⟩ | ⟨L, D, a, b, c0, c1, c2, c3, c4, d, e, _⟩
       · have hb := zK s i
         have st : xQ (i : Int) (xL s i).1 = some ((i : Int) + 1) := by
          unfold xQ
          rw [if_pos a, if_neg (by omega)]
         rw [st]
         simp only
         rw [if_neg (by omega)]
         have e : (((xL s i).2 : Nat) : Int) = (i : Int) + 1 := by omega
         rw [← e]; exact i3
       · have st : xQ (i : Int) (xL s i).1 = some ((i : Int) + L) := by
          unfold xQ
          rw [if_neg (by omega), if_neg (by omega), a]
         rw [st]
         simp only
         rw [if_neg (by omega)]
         have e' : (((xL s i).2 : Nat) : Int) = (i : Int) + L := by omega
         rw [← e']; exact i3
     · rw [zd]
       rcases sp with ⟨a, b, c0, d⟩ | ⟨L, D, a, b, c0, c1, c2, c3, c4, d, e, g⟩
       · have : xk (preB s i) (xL s i).1 = preB s (xL s i).2 := by
          unfold xk
          rw [if_pos a, b, d, FV]; rfl
         rw [this]; exact i4
       · have : xk (preB s i) (xL s i).1 = preB s (xL s i).2 := by
          unfold xk
          rw [if_neg (by omega), a, b, d]
          exact Jo s c3 L i c4 g
         rw [this]; exact i4
   · have : i = s.size := by omega
     subst this
     simp [wY, zd]
theorem Ea (s : ByteArray) (hs : s.size ≤ 300) : Kf (tokens s) = true := by
 obtain ⟨_, _, h3, h4⟩ := Ae s hs s.size 0 (by omega) (by omega)
 unfold Kf A3 tokens
 have h3' : wY 0 (B6 s s.size 0) = true := h3
 rw [if_pos h3']
 have : zd (B6 s s.size 0) [] = preB s s.size := h4
 rw [this]
 simp only [wX, yY]
 simpa using hs
theorem Ee (l : List Int) (i p : Nat) : l.getD p 0 ≤ (yG l i).getD p 0 := by
 unfold yG
 by_cases e : i = p
 · subst e
   by_cases h : i < l.length
   · rw [U3 (l := l.set i _), Vh, if_pos rfl, if_pos h]
     show l.getD i 0 ≤ l.getD i 0 + 1
     omega
   · rw [List.set_eq_of_length_le (by omega)]; exact Int.le_refl _
 · rw [getD_set_ne e]; exact Int.le_refl _
theorem CE {l : List Int} {i : Nat} (h : i < l.length) : (yG l i).getD i 0 = l.getD i 0 + 1 := by
 unfold yG
 rw [U3 (l := l.set i _), Vh, if_pos rfl, if_pos h]; rfl
theorem Cg : ∀ (ts : List Tok) (A : List Int) (p : Nat), A.getD p 0 ≤ (Ak ts A).getD p 0
 | [], A, p => Int.le_refl _
 | t :: r, A, p => by
   rw [Ak]
   refine Int.le_trans ?_ (Cg r _ p)
   split <;> exact Ee _ _ _
theorem Hj : ∀ (ts : List Tok) (A : List Int) (p : Nat), A.getD p 0 ≤ (AE ts A).getD p 0
 | [], A, p => Int.le_refl _
 | t :: r, A, p => by
   rw [AE]
   refine Int.le_trans ?_ (Hj r _ p)
   split
   · exact Int.le_refl _
   · exact Ee _ _ _
theorem Hl : ∀ (ts : List Int) (A : List Int) (p : Nat), A.getD p 0 ≤ (ym ts A).getD p 0
 | [], A, p => Int.le_refl _
 | t :: r, A, p => by
   rw [ym]
   exact Int.le_trans (Ee _ _ _) (Hl r _ p)
theorem CK {A : List Int} (h : ∀ y ∈ A, 0 ≤ y) (p : Nat) : 0 ≤ A.getD p 0 := by
 rw [U3]
 cases e : A[p]? with
 | none => simp
 | some y => exact h y (vV e)
theorem IX {A : List Int} (h : ∀ y ∈ A, 0 ≤ y) (i : Nat) : ∀ y ∈ yG A i, 0 ≤ y := by
 intro y hy
 rcases Vt hy with q | q
 · exact h y q
 · have := CK h i; omega
theorem He : ∀ (ts : List Tok) (A : List Int), (∀ y ∈ A, 0 ≤ y) → A.length = 286 → ∀ t ∈ ts, AY t → (t.len = 0 → 1 ≤ (Ak ts A).getD t.lit.toNat 0) ∧ (t.len ≠ 0 → 1 ≤ (Ak ts A).getD (xJ t.len.toNat) 0)
 | [], A, _, _, t, h, _ => by simp at h
 | u :: r, A, hA, hl, t, h, o => by
   rw [Ak]
   rcases wj.1 h with q | q
   · subst q
     refine ⟨fun h0 => ?_, fun h0 => ?_⟩
     · rw [if_pos h0]
       refine Int.le_trans ?_ (Cg r _ _)
       rcases o with ⟨_, b, c⟩ | ⟨a, _⟩
       · rw [CE (by omega)]
         have := CK hA t.lit.toNat; omega
       · omega
     · rw [if_neg h0]
       refine Int.le_trans ?_ (Cg r _ _)
       rcases o with ⟨a, _⟩ | ⟨a, b, _⟩
       · exact absurd a h0
       · have := z8 (k := t.len.toNat) (by omega) (by omega)
         rw [CE (by omega)]
         have := CK hA (xJ t.len.toNat); omega
   · exact He r _ (by split <;> exact IX hA _) (by split <;> rw [zo, hl]) t q o
theorem Hk : ∀ (ts : List Tok) (A : List Int), (∀ y ∈ A, 0 ≤ y) → A.length = 30 → ∀ t ∈ ts, AY t → t.len ≠ 0 → 1 ≤ (AE ts A).getD (xX t.w8.toNat) 0
 | [], A, _, _, t, h, _, _ => by simp at h
 | u :: r, A, hA, hl, t, h, o, h0 => by
   rw [AE]
   rcases wj.1 h with q | q
   · subst q
     rw [if_neg h0]
     refine Int.le_trans ?_ (Hj r _ _)
     rcases o with ⟨a, _⟩ | ⟨a, b, c, d⟩
     · exact absurd a h0
     · have := zV (k := t.w8.toNat) (by omega) (by omega)
       rw [CE (by omega)]
       have := CK hA (xX t.w8.toNat); omega
   · refine Hk r _ ?_ ?_ t q o h0
     · split
       · exact hA
       · exact IX hA _
     · split
       · exact hl
       · rw [zo, hl]
theorem DV : ∀ (ds : List Int) (A : List Int), (∀ y ∈ A, 0 ≤ y) → A.length = 19 → ∀ y ∈ ds, 0 ≤ y ∧ y < 19 → 1 ≤ (ym ds A).getD y.toNat 0
 | [], A, _, _, t, h, _ => by simp at h
 | u :: r, A, hA, hl, t, h, o => by
   rw [ym]
   rcases wj.1 h with q | q
   · subst q
     refine Int.le_trans ?_ (Hl r _ _)
     rw [CE (by omega)]
     have := CK hA t.toNat; omega
   · exact DV r _ (IX hA _) (by rw [zo, hl]) t q o
theorem Bh (n : Nat) : ∀ y ∈ List.replicate n (0 : Int), 0 ≤ y ∧ y ≤ 0 := fun y hy => by have := Vn hy; omega
theorem NT (ts : List Tok) (hn : ts.length ≤ 300) : (dA ts).length = 286 ∧ (∀ y ∈ dA ts, 0 ≤ y ∧ y ≤ 2147483647) ∧ 1 ≤ (dA ts).getD 256 0 := by
 have z : ∀ y ∈ (List.replicate 286 (0 : Int)).set 256 1, 0 ≤ y ∧ y ≤ 1 := fun y hy => by
  rcases Vt hy with q | q
  · have := Vn q; omega
  · omega
 refine ⟨by unfold dA; rw [Ch, Vi, Vf], fun y hy => ?_, ?_⟩
 · have := Cj ts _ 1 (by omega) z y hy; omega
 · have h : ((List.replicate 286 (0 : Int)).set 256 1).getD 256 0 = 1 := by decide
   have := Cg ts ((List.replicate 286 0).set 256 1) 256
   rw [h] at this
   exact this
theorem NU (ts : List Tok) (hn : ts.length ≤ 300) : (dB ts).length = 30 ∧ (∀ y ∈ dB ts, 0 ≤ y ∧ y ≤ 2147483647) := by
 refine ⟨by unfold dB; rw [Cm, Vf], fun y hy => ?_⟩
 have := Co ts _ 0 (by omega) (Bh 30) y hy; omega
theorem LR {ts : List Tok} {la lb : List Int} {t : Tok} (o : AY t) (hA : t.len = 0 → Ez (wB la) t.lit.toNat) (hL : t.len ≠ 0 → Ez (wB la) (xJ t.len.toNat)) (hB : t.len ≠ 0 → Ez (wB lb) (xX t.w8.toNat)) : KQ (wB la) (wB lb) t := by
 rcases o with ⟨a, b, c⟩ | ⟨a, b, c, d⟩
 · exact .inl ⟨a, b, hA a⟩
 · exact .inr ⟨a, b, c, d, hL (by omega), hB (by omega)⟩
theorem D7 {C l : List Int} {K k m : Nat} (hC : ∀ y ∈ C, 0 ≤ y ∧ y ≤ 2147483647) (h2 : 2 ≤ C.length) (hl : C.length ≤ 288) (hk : k ≤ C.length) (hk1 : 1 ≤ k) (r : yH 15 K (xI C)) (e : l = Cy (xC C K) k) :
 (k ≤ l.length ∧ l.length ≤ C.length) ∧ (∀ y ∈ l, 0 ≤ y ∧ y < 16) ∧ (wP l = 0 ∨ wP l = 302) ∧ (∀ p, 0 < C.getD p 0 → Ez (wB l) p) ∧ 0 ≤ wJ l 15 := by
 obtain ⟨f1, f2, f3, f4, f5⟩ := Ba hC h2 hl (by omega) r
 have ug := yV (xC C K) k (xC C K).length
 have ll : l.length = xj (xC C K) k (xC C K).length := by rw [e]; exact D6 _ (by omega)
 have hr : ∀ y ∈ l, 0 ≤ y ∧ y < 16 := fun y hy => by
  rw [e] at hy
  have := f2 y (List.mem_of_mem_take hy)
  omega
 have lc : wJ l 15 = wJ (xC C K) 15 := by rw [e]; exact Jq (fun y hy => (f2 y hy).1) k 15
 have l0 : 0 ≤ wJ l 15 := by
  rw [lc]
  by_cases c : ∃ y ∈ C, 0 < y
  · rw [f4 c]; omega
  · rw [f5 fun y hy q => c ⟨y, hy, q⟩]
    rw [A8, List.map_replicate]
    have : f15 15 0 = 0 := rfl
    rw [this]; simp
 have ck := zS (l := l) (by omega) (by omega) hr l0
 refine ⟨by omega, hr, ?_, fun p hp => ?_, l0⟩
 · rw [ck]; split
   · exact .inl rfl
   · exact .inr rfl
 · have g := f3 p hp
   obtain ⟨c1, c2⟩ := MY k (show 0 < (xC C K).getD p 0 by omega)
   rw [← e] at c1 c2
   exact GH l0 hr c1 (by omega)
theorem Pe (s : ByteArray) (hs : s.size ≤ 300) : ∃ KA KB KC la lb Lc, GY (tokens s) KA KB KC la lb Lc := by
 obtain ⟨t1, t2, t3, t4⟩ := Ae s hs s.size 0 (by omega) (by omega)
 change (tokens s).length ≤ s.size - 0 at t1
 change ∀ t ∈ tokens s, AY t at t2
 have hn : (tokens s).length ≤ 300 := by omega
 have Pl := Ea s hs
 generalize tokens s = ts at *
 obtain ⟨a1, a2, a3⟩ := NT ts hn
 obtain ⟨b1, b2⟩ := NU ts hn
 obtain ⟨KA, rA⟩ := AQ (most := 15) a2 (by omega) (by omega) (.inl (by omega))
 obtain ⟨KB, rB⟩ := AQ (most := 15) b2 (by omega) (by omega) (.inl (by omega))
 obtain ⟨la, ea⟩ : ∃ l, l = Cy (xC (dA ts) KA) 257 := ⟨_, rfl⟩
 obtain ⟨lb, eb⟩ : ∃ l, l = Cy (xC (dB ts) KB) 1 := ⟨_, rfl⟩
 obtain ⟨x1, x2, x3, x4, x5⟩ := D7 (m := 0) a2 (by omega) (by omega) (by omega) (by omega) rA ea
 obtain ⟨y1, y2, y3, y4, y5⟩ := D7 (m := 0) b2 (by omega) (by omega) (by omega) (by omega) rB eb
 have hall : ∀ y ∈ la ++ lb, 0 ≤ y ∧ y < 19 := fun y hy => by
  rcases Vq.1 hy with q | q
  · have := x2 y q; omega
  · have := y2 y q; omega
 have c1 : (ym (la ++ lb) (List.replicate 19 0)).length = 19 := by rw [Cp, Vf]
 have c2 : ∀ y ∈ ym (la ++ lb) (List.replicate 19 0), 0 ≤ y ∧ y ≤ 2147483647 := fun y hy => by
  have := Cq (la ++ lb) _ 0 (by omega) (Bh 19) y hy
  rw [wo] at this
  omega
 obtain ⟨KC, rC⟩ := AQ (most := 7) c2 (by omega) (by omega) (.inr (by omega))
 obtain ⟨f1, f2, f3, f4, f5⟩ := Ba c2 (by omega) (by omega) (by omega) rC
 have hit := DV (la ++ lb) (List.replicate 19 0) (fun y hy => (Bh 19 y hy).1) (by rw [Vf])
 have ex : ∃ y ∈ ym (la ++ lb) (List.replicate 19 0), 0 < y := by
  obtain ⟨z, hz⟩ := List.exists_mem_of_ne_nil (la ++ lb) (fun q => by
   have := VF List.length q
   rw [wo, U4] at this
   omega)
  have h := hit z hz (hall z hz)
  refine ⟨_, ?_, show 0 < (ym (la ++ lb) (List.replicate 19 0)).getD z.toNat 0 by omega⟩
  have zl : z.toNat < (ym (la ++ lb) (List.replicate 19 0)).length := by have := hall z hz; omega
  rw [U3, U6 zl]
  exact Vo zl
 have l0 := f4 ex
 have r16 : ∀ y ∈ xC (ym (la ++ lb) (List.replicate 19 0)) KC, 0 ≤ y ∧ y < 16 := fun y hy => by have := f2 y hy; omega
 refine ⟨KA, KB, KC, la, lb, _, ⟨Pl, hn, t2, rA, rB, ea, eb, hall, rC, rfl, fun y hy => by have := f2 y hy; omega, x3, y3, ?_, ?_, ?_, ?_⟩⟩
 · have := zS (by omega) (by omega) r16 (by omega)
   rw [this, if_pos l0]; exact .inl rfl
 · intro y hy
   have h := hit y hy (hall y hy)
   have g := f3 y.toNat (by omega)
   exact GH (by omega) r16 (by have := hall y hy; omega) g
 · intro t ht
   have o := t2 t ht
   have zA : ∀ y ∈ (List.replicate 286 (0 : Int)).set 256 1, 0 ≤ y := fun y hy => by
    rcases Vt hy with q | q
    · have := Vn q; omega
    · omega
   have hA := He ts _ zA (by rw [Vi, Vf]) t ht o
   have hB := Hk ts (List.replicate 30 0) (fun y hy => (Bh 30 y hy).1) (by rw [Vf]) t ht o
   exact LR (ts := ts) o (fun h0 => x4 _ (by have := hA.1 h0; unfold dA; omega)) (fun h0 => x4 _ (by have := hA.2 h0; unfold dA; omega)) (fun h0 => y4 _ (by have := hB h0; unfold dB; omega))
 · exact x4 256 (by omega)
theorem Kx : ∀ bs : List Nat, (∀ b ∈ bs, b ≤ 1) → Jf (xn bs) := by
 have : ∀ (l : List Nat) (i : Nat) (out : List Nat), (∀ b ∈ l, b ≤ 1) → Jf out → Jf (yy l i out) := by
  intro l
  induction l with
  | nil => intro i out _ h; exact h
  | cons x l ih => intro i out hl h; exact ih (i + 1) _ (fun b hb => hl b (by simp [hb])) (Dq (hl x (by simp)) h)
 exact fun bs h => this bs 0 [] h fun _ q => by simp at q
theorem yO (v : Nat) : ∀ m, ∀ b ∈ zk v m, b ≤ 1
 | 0, b, h => by simp [zk] at h
 | m + 1, b, h => by
   rw [zk] at h
   rcases wj.1 h with q | q
   · omega
   · exact yO v m b q
theorem yJ (v : Nat) : ∀ m i, ∀ b ∈ ED v i m, b ≤ 1
 | 0, i, b, h => by simp [ED] at h
 | m + 1, i, b, h => by
   rw [ED] at h
   rcases wj.1 h with q | q
   · omega
   · exact yJ v m (i + 1) b q
theorem DB (E D : List (Int × Int)) (t : Tok) : ∀ b ∈ xc E D t, b ≤ 1 := by
 intro b h
 unfold xc wL wW at h
 split at h
 · exact yO _ _ b h
 · simp only [Vq] at h
   rcases h with h | h | h | h
   · exact yO _ _ b h
   · exact yJ _ _ _ b h
   · exact yO _ _ b h
   · exact yJ _ _ _ b h
theorem Nc (ts : List Tok) (la lb Lc : List Int) : ∀ b ∈ xD ts la lb Lc, b ≤ 1 := by
 intro b h
 unfold xD at h
 simp only [Vq] at h
 rcases h with h | h | h | h | h | h | h | h
 · exact yJ _ _ _ b h
 · exact yJ _ _ _ b h
 · exact yJ _ _ _ b h
 · exact yJ _ _ _ b h
 · obtain ⟨y, _, hy⟩ := List.mem_flatMap.1 h
   exact yJ _ _ _ b hy
 · obtain ⟨y, _, hy⟩ := List.mem_flatMap.1 h
   exact yO _ _ b hy
 · obtain ⟨y, _, hy⟩ := List.mem_flatMap.1 h
   exact DB _ _ y b hy
 · exact yO _ _ b h
def AA (t : ByteArray) (p : Nat) (bs : List Nat) : Prop := p + bs.length ≤ 8 * t.size ∧ ∀ i, i < bs.length → yi t (p + i) = bs.getD i 0
theorem AA.app {t : ByteArray} {p : Nat} {a b : List Nat} (h : AA t p (a ++ b)) : AA t p a ∧ AA t (p + a.length) b := by
 obtain ⟨h1, h2⟩ := h
 rw [wo] at h1 h2
 refine ⟨⟨by omega, fun i hi => ?_⟩, ⟨by omega, fun i hi => ?_⟩⟩
 · have := h2 i (by omega)
   rw [this, U3, U3, Vs hi]
 · have := h2 (a.length + i) (by omega)
   rw [vQ, this, U3, U3, Vj (by omega), Nat.add_sub_cancel_left]
theorem Fg (l : List Nat) (h : Jf l) (i : Nat) : (((bytesOf l)[i]?).map (·.toNat)).getD 0 = l.getD i 0 := by
 have e : (bytesOf l)[i]? = (l.map UInt8.ofNat)[i]? := by
  show (l.map UInt8.ofNat).toArray[i]? = _
  simp
 rw [e, v7, U3]
 cases hx : l[i]? with
 | none => rfl
 | some x =>
   have := h x (vV hx)
   simp [UInt8.toNat_ofNat_of_lt' this]
theorem K6 {x b k j : Nat} (hb : b ≤ 1) (hx : x < 2 ^ k) : (x ||| b * 2 ^ k) / 2 ^ j % 2 = if j = k then b else x / 2 ^ j % 2 := by
 rw [← Nat.toNat_testBit, ← Nat.toNat_testBit, Nat.testBit_or]
 have hb' : b = 0 ∨ b = 1 := by omega
 rcases hb' with rfl | rfl
 · rw [Nat.zero_mul, Nat.zero_testBit, Bool.or_false]
   split
   · rename_i e; subst e
     rw [Nat.testBit_lt_two_pow hx]; rfl
   · rfl
 · rw [Nat.one_mul, Nat.testBit_two_pow]
   split
   · rename_i e; subst e; simp
   · rename_i e
     have : decide (k = j) = false := by simp; omega
     rw [this, Bool.or_false]
structure JZ (out : List Nat) (bs : List Nat) : Prop where
 len : out.length = (bs.length + 7) / 8
 bit : ∀ j, j < bs.length → out.getD (j / 8) 0 / 2 ^ (j % 8) % 2 = bs.getD j 0
 top : bs.length % 8 ≠ 0 → out.getD (bs.length / 8) 0 < 2 ^ (bs.length % 8)
theorem JZ.step {out bs : List Nat} {b : Nat} (hb : b ≤ 1) (v : JZ out bs) : JZ (xO out bs.length b) (bs ++ [b]) := by
 obtain ⟨len, bit, top⟩ := v
 obtain ⟨n, hn⟩ : ∃ n, n = bs.length := ⟨_, rfl⟩
 rw [← hn] at len bit top ⊢
 obtain ⟨o, ho⟩ : ∃ o, o = if n % 8 = 0 then out ++ [0] else out := ⟨_, rfl⟩
 have es : xO out n b = o.set (n / 8) (o.getD (n / 8) 0 ||| b * 2 ^ (n % 8)) := by rw [ho]; rfl
 have ol : n / 8 < o.length := by
  rw [ho]; split
  · rw [wo, len]; simp; omega
  · rw [len]; omega
 have og : ∀ j, j < n → o.getD (j / 8) 0 = out.getD (j / 8) 0 := fun j hj => by
  rw [ho]; split
  · rw [U3, Vs (by omega), ← U3]
  · rfl
 have ox : o.getD (n / 8) 0 < 2 ^ (n % 8) := by
  by_cases c : n % 8 = 0
  · rw [ho, if_pos c, U3, Vj (by omega), c]
    have : n / 8 - out.length = 0 := by omega
    rw [this]; simp
  · rw [ho, if_neg c]; exact top c
 have gn : ∀ m, (xO out n b).getD m 0 = if m = n / 8 then o.getD (n / 8) 0 ||| b * 2 ^ (n % 8) else o.getD m 0 := fun m => by
  rw [es]
  by_cases e : m = n / 8
  · subst e
    rw [if_pos rfl, U3, Vh, if_pos rfl, if_pos ol]; rfl
  · rw [if_neg e, getD_set_ne (fun q => e q.symm)]
 have bl : (bs ++ [b]).length = n + 1 := by simp [hn]
 refine ⟨by rw [bl, Dr len], fun j hj => ?_, fun hc => ?_⟩
 · rw [bl] at hj
   rw [gn]
   by_cases e : j = n
   · subst e
     rw [if_pos rfl, K6 hb ox, if_pos rfl, U3, hn, Vj (vR _)]; simp
   · have hjn : j < n := by omega
     have gb : (bs ++ [b]).getD j 0 = bs.getD j 0 := by rw [U3, Vs (by omega), ← U3]
     rw [gb, ← bit j hjn, ← og j hjn]
     split
     · rename_i e2
       rw [K6 hb ox, if_neg (by omega), e2]
     · rfl
 · rw [bl] at hc ⊢
   have e8 : (n + 1) / 8 = n / 8 := by omega
   have m8 : (n + 1) % 8 = n % 8 + 1 := by omega
   rw [gn, e8, if_pos rfl, m8, LW ox, Nat.pow_succ]
   have : b * 2 ^ (n % 8) ≤ 1 * 2 ^ (n % 8) := vU _ hb
   omega
theorem Ky : ∀ bs : List Nat, (∀ b ∈ bs, b ≤ 1) → JZ (xn bs) bs := by
 have key : ∀ (q p : List Nat) (out : List Nat), (∀ b ∈ q, b ≤ 1) → JZ out p → JZ (yy q p.length out) (p ++ q) := by
  intro q
  induction q with
  | nil => intro p out _ h; simpa [yy] using h
  | cons x q ih =>
    intro p out hb h
    have := ih (p ++ [x]) (xO out p.length x) (fun b q => hb b (by simp [q])) (h.step (hb x (by simp)))
    rw [wo, Vb] at this
    exact this
 intro bs hb
 exact key bs [] [] hb ⟨rfl, fun j hj => by simp at hj, fun h => by simp at h⟩
theorem Fe (bs : List Nat) (hb : ∀ b ∈ bs, b ≤ 1) : AA (bytesOf (xn bs)) 0 bs := by
 have v := Ky bs hb
 have y := Kx bs hb
 refine ⟨by rw [wX, v.len]; omega, fun i hi => ?_⟩
 rw [vW]
 unfold yi
 rw [Fg _ y]
 exact v.bit i hi
theorem JV {t : ByteArray} {p : Nat} {v : Nat} : ∀ (n : Nat), (∀ i, i < n → yi t (p + i) = v / 2 ^ i % 2) → wE t p n = v % 2 ^ n
 | 0, h => by simp [wE, Nat.mod_one]
 | n + 1, h => by
   rw [wE, JV n fun i hi => h i (by omega), h n (by omega), Nat.pow_succ, Nat.mod_mul, Nat.mul_comm]
theorem H4 (v : Nat) : ∀ m i j, j < m → (ED v i m).getD j 0 = v / 2 ^ (i + j) % 2
 | 0, i, j, h => by omega
 | m + 1, i, 0, h => rfl
 | m + 1, i, j + 1, h => by
   show (ED v (i + 1) m).getD j 0 = _
   rw [H4 v m (i + 1) j (by omega)]
   congr 3; omega
theorem AA.put {t : ByteArray} {p v n : Nat} (h : AA t p (wW v n)) (hv : v < 2 ^ n) : wE t p n = v ∧ p + n ≤ 8 * t.size := by
 obtain ⟨h1, h2⟩ := h
 unfold wW at h1 h2
 rw [xb] at h1 h2
 refine ⟨?_, h1⟩
 rw [JV n fun i hi => by rw [h2 i hi, H4 v n 0 i hi, vW], Nat.mod_eq_of_lt hv]
theorem Il (n : Nat) : ∀ (q p : List Int), ∃ r, syms (p ++ q) n = syms p n ++ r
 | [], p => ⟨[], by simp⟩
 | x :: q, p => by
   obtain ⟨r, hr⟩ := Il n q (p ++ [x])
   rw [Vb, Bm] at hr
   exact ⟨_, by rw [show p ++ x :: q = p ++ ([x] ++ q) by simp, hr, Vb]⟩
theorem NG {l : List Int} {s n : Nat} (hs : s < l.length) (hn : 1 ≤ n) (e : l.getD s 0 = (n : Int)) : (syms l n)[yw (l.take s) n]? = some (s : Int) := by
 have e2 : l.take (s + 1) = l.take s ++ [l.getD s 0] := by
  rw [List.take_add_one, U6 hs, U3, U6 hs]; rfl
 obtain ⟨r, hr⟩ := Il n (l.drop (s + 1)) (l.take (s + 1))
 rw [List.take_append_drop, e2, Bm, if_pos ⟨by omega, e⟩] at hr
 have ls := EW (l.take s) n
 have lt : (l.take s).length = s := by rw [Vy]; omega
 rw [hr, Vb, Vj (by omega), ls, Nat.sub_self, lt]; rfl
theorem Dj (l : List Int) (n : Nat) : ∀ m, (wF l n + yw l n) * 2 ^ (m + 1) ≤ wF l (n + m + 1)
 | 0 => by rw [wF]; simp
 | m + 1 => by
   have ih := Dj l n m
   rw [show n + (m + 1) + 1 = (n + m + 1) + 1 by omega, wF, Int.pow_succ, ← Int.mul_assoc]
   omega
theorem Ng {l : List Int} {n m : Nat} {c : Nat} (hc : wF l (n + m + 1) ≤ (c : Int)) : yN l n ((c / 2 ^ (m + 1) : Nat) : Int) = none := by
 have g := Dj l n m
 have h1 : wF l n + yw l n ≤ ((c / 2 ^ (m + 1) : Nat) : Int) := by
  have p2 : ((2 ^ (m + 1) : Nat) : Int) = (2 : Int) ^ (m + 1) := by push_cast; rfl
  have : (wF l n + yw l n) * ((2 ^ (m + 1) : Nat) : Int) ≤ (c : Int) := by rw [p2]; omega
  rw [Int.natCast_ediv]
  exact (Int.le_ediv_iff_mul_le (by have := Nat.pow_pos (n := m + 1) (show 0 < 2 by omega); omega)).2 this
 unfold yN
 split
 · rw [Vk]
   rw [EW]; omega
 · rfl
theorem Ih {t : ByteArray} {l : List Int} {s N c : Nat} (hs : s < l.length) (hN : 1 ≤ N) (e : l.getD s 0 = (N : Int)) (hc : (c : Int) = wF l N + yw (l.take s) N) : ∀ (m n k p : Nat), n + m = N → m + 1 ≤ k → AA t p (zk c (m + 1)) → Ad t l k n (c / 2 ^ (m + 1)) p = some ((s : Int), p + (m + 1))
 | m, n, 0, p, hn, hk, hb => by omega
 | m, n, k + 1, p, hn, hk, hb => by
   have hb1 : AA t p ([c / 2 ^ m % 2] ++ zk c m) := hb
   obtain ⟨b1, b2⟩ := hb1.app
   have v1 : wE t p 1 = c / 2 ^ m % 2 := by
    have := b1.2 0 (by simp)
    simp only [Nat.add_zero, List.getD_cons_zero] at this
    simp [wE, this]
   have pl : p + 1 ≤ 8 * t.size := b1.1
   have vv : c / 2 ^ (m + 1) * 2 + c / 2 ^ m % 2 = c / 2 ^ m := by
    rw [Nat.pow_succ, ← Nat.div_div_eq_div_mul]; omega
   rw [Ad, if_pos pl, v1, vv]
   cases m with
   | zero =>
     have : yN l n ((c / 2 ^ 0 : Nat) : Int) = some (s : Int) := by
      have hn' : n = N := by omega
      subst hn'
      unfold yN
      rw [Nat.pow_zero, Nat.div_one, if_pos (by omega)]
      have : ((c : Int) - wF l n).toNat = yw (l.take s) n := by omega
      rw [this]
      exact NG hs hN e
     rw [this]
   | succ m =>
     have : yN l n ((c / 2 ^ (m + 1) : Nat) : Int) = none := Ng (by rw [show n + m + 1 = N by omega]; omega)
     rw [this]
     have r := Ih hs hN e hc m (n + 1) k (p + 1) (by omega) (by omega) b2
     rw [r]
     simp only [vK, vM, true_and]; omega
theorem Ms {t : ByteArray} {l : List Int} (hl : 0 ≤ wJ l 15) (hr : ∀ y ∈ l, 0 ≤ y ∧ y < 16) {s p : Nat} (hs : s < l.length) (h1 : 1 ≤ l.getD s 0) (hb : AA t p (wL (wB l) s)) : Ad t l 15 1 0 p = some ((s : Int), p + (wL (wB l) s).length) := by
 obtain ⟨n, v, g, n1, n2, n3, n4⟩ := (GH hl hr hs h1).bits
 have g2 : (wB l)[s]? = some (Br l s) := by
  unfold wB
  rw [v7, VB hs]; rfl
 rw [g2] at g
 have g3 := vG g
 unfold Br at g3
 rw [if_pos h1] at g3
 have e1 : l.getD s 0 = (n : Int) := VF Prod.fst g3
 have e2 : wF l (l.getD s 0).toNat + yw (l.take s) (l.getD s 0).toNat = (v : Int) := VF Prod.snd g3
 have tn : ((n : Nat) : Int).toNat = n := by omega
 rw [e1, tn] at e2
 rw [n4] at hb ⊢
 rw [xm]
 obtain ⟨m, rfl⟩ : ∃ m, n = m + 1 := ⟨n - 1, by omega⟩
 have := Ih hs n1 e1 e2.symm m 1 15 p (by omega) (by omega) hb
 rw [Nat.div_eq_of_lt n3] at this
 exact this
theorem GG {l : List Int} {s : Nat} (o : Ez (wB l) s) : s < l.length ∧ 1 ≤ l.getD s 0 := by
 have hs : s < l.length := by have := o.lt; rwa [Ao] at this
 obtain ⟨n, v, g, n1, _⟩ := o
 have g2 : (wB l)[s]? = some (Br l s) := by
  unfold wB
  rw [v7, VB hs]; rfl
 rw [g2] at g
 have g3 := vG g
 unfold Br at g3
 refine ⟨hs, ?_⟩
 apply Vp
 intro c
 rw [if_neg c] at g3
 have := VF Prod.fst g3
 simp at this
 omega
theorem Fh {most : Int} (d : Nat) : ∀ (n : Nat) (out : List Nat), (out.length : Int) + n ≤ most → Bt most d n out = .ok (Iv d n out)
 | 0, out, h => rfl
 | n + 1, out, h => by
   rw [Bt, if_neg (by omega), Iv]
   exact Fh d n _ (by simp; omega)
structure CT (l : List Int) : Prop where
 left : 0 ≤ wJ l 15
 TW : ∀ y ∈ l, 0 ≤ y ∧ y < 16
theorem CT.sym {l : List Int} (b : CT l) {t : ByteArray} {s p : Nat} (o : Ez (wB l) s) (hb : AA t p (wL (wB l) s)) : Ad t l 15 1 0 p = some ((s : Int), p + (wL (wB l) s).length) :=
 Ms b.left b.TW (GG o).1 (GG o).2 hb
theorem Hy (o : List Nat) (t : Tok) : o.length ≤ (xk o t).length := by
 unfold xk
 split
 · simp
 · rw [DG]; omega
theorem Hz : ∀ (ts : List Tok) (o : List Nat), o.length ≤ (zd ts o).length
 | [], o => vR _
 | t :: r, o => wk (Hy o t) (Hz r _)
theorem BH {t : ByteArray} {la lb : List Int} (bA : CT la) (bB : CT lb) (o256 : Ez (wB la) 256) {most : Int} : ∀ (ts : List Tok) (k p : Nat) (out : List Nat), AA t p (xM (wB la) (wB lb) ts ++ wL (wB la) 256) → (∀ x ∈ ts, KQ (wB la) (wB lb) x) → wY out.length ts = true → ((zd ts out).length : Int) ≤ most → ts.length < k →
 ya t most la lb k p out = .ok (p + (xM (wB la) (wB lb) ts ++ wL (wB la) 256).length, zd ts out)
 | ts, 0, p, out, hb, ok, hm, hl, hk => by omega
 | [], k + 1, p, out, hb, ok, hm, hl, hk => by
   have hb' : AA t p (wL (wB la) 256) := hb
   have s := bA.sym o256 hb'
   rw [ya, s]
   simp only
   rw [if_neg (by omega), if_pos (by omega)]
   rfl
 | x :: r, k + 1, p, out, hb, ok, hm, hl, hk => by
   have ox := ok x (by simp)
   have e : xM (wB la) (wB lb) (x :: r) ++ wL (wB la) 256 = xc (wB la) (wB lb) x ++ (xM (wB la) (wB lb) r ++ wL (wB la) 256) := by
    unfold xM; rw [Va, Vb]
   rw [e] at hb ⊢
   obtain ⟨h1, h2⟩ := hb.app
   have gl := Hz r (xk out x)
   have hl' : ((zd r (xk out x)).length : Int) ≤ most := hl
   rw [wY] at hm
   cases hst : xQ out.length x with
   | none => rw [hst] at hm; cases hm
   | some s' =>
     rw [hst] at hm
     simp only at hm
     by_cases k8 : 8192 < s'
     · rw [if_pos k8] at hm; cases hm
     rw [if_neg k8] at hm
     unfold xQ at hst
     have rec_ : s' = ((xk out x).length : Nat) → ya t most la lb k (p + (xc (wB la) (wB lb) x).length) (xk out x) = .ok (p + (xc (wB la) (wB lb) x ++ (xM (wB la) (wB lb) r ++ wL (wB la) 256)).length, zd r (xk out x)) := fun es => by
      have := BH bA bB o256 r k _ (xk out x) h2 (fun y hy => ok y (by simp [hy])) (by rw [← es]; exact hm) hl' (by simp at hk; omega)
      rw [this, wo (as := xc _ _ _), vQ]
     rw [zd]
     by_cases c0 : x.len = 0
     · rw [if_pos c0] at hst
       by_cases c : x.lit < 0 ∨ 255 < x.lit ∨ x.w8 ≠ 0
       · rw [if_pos c] at hst; cases hst
       rw [if_neg c] at hst
       obtain rfl := vG hst
       have tb : xc (wB la) (wB lb) x = wL (wB la) x.lit.toNat := by rw [xc, if_pos c0]
       rcases ox with ⟨_, q2, q3⟩ | ⟨q, _⟩
       · have es : xk out x = out ++ [x.lit.toNat] := by unfold xk; rw [if_pos c0]
         rw [es] at gl hl' rec_ ⊢
         rw [wo, List.length_singleton] at gl rec_
         rw [tb] at h1 rec_ ⊢
         have s := bA.sym q3 h1
         rw [ya, s]
         simp only
         have tl : ((x.lit.toNat : Nat) : Int) < 256 := by omega
         rw [if_pos tl, if_neg (by omega)]
         have tn : (((x.lit.toNat : Nat) : Int)).toNat = x.lit.toNat := by omega
         rw [tn]
         exact rec_ (by push_cast; rfl)
       · omega
     · rw [if_neg c0] at hst
       by_cases c : x.len < 3 ∨ 258 < x.len ∨ x.w8 < 1 ∨ 32768 < x.w8 ∨ (out.length : Int) < x.w8 ∨ x.lit ≠ 0
       · rw [if_pos c] at hst; cases hst
       rw [if_neg c] at hst
       obtain rfl := vG hst
       obtain ⟨L, hL⟩ : ∃ y : Nat, x.len = y := U9 (by omega)
       obtain ⟨D, hD⟩ : ∃ y : Nat, x.w8 = y := U9 (by omega)
       have Lt : x.len.toNat = L := by omega
       have Dt : x.w8.toNat = D := by omega
       rcases ox with ⟨q, _⟩ | ⟨_, _, _, _, q5, q6⟩
       · exact absurd q c0
       rw [Lt] at q5
       rw [Dt] at q6
       have es : xk out x = Iv D L out := by unfold xk; rw [if_neg c0, Lt, Dt]
       have cl := DG D L out
       have tb : xc (wB la) (wB lb) x = wL (wB la) (xJ L) ++ (wW (AG L) (zY L) ++ (wL (wB lb) (xX D) ++ wW (AF D) (zU D))) := by rw [xc, if_neg c0, Lt, Dt]
       rw [es] at gl hl' rec_ ⊢
       rw [tb] at h1 rec_ ⊢
       obtain ⟨i1, i2⟩ := h1.app
       obtain ⟨i3, i4⟩ := i2.app
       obtain ⟨i5, i6⟩ := i4.app
       have s1 := bA.sym q5 i1
       have lb_ := Gz (k := L) (by omega) (by omega)
       have db_ := Gn (k := D) (by omega) (by omega)
       have ls := z8 (k := L) (by omega) (by omega)
       have ds := zV (k := D) (by omega) (by omega)
       obtain ⟨a, b, hab⟩ := BS ls.1 ls.2.1
       obtain ⟨a', b', hab'⟩ := AO ds.1
       have ea : wQ (lenOf (xJ L)) = a := by rw [hab]; rfl
       have eb : zY L = b := by unfold zY; rw [hab]; rfl
       have ea' : wQ (wN (xX D)) = a' := by rw [hab']; rfl
       have eb' : zU D = b' := by unfold zU; rw [hab']; rfl
       have v1 := i3.put lb_.2
       have v2 := i6.put db_.2
       have pl : ∀ v n, (wW v n).length = n := fun v n => by unfold wW; exact xb v n 0
       rw [pl] at i5 v2
       have s2 := bB.sym q6 i5
       have eL : a + AG L = L := by unfold AG; rw [ea]; omega
       have eD : a' + AF D = D := by unfold AF; rw [ea']; omega
       rw [ya, s1]
       simp only
       rw [if_neg (by omega), if_neg (by omega)]
       have tn : (((xJ L : Nat) : Int)).toNat = xJ L := by omega
       have tn2 : (((xX D : Nat) : Int)).toNat = xX D := by omega
       have cp : Bs t most lb (xJ L) (p + (wL (wB la) (xJ L)).length) out = .ok (p + (wL (wB la) (xJ L) ++ (wW (AG L) (zY L) ++ (wL (wB lb) (xX D) ++ wW (AF D) (zU D)))).length, Iv D L out) := by
        unfold Bs
        rw [hab]
        simp only
        rw [← eb, if_pos v1.2, s2]
        simp only
        rw [tn2, hab']
        simp only
        rw [← eb', v2.1, v1.1, eL, eD, if_pos ⟨v2.2, by omega⟩, Fh D L out (by omega)]
        simp only [wo, pl, Except.ok.injEq, vM, and_true]
        omega
       rw [tn, cp]
       simp only
       exact rec_ (by rw [cl, hL]; push_cast; rfl)
theorem CT.LQ {C l : List Int} {K k : Nat} (hC : ∀ y ∈ C, 0 ≤ y ∧ y ≤ 2147483647) (h2 : 2 ≤ C.length) (hl : C.length ≤ 288) (hk : k ≤ C.length) (hk1 : 1 ≤ k) (r : yH 15 K (xI C)) (e : l = Cy (xC C K) k) : CT l ∧ ((∃ y ∈ C, 0 < y) → wP l = 0) ∧ ((∀ y ∈ C, ¬ 0 < y) → ∀ y ∈ l, y = 0) := by
 obtain ⟨a, b, c, d, l0⟩ := D7 (m := 0) hC h2 hl hk hk1 r e
 obtain ⟨f1, f2, f3, f4, f5⟩ := Ba hC h2 hl (by omega) r
 refine ⟨⟨l0, b⟩, fun ex => ?_, fun nn y hy => ?_⟩
 · rw [zS (by omega) (by omega) b l0, if_pos]
   rw [e, Jq (fun y hy => (f2 y hy).1) k 15]
   exact f4 ex
 · rw [e, f5 nn] at hy
   exact Vn (List.mem_of_mem_take hy)
theorem Db : ∀ (l : List Int) (a : Int), (∀ y ∈ l, y = 0) → Mq l a = a
 | [], a, h => rfl
 | y :: l, a, h => by
   have := h y (by simp)
   subst this
   rw [Mq]
   first
    | exact Db l a fun z hz => h z (by simp [hz])
    | (simp; exact Db l a fun z hz => h z (by simp [hz]))
theorem CI {t : ByteArray} {Lc : List Int} (bk : CT Lc) (many : Nat) : ∀ (q acc : List Int) (f p : Nat), AA t p (zP (wB Lc) q) → (∀ y ∈ q, Ez (wB Lc) y.toNat) → (∀ y ∈ q, 0 ≤ y ∧ y < 16) → acc.length + q.length = many → q.length < f → xE t Lc many f acc p = some (acc ++ q, p + (zP (wB Lc) q).length)
 | q, acc, 0, p, hb, ok, hr, hm, hf => by omega
 | [], acc, f + 1, p, hb, ok, hr, hm, hf => by
   simp at hm
   rw [xE, if_neg (by omega), if_neg (by omega)]
   simp [zP]
 | y :: q, acc, f + 1, p, hb, ok, hr, hm, hf => by
   have e : zP (wB Lc) (y :: q) = wL (wB Lc) y.toNat ++ zP (wB Lc) q := by unfold zP; rw [Va]
   rw [e] at hb ⊢
   obtain ⟨h1, h2⟩ := hb.app
   have s := bk.sym (ok y (by simp)) h1
   have yr := hr y (by simp)
   have ty : ((y.toNat : Nat) : Int) = y := by omega
   simp only [UZ] at hm hf
   rw [xE, if_pos (by omega), s]
   simp only
   rw [ty]
   have ag : Ai t y acc (p + (wL (wB Lc) y.toNat).length) = some (y, 1, p + (wL (wB Lc) y.toNat).length) := by
    unfold Ai
    rw [if_neg (by omega), if_neg (by omega), if_neg (by omega)]
   rw [ag]
   simp only
   have r := CI bk many q (acc ++ [y]) f _ h2 (fun z hz => ok z (by simp [hz])) (fun z hz => hr z (by simp [hz])) (by simp; omega) (by omega)
   have e1 : List.replicate 1 y = [y] := rfl
   rw [e1, r, wo, ← vQ, Vb]; rfl
def E5 (L : List Int) : List Int → List Int → List Int
 | [], o => o
 | s :: r, o => E5 L r (o.set s.toNat (L.getD s.toNat 0))
theorem HW {t : ByteArray} {L : List Int} (hr : ∀ y ∈ L, 0 ≤ y ∧ y < 8) : ∀ (os : List Int) (p : Nat) (o : List Int), AA t p (AJ (os.map fun s => L.getD s.toNat 0)) → (∀ s ∈ os, s.toNat < L.length) → GJ t os p o = E5 L os o
 | [], p, o, hb, hs => rfl
 | s :: os, p, o, hb, hs => by
   have e : AJ ((s :: os).map fun s => L.getD s.toNat 0) = wW (L.getD s.toNat 0).toNat 3 ++ AJ (os.map fun s => L.getD s.toNat 0) := by unfold AJ; rw [Ve, Va]
   rw [e] at hb
   obtain ⟨h1, h2⟩ := hb.app
   have hl := hs s (by simp)
   have yr : 0 ≤ L.getD s.toNat 0 ∧ L.getD s.toNat 0 < 8 := hr _ (by rw [U3, U6 hl]; exact Vo hl)
   have v := h1.put (by omega)
   have pl : (wW (L.getD s.toNat 0).toNat 3).length = 3 := by unfold wW; exact xb _ _ _
   rw [pl] at h2
   rw [GJ, E5, v.1, HW hr os _ _ h2 (fun z hz => hs z (by simp [hz]))]
   congr 2; omega
theorem HU (L : List Int) : ∀ (os o : List Int), (E5 L os o).length = o.length
 | [], o => rfl
 | s :: os, o => by rw [E5, HU L os, Vi]
theorem HT (L : List Int) : ∀ (os o : List Int) (j : Nat), j < o.length → (E5 L os o).getD j 0 = if (∃ s ∈ os, s.toNat = j) then L.getD j 0 else o.getD j 0
 | [], o, j, hj => by simp [E5]
 | s :: os, o, j, hj => by
   rw [E5, HT L os _ j (by rw [Vi]; exact hj)]
   by_cases c : ∃ s ∈ os, s.toNat = j
   · rw [if_pos c, if_pos (by obtain ⟨u, hu, e⟩ := c; exact ⟨u, by simp [hu], e⟩)]
   · rw [if_neg c]
     by_cases e : s.toNat = j
     · subst e
       rw [if_pos ⟨s, by simp, rfl⟩, U3, Vh, if_pos rfl, if_pos hj]; rfl
     · rw [getD_set_ne e, if_neg]
       rintro ⟨u, hu, e2⟩
       rcases wj.1 hu with q | q
       · subst q; exact e e2
       · exact c ⟨u, q, e2⟩
theorem Kv : ∀ j : Nat, j < 19 → ∃ i : Nat, i < 19 ∧ wH[i]? = some (j : Int) := by
 intro j hj
 have : ∀ j : Nat, j < 19 → ∃ i : Nat, i < 19 ∧ wH[i]? = some (j : Int) := by decide
 exact this j hj
theorem LY {L : List Int} (hl : L.length = 19) (h0 : ∀ y ∈ L, 0 ≤ y) : E5 L (wH.take (xj (wH.map fun s => L.getD s.toNat 0) 4 19)) (List.replicate 19 0) = L := by
 apply List.ext_getElem?
 intro j
 have fl := HU L (wH.take (xj (wH.map fun s => L.getD s.toNat 0) 4 19)) (List.replicate 19 0)
 rw [Vf] at fl
 by_cases hj : j < 19
 · have g := HT L (wH.take (xj (wH.map fun s => L.getD s.toNat 0) 4 19)) (List.replicate 19 0) j (by simpa using hj)
   rw [U6 (by omega), U6 (by omega)]
   rw [U3, U6 (by omega)] at g
   congr 1
   have g' : (E5 L (wH.take (xj (wH.map fun s => L.getD s.toNat 0) 4 19)) (List.replicate 19 0))[j]'(by omega) = _ := g
   rw [g']
   have e : L.getD j 0 = L[j]'(by omega) := by rw [U3, U6 (by omega)]; rfl
   split
   · exact e
   · rename_i c
     rw [Bi hj]
     obtain ⟨i, hi, oi⟩ := Kv j hj
     have hk : xj (wH.map fun s => L.getD s.toNat 0) 4 19 ≤ i := by
      apply Vp
      intro q
      refine c ⟨(j : Int), ?_, by omega⟩
      refine vV (i := i) ?_
      rw [wm, if_pos (by omega), oi]
     have z := Ax (wH.map fun s => L.getD s.toNat 0) 4 19 i hk hi
     have tj : ((j : Nat) : Int).toNat = j := by omega
     rw [U3, v7, oi] at z
     simp only [U8, Option.getD_some, tj] at z
     have nn := h0 _ (Vo (l := L) (n := j) (by omega))
     omega
 · rw [Vk (by omega), Vk (by omega)]
theorem Na {t : ByteArray} {ts : List Tok} {KA KB KC : Nat} {la lb Lc : List Int} (ok : GY ts KA KB KC la lb Lc) (hb : AA t 0 (xD ts la lb Lc)) (hm : wY 0 ts = true) {most : Int} (hl : ((zd ts []).length : Int) ≤ most) : Hw t most 3 [] = .ok ((xD ts la lb Lc).length, zd ts []) ∧ wE t 0 1 = 1 ∧ wE t 1 2 = 2 ∧ 3 ≤ 8 * t.size := by
 obtain ⟨Pl, hn, tok, ra, rb, ea, eb, hall, rc, ec, hrow, ca, cb, cc, FR, N1, HQ⟩ := ok
 obtain ⟨a1, a2, a3⟩ := NT ts hn
 obtain ⟨b1, b2⟩ := NU ts hn
 obtain ⟨x1, x2, x3, x4, x5⟩ := D7 (m := 0) a2 (by omega) (by omega) (by omega) (by omega) ra ea
 obtain ⟨y1, y2, y3, y4, y5⟩ := D7 (m := 0) b2 (by omega) (by omega) (by omega) (by omega) rb eb
 obtain ⟨bkA, chA, _⟩ := CT.LQ a2 (by omega) (by omega) (by omega) (by omega) ra ea
 obtain ⟨bkB, chB, zB⟩ := CT.LQ b2 (by omega) (by omega) (by omega) (by omega) rb eb
 have c1 : (ym (la ++ lb) (List.replicate 19 0)).length = 19 := by rw [Cp, Vf]
 have c2 : ∀ y ∈ ym (la ++ lb) (List.replicate 19 0), 0 ≤ y ∧ y ≤ 2147483647 := fun y hy => by
  have := Cq (la ++ lb) _ 0 (by omega) (Bh 19) y hy
  rw [wo] at this
  omega
 obtain ⟨f1, f2, f3, f4, f5⟩ := Ba c2 (by omega) (by omega) (by omega) rc
 rw [← ec] at f1 f2 f3 f4 f5
 have lLc : Lc.length = 19 := by omega
 have hit := DV (la ++ lb) (List.replicate 19 0) (fun y hy => (Bh 19 y hy).1) (by rw [Vf])
 have exC : ∃ y ∈ ym (la ++ lb) (List.replicate 19 0), 0 < y := by
  obtain ⟨z, hz⟩ := List.exists_mem_of_ne_nil (la ++ lb) (fun q => by
   have := VF List.length q
   rw [wo, U4] at this
   omega)
  have h := hit z hz (hall z hz)
  refine ⟨_, ?_, show 0 < (ym (la ++ lb) (List.replicate 19 0)).getD z.toNat 0 by omega⟩
  have zl : z.toNat < (ym (la ++ lb) (List.replicate 19 0)).length := by have := hall z hz; omega
  rw [U3, U6 zl]
  exact Vo zl
 have l0 := f4 exC
 have r16 : ∀ y ∈ Lc, 0 ≤ y ∧ y < 16 := fun y hy => by have := f2 y hy; omega
 have bkC : CT Lc := ⟨by omega, r16⟩
 have chC : wP Lc = 0 := by rw [zS (by omega) (by omega) r16 (by omega), if_pos l0]
 have exA : ∃ y ∈ dA ts, 0 < y := by
  have zl : 256 < (dA ts).length := by omega
  refine ⟨(dA ts).getD 256 0, ?_, by omega⟩
  rw [U3, U6 zl]
  exact Vo zl
 have chA' := chA exA
 have chB' : ¬ (wP lb ≠ 0 ∧ yK lb = false) := by
  rintro ⟨q1, q2⟩
  by_cases c : ∃ y ∈ dB ts, 0 < y
  · exact q1 (chB c)
  · have := Db lb 0 (zB fun y hy q => c ⟨y, hy, q⟩)
    unfold yK at q2
    rw [this] at q2
    simp at q2
 obtain ⟨R, hR⟩ : ∃ R, R = wH.map (fun o => Lc.getD o.toNat 0) := ⟨_, rfl⟩
 obtain ⟨k, hk⟩ : ∃ k, k = xj R 4 19 := ⟨_, rfl⟩
 have uk := yV R 4 19
 rw [← hk] at uk
 have eD : xD ts la lb Lc = wW 5 3 ++ (wW (la.length - 257) 5 ++ (wW (lb.length - 1) 5 ++ (wW (k - 4) 4 ++ (AJ (R.take k) ++ (zP (wB Lc) (la ++ lb) ++ (xM (wB la) (wB lb) ts ++ wL (wB la) 256)))))) := by rw [hk, hR]; rfl
 rw [eD] at hb ⊢
 have pl : ∀ v n, (wW v n).length = n := fun v n => by unfold wW; exact xb v n 0
 obtain ⟨h1, g1⟩ := hb.app
 rw [pl] at g1
 obtain ⟨h2, g2⟩ := g1.app
 rw [pl] at g2
 obtain ⟨h3, g3⟩ := g2.app
 rw [pl] at g3
 obtain ⟨h4, g4⟩ := g3.app
 rw [pl] at g4
 obtain ⟨h5, g5⟩ := g4.app
 obtain ⟨h6, g6⟩ := g5.app
 have v2 := h2.put (by omega)
 have v3 := h3.put (by omega)
 have v4 := h4.put (by omega)
 have rl : (AJ (R.take k)).length = 3 * k := by rw [EJ, Vy, hR, List.length_map]; show 3 * min k 19 = _; omega
 rw [rl] at g5 g6 h6
 have rb5 : AJ (R.take k) = AJ ((wH.take k).map fun s => Lc.getD s.toNat 0) := by rw [hR, List.map_take]
 have h5' := h5
 rw [rb5] at h5'
 have own := HW hrow (wH.take k) _ (List.replicate 19 0) h5' (fun s hs => by have := Bb s (List.mem_of_mem_take hs); omega)
 have back := LY lLc (fun y hy => (hrow y hy).1)
 rw [← hR, ← hk] at back
 rw [back] at own
 have okr : ∀ y ∈ la ++ lb, 0 ≤ y ∧ y < 16 := fun y hy => by
  rcases Vq.1 hy with q | q
  · exact x2 y q
  · exact y2 y q
 have h5l := h5.1
 rw [rl] at h5l
 have h6l := h6.1
 have g6l := g6.1
 have ll : (la ++ lb).length = la.length + lb.length := wo
 have all := CI bkC (la.length + lb.length) (la ++ lb) [] (8 * t.size + 1) _ h6 FR okr (by simp) (by
  have : ∀ D : List Int, (∀ y ∈ D, Ez (wB Lc) y.toNat) → D.length ≤ (zP (wB Lc) D).length := by
   intro D
   induction D with
   | nil => intro _; simp
   | cons y D ih =>
     intro h
     have := ih fun z hz => h z (by simp [hz])
     obtain ⟨n, v, _, q1, q2, q3, q4⟩ := (h y (by simp)).bits
     unfold zP at *
     rw [Va, wo, q4, xm, UZ]; omega
  have := this _ FR
  omega)
 have cod := BH bkA bkB HQ ts (8 * t.size + 1) _ [] g6 N1 hm hl (by
  have : ∀ T : List Tok, (∀ x ∈ T, KQ (wB la) (wB lb) x) → T.length ≤ (xM (wB la) (wB lb) T).length := by
   intro T
   induction T with
   | nil => intro _; simp
   | cons x T ih =>
     intro h
     have := ih fun z hz => h z (by simp [hz])
     have o := h x (by simp)
     have one : 1 ≤ (xc (wB la) (wB lb) x).length := by
      rcases o with ⟨h1, h2, h3⟩ | ⟨h1, h2, h3, h4, h5, h6⟩
      · obtain ⟨n, v, _, q1, q2, q3, q4⟩ := h3.bits
        rw [xc, if_pos h1, q4, xm]; omega
      · obtain ⟨n, v, _, q1, q2, q3, q4⟩ := h5.bits
        rw [xc, if_neg (by omega), q4, wo, xm]; omega
     unfold xM at *
     rw [Va, wo, UZ]; omega
  have := this _ N1
  rw [wo] at g6l
  omega)
 have v1 := h1.put (by omega)
 simp only [vW, Nat.reduceAdd, List.nil_append] at v1 v2 v3 v4 own all cod h5l
 have n1 : wE t 3 5 + 257 = la.length := by rw [v2.1]; omega
 have n2 : wE t 8 5 + 1 = lb.length := by rw [v3.1]; omega
 have n3 : wE t 13 4 + 4 = k := by rw [v4.1]; omega
 have lens : zH t (la.length + lb.length) 13 = some (la ++ lb, 17 + 3 * k + (zP (wB Lc) (la ++ lb)).length) := by
  unfold zH
  simp only [Nat.reduceAdd, n3]
  rw [if_pos (by omega), if_pos (by omega), own, if_pos chC, all]
 have tk : (la ++ lb).take la.length = la := List.take_left' rfl
 have dr : (la ++ lb).drop la.length = lb := List.drop_left' rfl
 have g256 : la.getD 256 0 ≠ 0 := by have := (GG HQ).2; omega
 refine ⟨?_, ?_, ?_, by omega⟩
 · unfold Hw
   simp only [Nat.reduceAdd, n1, n2]
   rw [if_pos (by omega), if_neg (by omega), lens]
   simp only [tk, dr]
   rw [if_neg (by rintro (q | q | q); exact q chA'; exact g256 q; exact chB' q), cod]
   simp only [wo, pl, rl, Except.ok.injEq, vM, and_true]
   omega
 · have b0 := h1.2 0 (by rw [pl]; omega)
   have e0 : (wW 5 3).getD 0 0 = 1 := by decide
   rw [e0] at b0
   simp [wE, b0]
 · have b1 := h1.2 1 (by rw [pl]; omega)
   have b2 := h1.2 2 (by rw [pl]; omega)
   have e1 : (wW 5 3).getD 1 0 = 0 := by decide
   have e2 : (wW 5 3).getD 2 0 = 1 := by decide
   rw [e1] at b1
   rw [e2] at b2
   simp only [vW] at b1 b2
   simp [wE, b1, b2]
theorem HH {s : ByteArray} (hs : s.size ≤ 300) {KA KB KC : Nat} {la lb Lc : List Int} (ok : GY (tokens s) KA KB KC la lb Lc) {most : Int} (hm1 : (s.size : Int) ≤ most) (hm2 : most ≤ 8192) : xA (bytesOf (xn (xD (tokens s) la lb Lc))) most = .ok (preB s s.size, (bytesOf (xn (xD (tokens s) la lb Lc))).size) := by
 obtain ⟨t1, t2, t3, t4⟩ := Ae s hs s.size 0 (by omega) (by omega)
 have t3' : wY 0 (tokens s) = true := t3
 have t4' : zd (tokens s) [] = preB s s.size := t4
 have hb := Fe (xD (tokens s) la lb Lc) (Nc _ _ _ _)
 obtain ⟨d, v1, v2, sz⟩ := Na ok hb t3' (most := most) (by rw [t4', yY]; omega)
 rw [t4'] at d
 have psz : (bytesOf (xn (xD (tokens s) la lb Lc))).size = ((xD (tokens s) la lb Lc).length + 7) / 8 := by rw [wX, Bc]
 generalize bytesOf (xn (xD (tokens s) la lb Lc)) = T at *
 unfold xA
 rw [if_neg (by omega)]
 have bl : y6 T most 0 [] = .ok (true, (xD (tokens s) la lb Lc).length, preB s s.size) := by
  unfold y6
  simp only [vW]
  rw [if_pos sz, v2]
  simp only [Nat.reduceEqDiff, wq, if_true, reduceIte]
  rw [d]
  simp [v1]
 rw [yW, bl]
 simp only [if_true, psz]
theorem IZ (s : ByteArray) : bytesOf (preB s s.size) = s := by
 have : preB s s.size = DD s := by
  apply List.ext_getElem?
  intro i
  by_cases h : i < s.size
  · have g := Fg (DD s) (I5 s) i
    rw [AL] at g
    have l1 := GU s
    rw [U6 (by rw [yY]; exact h), U6 (by omega)]
    congr 1
    have a := H3 s h
    rw [U3, U6 (by rw [yY]; exact h)] at a
    rw [U3, U6 (by omega)] at g
    exact a.trans g
  · rw [Vk (by rw [yY]; omega), Vk (by rw [GU]; omega)]
 rw [this, AL]
theorem DL {w : Nat} : ∀ (m : Nat) (h : H) (bs : List Nat) (ov : AV), (bs.length + m) % 8 = 0 → m < 8 → Wr h w bs ov → bs.length + m < 1000 →
 ∃ e' h' ov', Lp AP.A [0] AP.f174L0 [(0, .aE w 0)] h = some (.exit 0, e', h') ∧ Wr h' w (bs ++ List.replicate m 0) ov' ∧ G3 h w ov h' ov'
 | 0, h, bs, ov, hm, h8, wr, hb => by
   have gw := wr.get
   have c : ((bs.length % 8 : Nat) : Int) = 0 := by omega
   have rm : bw .rem (.int .i64 (bs.length : Int)) (.int .i64 8) = some (.int .i64 0) := by
    have := NJ (a := bs.length) (n := 8) (by omega)
    rw [c] at this; exact this
   refine ⟨[(0, .aE w 0), (7, .bool false)], h, ov, ux ?_, by simpa using wr, G3.refl h w ov⟩
   simp (disch := omega) only [go_sem, wG, AP.f174L0, gw, rm]
 | m + 1, h, bs, ov, hm, h8, wr, hb => by
   have gw := wr.get
   have rm : bw .rem (.int .i64 (bs.length : Int)) (.int .i64 8) = some (.int .i64 ((bs.length % 8 : Nat) : Int)) := NJ (a := bs.length) (n := 8) (by omega)
   have c : ¬ ((bs.length % 8 : Nat) : Int) = 0 := by omega
   obtain ⟨h1, o1, k1, wr1, f1⟩ := LS wr (b := 0) (by omega) (by omega)
   have k1' : aS AP.A 57 [.aE w 0, .int .i64 0] h = _ := k1
   obtain ⟨e', h', ov', r1, r2, r3⟩ := DL m h1 (bs ++ [0]) o1 (by rw [wo, List.length_singleton]; omega) (by omega) wr1 (by rw [wo, List.length_singleton]; omega)
   have e : bs ++ List.replicate (m + 1) 0 = bs ++ [0] ++ List.replicate m 0 := by rw [List.replicate_succ, Vb]; rfl
   rw [e]
   refine ⟨e', h', ov', uy ?_ r1, r2, f1.trans r3⟩
   clear r1 r2 r3 wr wr1
   generalize ((bs.length % 8 : Nat) : Int) = q at *
   simp (disch := omega) only [go_sem, wG, AP.f174L0, gw, rm, c, k1']
theorem MA {h : H} {w : Nat} {bs : List Nat} {ov : AV} (wr : Wr h w bs ov) (m : Nat) (hm : (bs.length + m) % 8 = 0) (h8 : m < 8) (hb : bs.length + m < 1000) :
 ∃ h' ov', aS AP.A 174 [.aE w 0] h = some (.bU [], h') ∧ Wr h' w (bs ++ List.replicate m 0) ov' ∧ G3 h w ov h' ov' := by
 obtain ⟨e', h', ov', r1, r2, r3⟩ := DL m h bs ov hm h8 wr hb
 obtain ⟨e2, he⟩ : ∃ e2, aM (aS AP.A) bG AP.f174.body (params 0 [.aE w 0]) h = some (.normal, e2, h') := by
  refine ⟨?_, ?_⟩
  rotate_left
  · simp (disch := omega) only [go_sem, wG, AP.f174, th, r1]
    rfl
 exact ⟨h', ov', xH (fn := AP.f174) (e := e2) (vs := []) rfl rfl rfl he rfl, r2, r3⟩
theorem MB {h : H} (hf : h.floor ≤ h.next) : WX h (h.alloc [.aQ, .int .i64 0]) h.next [] .aQ := by
 refine ⟨⟨by rw [wO rfl]; rfl, wS.nil, by simpa using hf, by simp; omega, by simp [AV.id?], fun b hb => by simp [xn, yy] at hb⟩, (Ext.refl _).alloc _, vR _, by simp, fun j hj => by simp [AV.id?] at hj⟩
def yz (n : Nat) : List Nat := wW 1 3 ++ (List.replicate 5 0 ++ (wW n 16 ++ wW (65535 - n) 16))
def yL (s : ByteArray) : ByteArray := bytesOf (xn (yz s.size)) ++ s
theorem CP (s : ByteArray) : (yL s).size = s.size + 5 := by
 unfold yL
 rw [ByteArray.size_append, wX, Bc]
 simp [yz, wW, xb]; omega
theorem KF (h : H) (s : ByteArray) (hs : s.size ≤ 300) : aS AP.A 170 [.str s] h = some (.bU [.str (yL s), .int .i64 0], h) := by
 obtain ⟨h1, eh1⟩ : ∃ g, g = h.ez.alloc [.aQ, .int .i64 0] := ⟨_, rfl⟩
 have x0 := MB (h := h.ez) (by simp)
 rw [← eh1] at x0
 obtain ⟨h2, o2, k2, w2, f2⟩ := zC x0.wr 1 3 (by omega) (by omega) (by simp)
 obtain ⟨h3, o3, k3, w3, f3⟩ := MA w2 5 (by simp [wW, xb]) (by omega) (by simp [wW, xb])
 obtain ⟨h4, o4, k4, w4, f4⟩ := zC w3 s.size 16 (by omega) (by omega) (by simp [wW, xb])
 obtain ⟨h5, o5, k5, w5, f5⟩ := zC w4 (65535 - s.size) 16 (by omega) (by omega) (by simp [wW, xb])
 have k6 := GX w5
 have e : [] ++ wW 1 3 ++ List.replicate 5 0 ++ wW s.size 16 ++ wW (65535 - s.size) 16 = yz s.size := by
  unfold yz; simp only [List.nil_append, Vb]
 rw [e] at k6
 have hn : h.ez.next = h.next := rfl
 have k2' : aS AP.A 33 [.aE h.next 0, .int .i64 1, .int .i64 3] h1 = some (.int .i64 0, h2) := k2
 have k4' : aS AP.A 33 [.aE h.next 0, .int .i64 s.size, .int .i64 16] h3 = some (.int .i64 0, h4) := k4
 have k5' : aS AP.A 33 [.aE h.next 0, .int .i64 (65535 - (s.size : Int)), .int .i64 16] h4 = some (.int .i64 0, h5) := by
  have e : ((65535 - s.size : Nat) : Int) = 65535 - (s.size : Int) := by omega
  rw [e] at k5; exact k5
 have bz : (bytesOf (xn (yz s.size))).size = 5 := by
  have := CP s
  unfold yL at this
  rw [ByteArray.size_append] at this; omega
 have ad : bw .add (.str (bytesOf (xn (yz s.size)))) (.str s) = some (.str (yL s)) := Dc (by omega)
 rw [hn] at k3 k6
 refine u7 (fn := AP.f170) (h2 := h5) (e := [(2, .str (yL s)), (3, .int .i64 0)]) rfl rfl rfl ?_ rfl rfl
 clear x0 w2 w3 w4 w5 f2 f3 f4 f5 k2 k4 k5 e bz
 generalize bytesOf (xn (yz s.size)) = SB at *
 generalize yL s = ST at *
 simp (disch := omega) only [go_sem, wG, AP.f170, hn, ← eh1, k2', k3, k4', k5', k6, ad]
def yC : List Int := List.replicate 30 5
theorem Ec : wJ wU 15 = 0 := by decide +kernel
theorem Fo : wJ yC 15 = 2048 := by decide +kernel
theorem yD : wU.length = 288 := by decide +kernel
theorem zW : ∀ y ∈ wU, 1 ≤ y ∧ y < 16 := by
 have : wU.all (fun y => decide (1 ≤ y ∧ y < 16)) = true := by decide +kernel
 intro y hy
 simpa using List.all_eq_true.1 this y hy
theorem HB : ∀ y ∈ yC, 1 ≤ y ∧ y < 16 := fun y hy => by have := Vn hy; omega
theorem yx : CT wU := ⟨by rw [Ec]; omega, fun y hy => by have := zW y hy; omega⟩
theorem A5 : CT yC := ⟨by rw [Fo]; omega, fun y hy => by have := HB y hy; omega⟩
theorem Cb {l : List Int} (b : CT l) (hr : ∀ y ∈ l, 1 ≤ y ∧ y < 16) {s : Nat} (hs : s < l.length) : Ez (wB l) s := by
 refine GH b.left b.TW hs ?_
 rw [U3, U6 hs]
 exact (hr _ (Vo hs)).1
theorem Fp {t : Tok} (o : AY t) : KQ (wB wU) (wB yC) t := by
 refine LR (ts := []) o (fun h => ?_) (fun h => ?_) (fun h => ?_)
 · rcases o with ⟨_, b, c⟩ | ⟨a, _⟩
   · exact Cb yx zW (by rw [yD]; omega)
   · omega
 · rcases o with ⟨a, _⟩ | ⟨a, b, _⟩
   · exact absurd a h
   · have := z8 (k := t.len.toNat) (by omega) (by omega)
     exact Cb yx zW (by rw [yD]; omega)
 · rcases o with ⟨a, _⟩ | ⟨a, b, c, d⟩
   · exact absurd a h
   · have := zV (k := t.w8.toNat) (by omega) (by omega)
     have l : yC.length = 30 := by simp [yC]
     exact Cb A5 HB (by rw [l]; omega)
def xN (ts : List Tok) : List Nat := wW 3 3 ++ (xM (wB wU) (wB yC) ts ++ wL (wB wU) 256)
theorem IK (h : H) (v : AV) (ts : List Tok) (Pl : Kf ts = true) (hn : ts.length ≤ 300) (tok : ∀ t ∈ ts, AY t) (rd : zE 3 h v ts.length (xw ts)) : aS AP.A 171 [v] h = some (.bU [.str (bytesOf (xn (xN ts))), .int .i64 0], h) := by
 have rd0 : zE 3 h.ez v ts.length (xw ts) := rd.mono fun i c q => q
 have k1 := NV h.ez v ts (by omega) rd0
 rw [Pl] at k1
 obtain ⟨h1, eh1⟩ : ∃ g, g = h.ez.alloc [.aQ, .int .i64 0] := ⟨_, rfl⟩
 have x0 := MB (h := h.ez) (by simp)
 rw [← eh1] at x0
 obtain ⟨h2, o2, k2, w2, f2⟩ := zC x0.wr 3 3 (by omega) (by omega) (by simp)
 have x2 := x0.step w2 f2
 have kf := Lu h2
 have kc := Ct h2 (yR wU) wU (by rw [yD]; omega) (by rw [yD]; omega) (zN h2 wU) (.inl (by rw [zS (by rw [yD]; omega) (by rw [yD]; omega) yx.TW yx.left, if_pos Ec]))
 have k5 := Nh h2
 have l5 : yC.length = 30 := by simp [yC]
 have kc5 := Ct h2 (yR yC) yC (by omega) (by omega) (zN h2 yC) (.inr (by rw [zS (by omega) (by omega) A5.TW A5.left, if_neg (by rw [Fo]; omega)]))
 obtain ⟨h3, o3, k3, x3⟩ := My (by omega) h.ez rd0 (AW h.ez wU) (AW h.ez yC) (fun t ht => Fp (tok t ht)) (Cb yx zW (by rw [yD]; omega)) h.ez.next _ h2 o2 x2 (by simp [wW, xb]; omega)
 have k6 := GX x3.wr
 have e : [] ++ wW 3 3 ++ (xM (wB wU) (wB yC) ts ++ wL (wB wU) 256) = xN ts := by unfold xN; rw [List.nil_append]
 rw [e] at k6
 have hn' : h.ez.next = h.next := rfl
 have k2' : aS AP.A 33 [.aE h.next 0, .int .i64 3, .int .i64 3] h1 = some (.int .i64 0, h2) := k2
 rw [hn'] at k3 k6
 change aS AP.A 23 [] h2 = some (yR yC, h2) at k5
 refine u7 (fn := AP.f171) (h2 := h3) (e := [(2, .str (bytesOf (xn (xN ts)))), (3, .int .i64 0)]) rfl rfl rfl ?_ rfl rfl
 clear x0 w2 f2 x2 x3 k2 e rd rd0
 generalize bytesOf (xn (xN ts)) = SB at *
 generalize yR wU = I1 at *
 generalize yR yC = I2 at *
 generalize DX wU = C1 at *
 generalize DX yC = C2 at *
 simp (disch := omega) only [go_sem, wG, AP.f171, hn', k1, ← eh1, k2', kf, kc, k5, kc5, k3, k6]
theorem Gl {bs : List Nat} : (bytesOf (xn bs)).size = (bs.length + 7) / 8 := by rw [wX, Bc]
def shorter (a b : ByteArray) : ByteArray := if a.size < b.size then a else b
def IH (s : ByteArray) (la lb Lc : List Int) : ByteArray := bytesOf (xn (xD (tokens s) la lb Lc))
def CA (s : ByteArray) : ByteArray := bytesOf (xn (xN (tokens s)))
def yo (s : ByteArray) (la lb Lc : List Int) : ByteArray := shorter (IH s la lb Lc) (shorter (CA s) (yL s))
theorem EZ (s : ByteArray) (hs : s.size ≤ 300) : (tokens s).length ≤ 300 ∧ (∀ t ∈ tokens s, AY t) ∧ wY 0 (tokens s) = true ∧ zd (tokens s) [] = preB s s.size := by
 obtain ⟨t1, t2, t3, t4⟩ := Ae s hs s.size 0 (by omega) (by omega)
 exact ⟨by unfold tokens; omega, t2, t3, t4⟩
theorem IF (h : H) (s : ByteArray) (hs : s.size ≤ 300) {KA KB KC : Nat} {la lb Lc : List Int} (ok : GY (tokens s) KA KB KC la lb Lc) : aS AP.A 163 [.str s] h = some (.bU [.str (yo s la lb Lc), .int .i64 0], h) := by
 have k1 := Mx h.ez s (by omega)
 rw [if_neg (by omega)] at k1
 obtain ⟨t1, t2, t3, t4⟩ := EZ s hs
 have rd : zE 3 h.ez (Ga (tokens s)) (tokens s).length (xw (tokens s)) := GQ (by rw [KI])
 have k2 := KF h.ez s hs
 have k3 := IK h.ez (Ga (tokens s)) (tokens s) (Ea s hs) t1 t2 rd
 have k4 := II h.ez (Ga (tokens s)) (tokens s) KA KB KC la lb Lc ok rd
 change aS AP.A 171 [Ga (tokens s)] h.ez = some (.bU [.str (CA s), .int .i64 0], h.ez) at k3
 change aS AP.A 13 [Ga (tokens s)] h.ez = some (.bU [.str (IH s la lb Lc), .int .i64 0], h.ez) at k4
 refine u7 (fn := AP.f163) (h2 := h.ez) (e := [(2, .str (yo s la lb Lc)), (3, .int .i64 0)]) rfl rfl rfl ?_ rfl rfl
 unfold yo shorter
 clear rd ok t1 t2 t3 t4
 generalize CA s = F at *
 generalize yL s = S at *
 generalize IH s la lb Lc = D at *
 by_cases c1 : F.size < S.size
 · have c1' : (F.size : Int) < S.size := by omega
   rw [if_pos c1]
   by_cases c2 : D.size < F.size
   · have c2' : (D.size : Int) < F.size := by omega
     rw [if_pos c2]
     simp (disch := omega) only [go_sem, wG, AP.f163, k1, k2, k3, k4, U7 c1', U7 c2']
   · have c2' : ¬ (D.size : Int) < F.size := by omega
     rw [if_neg c2]
     simp (disch := omega) only [go_sem, wG, AP.f163, k1, k2, k3, k4, U7 c1', U5 c2']
 · have c1' : ¬ (F.size : Int) < S.size := by omega
   rw [if_neg c1]
   by_cases c2 : D.size < S.size
   · have c2' : (D.size : Int) < S.size := by omega
     rw [if_pos c2]
     simp (disch := omega) only [go_sem, wG, AP.f163, k1, k2, k3, k4, U5 c1', U7 c2']
   · have c2' : ¬ (D.size : Int) < S.size := by omega
     rw [if_neg c2]
     simp (disch := omega) only [go_sem, wG, AP.f163, k1, k2, k3, k4, U5 c1', U5 c2']
theorem Ni (ts : List Tok) : ∀ b ∈ xN ts, b ≤ 1 := by
 intro b h
 unfold xN at h
 simp only [Vq] at h
 rcases h with h | h | h
 · exact yJ _ _ _ b h
 · obtain ⟨y, _, hy⟩ := List.mem_flatMap.1 h
   exact DB _ _ y b hy
 · exact yO _ _ b h
theorem It {E D : List (Int × Int)} : ∀ T : List Tok, (∀ x ∈ T, KQ E D x) → T.length ≤ (xM E D T).length
 | [], _ => by simp
 | x :: T, h => by
   have := It (E := E) (D := D) T fun z hz => h z (by simp [hz])
   have o := h x (by simp)
   have one : 1 ≤ (xc E D x).length := by
    rcases o with ⟨h1, h2, h3⟩ | ⟨h1, h2, h3, h4, h5, h6⟩
    · obtain ⟨n, v, _, q1, q2, q3, q4⟩ := h3.bits
      rw [xc, if_pos h1, q4, xm]; omega
    · obtain ⟨n, v, _, q1, q2, q3, q4⟩ := h5.bits
      rw [xc, if_neg (by omega), q4, wo, xm]; omega
   unfold xM at *
   rw [Va, wo, UZ]; omega
theorem HI {s : ByteArray} (hs : s.size ≤ 300) {most : Int} (hm1 : (s.size : Int) ≤ most) (hm2 : most ≤ 8192) : xA (CA s) most = .ok (preB s s.size, (CA s).size) := by
 obtain ⟨t1, t2, t3, t4⟩ := EZ s hs
 have hb := Fe (xN (tokens s)) (Ni _)
 have psz : (CA s).size = ((xN (tokens s)).length + 7) / 8 := Gl
 change AA (CA s) 0 (xN (tokens s)) at hb
 generalize CA s = T at *
 have hb' : AA T 0 (wW 3 3 ++ (xM (wB wU) (wB yC) (tokens s) ++ wL (wB wU) 256)) := hb
 obtain ⟨h1, h2⟩ := hb'.app
 have pl : (wW 3 3).length = 3 := rfl
 rw [pl, vW] at h2
 have N1 : ∀ x ∈ tokens s, KQ (wB wU) (wB yC) x := fun x hx => Fp (t2 x hx)
 have g := It (tokens s) N1
 have h2l := h2.1
 rw [wo] at h2l
 have cod := BH (most := most) yx A5 (Cb yx zW (by rw [yD]; omega)) (tokens s) (8 * T.size + 1) 3 [] h2 N1 t3 (by rw [t4, yY]; exact hm1) (by omega)
 have fl : 3 + (xM (wB wU) (wB yC) (tokens s) ++ wL (wB wU) 256).length = (xN (tokens s)).length := by
  unfold xN; rw [wo (as := wW 3 3), pl]
 rw [fl, t4] at cod
 have v0 : wE T 0 1 = 1 := by
  have b0 := h1.2 0 (by rw [pl]; omega)
  have e0 : (wW 3 3).getD 0 0 = 1 := by decide
  rw [e0] at b0
  simp [wE, b0]
 have v1 : wE T 1 2 = 1 := by
  have b1 := h1.2 1 (by rw [pl]; omega)
  have b2 := h1.2 2 (by rw [pl]; omega)
  have e1 : (wW 3 3).getD 1 0 = 1 := by decide
  have e2 : (wW 3 3).getD 2 0 = 0 := by decide
  rw [e1] at b1
  rw [e2] at b2
  simp only [vW] at b1 b2
  simp [wE, b1, b2]
 have sz : 3 ≤ 8 * T.size := by have := h1.1; rw [pl] at this; omega
 unfold xA
 rw [if_neg (by omega)]
 have bl : y6 T most 0 [] = .ok (true, (xN (tokens s)).length, preB s s.size) := by
  unfold y6
  simp only [vW]
  rw [if_pos sz, v1]
  simp only [Nat.reduceEqDiff, wq, if_true, reduceIte]
  have cod' : ya T most wU (List.replicate 30 5) (8 * T.size + 1) 3 [] = .ok ((xN (tokens s)).length, preB s s.size) := cod
  rw [cod']
  simp [v0]
 rw [yW, bl]
 simp only [if_true, psz]
theorem EM (a b : ByteArray) : shorter a b = a ∨ shorter a b = b := by
 unfold shorter; split
 · exact .inl rfl
 · exact .inr rfl
theorem Qp (h : H) (s : ByteArray) (hs : s.size ≤ 300) : ∃ (m : Int) (p : ByteArray), aS AP.A 154 [.str s] h = some (.bU [.int .i64 m, .str p, .int .i64 0], h) ∧ ((m = 0 ∧ p = s) ∨ (m = 8 ∧ p.size < s.size ∧ xA p s.size = .ok (preB s s.size, p.size))) ∧ ((CA s).size < s.size → m = 8) := by
 obtain ⟨KA, KB, KC, la, lb, Lc, ok⟩ := Pe s hs
 have k := IF h.ez s hs ok
 have idn : xA (IH s la lb Lc) s.size = .ok (preB s s.size, (IH s la lb Lc).size) := by
  unfold IH
  exact HH (s := s) hs ok (by omega) (by omega)
 have ifx : xA (CA s) s.size = .ok (preB s s.size, (CA s).size) := HI hs (by omega) (by omega)
 have ss := CP s
 have dd : (yo s la lb Lc).size < s.size → xA (yo s la lb Lc) s.size = .ok (preB s s.size, (yo s la lb Lc).size) := fun hlt => by
  unfold yo at hlt ⊢
  rcases EM (IH s la lb Lc) (shorter (CA s) (yL s)) with e | e
  · rw [e]; exact idn
  · rw [e] at hlt ⊢
    rcases EM (CA s) (yL s) with e2 | e2
    · rw [e2]; exact ifx
    · rw [e2] at hlt; omega
 have le : (yo s la lb Lc).size ≤ (CA s).size := by
  unfold yo shorter; (repeat' split) <;> omega
 generalize yo s la lb Lc = T at *
 by_cases c : T.size < s.size
 · refine ⟨8, T, ?_, .inr ⟨rfl, c, dd c⟩, fun _ => rfl⟩
   have c' : (T.size : Int) < s.size := by omega
   refine u7 (fn := AP.f154) (h2 := h.ez) (e := [(2, .int .i64 8), (3, .str T), (4, .int .i64 0)]) rfl rfl rfl ?_ rfl rfl
   clear idn ifx ss dd ok
   simp (disch := omega) only [go_sem, wG, AP.f154, k, U7 c']
 · refine ⟨0, s, ?_, .inl ⟨rfl, rfl⟩, fun q => by omega⟩
   have c' : ¬ (T.size : Int) < s.size := by omega
   refine u7 (fn := AP.f154) (h2 := h.ez) (e := [(2, .int .i64 0), (3, .str s), (4, .int .i64 0)]) rfl rfl rfl ?_ rfl rfl
   clear idn ifx ss dd ok
   simp (disch := omega) only [go_sem, wG, AP.f154, k, U5 c']
def Jh (m : Int) (p s : ByteArray) : Prop := (m = 0 ∧ p = s) ∨ (m = 8 ∧ p.size < s.size ∧ xA p s.size = .ok (preB s s.size, p.size))
theorem FT {m : Int} {p s : ByteArray} (hs : s.size ≤ 300) (hp : Jh m p s) (e : zF) (h1 : e.method = m) (h2 : e.packed = p) (h3 : e.size = s.size) (h4 : e.gone = false) : zG e = Jx e.DZ ∧ zf e.method e.packed e.size = some s ∧ p.size ≤ 300 := by
 rcases hp with ⟨rfl, rfl⟩ | ⟨rfl, hl, hi⟩
 · refine ⟨?_, ?_, hs⟩
   · unfold zG
     rw [h4, if_neg (by decide), h1, h2, h3, U7 (by omega : (0 : Int) ≤ p.size), U7 (by omega : (p.size : Int) ≤ 300)]
     simp
   · unfold zf
     rw [h1, h2, h3, if_neg (by omega), if_pos rfl, if_pos rfl]
 · refine ⟨?_, ?_, by omega⟩
   · unfold zG
     rw [h4, if_neg (by decide), h1, h2, h3, U7 (by omega : (0 : Int) ≤ s.size), U7 (by omega : (s.size : Int) ≤ 300), U7 (by omega : p.size ≤ 300)]
     simp
   · unfold zf
     rw [h1, h2, h3, if_neg (by omega), if_neg (by decide), if_pos rfl, hi]
     simp only [yY, IZ]
     rw [if_pos ⟨trivial, trivial⟩]
theorem IY {m : Int} {p s : ByteArray} (hs : s.size ≤ 300) (hp : Jh m p s) (e : zF) (h1 : e.method = m) (h2 : e.packed = p) (h3 : e.size = s.size) (h4 : e.gone = false) (h5 : e.DZ = (zm s : Nat)) (h6 : Az e.name = true) (h7 : yE e = true) : Ar e = some s := by
 obtain ⟨c, u, _⟩ := FT hs hp e h1 h2 h3 h4
 have hc := MX s
 have is : Jx e.DZ = true := by rw [h5]; simp [Jx]; omega
 have mf : Ep [e] = true := by rw [TM, c, is, h6, h7]; rfl
 unfold Ar
 rw [mf, if_neg (by decide), h4, if_neg (by decide), u, h5]
 show (if (zm s : Int) = (zm s : Int) then some s else none) = _
 rw [if_pos rfl]
theorem Nu : Az nA = true := by decide +kernel
theorem D8 {w : AV} {v : List Int} (rd : ∀ g, Rd g w (ints v)) (a : AV) {p q : Nat} {X : List AV} (hq : X[2]? = some (.aF q 0 4 1)) (hv : v.length < 1125899906842624) (hpq : ¬ p = q) : ∀ (n i : Nat) (l : List Int) (g : H), i + n = 4 → l.length = 4 → (∀ y ∈ l, 0 ≤ y ∧ y ≤ 1023) → g.get p = some X → g.get q = some (ints l) → g.floor ≤ q →
 ∃ e' l', Lp AP.A [0, 1, 5, 6] AP.f146L0 [(0, a), (1, w), (5, .aE p 0), (6, .int .i64 i)] g = some (.exit 0, e', g.set q (ints l')) ∧ look e' 0 = a ∧ look e' 5 = .aE p 0 ∧ l'.length = 4 ∧ ∀ y ∈ l', 0 ≤ y ∧ y ≤ 1023
 | 0, i, l, g, hi, hl, hb, gp, gq, hf => by
   obtain rfl : i = 4 := by omega
   have rd2 := (rd g).TV
   rw [qy] at rd2
   have ln := rd2.len
   refine ⟨[(0, a), (1, w), (5, .aE p 0), (6, .int .i64 4), (29, .bool false)], l, ?_, rfl, rfl, hl, hb⟩
   rw [H.jV gq]
   refine ux ?_
   simp (disch := omega) only [go_sem, wG, AP.f146L0, ln]
 | n + 1, i, l, g, hi, hl, hb, gp, gq, hf => by
   have rd2 := (rd g).TV
   rw [qy] at rd2
   have ln := rd2.len
   by_cases c : i < v.length
   · obtain ⟨ad, a1, a2⟩ := (rd g).xZ
     have b1 := a1 i ⟨by omega, by omega⟩
     have b2 := a2 g (Ext.refl g) i v[i] (by simp [c])
     have bn := ML v[i]
     have st : (ints l).set i (.int .i64 (v[i] % 1024)) = ints (l.set i (v[i] % 1024)) := by simp [ints, I, List.map_set]
     obtain ⟨e', l', r1, r2, r3, r4, r5⟩ := D8 rd a hq hv hpq n (i + 1) (l.set i (v[i] % 1024)) (g.set q (ints (l.set i (v[i] % 1024)))) (by omega) (by simp [hl]) (fun y hy => by
      rcases Vt hy with h | h
      · exact hb y h
      · omega) (by rw [wI hpq]; exact gp) (by rw [wV rfl, gq]; rfl) (by simp; exact hf)
     rw [H.set_set] at r1
     have n1 : ((i + 1 : Nat) : Int) = (i : Int) + 1 := by omega
     rw [n1] at r1
     refine ⟨e', l', uy ?_ r1, r2, r3, r4, r5⟩
     have li : (ints l).length = 4 := by rw [qy, hl]
     clear r1 a1 a2 rd rd2
     generalize v[i] = y at *
     simp (disch := first | omega | (simp only [xe, UZ, U4, vW, Nat.reduceAdd]; first | done | omega | fail) | (simp (disch := first | omega | (simp only [xe, UZ, U4, vW, Nat.reduceAdd]; first | done | omega | fail) | fail) only [xe, Aa, U8, UZ, U4, vW, Nat.reduceAdd]; done) | fail) only [go_sem, wG, Au, AP.f146L0, ln, gp, hq, gq, b1, b2, bn, li, st]
   · refine ⟨[(0, a), (1, w), (5, .aE p 0), (6, .int .i64 i), (29, .bool false)], l, ?_, rfl, rfl, hl, hb⟩
     rw [H.jV gq]
     refine ux ?_
     simp (disch := omega) only [go_sem, wG, AP.f146L0, ln]
def Kd (l : List Int) (m : Int) (p s : ByteArray) : zF := ⟨nA, false, l, 3, 1, m, p, s.size, zm s⟩
theorem Js {l : List Int} (hl : l.length = 4) (hb : ∀ y ∈ l, 0 ≤ y ∧ y ≤ 1023) {m : Int} {p s : ByteArray} (hs : s.size ≤ 300) (hp : Jh m p s) : Ht (Kd l m p s) = some (y0 (BJ (Kd l 0 s s))) := by
 have tx := IY hs hp (Kd l m p s) rfl rfl rfl rfl rfl Nu (LG hl (fun n hn => by have := hb n hn; omega) (by show (1 : Int) ≤ 3 ∧ (3 : Int) ≤ _; omega) (by show (0 : Int) ≤ 1 ∧ (1 : Int) < 4; omega))
 have mt : E4 (Kd l m p s) = true := by unfold E4; rw [tx]; rfl
 unfold Ht
 rw [if_pos mt]
 rfl
set_option maxHeartbeats 2000000 in
theorem M7 (h : H) (s : ByteArray) (w : AV) (v : List Int) (hs : s.size < 1125899906842624) (rd : ∀ g, Rd g w (ints v)) (hv : v.length < 1125899906842624) : aS AP.A 146 [.str s, w] h = some (.bool true, h) := by
 have k0 : ∀ g, aS AP.A 90 [] g = some (.bool true, g) := J3
 by_cases c : 300 < s.size
 · have c' : (300 : Int) < s.size := by omega
   refine u7 (fn := AP.f146) (h2 := h.ez) (e := [(4, .bool true)]) rfl rfl rfl ?_ rfl rfl
   simp (disch := first | omega | (simp only [xe, UZ, U4, vW, Nat.reduceAdd]; first | done | omega | fail) | (simp (disch := first | omega | (simp only [xe, UZ, U4, vW, Nat.reduceAdd]; first | done | omega | fail) | fail) only [xe, Aa, U8, UZ, U4, vW, Nat.reduceAdd]; done) | fail) only [go_sem, wG, Au, AP.f146, k0, U7 c']
 have c' : ¬ (300 : Int) < s.size := by omega
 obtain ⟨C, hC⟩ : ∃ K, K = ((zm s : Nat) : Int) := ⟨_, rfl⟩
 have k1 := F4 h.ez (by simp) nA s 1 3 (by omega) hs
 have X0 : xg (y8 nA 1 3 s) (.aF (h.ez.next + 1) 0 4 1) = [.str ⟨#[97]⟩, .bool false, .aF (h.next + 1) 0 4 1, .int .i64 3, .int .i64 1, .int .i64 0, .str s, .int .i64 s.size, .int .i64 C] := by rw [hC]; rfl
 rw [X0] at k1
 obtain ⟨X, hX⟩ : ∃ X, X = [AV.str ⟨#[97]⟩, .bool false, .aF (h.next + 1) 0 4 1, .int .i64 3, .int .i64 1, .int .i64 0, .str s, .int .i64 s.size, .int .i64 C] := ⟨_, rfl⟩
 rw [← hX] at k1
 obtain ⟨G, hG⟩ : ∃ G, G = (((((h.ez.alloc Z9).alloc (ints [0, 0, 0, 0])).set (h.next + 1) (ints [0, 3, 0, 0])).set h.next X).alloc Z9).set (h.next + 1 + 1) X := ⟨_, rfl⟩
 have gp : G.get (h.next + 1 + 1) = some X := by rw [hG]; simp (disch := first | omega | (simp only [xe, UZ, U4, vW, Nat.reduceAdd]; first | done | omega | fail) | fail) only [xe, Aa, U8, UZ, U4, vW, Nat.reduceAdd]
 have gq : G.get (h.next + 1) = some (ints [0, 3, 0, 0]) := by rw [hG]; simp (disch := first | omega | (simp only [xe, UZ, U4, vW, Nat.reduceAdd]; first | done | omega | fail) | fail) only [xe, Aa, U8, UZ, U4, vW, Nat.reduceAdd]
 have gf : G.floor = h.next := by rw [hG]; simp
 have gn : G.next = h.next + 1 + 1 + 1 := by rw [hG]; simp
 obtain ⟨e', l, r1, r2, r3, r4, r5⟩ := D8 (X := X) rd (.str s) (p := h.next + 1 + 1) (q := h.next + 1) (by rw [hX]; rfl) hv (by omega) 4 0 [0, 3, 0, 0] G rfl rfl (by simp) gp gq (by omega)
 have r1' : Lp AP.A [0, 1, 5, 6] AP.f146L0 [(0, .str s), (1, w), (5, .aE (h.next + 1 + 1) 0), (6, .int .i64 0)] G = some (.exit 0, e', G.set (h.next + 1) (ints l)) := r1
 clear r1
 obtain ⟨K, hK⟩ : ∃ K, K = G.set (h.next + 1) (ints l) := ⟨_, rfl⟩
 have kp : K.get (h.next + 1 + 1) = some X := by rw [hK, wI (by omega)]; exact gp
 have kq : K.get (h.next + 1) = some (ints l) := by rw [hK, wV rfl, gq]; rfl
 have kf : K.floor = h.next := by rw [hK]; simp [gf]
 have kn : K.next = h.next + 1 + 1 + 1 := by rw [hK]; simp [gn]
 obtain ⟨m, p, k2, hp, _⟩ := Qp K s (by omega)
 have hp0 : Jh 0 s s := .inl ⟨rfl, rfl⟩
 have d1 := Js r4 r5 (by omega) hp0
 have d2 := Js r4 r5 (by omega) hp
 obtain ⟨_, _, pz⟩ := FT (by omega) hp (Kd l m p s) rfl rfl rfl rfl
 have slt := Mr (BJ (Kd l 0 s s))
 obtain ⟨D, hD⟩ : ∃ D : Int, D = ((y0 (BJ (Kd l 0 s s)) : Nat) : Int) := ⟨_, rfl⟩
 have D0 : 0 ≤ D ∧ D ≤ 4294967295 := by omega
 have kd : ∀ (g : H) (i : Nat), g.floor ≤ g.next → g.get i = some (ints l) → aS AP.A 91 [.agg [.str ⟨#[97]⟩, .bool false, .aF i 0 4 1, .int .i64 3, .int .i64 1, .int .i64 0, .str s, .int .i64 s.size, .int .i64 C]] g = some (.bU [.int .i64 D, .int .i64 0], g) := fun g i hg hi => by
  have := Cz hg (Kd l 0 s s) hi r4 (by show nA.size < _; decide) hs
  rw [d1] at this
  rw [hD, hC]; exact this
 have kd2 : ∀ (g : H) (i : Nat), g.floor ≤ g.next → g.get i = some (ints l) → aS AP.A 91 [.agg [.str ⟨#[97]⟩, .bool false, .aF i 0 4 1, .int .i64 3, .int .i64 1, .int .i64 m, .str p, .int .i64 s.size, .int .i64 C]] g = some (.bU [.int .i64 D, .int .i64 0], g) := fun g i hg hi => by
  have := Cz hg (Kd l m p s) hi r4 (by show nA.size < _; decide) (by show p.size < _; omega)
  rw [d2] at this
  rw [hD, hC]; exact this
 have k3 := MW K (by omega) (Kd l 0 s s) (.aF (h.next + 1) 0 4 1) rfl (by show l.length < _; omega) (by
  simp only [aT, if_true]
  rw [w9 (by simp; omega), w9 (by simp; omega), w9 (by omega), kq, vO, if_pos (by rw [qy]; omega), Vr, Vg (by rw [qy]; omega)]
  show _ = some (l.length, ints l)
  rw [r4]) (by show 0 < l.length; omega)
 have e3 : (Kd l 0 s s).vec.length = 4 := r4
 have e4 : (Kd l 0 s s).vec = l := rfl
 rw [e3, e4, kn] at k3
 have x3 : ∀ i, xg (Kd l 0 s s) (.aF i 0 4 1) = [.str ⟨#[97]⟩, .bool false, .aF i 0 4 1, .int .i64 3, .int .i64 1, .int .i64 0, .str s, .int .i64 s.size, .int .i64 C] := fun i => by rw [hC]; rfl
 rw [x3, x3] at k3
 have k9 := fun (g : H) n => N0 g n
 simp only [I] at k9
 have lX : X.length = 9 := by rw [hX]; rfl
 have cX : AV.aC X = true := by rw [hX]; rfl
 have fX : setFrom Z9 0 X = X := by rw [hX]; rfl
 have tX : List.take 9 X = X := by rw [hX]; rfl
 have gg := hG.symm
 have kk := hK.symm
 have hn : h.ez.next = h.next := rfl
 have il := qy l
 have il4 : (ints l).length = 4 := by omega
 have ic := BN l
 rw [hn] at k1
 have kdX : ∀ (g : H), g.floor ≤ g.next → g.get (h.next + 1) = some (ints l) → aS AP.A 91 [.agg X] g = some (.bU [.int .i64 D, .int .i64 0], g) := fun g hg hi => by rw [hX]; exact kd g _ hg hi
 obtain ⟨h2, hh⟩ : ∃ h2, aM (aS AP.A) bG AP.f146.body (params 0 [.str s, w]) h.ez = some (.ret, [(4, .bool true)], h2) := by
  clear d1 d2 hp hp0 rd hD hC slt kd x3 e3 e4
  rw [← hX] at k3
  have k1' : aS AP.A 94 [.str ⟨#[97]⟩, .int .i64 1, .int .i64 3, .str s] h.ez = some (.agg X, (((h.ez.alloc Z9).alloc (ints [0, 0, 0, 0])).set (h.next + 1) (ints [0, 3, 0, 0])).set h.next X) := k1
  generalize ints l = L at *
  refine ⟨?_, ?_⟩
  rotate_left
  simp (disch := first | omega | (simp only [xe, UZ, U4, vW, Nat.reduceAdd]; first | done | omega | fail) | (simp (disch := first | omega | (simp only [xe, UZ, U4, vW, Nat.reduceAdd]; first | done | omega | fail) | fail) only [xe, Aa, U8, UZ, U4, vW, Nat.reduceAdd, gp, gq, gf, gn, kp, kq, kf, kn, kk, gg]; done) | fail) only [go_sem, wG, Au, AP.f146, th, k0, U5 c', k1', lX, cX, fX, tX, gg, r1', r2, r3, kk, k2, k3, kdX, kd2, k9, il4, ic, gp, gq, gf, gn, kp, kq, kf, kn, dt D0.1, dt D0.2]
  rfl
 exact u7 (fn := AP.f146) (h2 := h2) (e := [(4, .bool true)]) rfl rfl rfl hh rfl rfl
theorem Eh (r : List (Ty × List AV)) (h : r.map (·.1) = [QA, Jw]) (hp : ∀ x ∈ r, Sh reachBytes x.1 x.2) : aS AP.A 146 (r.map ke) H.empty = some (.bool true, H.empty) := by
 obtain ⟨x, y, rfl, h1, h2⟩ := Uz h hp
 obtain ⟨s, rfl, hs⟩ := Qw h1
 obtain ⟨w, l, rfl, _, rd, hl⟩ := NB h2
 exact M7 H.empty s w l (by omega) rd (by omega)
end Ab
