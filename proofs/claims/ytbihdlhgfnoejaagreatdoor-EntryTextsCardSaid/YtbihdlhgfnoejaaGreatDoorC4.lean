/- Part C4. -/
import Derived.Test.YtbihdlhgfnoejaaGreatDoorC3
set_option linter.unusedSimpArgs false
set_option linter.unusedVariables false
namespace Ab
open Go
theorem CO.Lj {C l : List Int} {K k : Nat} (hC : ∀ y ∈ C, 0 ≤ y ∧ y ≤ 2147483647) (h2 : 2 ≤ C.length) (hl : C.length ≤ 288) (hk : k ≤ C.length) (hk1 : 1 ≤ k) (r : yJ 15 K (xK C)) (e : l = Cx (xA C K) k) : CO l ∧ ((∃ y ∈ C, 0 < y) → wT l = 0) ∧ ((∀ y ∈ C, ¬ 0 < y) → ∀ y ∈ l, y = 0) := by
 obtain ⟨a, b, c, d, l0⟩ := DY (m := 0) hC h2 hl hk hk1 r e
 obtain ⟨f1, f2, f3, f4, f5⟩ := A8 hC h2 hl (by omega) r
 refine ⟨⟨l0, b⟩, fun ex => ?_, fun nn y hy => ?_⟩
 · rw [zS (by omega) (by omega) b l0, if_pos]
   rw [e, Je (fun y hy => (f2 y hy).1) k 15]
   exact f4 ex
 · rw [e, f5 nn] at hy
   exact Va (List.mem_of_mem_take hy)
theorem C8 : ∀ (l : List Int) (a : Int), (∀ y ∈ l, y = 0) → LS l a = a
 | [], a, h => rfl
 | y :: l, a, h => by
   have := h y (by simp)
   subst this
   rw [LS]
   first
    | exact C8 l a fun z hz => h z (by simp [hz])
    | (simp; exact C8 l a fun z hz => h z (by simp [hz]))
theorem CE {t : ByteArray} {Lc : List Int} (bk : CO Lc) (many : Nat) : ∀ (q acc : List Int) (f p : Nat), Az t p (zQ (wD Lc) q) → (∀ y ∈ q, Dz (wD Lc) y.toNat) → (∀ y ∈ q, 0 ≤ y ∧ y < 16) → acc.length + q.length = many → q.length < f → xF t Lc many f acc p = some (acc ++ q, p + (zQ (wD Lc) q).length)
 | q, acc, 0, p, hb, ok, hr, hm, hf => by omega
 | [], acc, f + 1, p, hb, ok, hr, hm, hf => by
   simp at hm
   rw [xF, if_neg (by omega), if_neg (by omega)]
   simp [zQ]
 | y :: q, acc, f + 1, p, hb, ok, hr, hm, hf => by
   have e : zQ (wD Lc) (y :: q) = wP (wD Lc) y.toNat ++ zQ (wD Lc) q := by unfold zQ; rw [UU]
   rw [e] at hb ⊢
   obtain ⟨h1, h2⟩ := hb.app
   have s := bk.sym (ok y (by simp)) h1
   have yr := hr y (by simp)
   have ty : ((y.toNat : Nat) : Int) = y := by omega
   simp only [UO] at hm hf
   rw [xF, if_pos (by omega), s]
   simp only
   rw [ty]
   have ag : Aj t y acc (p + (wP (wD Lc) y.toNat).length) = some (y, 1, p + (wP (wD Lc) y.toNat).length) := by
    unfold Aj
    rw [if_neg (by omega), if_neg (by omega), if_neg (by omega)]
   rw [ag]
   simp only
   have r := CE bk many q (acc ++ [y]) f _ h2 (fun z hz => ok z (by simp [hz])) (fun z hz => hr z (by simp [hz])) (by simp; omega) (by omega)
   have e1 : List.replicate 1 y = [y] := rfl
   rw [e1, r, wo, ← vQ, UY]; rfl
def ET (L : List Int) : List Int → List Int → List Int
 | [], o => o
 | s :: r, o => ET L r (o.set s.toNat (L.getD s.toNat 0))
theorem HL {t : ByteArray} {L : List Int} (hr : ∀ y ∈ L, 0 ≤ y ∧ y < 8) : ∀ (os : List Int) (p : Nat) (o : List Int), Az t p (AH (os.map fun s => L.getD s.toNat 0)) → (∀ s ∈ os, s.toNat < L.length) → Gy t os p o = ET L os o
 | [], p, o, hb, hs => rfl
 | s :: os, p, o, hb, hs => by
   have e : AH ((s :: os).map fun s => L.getD s.toNat 0) = w8 (L.getD s.toNat 0).toNat 3 ++ AH (os.map fun s => L.getD s.toNat 0) := by unfold AH; rw [UW, UU]
   rw [e] at hb
   obtain ⟨h1, h2⟩ := hb.app
   have hl := hs s (by simp)
   have yr : 0 ≤ L.getD s.toNat 0 ∧ L.getD s.toNat 0 < 8 := hr _ (by rw [UM, UP hl]; exact Vb hl)
   have v := h1.put (by omega)
   have pl : (w8 (L.getD s.toNat 0).toNat 3).length = 3 := by unfold w8; exact xc _ _ _
   rw [pl] at h2
   rw [Gy, ET, v.1, HL hr os _ _ h2 (fun z hz => hs z (by simp [hz]))]
   congr 2; omega
theorem HJ (L : List Int) : ∀ (os o : List Int), (ET L os o).length = o.length
 | [], o => rfl
 | s :: os, o => by rw [ET, HJ L os, U5]
theorem HI (L : List Int) : ∀ (os o : List Int) (j : Nat), j < o.length → (ET L os o).getD j 0 = if (∃ s ∈ os, s.toNat = j) then L.getD j 0 else o.getD j 0
 | [], o, j, hj => by simp [ET]
 | s :: os, o, j, hj => by
   rw [ET, HI L os _ j (by rw [U5]; exact hj)]
   by_cases c : ∃ s ∈ os, s.toNat = j
   · rw [if_pos c, if_pos (by obtain ⟨u, hu, e⟩ := c; exact ⟨u, by simp [hu], e⟩)]
   · rw [if_neg c]
     by_cases e : s.toNat = j
     · subst e
       rw [if_pos ⟨s, by simp, rfl⟩, UM, U4, if_pos rfl, if_pos hj]; rfl
     · rw [getD_set_ne e, if_neg]
       rintro ⟨u, hu, e2⟩
       rcases wj.1 hu with q | q
       · subst q; exact e e2
       · exact c ⟨u, q, e2⟩
theorem Kb : ∀ j : Nat, j < 19 → ∃ i : Nat, i < 19 ∧ wM[i]? = some (j : Int) := by
 intro j hj
 have : ∀ j : Nat, j < 19 → ∃ i : Nat, i < 19 ∧ wM[i]? = some (j : Int) := by decide
 exact this j hj
theorem Lx {L : List Int} (hl : L.length = 19) (h0 : ∀ y ∈ L, 0 ≤ y) : ET L (wM.take (xi (wM.map fun s => L.getD s.toNat 0) 4 19)) (List.replicate 19 0) = L := by
 apply List.ext_getElem?
 intro j
 have fl := HJ L (wM.take (xi (wM.map fun s => L.getD s.toNat 0) 4 19)) (List.replicate 19 0)
 rw [UZ] at fl
 by_cases hj : j < 19
 · have g := HI L (wM.take (xi (wM.map fun s => L.getD s.toNat 0) 4 19)) (List.replicate 19 0) j (by simpa using hj)
   rw [UP (by omega), UP (by omega)]
   rw [UM, UP (by omega)] at g
   congr 1
   have g' : (ET L (wM.take (xi (wM.map fun s => L.getD s.toNat 0) 4 19)) (List.replicate 19 0))[j]'(by omega) = _ := g
   rw [g']
   have e : L.getD j 0 = L[j]'(by omega) := by rw [UM, UP (by omega)]; rfl
   split
   · exact e
   · rename_i c
     rw [Bg hj]
     obtain ⟨i, hi, oi⟩ := Kb j hj
     have hk : xi (wM.map fun s => L.getD s.toNat 0) 4 19 ≤ i := by
      apply Vd
      intro q
      refine c ⟨(j : Int), ?_, by omega⟩
      refine vV (i := i) ?_
      rw [wm, if_pos (by omega), oi]
     have z := Av (wM.map fun s => L.getD s.toNat 0) 4 19 i hk hi
     have tj : ((j : Nat) : Int).toNat = j := by omega
     rw [UM, v7, oi] at z
     simp only [US, Option.getD_some, tj] at z
     have nn := h0 _ (Vb (l := L) (n := j) (by omega))
     omega
 · rw [U8 (by omega), U8 (by omega)]
theorem MA {t : ByteArray} {ts : List Tok} {KA KB KC : Nat} {la lb Lc : List Int} (ok : GN ts KA KB KC la lb Lc) (hb : Az t 0 (xE ts la lb Lc)) (hm : xa 0 ts = true) {most : Int} (hl : ((y8 ts []).length : Int) ≤ most) : Hl t most 3 [] = .ok ((xE ts la lb Lc).length, y8 ts []) ∧ wH t 0 1 = 1 ∧ wH t 1 2 = 2 ∧ 3 ≤ 8 * t.size := by
 obtain ⟨OW, hn, tok, ra, rb, ea, eb, hall, rc, ec, hrow, ca, cb, cc, FD, ND, HF⟩ := ok
 obtain ⟨a1, a2, a3⟩ := Nr ts hn
 obtain ⟨b1, b2⟩ := Ns ts hn
 obtain ⟨x1, x2, x3, x4, x5⟩ := DY (m := 0) a2 (by omega) (by omega) (by omega) (by omega) ra ea
 obtain ⟨y1, y2, y3, y4, y5⟩ := DY (m := 0) b2 (by omega) (by omega) (by omega) (by omega) rb eb
 obtain ⟨bkA, chA, _⟩ := CO.Lj a2 (by omega) (by omega) (by omega) (by omega) ra ea
 obtain ⟨bkB, chB, zB⟩ := CO.Lj b2 (by omega) (by omega) (by omega) (by omega) rb eb
 have c1 : (yo (la ++ lb) (List.replicate 19 0)).length = 19 := by rw [Co, UZ]
 have c2 : ∀ y ∈ yo (la ++ lb) (List.replicate 19 0), 0 ≤ y ∧ y ≤ 2147483647 := fun y hy => by
  have := Cp (la ++ lb) _ 0 (by omega) (Bf 19) y hy
  rw [wo] at this
  omega
 obtain ⟨f1, f2, f3, f4, f5⟩ := A8 c2 (by omega) (by omega) (by omega) rc
 rw [← ec] at f1 f2 f3 f4 f5
 have lLc : Lc.length = 19 := by omega
 have hit := DR (la ++ lb) (List.replicate 19 0) (fun y hy => (Bf 19 y hy).1) (by rw [UZ])
 have exC : ∃ y ∈ yo (la ++ lb) (List.replicate 19 0), 0 < y := by
  obtain ⟨z, hz⟩ := List.exists_mem_of_ne_nil (la ++ lb) (fun q => by
   have := Vt List.length q
   rw [wo, UR] at this
   omega)
  have h := hit z hz (hall z hz)
  refine ⟨_, ?_, show 0 < (yo (la ++ lb) (List.replicate 19 0)).getD z.toNat 0 by omega⟩
  have zl : z.toNat < (yo (la ++ lb) (List.replicate 19 0)).length := by have := hall z hz; omega
  rw [UM, UP zl]
  exact Vb zl
 have l0 := f4 exC
 have r16 : ∀ y ∈ Lc, 0 ≤ y ∧ y < 16 := fun y hy => by have := f2 y hy; omega
 have bkC : CO Lc := ⟨by omega, r16⟩
 have chC : wT Lc = 0 := by rw [zS (by omega) (by omega) r16 (by omega), if_pos l0]
 have exA : ∃ y ∈ dA ts, 0 < y := by
  have zl : 256 < (dA ts).length := by omega
  refine ⟨(dA ts).getD 256 0, ?_, by omega⟩
  rw [UM, UP zl]
  exact Vb zl
 have chA' := chA exA
 have chB' : ¬ (wT lb ≠ 0 ∧ yL lb = false) := by
  rintro ⟨q1, q2⟩
  by_cases c : ∃ y ∈ dB ts, 0 < y
  · exact q1 (chB c)
  · have := C8 lb 0 (zB fun y hy q => c ⟨y, hy, q⟩)
    unfold yL at q2
    rw [this] at q2
    simp at q2
 obtain ⟨R, hR⟩ : ∃ R, R = wM.map (fun o => Lc.getD o.toNat 0) := ⟨_, rfl⟩
 obtain ⟨k, hk⟩ : ∃ k, k = xi R 4 19 := ⟨_, rfl⟩
 have uk := yU R 4 19
 rw [← hk] at uk
 have eD : xE ts la lb Lc = w8 5 3 ++ (w8 (la.length - 257) 5 ++ (w8 (lb.length - 1) 5 ++ (w8 (k - 4) 4 ++ (AH (R.take k) ++ (zQ (wD Lc) (la ++ lb) ++ (xO (wD la) (wD lb) ts ++ wP (wD la) 256)))))) := by rw [hk, hR]; rfl
 rw [eD] at hb ⊢
 have pl : ∀ v n, (w8 v n).length = n := fun v n => by unfold w8; exact xc v n 0
 obtain ⟨h1, g1⟩ := hb.app
 rw [pl] at g1
 obtain ⟨h2, g2⟩ := g1.app
 rw [pl] at g2
 obtain ⟨h3, g3⟩ := g2.app
 rw [pl] at g3
 obtain ⟨h4, g4⟩ := g3.app
 rw [pl] at g4
 obtain ⟨h5, g5⟩ := g4.app
 obtain ⟨h6, g6⟩ := g5.app
 have v2 := h2.put (by omega)
 have v3 := h3.put (by omega)
 have v4 := h4.put (by omega)
 have rl : (AH (R.take k)).length = 3 * k := by rw [Ey, Vm, hR, List.length_map]; show 3 * min k 19 = _; omega
 rw [rl] at g5 g6 h6
 have rb5 : AH (R.take k) = AH ((wM.take k).map fun s => Lc.getD s.toNat 0) := by rw [hR, List.map_take]
 have h5' := h5
 rw [rb5] at h5'
 have own := HL hrow (wM.take k) _ (List.replicate 19 0) h5' (fun s hs => by have := A9 s (List.mem_of_mem_take hs); omega)
 have back := Lx lLc (fun y hy => (hrow y hy).1)
 rw [← hR, ← hk] at back
 rw [back] at own
 have okr : ∀ y ∈ la ++ lb, 0 ≤ y ∧ y < 16 := fun y hy => by
  rcases Vf.1 hy with q | q
  · exact x2 y q
  · exact y2 y q
 have h5l := h5.1
 rw [rl] at h5l
 have h6l := h6.1
 have g6l := g6.1
 have ll : (la ++ lb).length = la.length + lb.length := wo
 have all := CE bkC (la.length + lb.length) (la ++ lb) [] (8 * t.size + 1) _ h6 FD okr (by simp) (by
  have : ∀ D : List Int, (∀ y ∈ D, Dz (wD Lc) y.toNat) → D.length ≤ (zQ (wD Lc) D).length := by
   intro D
   induction D with
   | nil => intro _; simp
   | cons y D ih =>
     intro h
     have := ih fun z hz => h z (by simp [hz])
     obtain ⟨n, v, _, q1, q2, q3, q4⟩ := (h y (by simp)).bits
     unfold zQ at *
     rw [UU, wo, q4, xk, UO]; omega
  have := this _ FD
  omega)
 have cod := BD bkA bkB HF ts (8 * t.size + 1) _ [] g6 ND hm hl (by
  have : ∀ T : List Tok, (∀ x ∈ T, Ku (wD la) (wD lb) x) → T.length ≤ (xO (wD la) (wD lb) T).length := by
   intro T
   induction T with
   | nil => intro _; simp
   | cons x T ih =>
     intro h
     have := ih fun z hz => h z (by simp [hz])
     have o := h x (by simp)
     have one : 1 ≤ (xe (wD la) (wD lb) x).length := by
      rcases o with ⟨h1, h2, h3⟩ | ⟨h1, h2, h3, h4, h5, h6⟩
      · obtain ⟨n, v, _, q1, q2, q3, q4⟩ := h3.bits
        rw [xe, if_pos h1, q4, xk]; omega
      · obtain ⟨n, v, _, q1, q2, q3, q4⟩ := h5.bits
        rw [xe, if_neg (by omega), q4, wo, xk]; omega
     unfold xO at *
     rw [UU, wo, UO]; omega
  have := this _ ND
  rw [wo] at g6l
  omega)
 have v1 := h1.put (by omega)
 simp only [vW, Nat.reduceAdd, List.nil_append] at v1 v2 v3 v4 own all cod h5l
 have n1 : wH t 3 5 + 257 = la.length := by rw [v2.1]; omega
 have n2 : wH t 8 5 + 1 = lb.length := by rw [v3.1]; omega
 have n3 : wH t 13 4 + 4 = k := by rw [v4.1]; omega
 have lens : zI t (la.length + lb.length) 13 = some (la ++ lb, 17 + 3 * k + (zQ (wD Lc) (la ++ lb)).length) := by
  unfold zI
  simp only [Nat.reduceAdd, n3]
  rw [if_pos (by omega), if_pos (by omega), own, if_pos chC, all]
 have tk : (la ++ lb).take la.length = la := List.take_left' rfl
 have dr : (la ++ lb).drop la.length = lb := List.drop_left' rfl
 have g256 : la.getD 256 0 ≠ 0 := by have := (Gu HF).2; omega
 refine ⟨?_, ?_, ?_, by omega⟩
 · unfold Hl
   simp only [Nat.reduceAdd, n1, n2]
   rw [if_pos (by omega), if_neg (by omega), lens]
   simp only [tk, dr]
   rw [if_neg (by rintro (q | q | q); exact q chA'; exact g256 q; exact chB' q), cod]
   simp only [wo, pl, rl, Except.ok.injEq, vM, and_true]
   omega
 · have b0 := h1.2 0 (by rw [pl]; omega)
   have e0 : (w8 5 3).getD 0 0 = 1 := by decide
   rw [e0] at b0
   simp [wH, b0]
 · have b1 := h1.2 1 (by rw [pl]; omega)
   have b2 := h1.2 2 (by rw [pl]; omega)
   have e1 : (w8 5 3).getD 1 0 = 0 := by decide
   have e2 : (w8 5 3).getD 2 0 = 1 := by decide
   rw [e1] at b1
   rw [e2] at b2
   simp only [vW] at b1 b2
   simp [wH, b1, b2]
theorem Hw {s : ByteArray} (hs : s.size ≤ 300) {KA KB KC : Nat} {la lb Lc : List Int} (ok : GN (tokens s) KA KB KC la lb Lc) {most : Int} (hm1 : (s.size : Int) ≤ most) (hm2 : most ≤ 8192) : xz (bytesOf (xm (xE (tokens s) la lb Lc))) most = .ok (preB s s.size, (bytesOf (xm (xE (tokens s) la lb Lc))).size) := by
 obtain ⟨t1, t2, t3, t4⟩ := Ae s hs s.size 0 (by omega) (by omega)
 have t3' : xa 0 (tokens s) = true := t3
 have t4' : y8 (tokens s) [] = preB s s.size := t4
 have hb := EZ (xE (tokens s) la lb Lc) (MB _ _ _ _)
 obtain ⟨d, v1, v2, sz⟩ := MA ok hb t3' (most := most) (by rw [t4', yW]; omega)
 rw [t4'] at d
 have psz : (bytesOf (xm (xE (tokens s) la lb Lc))).size = ((xE (tokens s) la lb Lc).length + 7) / 8 := by rw [xD, Ba]
 generalize bytesOf (xm (xE (tokens s) la lb Lc)) = T at *
 unfold xz
 rw [if_neg (by omega)]
 have bl : yZ T most 0 [] = .ok (true, (xE (tokens s) la lb Lc).length, preB s s.size) := by
  unfold yZ
  simp only [vW]
  rw [if_pos sz, v2]
  simp only [Nat.reduceEqDiff, wq, if_true, reduceIte]
  rw [d]
  simp [v1]
 rw [yV, bl]
 simp only [if_true, psz]
end Ab
set_option maxRecDepth 100000
namespace Ab
open Go
theorem IG (s : ByteArray) : bytesOf (preB s s.size) = s := by
 have : preB s s.size = Qi s := by
  apply List.ext_getElem?
  intro i
  by_cases h : i < s.size
  · have g := E3 (Qi s) (Qj s) i
    rw [Da] at g
    have l1 := JD s
    rw [UP (by rw [yW]; exact h), UP (by omega)]
    congr 1
    have a := HR s h
    rw [UM, UP (by rw [yW]; exact h)] at a
    rw [UM, UP (by omega)] at g
    exact a.trans g
  · rw [U8 (by rw [yW]; omega), U8 (by rw [JD]; omega)]
 rw [this, Da]
theorem DG {w : Nat} : ∀ (m : Nat) (h : H) (bs : List Nat) (ov : AV), (bs.length + m) % 8 = 0 → m < 8 → Wr h w bs ov → bs.length + m < 1000 →
 ∃ e' h' ov', Lp AP.A [0] AP.f174L0 [(0, .aE w 0)] h = some (.exit 0, e', h') ∧ Wr h' w (bs ++ List.replicate m 0) ov' ∧ GP h w ov h' ov'
 | 0, h, bs, ov, hm, h8, wr, hb => by
   have gw := wr.get
   have c : ((bs.length % 8 : Nat) : Int) = 0 := by omega
   have rm : bw .rem (.int .i64 (bs.length : Int)) (.int .i64 8) = some (.int .i64 0) := by
    have := Nf (a := bs.length) (n := 8) (by omega)
    rw [c] at this; exact this
   refine ⟨[(0, .aE w 0), (7, .bool false)], h, ov, ux ?_, by simpa using wr, GP.refl h w ov⟩
   simp (disch := omega) only [go_sem, wy, wz, Nat.reduceEqDiff, reduceIte, Nat.reduceAdd, Nat.reduceMul, Nat.reduceLT, Nat.reduceLeDiff, Int.reduceBEq, Int.reduceBNe, Int.reduceLT, Int.reduceLE, Int.reduceEq, wI, cf.aP, cf.aJ, Int.reduceAdd, Int.reduceSub, Int.reduceMul, Int.reduceNeg, Int.reduceToNat, AP.f174L0, gw, rm]
 | m + 1, h, bs, ov, hm, h8, wr, hb => by
   have gw := wr.get
   have rm : bw .rem (.int .i64 (bs.length : Int)) (.int .i64 8) = some (.int .i64 ((bs.length % 8 : Nat) : Int)) := Nf (a := bs.length) (n := 8) (by omega)
   have c : ¬ ((bs.length % 8 : Nat) : Int) = 0 := by omega
   obtain ⟨h1, o1, k1, wr1, f1⟩ := Lm wr (b := 0) (by omega) (by omega)
   have k1' : aS AP.A 57 [.aE w 0, .int .i64 0] h = _ := k1
   obtain ⟨e', h', ov', r1, r2, r3⟩ := DG m h1 (bs ++ [0]) o1 (by rw [wo, List.length_singleton]; omega) (by omega) wr1 (by rw [wo, List.length_singleton]; omega)
   have e : bs ++ List.replicate (m + 1) 0 = bs ++ [0] ++ List.replicate m 0 := by rw [List.replicate_succ, UY]; rfl
   rw [e]
   refine ⟨e', h', ov', uy ?_ r1, r2, f1.trans r3⟩
   clear r1 r2 r3 wr wr1
   generalize ((bs.length % 8 : Nat) : Int) = q at *
   simp (disch := omega) only [go_sem, wy, wz, Nat.reduceEqDiff, reduceIte, Nat.reduceAdd, Nat.reduceMul, Nat.reduceLT, Nat.reduceLeDiff, Int.reduceBEq, Int.reduceBNe, Int.reduceLT, Int.reduceLE, Int.reduceEq, wI, cf.aP, cf.aJ, Int.reduceAdd, Int.reduceSub, Int.reduceMul, Int.reduceNeg, Int.reduceToNat, AP.f174L0, gw, rm, c, k1']
theorem Mb {h : H} {w : Nat} {bs : List Nat} {ov : AV} (wr : Wr h w bs ov) (m : Nat) (hm : (bs.length + m) % 8 = 0) (h8 : m < 8) (hb : bs.length + m < 1000) :
 ∃ h' ov', aS AP.A 174 [.aE w 0] h = some (.bU [], h') ∧ Wr h' w (bs ++ List.replicate m 0) ov' ∧ GP h w ov h' ov' := by
 obtain ⟨e', h', ov', r1, r2, r3⟩ := DG m h bs ov hm h8 wr hb
 obtain ⟨e2, he⟩ : ∃ e2, aM (aS AP.A) bG AP.f174.body (params 0 [.aE w 0]) h = some (.normal, e2, h') := by
  refine ⟨?_, ?_⟩
  rotate_left
  · simp (disch := omega) only [go_sem, wy, wz, Nat.reduceEqDiff, reduceIte, Nat.reduceAdd, Nat.reduceMul, Nat.reduceLT, Nat.reduceLeDiff, Int.reduceBEq, Int.reduceBNe, Int.reduceLT, Int.reduceLE, Int.reduceEq, wI, cf.aP, cf.aJ, Int.reduceAdd, Int.reduceSub, Int.reduceMul, Int.reduceNeg, Int.reduceToNat, AP.f174, th, r1]
    rfl
 exact ⟨h', ov', xI (fn := AP.f174) (e := e2) (vs := []) rfl rfl rfl he rfl, r2, r3⟩
theorem Mc {h : H} (hf : h.floor ≤ h.next) : WX h (h.alloc [.aQ, .int .i64 0]) h.next [] .aQ := by
 refine ⟨⟨by rw [wO rfl]; rfl, wW.nil, by simpa using hf, by simp; omega, by simp [AV.id?], fun b hb => by simp [xm, yA] at hb⟩, (Ext.refl _).alloc _, vR _, by simp, fun j hj => by simp [AV.id?] at hj⟩
def yB (n : Nat) : List Nat := w8 1 3 ++ (List.replicate 5 0 ++ (w8 n 16 ++ w8 (65535 - n) 16))
def yM (s : ByteArray) : ByteArray := bytesOf (xm (yB s.size)) ++ s
theorem CL (s : ByteArray) : (yM s).size = s.size + 5 := by
 unfold yM
 rw [ByteArray.size_append, xD, Ba]
 simp [yB, w8, xc]; omega
theorem Ki (h : H) (s : ByteArray) (hs : s.size ≤ 300) : aS AP.A 170 [.str s] h = some (.bU [.str (yM s), .int .i64 0], h) := by
 obtain ⟨h1, eh1⟩ : ∃ g, g = h.ez.alloc [.aQ, .int .i64 0] := ⟨_, rfl⟩
 have x0 := Mc (h := h.ez) (by simp)
 rw [← eh1] at x0
 obtain ⟨h2, o2, k2, w2, f2⟩ := zy x0.wr 1 3 (by omega) (by omega) (by simp)
 obtain ⟨h3, o3, k3, w3, f3⟩ := Mb w2 5 (by simp [w8, xc]) (by omega) (by simp [w8, xc])
 obtain ⟨h4, o4, k4, w4, f4⟩ := zy w3 s.size 16 (by omega) (by omega) (by simp [w8, xc])
 obtain ⟨h5, o5, k5, w5, f5⟩ := zy w4 (65535 - s.size) 16 (by omega) (by omega) (by simp [w8, xc])
 have k6 := GM w5
 have e : [] ++ w8 1 3 ++ List.replicate 5 0 ++ w8 s.size 16 ++ w8 (65535 - s.size) 16 = yB s.size := by
  unfold yB; simp only [List.nil_append, UY]
 rw [e] at k6
 have hn : h.ez.next = h.next := rfl
 have k2' : aS AP.A 33 [.aE h.next 0, .int .i64 1, .int .i64 3] h1 = some (.int .i64 0, h2) := k2
 have k4' : aS AP.A 33 [.aE h.next 0, .int .i64 s.size, .int .i64 16] h3 = some (.int .i64 0, h4) := k4
 have k5' : aS AP.A 33 [.aE h.next 0, .int .i64 (65535 - (s.size : Int)), .int .i64 16] h4 = some (.int .i64 0, h5) := by
  have e : ((65535 - s.size : Nat) : Int) = 65535 - (s.size : Int) := by omega
  rw [e] at k5; exact k5
 have bz : (bytesOf (xm (yB s.size))).size = 5 := by
  have := CL s
  unfold yM at this
  rw [ByteArray.size_append] at this; omega
 have ad : bw .add (.str (bytesOf (xm (yB s.size)))) (.str s) = some (.str (yM s)) := GQ (by omega)
 rw [hn] at k3 k6
 refine u7 (fn := AP.f170) (h2 := h5) (e := [(2, .str (yM s)), (3, .int .i64 0)]) rfl rfl rfl ?_ rfl rfl
 clear x0 w2 w3 w4 w5 f2 f3 f4 f5 k2 k4 k5 e bz
 generalize bytesOf (xm (yB s.size)) = SB at *
 generalize yM s = ST at *
 simp (disch := omega) only [go_sem, wy, wz, Nat.reduceEqDiff, reduceIte, Nat.reduceAdd, Nat.reduceMul, Nat.reduceLT, Nat.reduceLeDiff, Int.reduceBEq, Int.reduceBNe, Int.reduceLT, Int.reduceLE, Int.reduceEq, wI, cf.aP, cf.aJ, Int.reduceAdd, Int.reduceSub, Int.reduceMul, Int.reduceNeg, Int.reduceToNat, AP.f170, hn, ← eh1, k2', k3, k4', k5', k6, ad]
def yF : List Int := List.replicate 30 5
theorem D5 : wN wZ 15 = 0 := by decide +kernel
theorem Fa : wN yF 15 = 2048 := by decide +kernel
theorem yG : wZ.length = 288 := by decide +kernel
theorem zX : ∀ y ∈ wZ, 1 ≤ y ∧ y < 16 := by
 have : wZ.all (fun y => decide (1 ≤ y ∧ y < 16)) = true := by decide +kernel
 intro y hy
 simpa using List.all_eq_true.1 this y hy
theorem Hq : ∀ y ∈ yF, 1 ≤ y ∧ y < 16 := fun y hy => by have := Va hy; omega
theorem yz : CO wZ := ⟨by rw [D5]; omega, fun y hy => by have := zX y hy; omega⟩
theorem A3 : CO yF := ⟨by rw [Fa]; omega, fun y hy => by have := Hq y hy; omega⟩
theorem B9 {l : List Int} (b : CO l) (hr : ∀ y ∈ l, 1 ≤ y ∧ y < 16) {s : Nat} (hs : s < l.length) : Dz (wD l) s := by
 refine Gv b.left b.Tq hs ?_
 rw [UM, UP hs]
 exact (hr _ (Vb hs)).1
theorem Fb {t : Tok} (o : AW t) : Ku (wD wZ) (wD yF) t := by
 refine Ll (ts := []) o (fun h => ?_) (fun h => ?_) (fun h => ?_)
 · rcases o with ⟨_, b, c⟩ | ⟨a, _⟩
   · exact B9 yz zX (by rw [yG]; omega)
   · omega
 · rcases o with ⟨a, _⟩ | ⟨a, b, _⟩
   · exact absurd a h
   · have := z9 (k := t.len.toNat) (by omega) (by omega)
     exact B9 yz zX (by rw [yG]; omega)
 · rcases o with ⟨a, _⟩ | ⟨a, b, c, d⟩
   · exact absurd a h
   · have := zW (k := t.xb.toNat) (by omega) (by omega)
     have l : yF.length = 30 := by simp [yF]
     exact B9 A3 Hq (by rw [l]; omega)
def xP (ts : List Tok) : List Nat := w8 3 3 ++ (xO (wD wZ) (wD yF) ts ++ wP (wD wZ) 256)
theorem Iz (h : H) (v : AV) (ts : List Tok) (OW : JZ ts = true) (hn : ts.length ≤ 300) (tok : ∀ t ∈ ts, AW t) (rd : zE 3 h v ts.length (xu ts)) : aS AP.A 171 [v] h = some (.bU [.str (bytesOf (xm (xP ts))), .int .i64 0], h) := by
 have rd0 : zE 3 h.ez v ts.length (xu ts) := rd.mono fun i c q => q
 have k1 := Nt h.ez v ts (by omega) rd0
 rw [OW] at k1
 obtain ⟨h1, eh1⟩ : ∃ g, g = h.ez.alloc [.aQ, .int .i64 0] := ⟨_, rfl⟩
 have x0 := Mc (h := h.ez) (by simp)
 rw [← eh1] at x0
 obtain ⟨h2, o2, k2, w2, f2⟩ := zy x0.wr 3 3 (by omega) (by omega) (by simp)
 have x2 := x0.step w2 f2
 have kf := K3 h2
 have kc := Cs h2 (yN wZ) wZ (by rw [yG]; omega) (by rw [yG]; omega) (zo h2 wZ) (.inl (by rw [zS (by rw [yG]; omega) (by rw [yG]; omega) yz.Tq yz.left, if_pos D5]))
 have k5 := MF h2
 have l5 : yF.length = 30 := by simp [yF]
 have kc5 := Cs h2 (yN yF) yF (by omega) (by omega) (zo h2 yF) (.inr (by rw [zS (by omega) (by omega) A3.Tq A3.left, if_neg (by rw [Fa]; omega)]))
 obtain ⟨h3, o3, k3, x3⟩ := L7 (by omega) h.ez rd0 (AR h.ez wZ) (AR h.ez yF) (fun t ht => Fb (tok t ht)) (B9 yz zX (by rw [yG]; omega)) h.ez.next _ h2 o2 x2 (by simp [w8, xc]; omega)
 have k6 := GM x3.wr
 have e : [] ++ w8 3 3 ++ (xO (wD wZ) (wD yF) ts ++ wP (wD wZ) 256) = xP ts := by unfold xP; rw [List.nil_append]
 rw [e] at k6
 have hn' : h.ez.next = h.next := rfl
 have k2' : aS AP.A 33 [.aE h.next 0, .int .i64 3, .int .i64 3] h1 = some (.int .i64 0, h2) := k2
 rw [hn'] at k3 k6
 change aS AP.A 23 [] h2 = some (yN yF, h2) at k5
 refine u7 (fn := AP.f171) (h2 := h3) (e := [(2, .str (bytesOf (xm (xP ts)))), (3, .int .i64 0)]) rfl rfl rfl ?_ rfl rfl
 clear x0 w2 f2 x2 x3 k2 e rd rd0
 generalize bytesOf (xm (xP ts)) = SB at *
 generalize yN wZ = I1 at *
 generalize yN yF = I2 at *
 generalize DT wZ = C1 at *
 generalize DT yF = C2 at *
 simp (disch := omega) only [go_sem, wy, wz, Nat.reduceEqDiff, reduceIte, Nat.reduceAdd, Nat.reduceMul, Nat.reduceLT, Nat.reduceLeDiff, Int.reduceBEq, Int.reduceBNe, Int.reduceLT, Int.reduceLE, Int.reduceEq, wI, cf.aP, cf.aJ, Int.reduceAdd, Int.reduceSub, Int.reduceMul, Int.reduceNeg, Int.reduceToNat, AP.f171, hn', k1, ← eh1, k2', kf, kc, k5, kc5, k3, k6]
theorem F9 {bs : List Nat} : (bytesOf (xm bs)).size = (bs.length + 7) / 8 := by rw [xD, Ba]
def shorter (a b : ByteArray) : ByteArray := if a.size < b.size then a else b
def Ix (s : ByteArray) (la lb Lc : List Int) : ByteArray := bytesOf (xm (xE (tokens s) la lb Lc))
def Cy (s : ByteArray) : ByteArray := bytesOf (xm (xP (tokens s)))
def yq (s : ByteArray) (la lb Lc : List Int) : ByteArray := shorter (Ix s la lb Lc) (shorter (Cy s) (yM s))
theorem EM (s : ByteArray) (hs : s.size ≤ 300) : (tokens s).length ≤ 300 ∧ (∀ t ∈ tokens s, AW t) ∧ xa 0 (tokens s) = true ∧ y8 (tokens s) [] = preB s s.size := by
 obtain ⟨t1, t2, t3, t4⟩ := Ae s hs s.size 0 (by omega) (by omega)
 exact ⟨by unfold tokens; omega, t2, t3, t4⟩
theorem Iv (h : H) (s : ByteArray) (hs : s.size ≤ 300) {KA KB KC : Nat} {la lb Lc : List Int} (ok : GN (tokens s) KA KB KC la lb Lc) : aS AP.A 163 [.str s] h = some (.bU [.str (yq s la lb Lc), .int .i64 0], h) := by
 have k1 := L6 h.ez s (by omega)
 rw [if_neg (by omega)] at k1
 obtain ⟨t1, t2, t3, t4⟩ := EM s hs
 have rd : zE 3 h.ez (FV (tokens s)) (tokens s).length (xu (tokens s)) := GG (by rw [Kl])
 have k2 := Ki h.ez s hs
 have k3 := Iz h.ez (FV (tokens s)) (tokens s) (D3 s hs) t1 t2 rd
 have k4 := Iy h.ez (FV (tokens s)) (tokens s) KA KB KC la lb Lc ok rd
 change aS AP.A 171 [FV (tokens s)] h.ez = some (.bU [.str (Cy s), .int .i64 0], h.ez) at k3
 change aS AP.A 13 [FV (tokens s)] h.ez = some (.bU [.str (Ix s la lb Lc), .int .i64 0], h.ez) at k4
 refine u7 (fn := AP.f163) (h2 := h.ez) (e := [(2, .str (yq s la lb Lc)), (3, .int .i64 0)]) rfl rfl rfl ?_ rfl rfl
 unfold yq shorter
 clear rd ok t1 t2 t3 t4
 generalize Cy s = F at *
 generalize yM s = S at *
 generalize Ix s la lb Lc = D at *
 by_cases c1 : F.size < S.size
 · have c1' : (F.size : Int) < S.size := by omega
   rw [if_pos c1]
   by_cases c2 : D.size < F.size
   · have c2' : (D.size : Int) < F.size := by omega
     rw [if_pos c2]
     simp (disch := omega) only [go_sem, wy, wz, Nat.reduceEqDiff, reduceIte, Nat.reduceAdd, Nat.reduceMul, Nat.reduceLT, Nat.reduceLeDiff, Int.reduceBEq, Int.reduceBNe, Int.reduceLT, Int.reduceLE, Int.reduceEq, wI, cf.aP, cf.aJ, Int.reduceAdd, Int.reduceSub, Int.reduceMul, Int.reduceNeg, Int.reduceToNat, AP.f163, k1, k2, k3, k4, UQ c1', UQ c2']
   · have c2' : ¬ (D.size : Int) < F.size := by omega
     rw [if_neg c2]
     simp (disch := omega) only [go_sem, wy, wz, Nat.reduceEqDiff, reduceIte, Nat.reduceAdd, Nat.reduceMul, Nat.reduceLT, Nat.reduceLeDiff, Int.reduceBEq, Int.reduceBNe, Int.reduceLT, Int.reduceLE, Int.reduceEq, wI, cf.aP, cf.aJ, Int.reduceAdd, Int.reduceSub, Int.reduceMul, Int.reduceNeg, Int.reduceToNat, AP.f163, k1, k2, k3, k4, UQ c1', UN c2']
 · have c1' : ¬ (F.size : Int) < S.size := by omega
   rw [if_neg c1]
   by_cases c2 : D.size < S.size
   · have c2' : (D.size : Int) < S.size := by omega
     rw [if_pos c2]
     simp (disch := omega) only [go_sem, wy, wz, Nat.reduceEqDiff, reduceIte, Nat.reduceAdd, Nat.reduceMul, Nat.reduceLT, Nat.reduceLeDiff, Int.reduceBEq, Int.reduceBNe, Int.reduceLT, Int.reduceLE, Int.reduceEq, wI, cf.aP, cf.aJ, Int.reduceAdd, Int.reduceSub, Int.reduceMul, Int.reduceNeg, Int.reduceToNat, AP.f163, k1, k2, k3, k4, UN c1', UQ c2']
   · have c2' : ¬ (D.size : Int) < S.size := by omega
     rw [if_neg c2]
     simp (disch := omega) only [go_sem, wy, wz, Nat.reduceEqDiff, reduceIte, Nat.reduceAdd, Nat.reduceMul, Nat.reduceLT, Nat.reduceLeDiff, Int.reduceBEq, Int.reduceBNe, Int.reduceLT, Int.reduceLE, Int.reduceEq, wI, cf.aP, cf.aJ, Int.reduceAdd, Int.reduceSub, Int.reduceMul, Int.reduceNeg, Int.reduceToNat, AP.f163, k1, k2, k3, k4, UN c1', UN c2']
theorem MG (ts : List Tok) : ∀ b ∈ xP ts, b ≤ 1 := by
 intro b h
 unfold xP at h
 simp only [Vf] at h
 rcases h with h | h | h
 · exact yK _ _ _ b h
 · obtain ⟨y, _, hy⟩ := List.mem_flatMap.1 h
   exact Dv _ _ y b hy
 · exact yQ _ _ b h
theorem Ie {E D : List (Int × Int)} : ∀ T : List Tok, (∀ x ∈ T, Ku E D x) → T.length ≤ (xO E D T).length
 | [], _ => by simp
 | x :: T, h => by
   have := Ie (E := E) (D := D) T fun z hz => h z (by simp [hz])
   have o := h x (by simp)
   have one : 1 ≤ (xe E D x).length := by
    rcases o with ⟨h1, h2, h3⟩ | ⟨h1, h2, h3, h4, h5, h6⟩
    · obtain ⟨n, v, _, q1, q2, q3, q4⟩ := h3.bits
      rw [xe, if_pos h1, q4, xk]; omega
    · obtain ⟨n, v, _, q1, q2, q3, q4⟩ := h5.bits
      rw [xe, if_neg (by omega), q4, wo, xk]; omega
   unfold xO at *
   rw [UU, wo, UO]; omega
theorem Hx {s : ByteArray} (hs : s.size ≤ 300) {most : Int} (hm1 : (s.size : Int) ≤ most) (hm2 : most ≤ 8192) : xz (Cy s) most = .ok (preB s s.size, (Cy s).size) := by
 obtain ⟨t1, t2, t3, t4⟩ := EM s hs
 have hb := EZ (xP (tokens s)) (MG _)
 have psz : (Cy s).size = ((xP (tokens s)).length + 7) / 8 := F9
 change Az (Cy s) 0 (xP (tokens s)) at hb
 generalize Cy s = T at *
 have hb' : Az T 0 (w8 3 3 ++ (xO (wD wZ) (wD yF) (tokens s) ++ wP (wD wZ) 256)) := hb
 obtain ⟨h1, h2⟩ := hb'.app
 have pl : (w8 3 3).length = 3 := rfl
 rw [pl, vW] at h2
 have ND : ∀ x ∈ tokens s, Ku (wD wZ) (wD yF) x := fun x hx => Fb (t2 x hx)
 have g := Ie (tokens s) ND
 have h2l := h2.1
 rw [wo] at h2l
 have cod := BD (most := most) yz A3 (B9 yz zX (by rw [yG]; omega)) (tokens s) (8 * T.size + 1) 3 [] h2 ND t3 (by rw [t4, yW]; exact hm1) (by omega)
 have fl : 3 + (xO (wD wZ) (wD yF) (tokens s) ++ wP (wD wZ) 256).length = (xP (tokens s)).length := by
  unfold xP; rw [wo (as := w8 3 3), pl]
 rw [fl, t4] at cod
 have v0 : wH T 0 1 = 1 := by
  have b0 := h1.2 0 (by rw [pl]; omega)
  have e0 : (w8 3 3).getD 0 0 = 1 := by decide
  rw [e0] at b0
  simp [wH, b0]
 have v1 : wH T 1 2 = 1 := by
  have b1 := h1.2 1 (by rw [pl]; omega)
  have b2 := h1.2 2 (by rw [pl]; omega)
  have e1 : (w8 3 3).getD 1 0 = 1 := by decide
  have e2 : (w8 3 3).getD 2 0 = 0 := by decide
  rw [e1] at b1
  rw [e2] at b2
  simp only [vW] at b1 b2
  simp [wH, b1, b2]
 have sz : 3 ≤ 8 * T.size := by have := h1.1; rw [pl] at this; omega
 unfold xz
 rw [if_neg (by omega)]
 have bl : yZ T most 0 [] = .ok (true, (xP (tokens s)).length, preB s s.size) := by
  unfold yZ
  simp only [vW]
  rw [if_pos sz, v1]
  simp only [Nat.reduceEqDiff, wq, if_true, reduceIte]
  have cod' : yf T most wZ (List.replicate 30 5) (8 * T.size + 1) 3 [] = .ok ((xP (tokens s)).length, preB s s.size) := cod
  rw [cod']
  simp [v0]
 rw [yV, bl]
 simp only [if_true, psz]
theorem EB (a b : ByteArray) : shorter a b = a ∨ shorter a b = b := by
 unfold shorter; split
 · exact .inl rfl
 · exact .inr rfl
theorem P6 (h : H) (s : ByteArray) (hs : s.size ≤ 300) : ∃ (m : Int) (p : ByteArray), aS AP.A 154 [.str s] h = some (.bU [.int .i64 m, .str p, .int .i64 0], h) ∧ ((m = 0 ∧ p = s) ∨ (m = 8 ∧ p.size < s.size ∧ xz p s.size = .ok (preB s s.size, p.size))) ∧ ((Cy s).size < s.size → m = 8) := by
 obtain ⟨KA, KB, KC, la, lb, Lc, ok⟩ := OS s hs
 have k := Iv h.ez s hs ok
 have idn : xz (Ix s la lb Lc) s.size = .ok (preB s s.size, (Ix s la lb Lc).size) := by
  unfold Ix
  exact Hw (s := s) hs ok (by omega) (by omega)
 have ifx : xz (Cy s) s.size = .ok (preB s s.size, (Cy s).size) := Hx hs (by omega) (by omega)
 have ss := CL s
 have dd : (yq s la lb Lc).size < s.size → xz (yq s la lb Lc) s.size = .ok (preB s s.size, (yq s la lb Lc).size) := fun hlt => by
  unfold yq at hlt ⊢
  rcases EB (Ix s la lb Lc) (shorter (Cy s) (yM s)) with e | e
  · rw [e]; exact idn
  · rw [e] at hlt ⊢
    rcases EB (Cy s) (yM s) with e2 | e2
    · rw [e2]; exact ifx
    · rw [e2] at hlt; omega
 have le : (yq s la lb Lc).size ≤ (Cy s).size := by
  unfold yq shorter; (repeat' split) <;> omega
 generalize yq s la lb Lc = T at *
 by_cases c : T.size < s.size
 · refine ⟨8, T, ?_, .inr ⟨rfl, c, dd c⟩, fun _ => rfl⟩
   have c' : (T.size : Int) < s.size := by omega
   refine u7 (fn := AP.f154) (h2 := h.ez) (e := [(2, .int .i64 8), (3, .str T), (4, .int .i64 0)]) rfl rfl rfl ?_ rfl rfl
   clear idn ifx ss dd ok
   simp (disch := omega) only [go_sem, wy, wz, Nat.reduceEqDiff, reduceIte, Nat.reduceAdd, Nat.reduceMul, Nat.reduceLT, Nat.reduceLeDiff, Int.reduceBEq, Int.reduceBNe, Int.reduceLT, Int.reduceLE, Int.reduceEq, wI, cf.aP, cf.aJ, Int.reduceAdd, Int.reduceSub, Int.reduceMul, Int.reduceNeg, Int.reduceToNat, AP.f154, k, UQ c']
 · refine ⟨0, s, ?_, .inl ⟨rfl, rfl⟩, fun q => by omega⟩
   have c' : ¬ (T.size : Int) < s.size := by omega
   refine u7 (fn := AP.f154) (h2 := h.ez) (e := [(2, .int .i64 0), (3, .str s), (4, .int .i64 0)]) rfl rfl rfl ?_ rfl rfl
   clear idn ifx ss dd ok
   simp (disch := omega) only [go_sem, wy, wz, Nat.reduceEqDiff, reduceIte, Nat.reduceAdd, Nat.reduceMul, Nat.reduceLT, Nat.reduceLeDiff, Int.reduceBEq, Int.reduceBNe, Int.reduceLT, Int.reduceLE, Int.reduceEq, wI, cf.aP, cf.aJ, Int.reduceAdd, Int.reduceSub, Int.reduceMul, Int.reduceNeg, Int.reduceToNat, AP.f154, k, UN c']
def Mf (m : Int) (p s : ByteArray) : zD := ⟨nA, false, [0, 1, 0, 0], 1, 1, m, p, s.size, zL s⟩
def IX (m : Int) (p s : ByteArray) : Prop := (m = 0 ∧ p = s) ∨ (m = 8 ∧ p.size < s.size ∧ xz p s.size = .ok (preB s s.size, p.size))
theorem FE {m : Int} {p s : ByteArray} (hs : s.size ≤ 300) (hp : IX m p s) (e : zD) (h1 : e.method = m) (h2 : e.packed = p) (h3 : e.size = s.size) (h4 : e.gone = false) : zT e = Nx e.I8 ∧ zc e.method e.packed e.size = some s ∧ p.size ≤ 300 := by
 rcases hp with ⟨rfl, rfl⟩ | ⟨rfl, hl, hi⟩
 · refine ⟨?_, ?_, hs⟩
   · unfold zT
     rw [h4, if_neg (by decide), h1, h2, h3, UQ (by omega : (0 : Int) ≤ p.size), UQ (by omega : (p.size : Int) ≤ 300)]
     simp
   · unfold zc
     rw [h1, h2, h3, if_neg (by omega), if_pos rfl, if_pos rfl]
 · refine ⟨?_, ?_, by omega⟩
   · unfold zT
     rw [h4, if_neg (by decide), h1, h2, h3, UQ (by omega : (0 : Int) ≤ s.size), UQ (by omega : (s.size : Int) ≤ 300), UQ (by omega : p.size ≤ 300)]
     simp
   · unfold zc
     rw [h1, h2, h3, if_neg (by omega), if_neg (by decide), if_pos rfl, hi]
     simp only [yW, IG]
     rw [if_pos ⟨trivial, trivial⟩]
theorem IF {m : Int} {p s : ByteArray} (hs : s.size ≤ 300) (hp : IX m p s) (e : zD) (h1 : e.method = m) (h2 : e.packed = p) (h3 : e.size = s.size) (h4 : e.gone = false) (h5 : e.I8 = (zL s : Nat)) (h6 : AO e.name = true) (h7 : Ay e = true) : yu e = some s := by
 obtain ⟨c, u, _⟩ := FE hs hp e h1 h2 h3 h4
 have hc := I9 s
 have is : Nx e.I8 = true := by rw [h5]; simp [Nx]; omega
 have mf : Gp [e] = true := by rw [Nz, c, is, h6, h7]; rfl
 unfold yu
 rw [mf, if_neg (by decide), h4, if_neg (by decide), u, h5]
 show (if (zL s : Int) = (zL s : Int) then some s else none) = _
 rw [if_pos rfl]
theorem MR : AO nA = true := by decide +kernel
theorem MW {m : Int} {p s : ByteArray} (hs : s.size ≤ 300) (hp : IX m p s) : yu (Mf m p s) = some s :=
 IF hs hp _ rfl rfl rfl rfl rfl MR (by
  show (EN [0, 1, 0, 0] && (decide ((1 : Int) ≤ 1) && (y0 1 && FA 1))) = true
  decide)
theorem Na (h : H) (s : ByteArray) (b : Bool) (hs : s.size < 1125899906842624) : aS AP.A 149 [.str s, .bool b] h = some (.bool true, h) := by
 have k0 : ∀ g, aS AP.A 95 [] g = some (.bool true, g) := JN
 by_cases c : 300 < s.size
 · have c' : (300 : Int) < s.size := by omega
   refine u7 (fn := AP.f149) (h2 := h.ez) (e := [(4, .bool true)]) rfl rfl rfl ?_ rfl rfl
   simp (disch := first | omega | (simp only [yx, UO, UR, vW, Nat.reduceAdd]; first | done | omega | fail) | (simp (disch := first | omega | (simp only [yx, UO, UR, vW, Nat.reduceAdd]; first | done | omega | fail) | fail) only [yx, ER, US, UO, UR, vW, Nat.reduceAdd]; done) | fail) only [go_sem, wy, wz, Nat.reduceEqDiff, reduceIte, Nat.reduceAdd, Nat.reduceMul, Nat.reduceLT, Nat.reduceLeDiff, Int.reduceBEq, Int.reduceBNe, Int.reduceLT, Int.reduceLE, Int.reduceEq, wI, FJ, cf.aP, cf.aJ, Int.reduceAdd, Int.reduceSub, Int.reduceMul, Int.reduceNeg, Int.reduceToNat, AP.f149, k0, UQ c']
 · have c' : ¬ (300 : Int) < s.size := by omega
   obtain ⟨m0, p0, k1, hp0, _⟩ := P6 h.ez s (by omega)
   obtain ⟨m, p, hm⟩ : ∃ (m : Int) (p : ByteArray), (if b then (0, s) else (m0, p0)) = (m, p) := ⟨_, _, rfl⟩
   have hp : IX m p s := by
    cases b with
    | true => injection hm with h1 h2; exact .inl ⟨h1.symm, h2.symm⟩
    | false => injection hm with h1 h2; subst h1 h2; exact hp0
   have tx := MW (by omega) hp
   obtain ⟨G, hG⟩ : ∃ G, G = ((h.ez.alloc (ints [0, 1, 0, 0])).alloc Z9).set (h.next + 1) (wF (Mf m p s) (.aF h.next 0 4 1)) := ⟨_, rfl⟩
   have gv : G.get h.next = some (ints [0, 1, 0, 0]) := by rw [hG]; simp (disch := first | omega | (simp only [yx, UO, UR, vW, Nat.reduceAdd]; first | done | omega | fail) | fail) only [yx, ER, US, UO, UR, vW, Nat.reduceAdd]
   have ge : G.get (h.next + 1) = some (wF (Mf m p s) (.aF h.next 0 4 1)) := by rw [hG]; simp (disch := first | omega | (simp only [yx, UO, UR, vW, Nat.reduceAdd]; first | done | omega | fail) | fail) only [yx, ER, US, UO, UR, vW, Nat.reduceAdd]
   have gf : G.floor ≤ G.next := by rw [hG]; simp; omega
   obtain ⟨_, _, pz⟩ := FE (by omega) hp (Mf m p s) rfl rfl rfl rfl
   have ok : CP G (Mf m p s, .aF h.next 0 4 1) := CP.obj gv rfl rfl (by show nA.size < _; decide) (by show p.size < _; omega)
   have kt := Gd G gf (Mf m p s) _ rfl ok
   have km := BH G gf (Mf m p s) _ rfl ok
   have mt : zG (Mf m p s) = true := by unfold zG; rw [tx]; rfl
   rw [mt] at km
   have tv : Ig (Mf m p s) = .bU [.str s, .int .i64 0] := by unfold Ig; rw [tx]; rfl
   rw [tv] at kt
   have kc : ∀ g, aS AP.A 101 [.str s] g = some (.int .i64 (zL s : Nat), g) := fun g => KP g s (by omega)
   have k9 := fun (g : H) n => NC g n
   simp only [I] at k9
   have es : bw .eql (.str s) (.str s) = some (.bool true) := by rw [Au]; simp
   have gg := hG.symm
   refine u7 (fn := AP.f149) (h2 := G) (e := [(4, .bool true)]) rfl rfl rfl ?_ rfl rfl
   clear hp hp0 tx ok pz mt tv hG
   simp only [wF, Mf, ints, I, UW, Vn, nA] at gg ge gv kt km
   cases b with
   | true =>
     injection hm with h1 h2; subst h1 h2
     simp (disch := first | omega | (simp only [yx, UO, UR, vW, Nat.reduceAdd]; first | done | omega | fail) | (simp (disch := first | omega | (simp only [yx, UO, UR, vW, Nat.reduceAdd]; first | done | omega | fail) | fail) only [yx, ER, US, UO, UR, vW, Nat.reduceAdd]; done) | fail) only [go_sem, wy, wz, Nat.reduceEqDiff, reduceIte, Nat.reduceAdd, Nat.reduceMul, Nat.reduceLT, Nat.reduceLeDiff, Int.reduceBEq, Int.reduceBNe, Int.reduceLT, Int.reduceLE, Int.reduceEq, wI, FJ, cf.aP, cf.aJ, Int.reduceAdd, Int.reduceSub, Int.reduceMul, Int.reduceNeg, Int.reduceToNat, AP.f149, k0, UN c', k1, kc, k9, es, gg, ge, gv, kt, km]
   | false =>
     injection hm with h1 h2; subst h1 h2
     simp (disch := first | omega | (simp only [yx, UO, UR, vW, Nat.reduceAdd]; first | done | omega | fail) | (simp (disch := first | omega | (simp only [yx, UO, UR, vW, Nat.reduceAdd]; first | done | omega | fail) | fail) only [yx, ER, US, UO, UR, vW, Nat.reduceAdd]; done) | fail) only [go_sem, wy, wz, Nat.reduceEqDiff, reduceIte, Nat.reduceAdd, Nat.reduceMul, Nat.reduceLT, Nat.reduceLeDiff, Int.reduceBEq, Int.reduceBNe, Int.reduceLT, Int.reduceLE, Int.reduceEq, wI, FJ, cf.aP, cf.aJ, Int.reduceAdd, Int.reduceSub, Int.reduceMul, Int.reduceNeg, Int.reduceToNat, AP.f149, k0, UN c', k1, kc, k9, es, gg, ge, gv, kt, km]
theorem Eb (r : List (Ty × List AV)) (h : r.map (·.1) = [Qg, KL]) (hp : ∀ x ∈ r, Sh reachBytes x.1 x.2) : aS AP.A 149 (r.map ke) H.empty = some (.bool true, H.empty) := by
 obtain ⟨x, y, rfl, h1, h2⟩ := Uc h hp
 obtain ⟨s, rfl, hs⟩ := Qd h1
 obtain ⟨b, rfl⟩ := MZ h2
 exact Na H.empty s b (by omega)
end Ab
