/- Part C3. -/
import Derived.Test.YtolinppbhjljcaaC2
set_option linter.unusedSimpArgs false
set_option linter.unusedVariables false
set_option maxRecDepth 100000
namespace Ab
open Go
def Apart (u v : AV) : Prop := ∀ j, u.id? = some j → v.id? ≠ some j
theorem Apart.symm {u v : AV} (a : Apart u v) : Apart v u := fun j h q => a j q h
def symsOf : Nat → List Int → List Int
  | _, [] => []
  | i, c :: r => if 0 < c then (i : Int) :: symsOf (i + 1) r else symsOf (i + 1) r
def wtsOf : List Int → List Int
  | [] => []
  | c :: r => if 0 < c then c :: wtsOf r else wtsOf r
theorem OwnN.rd1 {h : H} {v : AV} {cs : List AV} (o : OwnN 1 h v cs.length cs) : Rd h v cs := ⟨o.rd.1, o.rd.2.2⟩
theorem OwnN.rdi {h : H} {v : AV} {l : List Int} (o : OwnN 1 h v l.length (ints l)) : Rd h v (ints l) := by
  refine OwnN.rd1 ?_
  rw [ints_length]; exact o
theorem lsy_loop {x mv : AV} {C : List Int} (hC : C.length < 1000) (hr : ∀ y ∈ C, 0 ≤ y ∧ y ≤ 2147483647) (h0 : H) (rd : Rd h0 x (ints C)) : ∀ (q p S W : List Int) (h : H) (sv wv : AV), C = p ++ q → Ext h0 h → h.floor = h0.next → h.floor ≤ h.next → OwnN 1 h sv S.length (ints S) → OwnN 1 h wv W.length (ints W) → Apart sv wv → S.length ≤ p.length → W.length ≤ p.length →
    ∃ h' sv' wv', Lp AP.A [0, 1, 6, 7, 8] AP.f30L3 [(0, x), (1, mv), (6, sv), (7, wv), (8, .int .i64 p.length)] h = some (.exit 0, [(0, x), (1, mv), (6, sv'), (7, wv'), (8, .int .i64 C.length), (33, .bool false)], h') ∧ OwnN 1 h' sv' (S ++ symsOf p.length q).length (ints (S ++ symsOf p.length q)) ∧ OwnN 1 h' wv' (W ++ wtsOf q).length (ints (W ++ wtsOf q)) ∧ Apart sv' wv' ∧ h'.floor = h.floor ∧ h'.floor ≤ h'.next
  | [], p, S, W, h, sv, wv, hp, hx, hf, hfl, os, ow, ap, hS, hW => by
    rw [List.append_nil] at hp; subst hp
    have ln := rd.len
    rw [ints_length] at ln
    simp only [I] at ln
    refine ⟨h, sv, wv, Lp_exit ?_, by simpa [symsOf] using os, by simpa [wtsOf] using ow, ap, rfl, hfl⟩
    simp (disch := omega) only [go_sem, abin_shl, abin_shr, Nat.reduceEqDiff, reduceIte, Nat.reduceAdd, Nat.reduceMul, Nat.reduceLT, Nat.reduceLeDiff, Int.reduceBEq, Int.reduceBNe, Int.reduceLT, Int.reduceLE, Int.reduceEq, qqC, AOp.loud, AOp.births, Int.reduceAdd, Int.reduceSub, Int.reduceMul, Int.reduceNeg, Int.reduceToNat, AP.f30L3, ln]
  | y :: q, p, S, W, h, sv, wv, hp, hx, hf, hfl, os, ow, ap, hS, hW => by
    have ln := rd.len
    rw [ints_length] at ln
    simp only [I] at ln
    have hl : C.length = p.length + (q.length + 1) := by rw [hp]; simp
    obtain ⟨ad, a1, a2⟩ := rd.ints_at
    have b1 := a1 p.length ⟨by omega, by omega⟩
    have hyC : C[p.length]? = some y := by rw [hp]; simp
    have b2 := a2 h hx p.length y hyC
    have yr := hr y (List.mem_of_getElem? hyC)
    have n1 : (((p ++ [y]).length : Nat) : Int) = (p.length : Int) + 1 := by simp
    have n2 : (p ++ [y]).length = p.length + 1 := by simp
    by_cases c : 0 < y
    · obtain ⟨v1, h1, p1, p2, p3, p4, p5, p6⟩ := os.push hfl (z := 8) (m := 1) (by omega) (by omega) [.int .i64 p.length] rfl rfl (roomy_t (by omega))
      have ow1 : OwnN 1 h1 wv W.length (ints W) := ow.mono p3 fun j hj => p5 j (fun e => ap j e hj) (ow.lt hj).2
      have hx1 : Ext h0 h1 := fun i d hi => by
        have := h0.lt _ _ hi
        rw [p5 i (fun e => by have := (os.lt e).1; omega) (by omega), hx i d hi]
      have b3 := a2 h1 hx1 p.length y hyC
      obtain ⟨v2, h2, q1, q2, q3, q4, q5, q6⟩ := ow1.push (by omega) (z := 8) (m := 1) (by omega) (by omega) [.int .i64 y] rfl rfl (roomy_t (by omega))
      have hx2 : Ext h0 h2 := fun i d hi => by
        have := h0.lt _ _ hi
        rw [q5 i (fun e => by have := (ow1.lt e).1; omega) (by omega), hx1 i d hi]
      have os2 : OwnN 1 h2 v1 (S ++ [(p.length : Int)]).length (ints (S ++ [(p.length : Int)])) := by
        rw [ints_append, List.length_append]
        exact p2.mono (by omega) fun j hj => q5 j (fun e => by rw [p6] at hj; have := Option.some.inj hj; have := (ow.lt e).2; omega) (p2.lt hj).2
      have ow2 : OwnN 1 h2 v2 (W ++ [y]).length (ints (W ++ [y])) := by rw [ints_append, List.length_append]; exact q2
      obtain ⟨h', sv', wv', r1, r2, r3, r4, r5, r6⟩ := lsy_loop hC hr h0 rd q (p ++ [y]) (S ++ [(p.length : Int)]) (W ++ [y]) h2 v1 v2 (by rw [hp]; simp) hx2 (by omega) (by omega) os2 ow2 (fun j hj e => by rw [p6] at hj; rw [q6] at e; have := Option.some.inj hj; have := Option.some.inj e; omega) (by simp; omega) (by simp; omega)
      rw [symsOf, if_pos c, wtsOf, if_pos c]
      rw [n2, List.append_assoc] at r2
      rw [List.append_assoc] at r3
      refine ⟨h', sv', wv', Lp_next ?_ r1, r2, r3, r4, by omega, r6⟩
      rw [n1]
      clear r1 r2 r3 r4 os ow os2 ow2 ow1 hx hx1 hx2 rd a1 a2 hr p2 p5 q2 q5 ap
      simp (disch := omega) only [go_sem, abin_shl, abin_shr, Nat.reduceEqDiff, reduceIte, Nat.reduceAdd, Nat.reduceMul, Nat.reduceLT, Nat.reduceLeDiff, Int.reduceBEq, Int.reduceBNe, Int.reduceLT, Int.reduceLE, Int.reduceEq, qqC, AOp.loud, AOp.births, Int.reduceAdd, Int.reduceSub, Int.reduceMul, Int.reduceNeg, Int.reduceToNat, AP.f30L3, ln, b1, b2, b3, p1, q1]
    · obtain ⟨h', sv', wv', r1, r2, r3, r4, r5, r6⟩ := lsy_loop hC hr h0 rd q (p ++ [y]) S W h sv wv (by rw [hp]; simp) hx hf hfl os ow ap (by simp; omega) (by simp; omega)
      rw [symsOf, if_neg c, wtsOf, if_neg c]
      rw [n2] at r2
      refine ⟨h', sv', wv', Lp_next ?_ r1, r2, r3, r4, by omega, r6⟩
      rw [n1]
      clear r1 r2 r3 r4 os ow hx rd a1 a2 hr ap
      simp (disch := omega) only [go_sem, abin_shl, abin_shr, Nat.reduceEqDiff, reduceIte, Nat.reduceAdd, Nat.reduceMul, Nat.reduceLT, Nat.reduceLeDiff, Int.reduceBEq, Int.reduceBNe, Int.reduceLT, Int.reduceLE, Int.reduceEq, qqC, AOp.loud, AOp.births, Int.reduceAdd, Int.reduceSub, Int.reduceMul, Int.reduceNeg, Int.reduceToNat, AP.f30L3, ln, b1, b2]
def setAll : List Int → List Int → List Int → List Int
  | s :: ss, d :: ds, o => setAll ss ds (o.set s.toNat d)
  | _, _, o => o
theorem setAll_len : ∀ (ss ds o : List Int), (setAll ss ds o).length = o.length
  | [], _, o => by simp [setAll]
  | s :: ss, [], o => by simp [setAll]
  | s :: ss, d :: ds, o => by rw [setAll, setAll_len ss ds, List.length_set]
def maxL : List Int → Int → Int
  | [], m => m
  | d :: ds, m => maxL ds (maxI m d)
theorem Ext.set_out {hb h : H} {o : Nat} (x : Ext hb h) (hn : hb.get o = none) (c : List AV) : Ext hb (h.set o c) := fun i d q => by
  have : i ≠ o := fun e => by rw [e, hn] at q; cases q
  rw [set_miss this, x i d q]
theorem lset_loop {mv wv dv sv : AV} {S D : List Int} {n oid : Nat} (hS : S.length < 1000) (hDS : D.length = S.length) (hn : n < 1000) (hr : ∀ s ∈ S, 0 ≤ s ∧ s < n) (hb : H) (rds : Rd hb sv (ints S)) (rdd : Rd hb dv (ints D)) (hno : hb.get oid = none) : ∀ (q p s1 s2 : List Int) (O : List Int) (m : Int) (h : H), D = p ++ q → S = s1 ++ s2 → s1.length = p.length → Ext hb h → O.length = n → h.get oid = some (ints O) → h.floor ≤ oid → (∀ d ∈ q, 0 ≤ d ∧ d < 1000) → 0 ≤ m →
    ∃ h', Lp AP.A [1, 6, 7, 9, 10, 11, 12] AP.f30L1 [(1, mv), (6, sv), (7, wv), (9, .sobj oid 0 n 1), (10, dv), (11, .int .i64 m), (12, .int .i64 p.length)] h = some (.exit 4, [(1, mv), (6, sv), (7, wv), (9, .sobj oid 0 n 1), (10, dv), (11, .int .i64 (maxL q m)), (12, .int .i64 D.length), (103, .bool false)], h') ∧ h'.get oid = some (ints (setAll s2 q O)) ∧ h'.floor = h.floor ∧ h'.next = h.next ∧ (∀ i, i ≠ oid → h'.get i = h.get i)
  | [], p, s1, s2, O, m, h, hp, hs, hl, hx, hO, go, hfo, hd, hm => by
    rw [List.append_nil] at hp; subst hp
    have ln := rdd.len
    rw [ints_length] at ln
    simp only [I] at ln
    have e : setAll s2 [] O = O := by cases s2 <;> rfl
    rw [e]
    refine ⟨h, Lp_exit ?_, go, rfl, rfl, fun _ _ => rfl⟩
    rw [maxL]
    simp (disch := omega) only [go_sem, abin_shl, abin_shr, Nat.reduceEqDiff, reduceIte, Nat.reduceAdd, Nat.reduceMul, Nat.reduceLT, Nat.reduceLeDiff, Int.reduceBEq, Int.reduceBNe, Int.reduceLT, Int.reduceLE, Int.reduceEq, qqC, AOp.loud, AOp.births, Int.reduceAdd, Int.reduceSub, Int.reduceMul, Int.reduceNeg, Int.reduceToNat, AP.f30L1, ln]
  | d :: q, p, s1, s2, O, m, h, hp, hs, hl, hx, hO, go, hfo, hd, hm => by
    have ln := rdd.len
    rw [ints_length] at ln
    simp only [I] at ln
    have hDl : D.length = p.length + (q.length + 1) := by rw [hp]; simp
    have hSl : S.length = s1.length + s2.length := by rw [hs]; simp
    obtain ⟨s, s2, rfl⟩ : ∃ s r, s2 = s :: r := by
      cases s2 with
      | nil => simp at hSl; omega
      | cons s r => exact ⟨s, r, rfl⟩
    have dr := hd d (by simp)
    have hs' : S[p.length]? = some s := by rw [hs, ← hl]; simp
    have sr := hr s (List.mem_of_getElem? hs')
    obtain ⟨sn, rfl⟩ := Int.eq_ofNat_of_zero_le sr.1
    obtain ⟨as, a1, a2⟩ := rds.ints_at
    obtain ⟨ad, d1, d2⟩ := rdd.ints_at
    have b1 := a1 p.length ⟨by omega, by omega⟩
    have b2 := a2 h hx p.length _ hs'
    have c1 := d1 p.length ⟨by omega, by omega⟩
    have c2 := d2 h hx p.length d (by rw [hp]; simp)
    have lO : (ints O).length = n := by rw [ints_length, hO]
    have es := ints_set O sn d
    have tsn : ((sn : Nat) : Int).toNat = sn := by omega
    have fr' : ∀ i, i ≠ oid → (h.set oid (ints (O.set sn d))).get i = h.get i := fun i hi => set_miss hi
    have hx2 := hx.set_out hno (ints (O.set sn d))
    have gO : (h.set oid (ints (O.set sn d))).get oid = some (ints (O.set sn d)) := by rw [set_hit rfl, go]; rfl
    obtain ⟨h', k1, k2, k3, k4, k5⟩ := lset_loop hS hDS hn hr hb rds rdd hno q (p ++ [d]) (s1 ++ [(sn : Int)]) s2 (O.set sn d) (maxI m d) (h.set oid (ints (O.set sn d))) (by rw [hp]; simp) (by rw [hs]; simp) (by simp [hl]) hx2 (by rw [List.length_set, hO]) gO (by simpa using hfo) (fun e he => hd e (by simp [he])) (by unfold maxI; split <;> omega)
    have b1' : aiadr 1 dv (.int .i64 p.length) = some (ad p.length) := c1
    have c3 : aload false 1 (ad p.length) (h.set oid (ints (O.set sn d))) = some (.int .i64 d) := d2 _ hx2 p.length d (by rw [hp]; simp)
    have n1 : (((p ++ [d]).length : Nat) : Int) = (p.length : Int) + 1 := by simp
    rw [setAll, tsn, maxL]
    refine ⟨h', Lp_next ?_ k1, k2, by rw [k3]; simp, by rw [k4]; simp, fun i hi => (k5 i hi).trans (fr' i hi)⟩
    rw [n1]
    have snn : sn < n := by omega
    clear k1 k2 k3 k4 k5 fr' hx hx2 rds rdd a1 a2 d1 d2 hd hr hs hp hs'
    generalize ints (O.set sn d) = O2 at *
    generalize ints O = O1 at *
    simp (disch := omega) only [go_sem, abin_shl, abin_shr, Nat.reduceEqDiff, reduceIte, Nat.reduceAdd, Nat.reduceMul, Nat.reduceLT, Nat.reduceLeDiff, Int.reduceBEq, Int.reduceBNe, Int.reduceLT, Int.reduceLE, Int.reduceEq, qqC, AOp.loud, AOp.births, Int.reduceAdd, Int.reduceSub, Int.reduceMul, Int.reduceNeg, Int.reduceToNat, AP.f30L1, ln, b1, b2, c1, c2, c3, go, lO, es, op_mx2, amax2_s]
def halfI (w : Int) : Int := (w + 1) / 2
def halve (ws : List Int) : List Int := ws.map halfI
theorem halve_len (ws : List Int) : (halve ws).length = ws.length := by simp [halve]
theorem half_loop {mv sv ov : AV} {n wid : Nat} (hn : n < 1000) : ∀ (q p : List Int) (h : H), p.length + q.length = n → (∀ y ∈ q, 0 ≤ y ∧ y < 1000000000000) → h.get wid = some (ints (halve p ++ q)) → h.floor ≤ wid → h.floor ≤ h.next →
    ∃ h', Lp AP.A [1, 6, 7, 9, 13] AP.f30L0 [(1, mv), (6, sv), (7, .sobj wid 0 n 1), (9, ov), (13, .int .i64 p.length)] h = some (.exit 6, [(1, mv), (6, sv), (7, .sobj wid 0 n 1), (9, ov), (13, .int .i64 n), (129, .bool false)], h') ∧ h'.get wid = some (ints (halve (p ++ q))) ∧ h'.floor = h.floor ∧ h'.next = h.next ∧ (∀ i, i ≠ wid → h'.get i = h.get i)
  | [], p, h, hl, hr, hg, hf, hfl => by
    obtain rfl : p.length = n := by simpa using hl
    refine ⟨h, Lp_exit ?_, by simpa using hg, rfl, rfl, fun _ _ => rfl⟩
    simp (disch := omega) only [go_sem, abin_shl, abin_shr, Nat.reduceEqDiff, reduceIte, Nat.reduceAdd, Nat.reduceMul, Nat.reduceLT, Nat.reduceLeDiff, Int.reduceBEq, Int.reduceBNe, Int.reduceLT, Int.reduceLE, Int.reduceEq, qqC, AOp.loud, AOp.births, Int.reduceAdd, Int.reduceSub, Int.reduceMul, Int.reduceNeg, Int.reduceToNat, AP.f30L0]
  | y :: q, p, h, hl, hr, hg, hf, hfl => by
    have yr := hr y (by simp)
    simp only [List.length_cons] at hl
    have n1 : (((p ++ [y]).length : Nat) : Int) = (p.length : Int) + 1 := by simp
    have hp : (halve p).length = p.length := halve_len p
    have ix : (ints (halve p ++ y :: q))[p.length]? = some (.int .i64 y) := ints_get (by rw [List.getElem?_append_right (by omega), hp]; simp)
    have il : (ints (halve p ++ y :: q)).length = n := by rw [ints_length, List.length_append, hp, List.length_cons]; omega
    have st : (ints (halve p ++ y :: q)).set p.length (.int .i64 (halfI y)) = ints (halve (p ++ [y]) ++ q) := by
      rw [ints_set, List.set_append_right _ _ (by omega), hp, Nat.sub_self]
      simp [halve]
    have q1 : abin .quo (.int .i64 (y + 1)) (.int .i64 2) = some (.int .i64 (halfI y)) := by
      rw [abin_quo _ _ _ (by omega), Int.tdiv_eq_ediv_of_nonneg (by omega), wi (by omega)]; rfl
    have g2 : (h.set wid (ints (halve (p ++ [y]) ++ q))).get wid = some (ints (halve (p ++ [y]) ++ q)) := by rw [set_hit rfl, hg]; rfl
    obtain ⟨h', k1, k2, k3, k4, k5⟩ := half_loop (mv := mv) (sv := sv) (ov := ov) hn q (p ++ [y]) (h.set wid (ints (halve (p ++ [y]) ++ q))) (by simp; omega) (fun e he => hr e (by simp [he])) g2 (by simpa using hf) (by simpa using hfl)
    refine ⟨h', Lp_next ?_ k1, by rw [k2]; simp, by rw [k3]; simp, by rw [k4]; simp, fun i hi => by rw [k5 i hi, set_miss hi]⟩
    rw [n1]
    clear k1 k2 k3 k4 k5 g2 hr
    generalize ints (halve p ++ y :: q) = A at *
    generalize ints (halve (p ++ [y]) ++ q) = B at *
    simp (disch := omega) only [go_sem, abin_shl, abin_shr, Nat.reduceEqDiff, reduceIte, Nat.reduceAdd, Nat.reduceMul, Nat.reduceLT, Nat.reduceLeDiff, Int.reduceBEq, Int.reduceBNe, Int.reduceLT, Int.reduceLE, Int.reduceEq, qqC, AOp.loud, AOp.births, Int.reduceAdd, Int.reduceSub, Int.reduceMul, Int.reduceNeg, Int.reduceToNat, AP.f30L0, ix, il, st, q1, hg]
def okDep (ws : List Int) : Prop := ws = [] ∨ (1 ≤ ws.length ∧ ws.length ≤ 288 ∧ (∀ k, k < ws.length - 1 → (FS.merN k (fs0 ws)).ok) ∧ upOk (FS.merN (ws.length - 1) (fs0 ws)).U ∧ (FS.merN (ws.length - 1) (fs0 ws)).U.length = (FS.merN (ws.length - 1) (fs0 ws)).W.length)
theorem upsA_le (U : List Int) : ∀ (m : Nat) (j : Int), upsA U m j ≤ m
  | 0, j => Nat.le_refl _
  | m + 1, j => by
    rw [upsA]
    split
    · have := upsA_le U m (U.getD j.toNat (-1)); omega
    · omega
theorem depthsA_rng {ws : List Int} (o : okDep ws) : ∀ d ∈ depthsA ws, 0 ≤ d ∧ d < 1000 := by
  intro d hd
  rcases o with rfl | ⟨h1, h2, _, _, h5⟩
  · simp [depthsA, depA] at hd
  · unfold depthsA depA at hd
    obtain ⟨i, _, rfl⟩ := List.mem_map.1 hd
    have := upsA_le (FS.merN (ws.length - 1) (fs0 ws)).U (FS.merN (ws.length - 1) (fs0 ws)).U.length ((FS.merN (ws.length - 1) (fs0 ws)).U.getD i (-1))
    rw [h5, FS.merN_len] at this
    rw [h5, FS.merN_len]
    have : (fs0 ws).W.length = ws.length := rfl
    omega
theorem depthsA_len (ws : List Int) : (depthsA ws).length = ws.length := depA_len _ _
theorem depths_c' (h : H) (x : AV) (ws : List Int) (rd : Rd h x (ints ws)) (o : okDep ws) : callW AP.A 56 [x] h = some (slN 1 ws.length (ints (depthsA ws)), h) := by
  rcases o with rfl | ⟨h1, h2, h3, h4, h5⟩
  · have ln := rd.len
    simp only [I, ints_length] at ln
    have ln' : alen false x = some (.int .i64 0) := ln
    have l3 : ∀ g : H, Lp AP.A [0, 3, 4] AP.f56L3 [(0, x), (3, .pobj h.next 0), (4, .int .i64 0)] g = some (.exit 0, [(0, x), (3, .pobj h.next 0), (4, .int .i64 0), (17, .bool false)], g) := fun g => by
      refine Lp_exit ?_
      simp (disch := omega) only [go_sem, abin_shl, abin_shr, Nat.reduceEqDiff, reduceIte, Nat.reduceAdd, Nat.reduceMul, Nat.reduceLT, Nat.reduceLeDiff, Int.reduceBEq, Int.reduceBNe, Int.reduceLT, Int.reduceLE, Int.reduceEq, qqC, AOp.loud, AOp.births, Int.reduceAdd, Int.reduceSub, Int.reduceMul, Int.reduceNeg, Int.reduceToNat, AP.f56L3, ln']
    have l2 : ∀ g : H, Lp AP.A [0, 3, 5] AP.f56L2 [(0, x), (3, .pobj h.next 0), (5, .int .i64 1)] g = some (.exit 2, [(0, x), (3, .pobj h.next 0), (5, .int .i64 1), (29, .bool false)], g) := fun g => by
      refine Lp_exit ?_
      simp (disch := omega) only [go_sem, abin_shl, abin_shr, Nat.reduceEqDiff, reduceIte, Nat.reduceAdd, Nat.reduceMul, Nat.reduceLT, Nat.reduceLeDiff, Int.reduceBEq, Int.reduceBNe, Int.reduceLT, Int.reduceLE, Int.reduceEq, qqC, AOp.loud, AOp.births, Int.reduceAdd, Int.reduceSub, Int.reduceMul, Int.reduceNeg, Int.reduceToNat, AP.f56L2, ln']
    have l1 : ∀ g : H, Lp AP.A [0, 3, 8, 9] AP.f56L1 [(0, x), (3, .pobj h.next 0), (8, .nils), (9, .int .i64 0)] g = some (.exit 4, [(0, x), (3, .pobj h.next 0), (8, .nils), (9, .int .i64 0), (78, .bool false)], g) := fun g => by
      refine Lp_exit ?_
      simp (disch := omega) only [go_sem, abin_shl, abin_shr, Nat.reduceEqDiff, reduceIte, Nat.reduceAdd, Nat.reduceMul, Nat.reduceLT, Nat.reduceLeDiff, Int.reduceBEq, Int.reduceBNe, Int.reduceLT, Int.reduceLE, Int.reduceEq, qqC, AOp.loud, AOp.births, Int.reduceAdd, Int.reduceSub, Int.reduceMul, Int.reduceNeg, Int.reduceToNat, AP.f56L1, ln']
    have hnx : h.fence.next = h.next := rfl
    refine pure_c (fn := AP.f56) (h2 := h.fence.alloc [.nils, .nils, .nils]) (e := [(2, .nils)]) (vs := [.nils]) rfl rfl rfl ?_ rfl rfl
    simp (disch := omega) only [go_sem, abin_shl, abin_shr, Nat.reduceEqDiff, reduceIte, Nat.reduceAdd, Nat.reduceMul, Nat.reduceLT, Nat.reduceLeDiff, Int.reduceBEq, Int.reduceBNe, Int.reduceLT, Int.reduceLE, Int.reduceEq, qqC, AOp.loud, AOp.births, Int.reduceAdd, Int.reduceSub, Int.reduceMul, Int.reduceNeg, Int.reduceToNat, AP.f56, hnx, evC_loop, l1, l2, l3]
  · exact depths_c h x ws h1 (by omega) rd h3 h4 h5
def lensR (S : List Int) : Nat → List Int → List Int → List Int
  | 0, W, O => setAll S (depthsA W) O
  | K + 1, W, O => lensR S K (halve W) (setAll S (depthsA W) O)
theorem Own_ne {h : H} {v : AV} {k : Nat} {cs : List AV} (o : OwnN 1 h v k cs) (hk : 0 < k) : ∃ id, v = .sobj id 0 k 1 ∧ h.get id = some cs ∧ h.floor ≤ id := by
  rcases o.2 with ⟨_, q⟩ | ⟨id, q1, q2, q3, _⟩
  · omega
  · exact ⟨id, q1, q2, q3⟩
theorem lround {S W O : List Int} {h : H} {sv wv : AV} {n oid : Nat} {most : Int} (hW : W.length = S.length) (hS : S.length ≤ 288) (hn : n ≤ 288) (hO : O.length = n) (hr : ∀ s ∈ S, 0 ≤ s ∧ s < n) (hfl : h.floor ≤ h.next) (os : OwnN 1 h sv S.length (ints S)) (ow : OwnN 1 h wv W.length (ints W)) (go : h.get oid = some (ints O)) (hfo : h.floor ≤ oid) (ap : Apart sv wv) (ns : sv.id? ≠ some oid) (nw : wv.id? ≠ some oid) (o : okDep W) (hm : 1 ≤ most ∧ most ≤ 15) (wr : ∀ y ∈ W, 0 ≤ y ∧ y < 1000000000000) :
    (maxL (depthsA W) 0 ≤ most → ∃ h', evC (callW AP.A) loopW AP.f30L2 (restr [(1, .int .i64 most), (6, sv), (7, wv), (9, .sobj oid 0 n 1)] [1, 6, 7, 9]) h = some (.ret, [(4, .sobj oid 0 n 1), (5, .int .i64 0)], h') ∧ h'.get oid = some (ints (setAll S (depthsA W) O)) ∧ h'.floor = h.floor) ∧
    (most < maxL (depthsA W) 0 → W ≠ [] → ∃ h', evC (callW AP.A) loopW AP.f30L2 (restr [(1, .int .i64 most), (6, sv), (7, wv), (9, .sobj oid 0 n 1)] [1, 6, 7, 9]) h = some (.normal, [(1, .int .i64 most), (6, sv), (7, wv), (9, .sobj oid 0 n 1)], h') ∧ h'.get oid = some (ints (setAll S (depthsA W) O)) ∧ OwnN 1 h' sv S.length (ints S) ∧ OwnN 1 h' wv (halve W).length (ints (halve W)) ∧ h'.floor = h.floor ∧ h'.floor ≤ h'.next) := by
  have k1 := depths_c' h wv W ow.rdi o
  have dl := depthsA_len W
  have dr := depthsA_rng o
  obtain ⟨D, eD⟩ : ∃ D, D = depthsA W := ⟨_, rfl⟩
  rw [← eD] at k1 dl dr ⊢
  obtain ⟨hb, ehb⟩ : ∃ g, g = h.del oid := ⟨_, rfl⟩
  have hbn : hb.get oid = none := by rw [ehb, H.get_del, if_pos rfl]
  have ext : Ext hb h := fun i c q => by
    rw [ehb, H.get_del] at q
    split at q
    · cases q
    · exact q
  have hbk : ∀ i, i ≠ oid → hb.get i = h.get i := fun i hi => by rw [ehb, H.get_del, if_neg hi]
  have rs : Rd hb sv (ints S) := (os.mono (by rw [ehb]; simp) fun i q => hbk i (fun e => ns (by rw [q, e]))).rdi
  have rdd : Rd hb (slN 1 W.length (ints D)) (ints D) := by
    have := rd_slN (n := 1) (k := D.length) (h := hb) (cs := ints D) (by rw [ints_length]; omega)
    rw [dl] at this
    exact ⟨by have := this.1; rw [ints_length, dl]; exact this, this.2.2⟩
  obtain ⟨h1, L1, g1, f1, n1, t1⟩ := lset_loop (mv := .int .i64 most) (wv := wv) (O := O) (oid := oid) (h := h) (s1 := []) (p := []) (q := D) (s2 := S) (m := 0) (by omega) (dl.trans hW) (by omega) hr hb rs rdd hbn rfl rfl rfl ext hO go hfo dr (by omega)
  have L1' : Lp AP.A [1, 6, 7, 9, 10, 11, 12] AP.f30L1 [(1, .int .i64 most), (6, sv), (7, wv), (9, .sobj oid 0 n 1), (10, slN 1 W.length (ints D)), (11, .int .i64 0), (12, .int .i64 0)] h = _ := L1
  constructor
  · intro c
    refine ⟨h1, ?_, g1, f1⟩
    clear L1 rs rdd os ow dr hr wr
    generalize slN 1 W.length (ints D) = dv at *
    generalize maxL D 0 = M at *
    simp (disch := omega) only [go_sem, abin_shl, abin_shr, Nat.reduceEqDiff, reduceIte, Nat.reduceAdd, Nat.reduceMul, Nat.reduceLT, Nat.reduceLeDiff, Int.reduceBEq, Int.reduceBNe, Int.reduceLT, Int.reduceLE, Int.reduceEq, qqC, AOp.loud, AOp.births, Int.reduceAdd, Int.reduceSub, Int.reduceMul, Int.reduceNeg, Int.reduceToNat, AP.f30L2, k1, evC_loop, L1', decide_eq_true c]
  · intro c hne
    have hWp : 0 < W.length := List.length_pos_iff.2 hne
    obtain ⟨wid, q1, q2, q3⟩ := Own_ne ow hWp
    have hwo : wid ≠ oid := fun e => nw (by rw [q1, e]; rfl)
    have hsw : ∀ j, sv.id? = some j → j ≠ wid := fun j hj e => ap j hj (by rw [q1, e]; rfl)
    obtain ⟨h2, L2, g2, f2, n2, t2⟩ := half_loop (mv := .int .i64 most) (sv := sv) (ov := .sobj oid 0 n 1) (n := W.length) (wid := wid) (by omega) W [] h1 (by simp) wr (by rw [t1 wid hwo, q2]; rfl) (by omega) (by omega)
    have L2' : Lp AP.A [1, 6, 7, 9, 13] AP.f30L0 [(1, .int .i64 most), (6, sv), (7, .sobj wid 0 W.length 1), (9, .sobj oid 0 n 1), (13, .int .i64 0)] h1 = _ := L2
    have os2 : OwnN 1 h2 sv S.length (ints S) := os.mono (by omega) fun j hj => by
      rw [t2 j (hsw j hj), t1 j (fun e => ns (by rw [hj, e]))]
    have ow2 : OwnN 1 h2 wv (halve W).length (ints (halve W)) := by
      rw [halve_len]
      exact ⟨by rw [ints_length, halve_len]; omega, .inr ⟨wid, q1, by simpa using g2, by omega, hWp⟩⟩
    refine ⟨h2, ?_, by rw [t2 oid hwo.symm, g1], os2, ow2, by omega, by omega⟩
    clear L1 L2 rs rdd os ow os2 ow2 dr hr wr
    rw [q1] at L1' k1 ⊢
    have c' : ¬ maxL D 0 ≤ most := by omega
    generalize slN 1 W.length (ints D) = dv at *
    generalize maxL D 0 = M at *
    simp (disch := omega) only [go_sem, abin_shl, abin_shr, Nat.reduceEqDiff, reduceIte, Nat.reduceAdd, Nat.reduceMul, Nat.reduceLT, Nat.reduceLeDiff, Int.reduceBEq, Int.reduceBNe, Int.reduceLT, Int.reduceLE, Int.reduceEq, qqC, AOp.loud, AOp.births, Int.reduceAdd, Int.reduceSub, Int.reduceMul, Int.reduceNeg, Int.reduceToNat, AP.f30L2, k1, evC_loop, L1', L2', decide_eq_false c']
inductive Rounds (most : Int) : Nat → List Int → Prop
  | last {W : List Int} : okDep W → maxL (depthsA W) 0 ≤ most → Rounds most 0 W
  | more {K : Nat} {W : List Int} : okDep W → most < maxL (depthsA W) 0 → W ≠ [] → Rounds most K (halve W) → Rounds most (K + 1) W
theorem halve_rng {W : List Int} (wr : ∀ y ∈ W, 0 ≤ y ∧ y < 1000000000000) : ∀ y ∈ halve W, 0 ≤ y ∧ y < 1000000000000 := by
  intro y hy
  obtain ⟨z, hz, rfl⟩ := List.mem_map.1 hy
  have := wr z hz
  unfold halfI; omega
theorem lrounds {S : List Int} {sv wv : AV} {n oid : Nat} {most : Int} (hS : S.length ≤ 288) (hn : n ≤ 288) (hr : ∀ s ∈ S, 0 ≤ s ∧ s < n) (ap : Apart sv wv) (ns : sv.id? ≠ some oid) (nw : wv.id? ≠ some oid) (hm : 1 ≤ most ∧ most ≤ 15) : ∀ (K : Nat) (W O : List Int) (h : H), Rounds most K W → W.length = S.length → O.length = n → h.floor ≤ h.next → OwnN 1 h sv S.length (ints S) → OwnN 1 h wv W.length (ints W) → h.get oid = some (ints O) → h.floor ≤ oid → (∀ y ∈ W, 0 ≤ y ∧ y < 1000000000000) →
    ∃ h', Lp AP.A [1, 6, 7, 9] AP.f30L2 [(1, .int .i64 most), (6, sv), (7, wv), (9, .sobj oid 0 n 1)] h = some (.ret, [(4, .sobj oid 0 n 1), (5, .int .i64 0)], h') ∧ h'.get oid = some (ints (lensR S K W O)) ∧ h'.floor = h.floor
  | 0, W, O, h, r, hW, hO, hfl, os, ow, go, hfo, wr => by
    cases r with
    | last o c =>
      obtain ⟨h', k, g, f⟩ := (lround hW hS hn hO hr hfl os ow go hfo ap ns nw o hm wr).1 c
      exact ⟨h', Lp_ret k, g, f⟩
  | K + 1, W, O, h, r, hW, hO, hfl, os, ow, go, hfo, wr => by
    cases r with
    | more o c hne r =>
      obtain ⟨h1, k, g, os1, ow1, f, fl⟩ := (lround hW hS hn hO hr hfl os ow go hfo ap ns nw o hm wr).2 c hne
      obtain ⟨h', k2, g2, f2⟩ := lrounds hS hn hr ap ns nw hm K (halve W) _ h1 r (by rw [halve_len, hW]) (by rw [setAll_len, hO]) fl os1 ow1 g (by omega) (halve_rng wr)
      exact ⟨h', Lp_next k k2, g2, by omega⟩
def padS (S : List Int) : List Int := if S.length = 1 then (if 0 < S.getD 0 0 then [0, S.getD 0 0] else S ++ [1]) else S
def padW (S W : List Int) : List Int := if S.length = 1 then (if 0 < S.getD 0 0 then [1, W.getD 0 0] else W ++ [1]) else W
theorem pad_len {S W : List Int} (h : W.length = S.length) : (padW S W).length = (padS S).length := by
  unfold padW padS
  split
  · split
    · rfl
    · simp [h]
  · exact h
theorem lpad {x : AV} {most : Int} {S W : List Int} {h : H} {sv wv : AV} (hl : W.length = S.length) (hS : S.length ≤ 288) (hfl : h.floor ≤ h.next) (os : OwnN 1 h sv S.length (ints S)) (ow : OwnN 1 h wv W.length (ints W)) (ap : Apart sv wv) :
    ∃ h' sv' wv', evC (callW AP.A) loopW (at_ 4 AP.f30.body) [(0, x), (1, .int .i64 most), (6, sv), (7, wv)] h = some (.normal, [(0, x), (1, .int .i64 most), (6, sv'), (7, wv')], h') ∧ OwnN 1 h' sv' (padS S).length (ints (padS S)) ∧ OwnN 1 h' wv' (padW S W).length (ints (padW S W)) ∧ Apart sv' wv' ∧ h'.floor = h.floor ∧ h'.floor ≤ h'.next := by
  have ln := os.rd.len
  by_cases c1 : S.length = 1
  · obtain ⟨s0, rfl⟩ : ∃ s, S = [s] := by
      match S, c1 with
      | [s], _ => exact ⟨s, rfl⟩
    obtain ⟨w0, rfl⟩ : ∃ s, W = [s] := by
      match W, hl with
      | [s], _ => exact ⟨s, rfl⟩
    obtain ⟨sid, q1, q2, q3⟩ := Own_ne os (by simp)
    obtain ⟨wid, p1, p2, p3⟩ := Own_ne ow (by simp)
    simp only [List.length_cons, List.length_nil, ints, List.map_cons, List.map_nil, I] at q1 q2 p1 p2
    subst q1
    subst p1
    by_cases c2 : 0 < s0
    · have e1 : padS [s0] = [0, s0] := by simp [padS, c2]
      have e2 : padW [s0] [w0] = [1, w0] := by simp [padW, c2]
      rw [e1, e2]
      refine ⟨(h.alloc [.int .i64 0, .int .i64 s0]).alloc [.int .i64 1, .int .i64 w0], .sobj h.next 0 2 1, .sobj (h.next + 1) 0 2 1, ?_, ⟨rfl, .inr ⟨h.next, rfl, ?_, by simpa using hfl, by simp⟩⟩, ⟨rfl, .inr ⟨h.next + 1, rfl, ?_, by simp; omega, by simp⟩⟩, ?_, by simp, by simp; omega⟩
      · have w2 := h.lt _ _ p2
        simp (disch := first | omega | (simp only [qqH, List.length_cons, List.length_nil, Nat.zero_add, Nat.reduceAdd]; first | done | omega | fail) | (simp (disch := first | omega | (simp only [qqH, List.length_cons, List.length_nil, Nat.zero_add, Nat.reduceAdd]; first | done | omega | fail) | fail) only [qqH, qqG, Option.map_some, List.length_cons, List.length_nil, Nat.zero_add, Nat.reduceAdd]; done) | fail) only [go_sem, abin_shl, abin_shr, Nat.reduceEqDiff, reduceIte, Nat.reduceAdd, Nat.reduceMul, Nat.reduceLT, Nat.reduceLeDiff, Int.reduceBEq, Int.reduceBNe, Int.reduceLT, Int.reduceLE, Int.reduceEq, qqC, qqD, AOp.loud, AOp.births, Int.reduceAdd, Int.reduceSub, Int.reduceMul, Int.reduceNeg, Int.reduceToNat, AP.f30, q2, p2, decide_eq_true c2]
      · rw [get_miss (by simp), get_hit rfl]; rfl
      · rw [get_hit (by simp)]; rfl
      · intro j hj e; have := Option.some.inj hj; have := Option.some.inj e; omega
    · have e1 : padS [s0] = [s0, 1] := by simp [padS, c2]
      have e2 : padW [s0] [w0] = [w0, 1] := by simp [padW, c2]
      rw [e1, e2]
      obtain ⟨v1, h1, a1, a2, a3, a4, a5, a6⟩ := os.push hfl (z := 8) (m := 1) (by omega) (by omega) [.int .i64 1] rfl rfl (roomy_t (by simp))
      have ow1 : OwnN 1 h1 (.sobj wid 0 1 1) 1 (ints [w0]) := ow.mono a3 fun j hj => a5 j (fun e => ap j e hj) (ow.lt hj).2
      obtain ⟨v2, h2, b1, b2, b3, b4, b5, b6⟩ := ow1.push (by omega) (z := 8) (m := 1) (by omega) (by omega) [.int .i64 1] rfl rfl (roomy_t (by simp))
      refine ⟨h2, v1, v2, ?_, ?_, b2, fun j hj e => by rw [a6] at hj; rw [b6] at e; have := Option.some.inj hj; have := Option.some.inj e; omega, by omega, by omega⟩
      · clear os ow ow1 ap a2 b2 a5 b5
        simp only [List.length_cons, List.length_nil] at a1 b1 ln
        simp (disch := omega) only [go_sem, abin_shl, abin_shr, Nat.reduceEqDiff, reduceIte, Nat.reduceAdd, Nat.reduceMul, Nat.reduceLT, Nat.reduceLeDiff, Int.reduceBEq, Int.reduceBNe, Int.reduceLT, Int.reduceLE, Int.reduceEq, qqC, AOp.loud, AOp.births, Int.reduceAdd, Int.reduceSub, Int.reduceMul, Int.reduceNeg, Int.reduceToNat, AP.f30, at_z, at_s, ln, q2, p2, a1, b1, decide_eq_false c2]
      · exact a2.mono b3 fun j hj => b5 j (fun e => by rw [a6] at hj; have := Option.some.inj hj; have := Option.some.inj e; have := h.lt _ _ p2; omega) (a2.lt hj).2
  · have e1 : padS S = S := by simp [padS, c1]
    have e2 : padW S W = W := by simp [padW, c1]
    rw [e1, e2]
    refine ⟨h, sv, wv, ?_, os, ow, ap, rfl, hfl⟩
    have c1' : ¬ ((S.length : Int) = 1) := by omega
    clear os ow ap
    simp (disch := omega) only [go_sem, abin_shl, abin_shr, Nat.reduceEqDiff, reduceIte, Nat.reduceAdd, Nat.reduceMul, Nat.reduceLT, Nat.reduceLeDiff, Int.reduceBEq, Int.reduceBNe, Int.reduceLT, Int.reduceLE, Int.reduceEq, qqC, AOp.loud, AOp.births, Int.reduceAdd, Int.reduceSub, Int.reduceMul, Int.reduceNeg, Int.reduceToNat, AP.f30, at_z, at_s, ln]
theorem symsOf_len : ∀ (i : Nat) (C : List Int), (symsOf i C).length = (wtsOf C).length
  | i, [] => rfl
  | i, c :: r => by
    rw [symsOf, wtsOf]
    split
    · simp [symsOf_len (i + 1) r]
    · exact symsOf_len (i + 1) r
theorem symsOf_len_le : ∀ (i : Nat) (C : List Int), (symsOf i C).length ≤ C.length
  | i, [] => Nat.le_refl _
  | i, c :: r => by
    have := symsOf_len_le (i + 1) r
    rw [symsOf]
    split <;> simp <;> omega
theorem symsOf_rng : ∀ (i : Nat) (C : List Int), ∀ s ∈ symsOf i C, (i : Int) ≤ s ∧ s < i + C.length
  | i, [], s, h => by simp [symsOf] at h
  | i, c :: r, s, h => by
    rw [symsOf] at h
    split at h
    · rcases List.mem_cons.1 h with q | q
      · subst q; simp; omega
      · have := symsOf_rng (i + 1) r s q; simp only [List.length_cons]; omega
    · have := symsOf_rng (i + 1) r s h; simp only [List.length_cons]; omega
theorem wtsOf_mem : ∀ (C : List Int), ∀ y ∈ wtsOf C, y ∈ C ∧ 0 < y
  | [], y, h => by simp [wtsOf] at h
  | c :: r, y, h => by
    rw [wtsOf] at h
    split at h
    · rcases List.mem_cons.1 h with q | q
      · subst q; exact ⟨by simp, by assumption⟩
      · have := wtsOf_mem r y q; exact ⟨by simp [this.1], this.2⟩
    · have := wtsOf_mem r y h; exact ⟨by simp [this.1], this.2⟩
theorem padS_rng {S : List Int} {n : Nat} (hn : 2 ≤ n) (h : ∀ s ∈ S, 0 ≤ s ∧ s < n) : ∀ s ∈ padS S, 0 ≤ s ∧ s < n := by
  intro s hs
  unfold padS at hs
  split at hs
  · split at hs
    · rename_i h1 h2
      rcases List.mem_cons.1 hs with q | q
      · subst q; omega
      · simp at q
        subst q
        match S, h1 with
        | [t], _ => exact h t (by simp)
    · rcases List.mem_append.1 hs with q | q
      · exact h s q
      · simp at q; subst q; omega
  · exact h s hs
theorem padW_rng {S W : List Int} (hl : W.length = S.length) (h : ∀ y ∈ W, 0 ≤ y ∧ y < 1000000000000) : ∀ y ∈ padW S W, 0 ≤ y ∧ y < 1000000000000 := by
  intro s hs
  unfold padW at hs
  split at hs
  · split at hs
    · rename_i h1 h2
      rcases List.mem_cons.1 hs with q | q
      · subst q; omega
      · simp at q
        subst q
        rw [← hl] at h1
        match W, h1 with
        | [t], _ => exact h t (by simp)
    · rcases List.mem_append.1 hs with q | q
      · exact h s q
      · simp at q; subst q; omega
  · exact h s hs
theorem padS_len_le {S : List Int} {n : Nat} (hn : 2 ≤ n) (h : S.length ≤ n) : (padS S).length ≤ n := by
  unfold padS
  split
  · split
    · simpa using hn
    · simp; omega
  · exact h
theorem replM_ints (n : Nat) : replM n [.int .i64 0] = ints (List.replicate n 0) := by
  unfold replM; rw [repl_1]; simp [ints, I]
def lensS (C : List Int) : List Int := padS (symsOf 0 C)
def lensW (C : List Int) : List Int := padW (symsOf 0 C) (wtsOf C)
theorem lensWS (C : List Int) : (lensW C).length = (lensS C).length := pad_len (symsOf_len 0 C).symm
def lensO (C : List Int) (K : Nat) : List Int := lensR (lensS C) K (lensW C) (List.replicate C.length 0)
theorem lengths2_c (h : H) (x : AV) (C : List Int) (m K : Nat) (h2 : 2 ≤ C.length) (hn : C.length ≤ 288) (rd : Rd h x (ints C)) (hm : 1 ≤ m ∧ m ≤ 15) (hr : ∀ y ∈ C, 0 ≤ y ∧ y ≤ 2147483647) (hs : (lensS C).length ≤ 2 ^ m) (ro : Rounds m K (lensW C)) :
    callW AP.A 30 [x, .int .i64 m] h = some (.tup [slN 1 C.length (ints (lensO C K)), .int .i64 0], h) := by
  have rd1 : Rd h.fence x (ints C) := rd.mono (get_fence_mono h)
  have ln := rd.len
  rw [ints_length] at ln
  simp only [I] at ln
  obtain ⟨h1, sv, wv, L1, os, ow, ap, f1, fl1⟩ := lsy_loop (mv := .int .i64 m) (by omega) hr h.fence rd1 C [] [] [] h.fence .nils .nils rfl (Ext.refl _) rfl (by simp) OwnN.nil OwnN.nil (fun j hj => by simp [AV.id?] at hj) (by simp) (by simp)
  have L1' : Lp AP.A [0, 1, 6, 7, 8] AP.f30L3 [(0, x), (1, .int .i64 m), (6, .nils), (7, .nils), (8, .int .i64 0)] h.fence = _ := L1
  simp only [List.nil_append, List.length_nil] at os ow
  have sl := symsOf_len_le 0 C
  obtain ⟨h2', sv2, wv2, P, os2, ow2, ap2, f2, fl2⟩ := lpad (x := x) (most := m) (symsOf_len 0 C).symm (by omega) fl1 os ow ap
  change OwnN 1 h2' sv2 (lensS C).length (ints (lensS C)) at os2
  change OwnN 1 h2' wv2 (lensW C).length (ints (lensW C)) at ow2
  have hSl : (lensS C).length ≤ C.length := padS_len_le h2 sl
  have hSr : ∀ s ∈ lensS C, 0 ≤ s ∧ s < C.length := padS_rng h2 fun s hs => by have := symsOf_rng 0 C s hs; omega
  have hWr : ∀ y ∈ lensW C, 0 ≤ y ∧ y < 1000000000000 := padW_rng (symsOf_len 0 C).symm fun y hy => by
    have := hr y (wtsOf_mem C y hy).1; omega
  have hWS := lensWS C
  obtain ⟨h3, eh3⟩ : ∃ g, g = h2'.alloc (replM C.length [.int .i64 0]) := ⟨_, rfl⟩
  have g3 : h3.get h2'.next = some (ints (List.replicate C.length 0)) := by rw [eh3, get_hit rfl, replM_ints]
  have os3 : OwnN 1 h3 sv2 (lensS C).length (ints (lensS C)) := os2.mono (by rw [eh3]; simp) fun j hj => by rw [eh3, get_miss (by have := (os2.lt hj).2; omega)]
  have ow3 : OwnN 1 h3 wv2 (lensW C).length (ints (lensW C)) := ow2.mono (by rw [eh3]; simp) fun j hj => by rw [eh3, get_miss (by have := (ow2.lt hj).2; omega)]
  have fl3 : h3.floor = h.next := by rw [eh3]; simp [f2, f1]
  obtain ⟨h4, L4, g4, f4⟩ := lrounds (n := C.length) (oid := h2'.next) (most := m) (by omega) hn hSr ap2 (fun q => by have := (os2.lt q).2; omega) (fun q => by have := (ow2.lt q).2; omega) (by omega) K (lensW C) (List.replicate C.length 0) h3 ro hWS (by simp) (by rw [eh3]; simp; omega) os3 ow3 g3 (by rw [eh3]; simp; omega) hWr
  have s1 : shft .shl .i64 1 (m : Int) = some (.int .i64 ((2 ^ m : Nat) : Int)) := by
    have := shl_i64 (a := 1) (s := m) (by omega) (by
      have : 2 ^ m ≤ 2 ^ 15 := Nat.pow_le_pow_right (by omega) hm.2
      omega)
    rwa [Nat.one_mul] at this
  have lS : alen false sv2 = some (.int .i64 (lensS C).length) := os2.rd.len
  have t5 : evC (callW AP.A) loopW (tl_ 5 AP.f30.body) [(0, x), (1, .int .i64 m), (6, sv2), (7, wv2)] h2' = some (.ret, [(4, .sobj h2'.next 0 C.length 1), (5, .int .i64 0)], h4) := by
    clear os ow os2 ow2 os3 ow3 rd rd1 hSr hWr ro hr L1 P
    generalize 2 ^ m = M at *
    generalize (lensS C).length = sL at *
    simp (disch := omega) only [go_sem, abin_shl, abin_shr, Nat.reduceEqDiff, reduceIte, Nat.reduceAdd, Nat.reduceMul, Nat.reduceLT, Nat.reduceLeDiff, Int.reduceBEq, Int.reduceBNe, Int.reduceLT, Int.reduceLE, Int.reduceEq, qqC, AOp.loud, AOp.births, Int.reduceAdd, Int.reduceSub, Int.reduceMul, Int.reduceNeg, Int.reduceToNat, AP.f30, tl_z, tl_s, lS, s1, ln, ← eh3, evC_loop, L4]
  have lo : (lensO C K).length = C.length := by
    unfold lensO
    have : ∀ (K : Nat) (S W O : List Int), (lensR S K W O).length = O.length := by
      intro K
      induction K with
      | zero => intro S W O; rw [lensR, setAll_len]
      | succ K ih => intro S W O; rw [lensR, ih, setAll_len]
    rw [this]; simp
  have ow4 : OwnN 1 h4 (.sobj h2'.next 0 C.length 1) C.length (ints (lensO C K)) := ⟨by rw [ints_length, lo]; omega, .inr ⟨h2'.next, rfl, g4, by rw [f4, fl3]; have := fl2; rw [f2, f1] at this; simpa using this, by omega⟩⟩
  refine pure_c (fn := AP.f30) (h2 := h4) (e := [(4, .sobj h2'.next 0 C.length 1), (5, .int .i64 0)]) (vs := [.sobj h2'.next 0 C.length 1, .int .i64 0]) rfl rfl rfl ?_ rfl ?_
  · have hb : AP.f30.body = .seq (at_ 0 AP.f30.body) (.seq (at_ 1 AP.f30.body) (.seq (at_ 2 AP.f30.body) (.seq (at_ 3 AP.f30.body) (.seq (at_ 4 AP.f30.body) (tl_ 5 AP.f30.body))))) := rfl
    have a0 : evC (callW AP.A) loopW (at_ 0 AP.f30.body) (params 0 [x, .int .i64 m]) h.fence = some (.normal, [(0, x), (1, .int .i64 m)], h.fence) := by
      simp (disch := omega) only [go_sem, abin_shl, abin_shr, Nat.reduceEqDiff, reduceIte, Nat.reduceAdd, Nat.reduceMul, Nat.reduceLT, Nat.reduceLeDiff, Int.reduceBEq, Int.reduceBNe, Int.reduceLT, Int.reduceLE, Int.reduceEq, qqC, AOp.loud, AOp.births, Int.reduceAdd, Int.reduceSub, Int.reduceMul, Int.reduceNeg, Int.reduceToNat, AP.f30, at_z, at_s]
    have a1 : evC (callW AP.A) loopW (at_ 1 AP.f30.body) [(0, x), (1, .int .i64 m)] h.fence = some (.normal, [(0, x), (1, .int .i64 m)], h.fence) := by
      clear os ow os2 ow2 os3 ow3 rd rd1 hSr hWr ro hr L1 P t5
      simp (disch := omega) only [go_sem, abin_shl, abin_shr, Nat.reduceEqDiff, reduceIte, Nat.reduceAdd, Nat.reduceMul, Nat.reduceLT, Nat.reduceLeDiff, Int.reduceBEq, Int.reduceBNe, Int.reduceLT, Int.reduceLE, Int.reduceEq, qqC, AOp.loud, AOp.births, Int.reduceAdd, Int.reduceSub, Int.reduceMul, Int.reduceNeg, Int.reduceToNat, AP.f30, at_z, at_s, ln]
    have a2 : evC (callW AP.A) loopW (at_ 2 AP.f30.body) [(0, x), (1, .int .i64 m)] h.fence = some (.normal, [(0, x), (1, .int .i64 m), (6, .nils), (7, .nils)], h.fence) := by
      simp (disch := omega) only [go_sem, abin_shl, abin_shr, Nat.reduceEqDiff, reduceIte, Nat.reduceAdd, Nat.reduceMul, Nat.reduceLT, Nat.reduceLeDiff, Int.reduceBEq, Int.reduceBNe, Int.reduceLT, Int.reduceLE, Int.reduceEq, qqC, AOp.loud, AOp.births, Int.reduceAdd, Int.reduceSub, Int.reduceMul, Int.reduceNeg, Int.reduceToNat, AP.f30, at_z, at_s]
    have a3 : evC (callW AP.A) loopW (at_ 3 AP.f30.body) [(0, x), (1, .int .i64 m), (6, .nils), (7, .nils)] h.fence = some (.normal, [(0, x), (1, .int .i64 m), (6, sv), (7, wv)], h1) := by
      simp (disch := omega) only [go_sem, abin_shl, abin_shr, Nat.reduceEqDiff, reduceIte, Nat.reduceAdd, Nat.reduceMul, Nat.reduceLT, Nat.reduceLeDiff, Int.reduceBEq, Int.reduceBNe, Int.reduceLT, Int.reduceLE, Int.reduceEq, qqC, AOp.loud, AOp.births, Int.reduceAdd, Int.reduceSub, Int.reduceMul, Int.reduceNeg, Int.reduceToNat, AP.f30, at_z, at_s, evC_loop, L1']
    rw [hb, C_seq, a0, goS_n, C_seq, a1, goS_n, C_seq, a2, goS_n, C_seq, a3, goS_n, C_seq, P, goS_n, t5]
  · have s1 := ow4.snap_ints (fl := h.next) (m := 13) (t := true) (by omega)
    show (mapO (snap h4.get h.next 15 true) [.sobj h2'.next 0 C.length 1, .int .i64 0]).bind _ = _
    simp only [mapO, s1, Option.bind_some]
    rfl
end Ab
set_option linter.unusedSimpArgs false
set_option linter.unusedVariables false
namespace Ab
open Go
theorem leastF_inv (W : List Int) (F : List Bool) : ∀ (m i : Nat) (a : Int), (a = -1 ∧ (∀ j, j < i → F.getD j false = false)) ∨ (∃ k : Nat, a = k ∧ k < i ∧ F.getD k false = true ∧ ∀ j, j < i → F.getD j false = true → W.getD k 0 ≤ W.getD j 0) →
    (leastF W F m i a = -1 ∧ (∀ j, j < i + m → F.getD j false = false)) ∨ (∃ k : Nat, leastF W F m i a = k ∧ k < i + m ∧ F.getD k false = true ∧ ∀ j, j < i + m → F.getD j false = true → W.getD k 0 ≤ W.getD j 0)
  | 0, i, a, h => by simpa [leastF] using h
  | m + 1, i, a, h => by
    rw [leastF]
    have e : i + (m + 1) = i + 1 + m := by omega
    rw [e]
    refine leastF_inv W F m (i + 1) _ ?_
    by_cases c : F.getD i false = true ∧ (a < 0 ∨ W.getD i 0 < W.getD a.toNat 0)
    · rw [if_pos c]
      refine .inr ⟨i, rfl, by omega, c.1, fun j hj hf => ?_⟩
      by_cases q : j = i
      · subst q; exact Int.le_refl _
      · rcases h with ⟨_, h2⟩ | ⟨k, rfl, h1, h2, h3⟩
        · rw [h2 j (by omega)] at hf; cases hf
        · have := h3 j (by omega) hf
          have tk : ((k : Nat) : Int).toNat = k := by omega
          rw [tk] at c
          have := c.2
          omega
    · rw [if_neg c]
      rcases h with ⟨rfl, h2⟩ | ⟨k, rfl, h1, h2, h3⟩
      · refine .inl ⟨rfl, fun j hj => ?_⟩
        by_cases q : j = i
        · subst q
          cases e : F.getD j false with
          | false => rfl
          | true => exact absurd ⟨e, .inl (by omega)⟩ c
        · exact h2 j (by omega)
      · refine .inr ⟨k, rfl, by omega, h2, fun j hj hf => ?_⟩
        by_cases q : j = i
        · subst q
          have tk : ((k : Nat) : Int).toNat = k := by omega
          rw [tk] at c
          have : ¬ (W.getD j 0 < W.getD k 0) := fun x => c ⟨hf, .inr x⟩
          omega
        · exact h3 j (by omega) hf
theorem least_spec {W : List Int} {F : List Bool} (hl : F.length = W.length) {i : Nat} (hi : F.getD i false = true) : 0 ≤ leastF W F W.length 0 (-1) ∧ leastA W F < W.length ∧ F.getD (leastA W F) false = true ∧ ∀ j, F.getD j false = true → W.getD (leastA W F) 0 ≤ W.getD j 0 := by
  have hiL : ∀ j, F.getD j false = true → j < F.length := by
    intro j hj
    rw [List.getD_eq_getElem?_getD] at hj
    cases e : F[j]? with
    | none => rw [e] at hj; cases hj
    | some b => exact (List.getElem?_eq_some_iff.1 e).1
  rcases leastF_inv W F W.length 0 (-1) (.inl ⟨rfl, fun j hj => by omega⟩) with ⟨_, h2⟩ | ⟨k, h1, h2, h3, h4⟩
  · have := h2 i (by have := hiL i hi; omega)
    rw [hi] at this; cases this
  · have ek : leastA W F = k := by unfold leastA; rw [h1]; omega
    rw [ek]
    exact ⟨by omega, by omega, h3, fun j hj => h4 j (by have := hiL j hj; omega) hj⟩
def pth (U : List Int) : Nat → Nat → Nat → Prop
  | 0, i, r => i = r
  | d + 1, i, r => ∃ j : Nat, U[i]? = some (j : Int) ∧ pth U d j r
theorem pth_snoc {U : List Int} : ∀ {d i r : Nat} {j : Nat}, pth U d i r → U[r]? = some (j : Int) → pth U (d + 1) i j
  | 0, i, r, j, h, hj => by
    have : i = r := h
    subst this
    exact ⟨j, hj, rfl⟩
  | d + 1, i, r, j, ⟨k, h1, h2⟩, hj => ⟨k, h1, pth_snoc h2 hj⟩
theorem pth_ups {U : List Int} (up : upOk U) : ∀ {d i r : Nat}, pth U d i r → U.getD r (-1) = -1 → ∀ m, d ≤ m → upsA U m (U.getD i (-1)) = d
  | 0, i, r, h, hr, m, hm => by
    have : i = r := h
    subst this
    rw [hr]
    cases m with
    | zero => rfl
    | succ m => rw [upsA, if_neg (by omega)]
  | d + 1, i, r, ⟨j, h1, h2⟩, hr, m, hm => by
    obtain ⟨m, rfl⟩ : ∃ k, m = k + 1 := ⟨m - 1, by omega⟩
    have e : U.getD i (-1) = (j : Int) := by rw [List.getD_eq_getElem?_getD, h1]; rfl
    rw [e, upsA, if_pos (by omega)]
    have tj : ((j : Nat) : Int).toNat = j := by omega
    rw [tj, pth_ups up h2 hr m (by omega)]
theorem pth_le {U : List Int} (up : upOk U) : ∀ {d i r : Nat}, pth U d i r → i + d ≤ r
  | 0, i, r, h => by
    have : i = r := h
    omega
  | d + 1, i, r, ⟨j, h1, h2⟩ => by
    have := pth_le up h2
    have hi := (List.getElem?_eq_some_iff.1 h1).1
    have e : U.getD i (-1) = (j : Int) := by rw [List.getD_eq_getElem?_getD, h1]; rfl
    have := up i hi
    rw [e] at this
    omega
def joinU (U : List Int) (a b : Nat) : List Int := (U.set a U.length).set b U.length ++ [-1]
theorem joinU_len (U : List Int) (a b : Nat) : (joinU U a b).length = U.length + 1 := by simp [joinU]
theorem joinU_get {U : List Int} {a b i : Nat} (hi : i < U.length) (ha : a ≠ i) (hb : b ≠ i) : (joinU U a b)[i]? = U[i]? := by
  unfold joinU
  rw [List.getElem?_append_left (by simpa using hi), List.getElem?_set, if_neg hb, List.getElem?_set, if_neg ha]
theorem joinU_a {U : List Int} {a b : Nat} (ha : a < U.length) : (joinU U a b)[a]? = some (U.length : Int) := by
  unfold joinU
  rw [List.getElem?_append_left (by simpa using ha), List.getElem?_set]
  split
  · rename_i e; subst e; simp [ha]
  · rw [List.getElem?_set, if_pos rfl, if_pos ha]
theorem joinU_b {U : List Int} {a b : Nat} (hb : b < U.length) : (joinU U a b)[b]? = some (U.length : Int) := by
  unfold joinU
  rw [List.getElem?_append_left (by simpa using hb), List.getElem?_set, if_pos rfl, if_pos (by simpa using hb)]
theorem joinU_m {U : List Int} {a b : Nat} : (joinU U a b)[U.length]? = some (-1) := by
  unfold joinU
  rw [List.getElem?_append_right (by simp)]; simp
theorem pth_join {U : List Int} {a b : Nat} (ha : U[a]? = some (-1)) (hb : U[b]? = some (-1)) : ∀ {d i r : Nat}, pth U d i r → pth (joinU U a b) d i r
  | 0, i, r, h => h
  | d + 1, i, r, ⟨j, h1, h2⟩ => by
    refine ⟨j, ?_, pth_join ha hb h2⟩
    rw [joinU_get (List.getElem?_eq_some_iff.1 h1).1 (fun e => by rw [e, h1] at ha; have := Option.some.inj ha; omega) (fun e => by rw [e, h1] at hb; have := Option.some.inj hb; omega), h1]
theorem upOk_join {U : List Int} {a b : Nat} (ha : a < U.length) (hb : b < U.length) (up : upOk U) : upOk (joinU U a b) := by
  intro j hj
  rw [joinU_len] at hj ⊢
  by_cases e : j = U.length
  · subst e
    left
    rw [List.getD_eq_getElem?_getD, joinU_m]; rfl
  · by_cases ea : a = j
    · subst ea
      right
      rw [List.getD_eq_getElem?_getD, joinU_a ha]
      simp; omega
    · by_cases eb : b = j
      · subst eb
        right
        rw [List.getD_eq_getElem?_getD, joinU_b hb]
        simp; omega
      · have := up j (by omega)
        rw [List.getD_eq_getElem?_getD, joinU_get (by omega) ea eb, ← List.getD_eq_getElem?_getD]
        omega
theorem FS.mer_U (s : FS) : s.mer.U = joinU s.U s.a s.b := rfl
abbrev Tr := Nat × List (Nat × Nat)
def kr (D : Nat) (l : List (Nat × Nat)) : Nat := (l.map fun p => 2 ^ (D - p.2)).sum
structure HInv (bal : Bool) (n : Nat) (tot : Int) (s : FS) (T : List Tr) : Prop where
  lu : s.U.length = s.W.length
  lf : s.F.length = s.W.length
  root : ∀ t ∈ T, s.F.getD t.1 false = true ∧ s.U[t.1]? = some (-1)
  free : ∀ i, s.F.getD i false = true → ∃ t ∈ T, t.1 = i
  nd : (T.map (·.1)).Nodup
  pt : ∀ t ∈ T, ∀ p ∈ t.2, pth s.U p.2 p.1 t.1
  leaves : (T.flatMap fun t => t.2.map (·.1)).Perm (List.range n)
  kraft : ∀ t ∈ T, ∀ D, (∀ p ∈ t.2, p.2 ≤ D) → kr D t.2 = 2 ^ D
  ne : ∀ t ∈ T, t.2 ≠ []
  wpos : ∀ t ∈ T, 1 ≤ s.W.getD t.1 0
  up : upOk s.U
  sum : (T.map fun t => s.W.getD t.1 0).sum = tot
  bal1 : bal = true → ∀ t ∈ T, ∀ u ∈ T, s.W.getD t.1 0 ≤ 2 * s.W.getD u.1 0
  bal2 : bal = true → ∀ t ∈ T, ∀ p ∈ t.2, (3 : Int) ^ p.2 ≤ s.W.getD t.1 0 * 2 ^ p.2
theorem perm_sumI {l l' : List Int} (p : l.Perm l') : l.sum = l'.sum := by
  induction p with
  | nil => rfl
  | cons x _ ih => simp only [List.sum_cons, ih]
  | swap x y l => simp only [List.sum_cons]; omega
  | trans _ _ h1 h2 => exact h1.trans h2
theorem perm_sumN {l l' : List Nat} (p : l.Perm l') : l.sum = l'.sum := by
  induction p with
  | nil => rfl
  | cons x _ ih => simp only [List.sum_cons, ih]
  | swap x y l => simp only [List.sum_cons]; omega
  | trans _ _ h1 h2 => exact h1.trans h2
theorem HInv.perm {bal : Bool} {n : Nat} {tot : Int} {s : FS} {T T' : List Tr} (v : HInv bal n tot s T) (p : T.Perm T') : HInv bal n tot s T' where
  lu := v.lu
  lf := v.lf
  root t h := v.root t (p.mem_iff.2 h)
  free i h := by
    obtain ⟨t, h1, h2⟩ := v.free i h
    exact ⟨t, p.mem_iff.1 h1, h2⟩
  nd := (p.map _).nodup_iff.1 v.nd
  pt t h := v.pt t (p.mem_iff.2 h)
  leaves := ((p.flatMap_right _).symm).trans v.leaves
  kraft t h := v.kraft t (p.mem_iff.2 h)
  ne t h := v.ne t (p.mem_iff.2 h)
  wpos t h := v.wpos t (p.mem_iff.2 h)
  up := v.up
  sum := by rw [← v.sum]; exact (perm_sumI (p.map _)).symm
  bal1 hb t h u h2 := v.bal1 hb t (p.mem_iff.2 h) u (p.mem_iff.2 h2)
  bal2 hb t h := v.bal2 hb t (p.mem_iff.2 h)
def deeper (l : List (Nat × Nat)) : List (Nat × Nat) := l.map fun p => (p.1, p.2 + 1)
theorem kr_deeper {D : Nat} {l : List (Nat × Nat)} : kr (D + 1) (deeper l) = kr D l := by
  unfold kr deeper
  rw [List.map_map]
  congr 1
  refine List.map_congr_left fun p _ => ?_
  show 2 ^ (D + 1 - (p.2 + 1)) = _
  rw [Nat.add_sub_add_right]
theorem kr_app (D : Nat) (a b : List (Nat × Nat)) : kr D (a ++ b) = kr D a + kr D b := by simp [kr]
theorem getD_set_ne {α : Type} {l : List α} {i j : Nat} {x d : α} (h : i ≠ j) : (l.set i x).getD j d = l.getD j d := by
  rw [List.getD_eq_getElem?_getD, List.getElem?_set, if_neg h, ← List.getD_eq_getElem?_getD]
theorem getD_set_f {l : List Bool} {i : Nat} : (l.set i false).getD i false = false := by
  rw [List.getD_eq_getElem?_getD, List.getElem?_set, if_pos rfl]
  split <;> rfl
theorem HInv.two {bal : Bool} {n : Nat} {tot : Int} {s : FS} {T : List Tr} (v : HInv bal n tot s T) (h2 : 2 ≤ T.length) :
    ∃ ta tb T2, T.Perm (ta :: tb :: T2) ∧ ta.1 = s.a ∧ tb.1 = s.b ∧ 0 ≤ leastF s.W s.F s.W.length 0 (-1) ∧ 0 ≤ leastF s.W s.F1 s.W.length 0 (-1) ∧ s.W.getD s.a 0 ≤ s.W.getD s.b 0 ∧ (∀ t ∈ T2, s.W.getD s.b 0 ≤ s.W.getD t.1 0) := by
  obtain ⟨t0, t1, T0, rfl⟩ : ∃ t0 t1 T0, T = t0 :: t1 :: T0 := by
    match T, h2 with
    | t0 :: t1 :: T0, _ => exact ⟨t0, t1, T0, rfl⟩
  obtain ⟨l1, la, fa, ma⟩ := least_spec v.lf (v.root t0 (by simp)).1
  obtain ⟨ta, hta, ea⟩ := v.free _ fa
  have p1 := List.perm_cons_erase hta
  have v1 := v.perm p1
  obtain ⟨T1, eT1⟩ : ∃ T1, T1 = (t0 :: t1 :: T0).erase ta := ⟨_, rfl⟩
  rw [← eT1] at p1 v1
  have lT1 : T1 ≠ [] := by
    intro e
    have := p1.length_eq
    rw [e] at this
    simp at this
  obtain ⟨tx, hx⟩ := List.exists_mem_of_ne_nil _ lT1
  have nd1 : ∀ t ∈ T1, t.1 ≠ ta.1 := by
    intro t ht e
    have := v1.nd
    rw [List.map_cons, List.nodup_cons] at this
    exact this.1 (List.mem_map.2 ⟨t, ht, e⟩)
  have f1 : ∀ t ∈ T1, s.F1.getD t.1 false = true := by
    intro t ht
    have := (v1.root t (by simp [ht])).1
    show (s.F.set s.a false).getD t.1 false = true
    rw [getD_set_ne (by have := nd1 t ht; intro e; exact this (by rw [ea, ← e]; rfl)), this]
  obtain ⟨l2, lb, fb, mb⟩ := least_spec (W := s.W) (F := s.F1) (by show (s.F.set s.a false).length = _; rw [List.length_set]; exact v.lf) (f1 tx hx)
  have hnb : s.a ≠ s.b := by
    intro e
    have fb' : s.F1.getD s.b false = true := fb
    rw [← e] at fb'
    have : (s.F.set s.a false).getD s.a false = true := fb'
    rw [getD_set_f] at this; cases this
  have fb2 : s.F.getD s.b false = true := by
    have fb' : (s.F.set s.a false).getD s.b false = true := fb
    rwa [getD_set_ne hnb] at fb'
  obtain ⟨tb, htb, eb⟩ := v1.free _ fb2
  have htb1 : tb ∈ T1 := by
    rcases List.mem_cons.1 htb with q | q
    · subst q; exact absurd (ea.symm.trans eb) hnb
    · exact q
  have p2 := List.perm_cons_erase htb1
  refine ⟨ta, tb, T1.erase tb, p1.trans (p2.cons ta), ea, eb, l1, l2, ma _ fb2, fun t ht => mb _ (f1 t (List.mem_of_mem_erase ht))⟩
theorem HInv.step {bal : Bool} {n : Nat} {tot : Int} {s : FS} {T : List Tr} (v : HInv bal n tot s T) (h2 : 2 ≤ T.length) (ht : tot < 1000000000000000) : s.ok ∧ ∃ T', T'.length + 1 = T.length ∧ HInv bal n tot s.mer T' := by
  obtain ⟨ta, tb, T2, p, ea, eb, l1, l2, wab, wbt⟩ := v.two h2
  have lT := p.length_eq
  have v1 := v.perm p
  have nd := v1.nd
  rw [List.map_cons, List.map_cons, List.nodup_cons, List.nodup_cons] at nd
  obtain ⟨nd1, nd2, nd3⟩ := nd
  have ra := v1.root ta (by simp)
  have rb := v1.root tb (by simp)
  rw [ea] at ra
  rw [eb] at rb
  have hla : s.a < s.U.length := (List.getElem?_eq_some_iff.1 ra.2).1
  have hlb : s.b < s.U.length := (List.getElem?_eq_some_iff.1 rb.2).1
  have wa := v1.wpos ta (by simp)
  have wb1 := v1.wpos tb (by simp)
  rw [ea] at wa
  rw [eb] at wb1
  have sm := v1.sum
  rw [List.map_cons, List.map_cons, List.sum_cons, List.sum_cons, ea, eb] at sm
  have nn : 0 ≤ (T2.map fun t => s.W.getD t.1 0).sum := by
    have : ∀ l : List Tr, (∀ t ∈ l, 1 ≤ s.W.getD t.1 0) → 0 ≤ (l.map fun t => s.W.getD t.1 0).sum := by
      intro l
      induction l with
      | nil => intro _; simp
      | cons x l ih => intro h; have := ih fun t ht => h t (by simp [ht]); have := h x (by simp); simp only [List.map_cons, List.sum_cons]; omega
    exact this T2 fun t ht => v1.wpos t (by simp [ht])
  have es : s.sum = s.W.getD s.a 0 + s.W.getD s.b 0 := rfl
  refine ⟨⟨v.lu, v.lf, l1, l2, by omega⟩, (s.U.length, deeper (ta.2 ++ tb.2)) :: T2, by rw [lT]; simp, ?_⟩
  have nT2 : ∀ t ∈ T2, t.1 ≠ s.a ∧ t.1 ≠ s.b ∧ t.1 < s.U.length := fun t ht => ⟨fun e => nd1 (by simp only [List.mem_cons, List.mem_map]; exact .inr ⟨t, ht, by rw [e, ea]⟩), fun e => nd2 (List.mem_map.2 ⟨t, ht, by rw [e, eb]⟩), (List.getElem?_eq_some_iff.1 (v1.root t (by simp [ht])).2).1⟩
  have mW : ∀ i, i < s.W.length → s.mer.W.getD i 0 = s.W.getD i 0 := fun i hi => by
    show (s.W ++ [s.sum]).getD i 0 = _
    rw [List.getD_eq_getElem?_getD, List.getElem?_append_left hi, ← List.getD_eq_getElem?_getD]
  have mWn : s.mer.W.getD s.U.length 0 = s.sum := by
    show (s.W ++ [s.sum]).getD s.U.length 0 = _
    rw [v.lu, List.getD_eq_getElem?_getD, List.getElem?_append_right (Nat.le_refl _)]; simp
  have lF2 : s.F2.length = s.W.length := by show ((s.F.set s.a false).set s.b false).length = _; rw [List.length_set, List.length_set, v.lf]
  have mF : ∀ i, i < s.W.length → s.mer.F.getD i false = s.F2.getD i false := fun i hi => by
    show (s.F2 ++ [true]).getD i false = _
    rw [List.getD_eq_getElem?_getD, List.getElem?_append_left (by omega), ← List.getD_eq_getElem?_getD]
  have mFn : s.mer.F.getD s.U.length false = true := by
    show (s.F2 ++ [true]).getD s.U.length false = _
    rw [v.lu, List.getD_eq_getElem?_getD, List.getElem?_append_right (by omega), lF2]; simp
  have F2o : ∀ i, i ≠ s.a → i ≠ s.b → s.F2.getD i false = s.F.getD i false := fun i h1 h2 => by
    show ((s.F.set s.a false).set s.b false).getD i false = _
    rw [getD_set_ne h2.symm, getD_set_ne h1.symm]
  have F2a : s.a ≠ s.b → s.F2.getD s.a false = false := fun h => by
    show ((s.F.set s.a false).set s.b false).getD s.a false = _
    rw [getD_set_ne h.symm, getD_set_f]
  have F2b : s.F2.getD s.b false = false := getD_set_f
  have hab : s.a ≠ s.b := fun e => nd1 (by simp only [List.mem_cons]; exact .inl (by rw [ea, eb, e]))
  have jl : ∀ p ∈ ta.2 ++ tb.2, pth (joinU s.U s.a s.b) (p.2 + 1) p.1 s.U.length := fun q hq => by
    rcases List.mem_append.1 hq with h | h
    · have := v1.pt ta (by simp) q h
      rw [ea] at this
      exact pth_snoc (pth_join ra.2 rb.2 this) (joinU_a hla)
    · have := v1.pt tb (by simp) q h
      rw [eb] at this
      exact pth_snoc (pth_join ra.2 rb.2 this) (joinU_b hlb)
  have lu := v.lu
  have lf := v.lf
  have getT2 : ∀ t ∈ T2, s.mer.W.getD t.1 0 = s.W.getD t.1 0 := fun t ht => mW _ (by have := (nT2 t ht).2.2; omega)
  have W2 : ∀ t ∈ (s.U.length, deeper (ta.2 ++ tb.2)) :: T2, (t.1 = s.U.length ∧ t.2 = deeper (ta.2 ++ tb.2) ∧ s.mer.W.getD t.1 0 = s.sum) ∨ (t ∈ T2 ∧ s.mer.W.getD t.1 0 = s.W.getD t.1 0) := fun t ht => by
    rcases List.mem_cons.1 ht with q | q
    · subst q; exact .inl ⟨rfl, rfl, mWn⟩
    · exact .inr ⟨q, getT2 t q⟩
  constructor
  · show (joinU s.U s.a s.b).length = (s.W ++ [s.sum]).length
    rw [joinU_len]; simp [lu]
  · show (s.F2 ++ [true]).length = (s.W ++ [s.sum]).length
    simp [lF2]
  · intro t ht
    rcases List.mem_cons.1 ht with q | q
    · subst q
      exact ⟨mFn, joinU_m⟩
    · have n := nT2 t q
      have r := v1.root t (by simp [q])
      refine ⟨by rw [mF _ (by omega), F2o _ n.1 n.2.1]; exact r.1, ?_⟩
      rw [FS.mer_U, joinU_get n.2.2 n.1.symm n.2.1.symm]; exact r.2
  · intro i hi
    by_cases e : i = s.U.length
    · exact ⟨_, List.mem_cons_self .., e.symm⟩
    · have hiL : i < s.W.length := by
        apply Classical.byContradiction
        intro c
        have : s.mer.F.length = s.W.length + 1 := by show (s.F2 ++ [true]).length = _; simp [lF2]
        rw [List.getD_eq_getElem?_getD, List.getElem?_eq_none (by omega)] at hi
        cases hi
      rw [mF i hiL] at hi
      have h1 : i ≠ s.a := fun q => by rw [q, F2a hab] at hi; cases hi
      have h2 : i ≠ s.b := fun q => by rw [q, F2b] at hi; cases hi
      rw [F2o i h1 h2] at hi
      obtain ⟨t, ht, et⟩ := v1.free i hi
      rcases List.mem_cons.1 ht with q | q
      · subst q; exact absurd (et.symm.trans ea) h1
      · rcases List.mem_cons.1 q with q | q
        · subst q; exact absurd (et.symm.trans eb) h2
        · exact ⟨t, List.mem_cons_of_mem _ q, et⟩
  · rw [List.map_cons, List.nodup_cons]
    refine ⟨fun hm => ?_, nd3⟩
    obtain ⟨t, ht, e⟩ := List.mem_map.1 hm
    have := (nT2 t ht).2.2
    rw [e] at this
    exact absurd this (by simp)
  · intro t ht
    rcases List.mem_cons.1 ht with q | q
    · subst q
      intro q hq
      obtain ⟨q', hq', rfl⟩ := List.mem_map.1 hq
      exact jl q' hq'
    · intro x hx
      exact pth_join ra.2 rb.2 (v1.pt t (by simp [q]) x hx)
  · have lv := v1.leaves
    refine List.Perm.trans ?_ lv
    rw [List.flatMap_cons, List.flatMap_cons, List.flatMap_cons, ← List.append_assoc]
    have : (deeper (ta.2 ++ tb.2)).map (·.1) = ta.2.map (·.1) ++ tb.2.map (·.1) := by
      unfold deeper; rw [List.map_map, List.map_append]; rfl
    rw [this]
  · intro t ht
    rcases List.mem_cons.1 ht with q | q
    · subst q
      intro D hD
      have hne := v1.ne ta (by simp)
      obtain ⟨x, hx⟩ := List.exists_mem_of_ne_nil _ hne
      have h1 := hD (x.1, x.2 + 1) (List.mem_map.2 ⟨x, List.mem_append_left _ hx, rfl⟩)
      obtain ⟨D, rfl⟩ : ∃ E, D = E + 1 := ⟨D - 1, by simp at h1; omega⟩
      rw [kr_deeper, kr_app]
      rw [v1.kraft ta (by simp) D fun y hy => by have := hD (y.1, y.2 + 1) (List.mem_map.2 ⟨y, List.mem_append_left _ hy, rfl⟩); simp at this; omega]
      rw [v1.kraft tb (by simp) D fun y hy => by have := hD (y.1, y.2 + 1) (List.mem_map.2 ⟨y, List.mem_append_right _ hy, rfl⟩); simp at this; omega]
      rw [Nat.pow_succ]; omega
    · exact v1.kraft t (by simp [q])
  · intro t ht
    rcases List.mem_cons.1 ht with q | q
    · subst q
      have hne := v1.ne ta (by simp)
      intro e
      have : deeper (ta.2 ++ tb.2) = [] := e
      unfold deeper at this
      rw [List.map_eq_nil_iff, List.append_eq_nil_iff] at this
      exact hne this.1
    · exact v1.ne t (by simp [q])
  · intro t ht
    rcases W2 t ht with ⟨_, _, e⟩ | ⟨q, e⟩
    · rw [e]; omega
    · rw [e]; exact v1.wpos t (by simp [q])
  · exact upOk_join hla hlb v.up
  · rw [List.map_cons, List.sum_cons, mWn, List.map_congr_left getT2]; omega
  · intro hb t ht u hu
    have b1 := v1.bal1 hb
    have ba := b1 tb (by simp) ta (by simp)
    rw [ea, eb] at ba
    rcases W2 t ht with ⟨_, _, e⟩ | ⟨q, e⟩
    · rcases W2 u hu with ⟨_, _, e'⟩ | ⟨q', e'⟩
      · rw [e, e']; omega
      · rw [e, e']; have := wbt u q'; omega
    · rcases W2 u hu with ⟨_, _, e'⟩ | ⟨q', e'⟩
      · rw [e, e']; have := b1 t (by simp [q]) ta (by simp); rw [ea] at this; omega
      · rw [e, e']; exact b1 t (by simp [q]) u (by simp [q'])
  · intro hb t ht x hx
    have b1 := v1.bal1 hb
    have ba := b1 tb (by simp) ta (by simp)
    have bb := b1 ta (by simp) tb (by simp)
    rw [ea, eb] at ba bb
    rcases W2 t ht with ⟨_, e2, e⟩ | ⟨q, e⟩
    · rw [e]
      rw [e2] at hx
      obtain ⟨y, hy, rfl⟩ := List.mem_map.1 hx
      have p2 : (0 : Int) < 2 ^ y.2 := Int.pow_pos (by omega)
      show (3 : Int) ^ (y.2 + 1) ≤ s.sum * 2 ^ (y.2 + 1)
      rw [Int.pow_succ, Int.pow_succ]
      have key : ∀ w : Int, (3 : Int) ^ y.2 ≤ w * 2 ^ y.2 → 3 * w ≤ 2 * s.sum → (3 : Int) ^ y.2 * 3 ≤ s.sum * (2 ^ y.2 * 2) := fun w h1 h2 => by
        have a1 : (3 : Int) ^ y.2 * 3 ≤ (w * 2 ^ y.2) * 3 := Int.mul_le_mul_of_nonneg_right h1 (by omega)
        have a2 : (3 * w) * 2 ^ y.2 ≤ (2 * s.sum) * 2 ^ y.2 := Int.mul_le_mul_of_nonneg_right h2 (by omega)
        have a3 : (w * 2 ^ y.2) * 3 = (3 * w) * 2 ^ y.2 := by rw [Int.mul_comm 3 w, Int.mul_assoc, Int.mul_assoc, Int.mul_comm _ 3]
        have a4 : s.sum * (2 ^ y.2 * 2) = (2 * s.sum) * 2 ^ y.2 := by rw [Int.mul_comm 2 s.sum, Int.mul_assoc, Int.mul_comm 2 (2 ^ y.2)]
        omega
      rcases List.mem_append.1 hy with h | h
      · have := v1.bal2 hb ta (by simp) y h
        rw [ea] at this
        exact key _ this (by omega)
      · have := v1.bal2 hb tb (by simp) y h
        rw [eb] at this
        exact key _ this (by omega)
    · rw [e]; exact v1.bal2 hb t (by simp [q]) x hx
def T0 (n : Nat) : List Tr := (List.range n).map fun i => (i, [(i, 0)])
theorem sum_range_getD : ∀ (ws : List Int), ((List.range ws.length).map fun i => ws.getD i 0).sum = ws.sum := by
  intro ws
  have : (List.range ws.length).map (fun i => ws.getD i 0) = ws := by
    apply List.ext_getElem?
    intro i
    rw [List.getElem?_map]
    by_cases h : i < ws.length
    · rw [List.getElem?_range h, List.getElem?_eq_getElem h]; simp [List.getD_eq_getElem?_getD, h]
    · rw [List.getElem?_eq_none (by simp; omega), List.getElem?_eq_none (by omega)]; rfl
  rw [this]
theorem repl_getD {α : Type} {n i : Nat} {x d : α} (h : i < n) : (List.replicate n x).getD i d = x := by
  rw [List.getD_eq_getElem?_getD, List.getElem?_replicate, if_pos h]; rfl
theorem HInv.init (ws : List Int) (bal : Bool) (pos : ∀ y ∈ ws, 1 ≤ y) (hb : bal = true → ∀ y ∈ ws, y = 1) : HInv bal ws.length ws.sum (fs0 ws) (T0 ws.length) := by
  have mem : ∀ t ∈ T0 ws.length, ∃ i, i < ws.length ∧ t = (i, [(i, 0)]) := fun t ht => by
    obtain ⟨i, hi, rfl⟩ := List.mem_map.1 ht
    exact ⟨i, List.mem_range.1 hi, rfl⟩
  have gw : ∀ i, i < ws.length → ws.getD i 0 ∈ ws := fun i hi => by
    rw [List.getD_eq_getElem?_getD, List.getElem?_eq_getElem hi]; exact List.getElem_mem hi
  constructor
  · simp [fs0]
  · simp [fs0]
  · intro t ht
    obtain ⟨i, hi, rfl⟩ := mem t ht
    exact ⟨repl_getD hi, by show (List.replicate ws.length (-1 : Int))[i]? = _; rw [List.getElem?_replicate, if_pos hi]⟩
  · intro i hi
    have : i < ws.length := by
      apply Classical.byContradiction
      intro c
      have e : (fs0 ws).F.getD i false = false := by
        show (List.replicate ws.length true).getD i false = false
        rw [List.getD_eq_getElem?_getD, List.getElem?_eq_none (by simp; omega)]; rfl
      rw [e] at hi; cases hi
    exact ⟨(i, [(i, 0)]), List.mem_map.2 ⟨i, List.mem_range.2 this, rfl⟩, rfl⟩
  · unfold T0
    rw [List.map_map]
    have : ((fun t : Tr => t.1) ∘ fun i => ((i, [(i, 0)]) : Tr)) = id := rfl
    rw [this, List.map_id]; exact List.nodup_range
  · intro t ht q hq
    obtain ⟨i, hi, rfl⟩ := mem t ht
    simp at hq
    subst hq
    exact rfl
  · have : (T0 ws.length).flatMap (fun t => t.2.map (·.1)) = List.range ws.length := by
      unfold T0
      rw [List.flatMap_map]
      have : ∀ l : List Nat, (l.flatMap fun i => ([(i, 0)] : List (Nat × Nat)).map (·.1)) = l := by
        intro l
        induction l with
        | nil => rfl
        | cons x l ih => rw [List.flatMap_cons, ih]; rfl
      exact this _
    rw [this]
  · intro t ht D _
    obtain ⟨i, hi, rfl⟩ := mem t ht
    simp [kr]
  · intro t ht
    obtain ⟨i, hi, rfl⟩ := mem t ht
    simp
  · intro t ht
    obtain ⟨i, hi, rfl⟩ := mem t ht
    exact pos _ (gw i hi)
  · intro j hj
    have : j < ws.length := by simpa [fs0] using hj
    exact .inl (repl_getD this)
  · unfold T0
    rw [List.map_map]
    exact sum_range_getD ws
  · intro h t ht u hu
    obtain ⟨i, hi, rfl⟩ := mem t ht
    obtain ⟨j, hj, rfl⟩ := mem u hu
    have a := hb h _ (gw i hi)
    have b := hb h _ (gw j hj)
    show ws.getD i 0 ≤ 2 * ws.getD j 0
    omega
  · intro h t ht q hq
    obtain ⟨i, hi, rfl⟩ := mem t ht
    simp at hq
    subst hq
    have a := hb h _ (gw i hi)
    show (3 : Int) ^ 0 ≤ ws.getD i 0 * 2 ^ 0
    rw [a]; simp
theorem HInv.run {bal : Bool} {n : Nat} {tot : Int} (ht : tot < 1000000000000000) : ∀ (m : Nat) (s : FS) (T : List Tr), HInv bal n tot s T → T.length = m + 1 → (∀ k, k < m → (FS.merN k s).ok) ∧ ∃ t, HInv bal n tot (FS.merN m s) [t]
  | 0, s, T, v, h => by
    refine ⟨fun k hk => by omega, ?_⟩
    match T, h with
    | [t], _ => exact ⟨t, v⟩
  | m + 1, s, T, v, h => by
    obtain ⟨ok, T', hl, v'⟩ := v.step (by omega) ht
    obtain ⟨h1, t, h2⟩ := HInv.run ht m s.mer T' v' (by omega)
    refine ⟨fun k hk => ?_, t, h2⟩
    cases k with
    | zero => exact ok
    | succ k => exact h1 k (by omega)
theorem huff (ws : List Int) (bal : Bool) (h1 : 1 ≤ ws.length) (pos : ∀ y ∈ ws, 1 ≤ y) (hs : ws.sum < 1000000000000000) (hb : bal = true → ∀ y ∈ ws, y = 1) :
    (∀ k, k < ws.length - 1 → (FS.merN k (fs0 ws)).ok) ∧ upOk (FS.merN (ws.length - 1) (fs0 ws)).U ∧ (FS.merN (ws.length - 1) (fs0 ws)).U.length = (FS.merN (ws.length - 1) (fs0 ws)).W.length ∧
    (∀ D : Nat, (∀ d ∈ depthsA ws, d ≤ (D : Int)) → ((depthsA ws).map fun d => 2 ^ (D - d.toNat)).sum = 2 ^ D) ∧
    (bal = true → ∀ d ∈ depthsA ws, (3 : Int) ^ d.toNat ≤ ws.sum * 2 ^ d.toNat) ∧ (2 ≤ ws.length → ∀ d ∈ depthsA ws, 1 ≤ d) := by
  obtain ⟨ok, t, v⟩ := HInv.run hs (ws.length - 1) (fs0 ws) (T0 ws.length) (HInv.init ws bal pos hb) (by simp [T0]; omega)
  obtain ⟨S, hS⟩ : ∃ S, S = FS.merN (ws.length - 1) (fs0 ws) := ⟨_, rfl⟩
  have eD : depthsA ws = depA S.U ws.length := by rw [hS]; rfl
  rw [← hS] at v ⊢
  have up := v.up
  have rt := (v.root t (by simp)).2
  have rtD : S.U.getD t.1 (-1) = -1 := by rw [List.getD_eq_getElem?_getD, rt]; rfl
  have rl := (List.getElem?_eq_some_iff.1 rt).1
  have lv := v.leaves
  simp only [List.flatMap_cons, List.flatMap_nil, List.append_nil] at lv
  have dep : ∀ q ∈ t.2, upsA S.U S.U.length (S.U.getD q.1 (-1)) = q.2 := fun q hq => by
    have := v.pt t (by simp) q hq
    have l := pth_le up this
    exact pth_ups up this rtD _ (by omega)
  have pm : (depthsA ws).Perm (t.2.map fun q => ((q.2 : Nat) : Int)) := by
    rw [eD]
    unfold depA
    have := lv.symm.map (fun i => ((upsA S.U S.U.length (S.U.getD i (-1)) : Nat) : Int))
    refine this.trans ?_
    rw [List.map_map]
    have e : t.2.map ((fun i => ((upsA S.U S.U.length (S.U.getD i (-1)) : Nat) : Int)) ∘ fun x => x.1) = t.2.map fun q => ((q.2 : Nat) : Int) := List.map_congr_left fun q hq => by
      show ((upsA S.U S.U.length (S.U.getD q.1 (-1)) : Nat) : Int) = _
      rw [dep q hq]
    rw [e]
  have mem : ∀ d ∈ depthsA ws, ∃ q ∈ t.2, d = ((q.2 : Nat) : Int) := fun d hd => by
    obtain ⟨q, hq, rfl⟩ := List.mem_map.1 (pm.mem_iff.1 hd)
    exact ⟨q, hq, rfl⟩
  refine ⟨ok, up, v.lu, fun D hD => ?_, fun hbt d hd => ?_, fun h2 d hd => ?_⟩
  · have := perm_sumN (pm.map fun d => 2 ^ (D - d.toNat))
    rw [this, List.map_map]
    have kk := v.kraft t (by simp) D fun q hq => by
      have := hD ((q.2 : Nat) : Int) (pm.mem_iff.2 (List.mem_map.2 ⟨q, hq, rfl⟩))
      omega
    rw [← kk]
    unfold kr
    congr 1
  · obtain ⟨q, hq, rfl⟩ := mem d hd
    have := v.bal2 hbt t (by simp) q hq
    have sm := v.sum
    rw [List.map_cons, List.map_nil, List.sum_cons, List.sum_nil, Int.add_zero] at sm
    rw [← sm]
    exact this
  · obtain ⟨q, hq, rfl⟩ := mem d hd
    have pq := v.pt t (by simp) q hq
    apply Classical.byContradiction
    intro c
    have z : q.2 = 0 := by omega
    rw [z] at pq
    have e : q.1 = t.1 := pq
    have ql : q.1 < ws.length := List.mem_range.1 (lv.mem_iff.1 (List.mem_map.2 ⟨q, hq, rfl⟩))
    have rr : S.W.length = ws.length + (ws.length - 1) := by rw [hS, FS.merN_len]; rfl
    have kk : ∀ D, (∀ p ∈ t.2, p.2 ≤ D) → kr D t.2 = 2 ^ D := v.kraft t (by simp)
    obtain ⟨D, hDD⟩ : ∃ D, ∀ p ∈ t.2, p.2 ≤ D := ⟨t.1, fun p hp => by have := pth_le up (v.pt t (by simp) p hp); omega⟩
    have k := kk D hDD
    have l2 : t.2.length = ws.length := by
      have := lv.length_eq
      simpa using this
    have pe := List.perm_cons_erase hq
    have : kr D t.2 = kr D (q :: t.2.erase q) := perm_sumN (pe.map _)
    rw [this] at k
    have : kr D (q :: t.2.erase q) = 2 ^ (D - q.2) + kr D (t.2.erase q) := by simp [kr]
    rw [this, z, Nat.sub_zero] at k
    have le := pe.length_eq
    rw [List.length_cons] at le
    cases hE : t.2.erase q with
    | nil => rw [hE] at le; simp at le; omega
    | cons y r =>
      rw [hE] at k
      have : kr D (y :: r) = 2 ^ (D - y.2) + kr D r := by simp [kr]
      have := Nat.pow_pos (n := D - y.2) (show 0 < 2 by omega)
      omega
end Ab
set_option linter.unusedSimpArgs false
set_option linter.unusedVariables false
set_option maxRecDepth 100000
namespace Ab
open Go
def incL (l : List Int) (i : Nat) : List Int := l.set i (l.getD i 0 + 1)
theorem incL_len (l : List Int) (i : Nat) : (incL l i).length = l.length := by simp [incL]
theorem incL_rng {l : List Int} {i : Nat} {n : Int} (h : ∀ y ∈ l, 0 ≤ y ∧ y ≤ n) (hn : 0 ≤ n) : ∀ y ∈ incL l i, 0 ≤ y ∧ y ≤ n + 1 := by
  intro y hy
  rcases List.mem_or_eq_of_mem_set hy with q | q
  · have := h y q; omega
  · subst q
    rw [List.getD_eq_getElem?_getD]
    cases e : l[i]? with
    | none => simp; omega
    | some z => have := h z (List.mem_of_getElem? e); simp; omega
def tokOk (t : Tok) : Prop := (t.len = 0 ∧ 0 ≤ t.lit ∧ t.lit ≤ 255) ∨ (3 ≤ t.len ∧ t.len ≤ 258 ∧ 1 ≤ t.dist ∧ t.dist ≤ 32768)
def cntA : List Tok → List Int → List Int
  | [], A => A
  | t :: r, A => cntA r (if t.len = 0 then incL A t.lit.toNat else incL A (lsym t.len.toNat))
def cntB : List Tok → List Int → List Int
  | [], B => B
  | t :: r, B => cntB r (if t.len = 0 then B else incL B (dsym t.dist.toNat))
structure Fr2 (h h' : H) (a b : Nat) : Prop where
  floor : h'.floor = h.floor
  next : h.next ≤ h'.next
  keep : ∀ i, i < h.next → i ≠ a → i ≠ b → h'.get i = h.get i
theorem Fr2.refl (h : H) (a b : Nat) : Fr2 h h a b := ⟨rfl, Nat.le_refl _, fun _ _ _ _ => rfl⟩
theorem Fr2.trans {x y z : H} {a b : Nat} (p : Fr2 x y a b) (q : Fr2 y z a b) : Fr2 x z a b := ⟨q.floor.trans p.floor, Nat.le_trans p.next q.next, fun i h1 h2 h3 => (q.keep i (Nat.lt_of_lt_of_le h1 p.next) h2 h3).trans (p.keep i h1 h2 h3)⟩
theorem getD_get {l : List Int} {i : Nat} (h : i < l.length) : (ints l)[i]? = some (.int .i64 (l.getD i 0)) := ints_get (by rw [List.getD_eq_getElem?_getD, List.getElem?_eq_getElem h]; rfl)
theorem dcount_step {v : AV} {ts : List Tok} (hn : ts.length < 1000000) (h0 : H) (rd : RdN 3 h0 v ts.length (toksC ts)) (ia ib i : Nat) (t : Tok) (ht : ts[i]? = some t) (o : tokOk t) (hab : ia ≠ ib) (hia : h0.next ≤ ia) (hib : h0.next ≤ ib) {A B : List Int} {h : H} (hx : Ext h0 h) (ga : h.get ia = some (ints A)) (gb : h.get ib = some (ints B)) (hA : A.length = 286) (hB : B.length = 30) (rA : ∀ y ∈ A, 0 ≤ y ∧ y ≤ (i : Int) + 1) (rB : ∀ y ∈ B, 0 ≤ y ∧ y ≤ (i : Int) + 1) (fa : h.floor ≤ ia) (fb : h.floor ≤ ib) (hfl : h.floor ≤ h.next) :
    ∃ h', evC (callW AP.A) loopW AP.f13L4 (restr [(0, v), (4, .sobj ia 0 286 1), (5, .sobj ib 0 30 1), (6, .int .i64 i)] [0, 4, 5, 6]) h = some (.normal, [(0, v), (4, .sobj ia 0 286 1), (5, .sobj ib 0 30 1), (6, .int .i64 (i + 1 : Nat))], h') ∧ h'.get ia = some (ints (cntA [t] A)) ∧ h'.get ib = some (ints (cntB [t] B)) ∧ Fr2 h h' ia ib := by
  have ln := rd.len
  obtain ⟨ad, a1, a2, a3⟩ := rd.toks
  have hi : i < ts.length := (List.getElem?_eq_some_iff.1 ht).1
  have hI : (0 : Int) ≤ (i : Int) ∧ (i : Int) < ts.length := ⟨by omega, by omega⟩
  have b1 := a1 _ hI
  have b2 := a2 i 0 1 hI
  have b20 := a2 i 0 0 hI
  have b22 := a2 i 0 2 hI
  obtain ⟨b3, b4, b5, _⟩ := a3 h hx _ _ ht
  have n1 : ((i + 1 : Nat) : Int) = (i : Int) + 1 := by omega
  have la : (ints A).length = 286 := by rw [ints_length, hA]
  have lb : (ints B).length = 30 := by rw [ints_length, hB]
  have hian := h.lt _ _ ga
  have hibn := h.lt _ _ gb
  rcases o with ⟨c0, h2, h3⟩ | ⟨h1, h2, h3, h4⟩
  · obtain ⟨y, hy⟩ : ∃ y : Nat, t.lit = y := Int.eq_ofNat_of_zero_le h2
    have yt : t.lit.toNat = y := by omega
    have gx := getD_get (l := A) (i := y) (by omega)
    have xr : 0 ≤ A.getD y 0 ∧ A.getD y 0 ≤ (i : Int) + 1 := by
      rw [List.getD_eq_getElem?_getD, List.getElem?_eq_getElem (by omega)]
      exact rA _ (List.getElem_mem _)
    have es := ints_set A y (A.getD y 0 + 1)
    change _ = ints (incL A y) at es
    rw [hy] at b3
    rw [c0] at b4
    have yb : y ≤ 255 := by omega
    have eA : cntA [t] A = incL A y := by rw [cntA, if_pos c0, yt]; rfl
    have eB : cntB [t] B = B := by rw [cntB, if_pos c0]; rfl
    rw [eA, eB]
    refine ⟨h.set ia (ints (incL A y)), ?_, by rw [set_hit rfl, ga]; rfl, by rw [set_miss hab.symm, gb], ⟨by simp, by simp, fun j _ h2 _ => set_miss h2⟩⟩
    rw [n1]
    clear rd a1 a2 a3 hx rA rB ht b5 h2 h3 eA eB
    generalize A.getD y 0 = z at *
    generalize ints (incL A y) = A2 at *
    generalize ints A = A0 at *
    generalize ints B = B0 at *
    simp (disch := omega) only [go_sem, abin_shl, abin_shr, Nat.reduceEqDiff, reduceIte, Nat.reduceAdd, Nat.reduceMul, Nat.reduceLT, Nat.reduceLeDiff, Int.reduceBEq, Int.reduceBNe, Int.reduceLT, Int.reduceLE, Int.reduceEq, qqC, AOp.loud, AOp.births, Int.reduceAdd, Int.reduceSub, Int.reduceMul, Int.reduceNeg, Int.reduceToNat, AP.f13L4, ln, b1, b2, b20, b3, b4, ga, la, gx, es]
  · obtain ⟨L, hL⟩ : ∃ y : Nat, t.len = y := Int.eq_ofNat_of_zero_le (by omega)
    obtain ⟨K, hK⟩ : ∃ y : Nat, t.dist = y := Int.eq_ofNat_of_zero_le (by omega)
    have Lt : t.len.toNat = L := by omega
    have Kt : t.dist.toNat = K := by omega
    have kl : ∀ g : H, callW AP.A 28 [.int .i64 L] g = _ := fun g => length_c g L (by omega) (by omega)
    have kd : ∀ g : H, callW AP.A 29 [.int .i64 K] g = _ := fun g => dist_c g K (by omega) (by omega)
    have sl := lsym_spec (k := L) (by omega) (by omega)
    have sd := dsym_spec (k := K) (by omega) (by omega)
    have slt : lsym L < 286 := by omega
    have sdt : dsym K < 30 := by omega
    obtain ⟨h1', eh1⟩ : ∃ g, g = (h.alloc [.int .i64 0, .int .i64 0, .int .i64 0]).set h.next [.int .i64 (lsym L : Nat), .int .i64 (lbit L : Nat), .int .i64 (lval L : Nat)] := ⟨_, rfl⟩
    have kp1 : ∀ j, j < h.next → h1'.get j = h.get j := fun j hj => by rw [eh1, set_miss (by omega), get_miss (by omega)]
    have x1 : Ext h0 h1' := fun j c hj => by
      have hj2 := h.lt _ _ (hx j c hj)
      rw [kp1 j hj2, hx j c hj]
    have g1 : h1'.get h.next = some [.int .i64 (lsym L : Nat), .int .i64 (lbit L : Nat), .int .i64 (lval L : Nat)] := by rw [eh1, set_hit rfl, get_hit rfl]; rfl
    have nx1 : h1'.next = h.next + 1 := by rw [eh1]; simp
    have fx1 : h1'.floor = h.floor := by rw [eh1]; simp
    obtain ⟨_, _, b5', _⟩ := a3 h1' x1 _ _ ht
    obtain ⟨h2', eh2⟩ : ∃ g, g = (h1'.alloc [.int .i64 0, .int .i64 0, .int .i64 0]).set h1'.next [.int .i64 (dsym K : Nat), .int .i64 (dbit K : Nat), .int .i64 (dval K : Nat)] := ⟨_, rfl⟩
    have kp2 : ∀ j, j < h1'.next → h2'.get j = h1'.get j := fun j hj => by rw [eh2, set_miss (by omega), get_miss (by omega)]
    have g2 : h2'.get h1'.next = some [.int .i64 (dsym K : Nat), .int .i64 (dbit K : Nat), .int .i64 (dval K : Nat)] := by rw [eh2, set_hit rfl, get_hit rfl]; rfl
    have g21 : h2'.get h.next = some [.int .i64 (lsym L : Nat), .int .i64 (lbit L : Nat), .int .i64 (lval L : Nat)] := by rw [kp2 _ (by omega), g1]
    have ga2 : h2'.get ia = some (ints A) := by rw [kp2 ia (by omega), kp1 ia hian, ga]
    have gb2 : h2'.get ib = some (ints B) := by rw [kp2 ib (by omega), kp1 ib hibn, gb]
    have fx2 : h2'.floor = h.floor := by rw [eh2]; simp [fx1]
    have nx2 : h2'.next = h.next + 2 := by rw [eh2]; simp [nx1]
    have gx := getD_get (l := A) (i := lsym L) (by omega)
    have gy := getD_get (l := B) (i := dsym K) (by omega)
    have xr : 0 ≤ A.getD (lsym L) 0 ∧ A.getD (lsym L) 0 ≤ (i : Int) + 1 := by
      rw [List.getD_eq_getElem?_getD, List.getElem?_eq_getElem (by omega)]
      exact rA _ (List.getElem_mem _)
    have yr : 0 ≤ B.getD (dsym K) 0 ∧ B.getD (dsym K) 0 ≤ (i : Int) + 1 := by
      rw [List.getD_eq_getElem?_getD, List.getElem?_eq_getElem (by omega)]
      exact rB _ (List.getElem_mem _)
    have es := ints_set A (lsym L) (A.getD (lsym L) 0 + 1)
    change _ = ints (incL A (lsym L)) at es
    have et := ints_set B (dsym K) (B.getD (dsym K) 0 + 1)
    change _ = ints (incL B (dsym K)) at et
    rw [hL] at b4
    rw [hK] at b5'
    have cL : ¬ (L : Int) = 0 := by omega
    obtain ⟨h3', eh3⟩ : ∃ g, g = h2'.set ia (ints (incL A (lsym L))) := ⟨_, rfl⟩
    have gb3 : h3'.get ib = some (ints B) := by rw [eh3, set_miss hab.symm, gb2]
    have g31 : h3'.get h1'.next = some [.int .i64 (dsym K : Nat), .int .i64 (dbit K : Nat), .int .i64 (dval K : Nat)] := by rw [eh3, set_miss (by omega), g2]
    have eA : cntA [t] A = incL A (lsym L) := by rw [cntA, if_neg (by omega), Lt]; rfl
    have eB : cntB [t] B = incL B (dsym K) := by rw [cntB, if_neg (by omega), Kt]; rfl
    have fx3 : h3'.floor = h.floor := by rw [eh3]; simp [fx2]
    rw [eA, eB]
    refine ⟨h3'.set ib (ints (incL B (dsym K))), ?_, by rw [set_miss hab, eh3, set_hit rfl, ga2]; rfl, by rw [set_hit rfl, gb3]; rfl, ⟨by simp [fx3], by rw [eh3]; simp [nx2], fun j h1 h2 h3 => by rw [set_miss h3, eh3, set_miss h2, kp2 j (by omega), kp1 j h1]⟩⟩
    rw [n1]
    clear rd a1 a2 a3 hx x1 rA rB ht b5 h2 h3 eA eB b3 h1 h4 sl sd kp1 kp2
    generalize lsym L = S at *
    generalize lbit L = B1 at *
    generalize lval L = V at *
    generalize dsym K = S' at *
    generalize dbit K = B' at *
    generalize dval K = V' at *
    generalize A.getD S 0 = z at *
    generalize B.getD S' 0 = z' at *
    generalize ints (incL A S) = A2 at *
    generalize ints (incL B S') = B2 at *
    generalize ints A = A0 at *
    generalize ints B = B0 at *
    simp (disch := omega) only [go_sem, abin_shl, abin_shr, Nat.reduceEqDiff, reduceIte, Nat.reduceAdd, Nat.reduceMul, Nat.reduceLT, Nat.reduceLeDiff, Int.reduceBEq, Int.reduceBNe, Int.reduceLT, Int.reduceLE, Int.reduceEq, qqC, AOp.loud, AOp.births, Int.reduceAdd, Int.reduceSub, Int.reduceMul, Int.reduceNeg, Int.reduceToNat, AP.f13L4, ln, b1, b2, b22, b4, b5', kl, kd, cL, ← eh1, ← eh2, g1, g2, g21, ga2, gb2, la, lb, gx, gy, es, et, ← eh3, gb3, g31]
theorem cntA_len : ∀ (ts : List Tok) (A : List Int), (cntA ts A).length = A.length
  | [], A => rfl
  | t :: r, A => by rw [cntA, cntA_len r]; split <;> rw [incL_len]
theorem cntB_len : ∀ (ts : List Tok) (A : List Int), (cntB ts A).length = A.length
  | [], A => rfl
  | t :: r, A => by
    rw [cntB, cntB_len r]
    split
    · rfl
    · rw [incL_len]
theorem cntA_rng : ∀ (ts : List Tok) (A : List Int) (n : Int), 0 ≤ n → (∀ y ∈ A, 0 ≤ y ∧ y ≤ n) → ∀ y ∈ cntA ts A, 0 ≤ y ∧ y ≤ n + ts.length
  | [], A, n, hn, h => by simpa [cntA] using h
  | t :: r, A, n, hn, h => by
    intro y hy
    rw [cntA] at hy
    have := cntA_rng r _ (n + 1) (by omega) (by split <;> exact incL_rng h hn) y hy
    simp only [List.length_cons]; omega
theorem cntB_rng : ∀ (ts : List Tok) (A : List Int) (n : Int), 0 ≤ n → (∀ y ∈ A, 0 ≤ y ∧ y ≤ n) → ∀ y ∈ cntB ts A, 0 ≤ y ∧ y ≤ n + ts.length
  | [], A, n, hn, h => by simpa [cntB] using h
  | t :: r, A, n, hn, h => by
    intro y hy
    rw [cntB] at hy
    have := cntB_rng r _ (n + 1) (by omega) (by
      split
      · intro z hz; have := h z hz; omega
      · exact incL_rng h hn) y hy
    simp only [List.length_cons]; omega
theorem dcount_loop {v : AV} {ts : List Tok} (hn : ts.length < 1000000) (h0 : H) (rd : RdN 3 h0 v ts.length (toksC ts)) (ia ib : Nat) (ok : ∀ t ∈ ts, tokOk t) (hab : ia ≠ ib) (hia : h0.next ≤ ia) (hib : h0.next ≤ ib) : ∀ (q p : List Tok) (A B : List Int) (h : H), ts = p ++ q → Ext h0 h → h0.next ≤ h.next → h.get ia = some (ints A) → h.get ib = some (ints B) → A.length = 286 → B.length = 30 → (∀ y ∈ A, 0 ≤ y ∧ y ≤ (p.length : Int) + 1) → (∀ y ∈ B, 0 ≤ y ∧ y ≤ (p.length : Int) + 1) → h.floor ≤ ia → h.floor ≤ ib → h.floor ≤ h.next →
    ∃ h', Lp AP.A [0, 4, 5, 6] AP.f13L4 [(0, v), (4, .sobj ia 0 286 1), (5, .sobj ib 0 30 1), (6, .int .i64 p.length)] h = some (.exit 0, [(0, v), (4, .sobj ia 0 286 1), (5, .sobj ib 0 30 1), (6, .int .i64 ts.length), (43, .bool false)], h') ∧ h'.get ia = some (ints (cntA q A)) ∧ h'.get ib = some (ints (cntB q B)) ∧ Fr2 h h' ia ib
  | [], p, A, B, h, hp, hx, hnx, ga, gb, hA, hB, rA, rB, fa, fb, hfl => by
    rw [List.append_nil] at hp; subst hp
    have ln := rd.len
    refine ⟨h, Lp_exit ?_, ga, gb, Fr2.refl h ia ib⟩
    simp (disch := omega) only [go_sem, abin_shl, abin_shr, Nat.reduceEqDiff, reduceIte, Nat.reduceAdd, Nat.reduceMul, Nat.reduceLT, Nat.reduceLeDiff, Int.reduceBEq, Int.reduceBNe, Int.reduceLT, Int.reduceLE, Int.reduceEq, qqC, AOp.loud, AOp.births, Int.reduceAdd, Int.reduceSub, Int.reduceMul, Int.reduceNeg, Int.reduceToNat, AP.f13L4, ln]
  | t :: q, p, A, B, h, hp, hx, hnx, ga, gb, hA, hB, rA, rB, fa, fb, hfl => by
    have ht : ts[p.length]? = some t := by rw [hp]; simp
    have o := ok t (List.mem_of_getElem? ht)
    obtain ⟨h1, s1, ga1, gb1, f1⟩ := dcount_step hn h0 rd ia ib p.length t ht o hab hia hib hx ga gb hA hB rA rB fa fb hfl
    have n1 : (((p ++ [t]).length : Nat) : Int) = ((p.length + 1 : Nat) : Int) := by simp
    have hx1 : Ext h0 h1 := fun j c hj => by
      have := h0.lt _ _ hj
      rw [f1.keep j (by omega) (by omega) (by omega), hx j c hj]
    obtain ⟨h', k, g1, g2, f2⟩ := dcount_loop hn h0 rd ia ib ok hab hia hib q (p ++ [t]) (cntA [t] A) (cntB [t] B) h1 (by rw [hp]; simp) hx1 (Nat.le_trans hnx f1.next) ga1 gb1 (by rw [cntA_len, hA]) (by rw [cntB_len, hB]) (fun y hy => by have := cntA_rng [t] A _ (by omega) rA y hy; simp at this ⊢; omega) (fun y hy => by have := cntB_rng [t] B _ (by omega) rB y hy; simp at this ⊢; omega) (by rw [f1.floor]; exact fa) (by rw [f1.floor]; exact fb) (by rw [f1.floor]; exact Nat.le_trans hfl f1.next)
    rw [n1] at k
    exact ⟨h', Lp_next s1 k, g1, g2, f1.trans f2⟩
def cntC : List Int → List Int → List Int
  | [], C => C
  | d :: r, C => cntC r (incL C d.toNat)
theorem cntC_len : ∀ (ds C : List Int), (cntC ds C).length = C.length
  | [], C => rfl
  | d :: r, C => by rw [cntC, cntC_len r, incL_len]
theorem cntC_rng : ∀ (ds A : List Int) (n : Int), 0 ≤ n → (∀ y ∈ A, 0 ≤ y ∧ y ≤ n) → ∀ y ∈ cntC ds A, 0 ≤ y ∧ y ≤ n + ds.length
  | [], A, n, hn, h => by simpa [cntC] using h
  | t :: r, A, n, hn, h => by
    intro y hy
    rw [cntC] at hy
    have := cntC_rng r _ (n + 1) (by omega) (incL_rng h hn) y hy
    simp only [List.length_cons]; omega
theorem ccount_loop {lv dv mv av : AV} {D : List Int} (hD : D.length < 1000) (hr : ∀ d ∈ D, 0 ≤ d ∧ d < 19) (ic : Nat) (hb : H) (rd : Rd hb av (ints D)) (hno : hb.get ic = none) : ∀ (q p C : List Int) (h : H), D = p ++ q → Ext hb h → h.get ic = some (ints C) → C.length = 19 → (∀ y ∈ C, 0 ≤ y ∧ y ≤ (p.length : Int)) → h.floor ≤ ic →
    ∃ h', Lp AP.A [0, 11, 13, 15, 16, 17] AP.f13L3 [(0, lv), (11, dv), (13, mv), (15, av), (16, .sobj ic 0 19 1), (17, .int .i64 p.length)] h = some (.exit 2, [(0, lv), (11, dv), (13, mv), (15, av), (16, .sobj ic 0 19 1), (17, .int .i64 D.length), (122, .bool false)], h') ∧ h'.get ic = some (ints (cntC q C)) ∧ h'.floor = h.floor ∧ h'.next = h.next ∧ (∀ i, i ≠ ic → h'.get i = h.get i)
  | [], p, C, h, hp, hx, gc, hC, rC, fc => by
    rw [List.append_nil] at hp; subst hp
    have ln := rd.len
    rw [ints_length] at ln
    simp only [I] at ln
    refine ⟨h, Lp_exit ?_, gc, rfl, rfl, fun _ _ => rfl⟩
    simp (disch := omega) only [go_sem, abin_shl, abin_shr, Nat.reduceEqDiff, reduceIte, Nat.reduceAdd, Nat.reduceMul, Nat.reduceLT, Nat.reduceLeDiff, Int.reduceBEq, Int.reduceBNe, Int.reduceLT, Int.reduceLE, Int.reduceEq, qqC, AOp.loud, AOp.births, Int.reduceAdd, Int.reduceSub, Int.reduceMul, Int.reduceNeg, Int.reduceToNat, AP.f13L3, ln]
  | d :: q, p, C, h, hp, hx, gc, hC, rC, fc => by
    have ln := rd.len
    rw [ints_length] at ln
    simp only [I] at ln
    have hl : D.length = p.length + (q.length + 1) := by rw [hp]; simp
    obtain ⟨ad, a1, a2⟩ := rd.ints_at
    have b1 := a1 p.length ⟨by omega, by omega⟩
    have hd : D[p.length]? = some d := by rw [hp]; simp
    have dr := hr d (List.mem_of_getElem? hd)
    obtain ⟨y, rfl⟩ := Int.eq_ofNat_of_zero_le dr.1
    have b2 := a2 h hx p.length _ hd
    have lc : (ints C).length = 19 := by rw [ints_length, hC]
    have gx := getD_get (l := C) (i := y) (by omega)
    have xr : 0 ≤ C.getD y 0 ∧ C.getD y 0 ≤ (p.length : Int) := by
      rw [List.getD_eq_getElem?_getD, List.getElem?_eq_getElem (by omega)]
      exact rC _ (List.getElem_mem _)
    have es := ints_set C y (C.getD y 0 + 1)
    change _ = ints (incL C y) at es
    have ty : ((y : Nat) : Int).toNat = y := by omega
    have g2 : (h.set ic (ints (incL C y))).get ic = some (ints (incL C y)) := by rw [set_hit rfl, gc]; rfl
    obtain ⟨h', k, g, f, n, t⟩ := ccount_loop (lv := lv) (dv := dv) (mv := mv) hD hr ic hb rd hno q (p ++ [(y : Int)]) (incL C y) (h.set ic (ints (incL C y))) (by rw [hp]; simp) (hx.set_out hno _) g2 (by rw [incL_len, hC]) (fun z hz => by have := incL_rng rC (by omega) z hz; simp; omega) (by simpa using fc)
    have n1 : (((p ++ [(y : Int)]).length : Nat) : Int) = (p.length : Int) + 1 := by simp
    rw [cntC, ty]
    refine ⟨h', Lp_next ?_ k, g, by rw [f]; simp, by rw [n]; simp, fun i hi => by rw [t i hi, set_miss hi]⟩
    rw [n1]
    clear k g f n t g2 rd a1 a2 hr hp hd hx rC
    generalize C.getD y 0 = z at *
    generalize ints (incL C y) = C2 at *
    generalize ints C = C0 at *
    simp (disch := omega) only [go_sem, abin_shl, abin_shr, Nat.reduceEqDiff, reduceIte, Nat.reduceAdd, Nat.reduceMul, Nat.reduceLT, Nat.reduceLeDiff, Int.reduceBEq, Int.reduceBNe, Int.reduceLT, Int.reduceLE, Int.reduceEq, qqC, AOp.loud, AOp.births, Int.reduceAdd, Int.reduceSub, Int.reduceMul, Int.reduceNeg, Int.reduceToNat, AP.f13L3, ln, b1, b2, gc, lc, gx, es]
theorem row_loop {a0 a1 a2 a3 lv ov : AV} {L : List Int} (hL : L.length = 19) (ir : Nat) (hb : H) (rl : Rd hb lv (ints L)) (ro : Rd hb ov (ints orderL)) (hno : hb.get ir = none) : ∀ (m i : Nat) (h : H), i + m = 19 → Ext hb h → h.get ir = some (ints ((orderL.take i).map (fun o => L.getD o.toNat 0) ++ List.replicate m 0)) → h.floor ≤ ir →
    ∃ h', Lp AP.A [0, 11, 13, 15, 18, 20, 21, 22] AP.f13L2 [(0, a0), (11, a1), (13, a2), (15, a3), (18, lv), (20, ov), (21, .sobj ir 0 19 1), (22, .int .i64 i)] h = some (.exit 4, [(0, a0), (11, a1), (13, a2), (15, a3), (18, lv), (20, ov), (21, .sobj ir 0 19 1), (22, .int .i64 19), (142, .bool false)], h') ∧ h'.get ir = some (ints (orderL.map (fun o => L.getD o.toNat 0))) ∧ h'.floor = h.floor ∧ h'.next = h.next ∧ (∀ i, i ≠ ir → h'.get i = h.get i)
  | 0, i, h, hi, hx, gr, fr => by
    obtain rfl : i = 19 := by omega
    have e : orderL.take 19 = orderL := rfl
    rw [e, List.replicate_zero, List.append_nil] at gr
    refine ⟨h, Lp_exit ?_, gr, rfl, rfl, fun _ _ => rfl⟩
    simp (disch := omega) only [go_sem, abin_shl, abin_shr, Nat.reduceEqDiff, reduceIte, Nat.reduceAdd, Nat.reduceMul, Nat.reduceLT, Nat.reduceLeDiff, Int.reduceBEq, Int.reduceBNe, Int.reduceLT, Int.reduceLE, Int.reduceEq, qqC, AOp.loud, AOp.births, Int.reduceAdd, Int.reduceSub, Int.reduceMul, Int.reduceNeg, Int.reduceToNat, AP.f13L2]
  | m + 1, i, h, hi, hx, gr, fr => by
    have hi19 : i < orderL.length := by show i < 19; omega
    obtain ⟨ad, d1, d2⟩ := rl.ints_at
    obtain ⟨ao, o1, o2⟩ := ro.ints_at
    have b1 := o1 i ⟨by omega, by omega⟩
    have ho : orderL[i]? = some (orderL[i]) := List.getElem?_eq_getElem hi19
    have orr : 0 ≤ orderL[i] ∧ orderL[i] < 19 := order_mem _ (List.getElem_mem hi19)
    have tk : orderL.take (i + 1) = orderL.take i ++ [orderL[i]] := by rw [List.take_add_one, ho]; rfl
    obtain ⟨y, hy⟩ := Int.eq_ofNat_of_zero_le orr.1
    have ho2 : orderL[i]? = some (y : Int) := by rw [ho, hy]
    have b2 := o2 h hx i _ ho2
    have c1 := d1 y ⟨by omega, by omega⟩
    have lgy : L[y]? = some (L.getD y 0) := by rw [List.getD_eq_getElem?_getD, List.getElem?_eq_getElem (by omega)]; rfl
    have c2 := d2 h hx y _ lgy
    have ty : ((y : Nat) : Int).toNat = y := by omega
    have lr : (ints ((orderL.take i).map (fun o => L.getD o.toNat 0) ++ List.replicate (m + 1) 0)).length = 19 := by
      rw [ints_length, List.length_append, List.length_map, List.length_take, List.length_replicate]; show min i 19 + (m + 1) = 19; omega
    have il : ((orderL.take i).map (fun o => L.getD o.toNat 0)).length = i := by rw [List.length_map, List.length_take]; show min i 19 = i; omega
    have es : (ints ((orderL.take i).map (fun o => L.getD o.toNat 0) ++ List.replicate (m + 1) 0)).set i (.int .i64 (L.getD y 0)) = ints ((orderL.take (i + 1)).map (fun o => L.getD o.toNat 0) ++ List.replicate m 0) := by
      rw [ints_set, List.set_append_right _ _ (by omega), il, Nat.sub_self, tk, List.map_append, List.append_assoc, hy]
      rfl
    have g2 : (h.set ir (ints ((orderL.take (i + 1)).map (fun o => L.getD o.toNat 0) ++ List.replicate m 0))).get ir = some (ints ((orderL.take (i + 1)).map (fun o => L.getD o.toNat 0) ++ List.replicate m 0)) := by rw [set_hit rfl, gr]; rfl
    obtain ⟨h', k, g, f, n, t⟩ := row_loop (a0 := a0) (a1 := a1) (a2 := a2) (a3 := a3) hL ir hb rl ro hno m (i + 1) _ (by omega) (hx.set_out hno _) g2 (by simpa using fr)
    have n1 : ((i + 1 : Nat) : Int) = (i : Int) + 1 := by omega
    refine ⟨h', Lp_next ?_ k, g, by rw [f]; simp, by rw [n]; simp, fun i hi => by rw [t i hi, set_miss hi]⟩
    rw [n1]
    clear k g f n t g2 rl ro d1 d2 o1 o2 hx ho ho2 hy orr tk lgy il
    generalize L.getD y 0 = z at *
    generalize ints ((orderL.take (i + 1)).map (fun o => L.getD o.toNat 0) ++ List.replicate m 0) = R2 at *
    generalize ints ((orderL.take i).map (fun o => L.getD o.toNat 0) ++ List.replicate (m + 1) 0) = R0 at *
    simp (disch := omega) only [go_sem, abin_shl, abin_shr, Nat.reduceEqDiff, reduceIte, Nat.reduceAdd, Nat.reduceMul, Nat.reduceLT, Nat.reduceLeDiff, Int.reduceBEq, Int.reduceBNe, Int.reduceLT, Int.reduceLE, Int.reduceEq, qqC, AOp.loud, AOp.births, Int.reduceAdd, Int.reduceSub, Int.reduceMul, Int.reduceNeg, Int.reduceToNat, AP.f13L2, b1, b2, c1, c2, gr, lr, es]
end Ab
set_option linter.unusedSimpArgs false
set_option linter.unusedVariables false
set_option maxRecDepth 100000
namespace Ab
open Go
def rowB (R : List Int) : List Nat := R.flatMap fun y => putB y.toNat 3
theorem rowB_len : ∀ R : List Int, (rowB R).length = 3 * R.length
  | [] => rfl
  | y :: R => by
    have := rowB_len R
    unfold rowB at *
    rw [List.flatMap_cons, List.length_append, this]; simp [putB, putF_len]; omega
theorem rput_loop {a0 a1 a2 a3 a4 rv : AV} {R : List Int} (h0 : H) (rr : Rd h0 rv (ints R)) (k : Nat) (hk : k ≤ R.length) (hR : R.length = 19) (w : Nat) (hr : ∀ y ∈ R, 0 ≤ y ∧ y < 8) : ∀ (m i : Nat) (bs : List Nat) (h : H) (ov : AV), i + m = k → WX h0 h w bs ov → bs.length + 3 * m ≤ 65000 →
    ∃ e' h' ov', Lp AP.A [0, 11, 13, 15, 18, 21, 23, 24, 25] AP.f13L1 [(0, a0), (11, a1), (13, a2), (15, a3), (18, a4), (21, rv), (23, .int .i64 k), (24, .pobj w 0), (25, .int .i64 i)] h = some (.exit 6, e', h') ∧ look e' 0 = a0 ∧ look e' 11 = a1 ∧ look e' 13 = a2 ∧ look e' 15 = a3 ∧ look e' 18 = a4 ∧ look e' 24 = .pobj w 0 ∧ WX h0 h' w (bs ++ rowB ((R.drop i).take m)) ov'
  | 0, i, bs, h, ov, hi, x, hb => by
    obtain rfl : i = k := by omega
    refine ⟨[(0, a0), (11, a1), (13, a2), (15, a3), (18, a4), (21, rv), (23, .int .i64 i), (24, .pobj w 0), (25, .int .i64 i), (177, .bool false)], h, ov, Lp_exit ?_, rfl, rfl, rfl, rfl, rfl, rfl, by simpa [rowB] using x⟩
    simp (disch := omega) only [go_sem, abin_shl, abin_shr, Nat.reduceEqDiff, reduceIte, Nat.reduceAdd, Nat.reduceMul, Nat.reduceLT, Nat.reduceLeDiff, Int.reduceBEq, Int.reduceBNe, Int.reduceLT, Int.reduceLE, Int.reduceEq, qqC, AOp.loud, AOp.births, Int.reduceAdd, Int.reduceSub, Int.reduceMul, Int.reduceNeg, Int.reduceToNat, AP.f13L1]
  | m + 1, i, bs, h, ov, hi, x, hb => by
    obtain ⟨ad, d1, d2⟩ := rr.ints_at
    have b1 := d1 i ⟨by omega, by omega⟩
    have hg : R[i]? = some (R.getD i 0) := by rw [List.getD_eq_getElem?_getD, List.getElem?_eq_getElem (by omega)]; rfl
    have yr := hr _ (List.mem_of_getElem? hg)
    obtain ⟨y, hy⟩ := Int.eq_ofNat_of_zero_le yr.1
    rw [hy] at hg yr
    have b2 := d2 h x.ext i _ hg
    have dr : R.drop i = (y : Int) :: R.drop (i + 1) := by
      rw [List.drop_eq_getElem_cons (by omega)]
      rw [List.getElem?_eq_getElem (by omega)] at hg
      rw [Option.some.inj hg]
    obtain ⟨h1, o1, k1, w1, f1⟩ := wput_c x.wr y 3 (by omega) (by omega) (by omega)
    have k1' : callW AP.A 33 [.pobj w 0, .int .i64 y, .int .i64 3] h = _ := k1
    have x1 := x.step w1 f1
    have hl1 : (bs ++ putB y 3).length = bs.length + 3 := by simp [putB, putF_len]
    obtain ⟨e', h', ov', r1, r2, r3, r4, r5, r6, r7, x2⟩ := rput_loop (a0 := a0) (a1 := a1) (a2 := a2) (a3 := a3) (a4 := a4) h0 rr k hk hR w hr m (i + 1) _ h1 o1 (by omega) x1 (by rw [hl1]; omega)
    have n1 : ((i + 1 : Nat) : Int) = (i : Int) + 1 := by omega
    refine ⟨e', h', ov', Lp_next ?_ r1, r2, r3, r4, r5, r6, r7, ?_⟩
    · rw [n1]
      clear r1 r2 r3 r4 r5 r6 r7 x2 x1 w1 f1 x rr d1 d2 hr dr hy hg
      simp (disch := omega) only [go_sem, abin_shl, abin_shr, Nat.reduceEqDiff, reduceIte, Nat.reduceAdd, Nat.reduceMul, Nat.reduceLT, Nat.reduceLeDiff, Int.reduceBEq, Int.reduceBNe, Int.reduceLT, Int.reduceLE, Int.reduceEq, qqC, AOp.loud, AOp.births, Int.reduceAdd, Int.reduceSub, Int.reduceMul, Int.reduceNeg, Int.reduceToNat, AP.f13L1, b1, b2, k1']
    · rw [dr, List.take_succ_cons]
      have : rowB ((y : Int) :: (R.drop (i + 1)).take m) = putB y 3 ++ rowB ((R.drop (i + 1)).take m) := by unfold rowB; rw [List.flatMap_cons]; rfl
      rw [this, ← List.append_assoc]
      exact x2
def allB (E : List (Int × Int)) (D : List Int) : List Nat := D.flatMap fun y => codeBits E y.toNat
theorem allB_len {E : List (Int × Int)} : ∀ {D : List Int}, (∀ y ∈ D, okC E y.toNat) → (allB E D).length ≤ 15 * D.length
  | [], _ => by simp [allB]
  | y :: D, h => by
    have := allB_len (E := E) (D := D) fun z hz => h z (by simp [hz])
    obtain ⟨n, v, _, q1, q2, q3, q4⟩ := (h y (by simp)).bits
    unfold allB at *
    rw [List.flatMap_cons, List.length_append, q4, codeB_len, List.length_cons]; omega
theorem rcode_loop {a0 a1 a2 av ev : AV} {D : List Int} {E : List (Int × Int)} (h0 : H) (ra : Rd h0 av (ints D)) (re : RdN 2 h0 ev E.length (E.flatMap pairC)) (hD : D.length < 1000) (hE : E.length = 19) (w : Nat) (hr : ∀ y ∈ D, 0 ≤ y ∧ y < 19) (ok : ∀ y ∈ D, okC E y.toNat) : ∀ (q p : List Int) (bs : List Nat) (h : H) (ov : AV), D = p ++ q → WX h0 h w bs ov → bs.length + 15 * q.length ≤ 65000 →
    ∃ e' h' ov', Lp AP.A [0, 11, 13, 15, 24, 26, 28] AP.f13L0 [(0, a0), (11, a1), (13, a2), (15, av), (24, .pobj w 0), (26, ev), (28, .int .i64 p.length)] h = some (.exit 8, e', h') ∧ look e' 0 = a0 ∧ look e' 11 = a1 ∧ look e' 13 = a2 ∧ look e' 24 = .pobj w 0 ∧ WX h0 h' w (bs ++ allB E q) ov'
  | [], p, bs, h, ov, hp, x, hb => by
    rw [List.append_nil] at hp; subst hp
    have ln := ra.len
    rw [ints_length] at ln
    simp only [I] at ln
    refine ⟨[(0, a0), (11, a1), (13, a2), (15, av), (24, .pobj w 0), (26, ev), (28, .int .i64 D.length), (194, .bool false)], h, ov, Lp_exit ?_, rfl, rfl, rfl, rfl, by simpa [allB] using x⟩
    simp (disch := omega) only [go_sem, abin_shl, abin_shr, Nat.reduceEqDiff, reduceIte, Nat.reduceAdd, Nat.reduceMul, Nat.reduceLT, Nat.reduceLeDiff, Int.reduceBEq, Int.reduceBNe, Int.reduceLT, Int.reduceLE, Int.reduceEq, qqC, AOp.loud, AOp.births, Int.reduceAdd, Int.reduceSub, Int.reduceMul, Int.reduceNeg, Int.reduceToNat, AP.f13L0, ln]
  | d :: q, p, bs, h, ov, hp, x, hb => by
    have ln := ra.len
    rw [ints_length] at ln
    simp only [I] at ln
    have hl : D.length = p.length + (q.length + 1) := by rw [hp]; simp
    obtain ⟨ad, d1, d2⟩ := ra.ints_at
    obtain ⟨ae, e1, e2⟩ := re.pairs
    have b1 := d1 p.length ⟨by omega, by omega⟩
    have hd : D[p.length]? = some d := by rw [hp]; simp
    have dr := hr d (List.mem_of_getElem? hd)
    have oc := ok d (List.mem_of_getElem? hd)
    obtain ⟨y, rfl⟩ := Int.eq_ofNat_of_zero_le dr.1
    have b2 := d2 h x.ext p.length _ hd
    have ty : ((y : Nat) : Int).toNat = y := by omega
    rw [ty] at oc
    obtain ⟨n, c, q0, q1, q2, q3, q4⟩ := oc.bits
    have yl := oc.lt
    have c1 := e1 y ⟨by omega, by omega⟩
    have c2 := e2 h x.ext _ _ q0
    simp only [List.length_cons] at hb
    obtain ⟨h1, o1, k1, w1, f1⟩ := wcode_c x.wr c n q1 q2 q3 (by omega)
    have x1 := x.step w1 f1
    have hl1 : (bs ++ codeB c n).length = bs.length + n := by simp [codeB_len]
    obtain ⟨e', h', ov', r1, r2, r3, r4, r5, x2⟩ := rcode_loop (a0 := a0) (a1 := a1) (a2 := a2) h0 ra re hD hE w hr ok q (p ++ [(y : Int)]) _ h1 o1 (by rw [hp]; simp) x1 (by rw [hl1]; omega)
    have n1 : (((p ++ [(y : Int)]).length : Nat) : Int) = (p.length : Int) + 1 := by simp
    refine ⟨e', h', ov', Lp_next ?_ r1, r2, r3, r4, r5, ?_⟩
    · rw [n1]
      clear r1 r2 r3 r4 r5 x2 x1 w1 f1 x ra re d1 d2 e1 e2 hr hp hd ok oc q4 q0 q3
      simp (disch := omega) only [go_sem, abin_shl, abin_shr, Nat.reduceEqDiff, reduceIte, Nat.reduceAdd, Nat.reduceMul, Nat.reduceLT, Nat.reduceLeDiff, Int.reduceBEq, Int.reduceBNe, Int.reduceLT, Int.reduceLE, Int.reduceEq, qqC, AOp.loud, AOp.births, Int.reduceAdd, Int.reduceSub, Int.reduceMul, Int.reduceNeg, Int.reduceToNat, AP.f13L0, ln, b1, b2, c1, c2, k1]
    · have : allB E ((y : Int) :: q) = codeB c n ++ allB E q := by unfold allB; rw [List.flatMap_cons, ty, q4]
      rw [this, ← List.append_assoc]
      exact x2
theorem dy0 {v0 : AV} {g : H} : evC (callW AP.A) loopW (at_ 0 AP.f13.body) (params 0 [v0]) g = some (.normal, [(0, v0)], g) := by
  simp (disch := omega) only [go_sem, abin_shl, abin_shr, Nat.reduceEqDiff, reduceIte, Nat.reduceAdd, Nat.reduceMul, Nat.reduceLT, Nat.reduceLeDiff, Int.reduceBEq, Int.reduceBNe, Int.reduceLT, Int.reduceLE, Int.reduceEq, qqC, AOp.loud, AOp.births, Int.reduceAdd, Int.reduceSub, Int.reduceMul, Int.reduceNeg, Int.reduceToNat, AP.f13, at_z, at_s]
theorem dy1 {v0 : AV} {g : H} (k : callW AP.A 27 [v0] g = some (.bool true, g)) : evC (callW AP.A) loopW (at_ 1 AP.f13.body) [(0, v0)] g = some (.normal, [(0, v0)], g) := by
  simp (disch := omega) only [go_sem, abin_shl, abin_shr, Nat.reduceEqDiff, reduceIte, Nat.reduceAdd, Nat.reduceMul, Nat.reduceLT, Nat.reduceLeDiff, Int.reduceBEq, Int.reduceBNe, Int.reduceLT, Int.reduceLE, Int.reduceEq, qqC, AOp.loud, AOp.births, Int.reduceAdd, Int.reduceSub, Int.reduceMul, Int.reduceNeg, Int.reduceToNat, AP.f13, at_z, at_s, k]
theorem dy5 {v0 v4 v5 v11 : AV} {g : H} (k : callW AP.A 30 [v4, .int .i64 15] g = some (.tup [v11, .int .i64 0], g)) : evC (callW AP.A) loopW (at_ 5 AP.f13.body) [(0, v0), (4, v4), (5, v5)] g = some (.normal, [(0, v0), (5, v5), (11, v11)], g) := by
  simp (disch := omega) only [go_sem, abin_shl, abin_shr, Nat.reduceEqDiff, reduceIte, Nat.reduceAdd, Nat.reduceMul, Nat.reduceLT, Nat.reduceLeDiff, Int.reduceBEq, Int.reduceBNe, Int.reduceLT, Int.reduceLE, Int.reduceEq, qqC, AOp.loud, AOp.births, Int.reduceAdd, Int.reduceSub, Int.reduceMul, Int.reduceNeg, Int.reduceToNat, AP.f13, at_z, at_s, k]
theorem dy6 {v0 v5 v11 v13 : AV} {g : H} (k : callW AP.A 30 [v5, .int .i64 15] g = some (.tup [v13, .int .i64 0], g)) : evC (callW AP.A) loopW (at_ 6 AP.f13.body) [(0, v0), (5, v5), (11, v11)] g = some (.normal, [(0, v0), (11, v11), (13, v13)], g) := by
  simp (disch := omega) only [go_sem, abin_shl, abin_shr, Nat.reduceEqDiff, reduceIte, Nat.reduceAdd, Nat.reduceMul, Nat.reduceLT, Nat.reduceLeDiff, Int.reduceBEq, Int.reduceBNe, Int.reduceLT, Int.reduceLE, Int.reduceEq, qqC, AOp.loud, AOp.births, Int.reduceAdd, Int.reduceSub, Int.reduceMul, Int.reduceNeg, Int.reduceToNat, AP.f13, at_z, at_s, k]
theorem dy13 {v0 v11 v13 v15 v16 v18 : AV} {g : H} (k : callW AP.A 30 [v16, .int .i64 7] g = some (.tup [v18, .int .i64 0], g)) : evC (callW AP.A) loopW (at_ 13 AP.f13.body) [(0, v0), (11, v11), (13, v13), (15, v15), (16, v16)] g = some (.normal, [(0, v0), (11, v11), (13, v13), (15, v15), (18, v18)], g) := by
  simp (disch := omega) only [go_sem, abin_shl, abin_shr, Nat.reduceEqDiff, reduceIte, Nat.reduceAdd, Nat.reduceMul, Nat.reduceLT, Nat.reduceLeDiff, Int.reduceBEq, Int.reduceBNe, Int.reduceLT, Int.reduceLE, Int.reduceEq, qqC, AOp.loud, AOp.births, Int.reduceAdd, Int.reduceSub, Int.reduceMul, Int.reduceNeg, Int.reduceToNat, AP.f13, at_z, at_s, k]
theorem dy14 {v0 v11 v13 v15 v18 v20 : AV} {g : H} (k : callW AP.A 32 [] g = some (v20, g)) : evC (callW AP.A) loopW (at_ 14 AP.f13.body) [(0, v0), (11, v11), (13, v13), (15, v15), (18, v18)] g = some (.normal, [(0, v0), (11, v11), (13, v13), (15, v15), (18, v18), (20, v20)], g) := by
  simp (disch := omega) only [go_sem, abin_shl, abin_shr, Nat.reduceEqDiff, reduceIte, Nat.reduceAdd, Nat.reduceMul, Nat.reduceLT, Nat.reduceLeDiff, Int.reduceBEq, Int.reduceBNe, Int.reduceLT, Int.reduceLE, Int.reduceEq, qqC, AOp.loud, AOp.births, Int.reduceAdd, Int.reduceSub, Int.reduceMul, Int.reduceNeg, Int.reduceToNat, AP.f13, at_z, at_s, k]
theorem dy17 {v0 v11 v13 v15 v18 v21 v23 : AV} {g : H} (k : callW AP.A 31 [v21, .int .i64 4] g = some (v23, g)) : evC (callW AP.A) loopW (at_ 17 AP.f13.body) [(0, v0), (11, v11), (13, v13), (15, v15), (18, v18), (21, v21)] g = some (.normal, [(0, v0), (11, v11), (13, v13), (15, v15), (18, v18), (21, v21), (23, v23)], g) := by
  simp (disch := omega) only [go_sem, abin_shl, abin_shr, Nat.reduceEqDiff, reduceIte, Nat.reduceAdd, Nat.reduceMul, Nat.reduceLT, Nat.reduceLeDiff, Int.reduceBEq, Int.reduceBNe, Int.reduceLT, Int.reduceLE, Int.reduceEq, qqC, AOp.loud, AOp.births, Int.reduceAdd, Int.reduceSub, Int.reduceMul, Int.reduceNeg, Int.reduceToNat, AP.f13, at_z, at_s, k]
theorem dy18 {v0 v11 v13 v15 v18 v21 v23 : AV} {g : H}  : evC (callW AP.A) loopW (at_ 18 AP.f13.body) [(0, v0), (11, v11), (13, v13), (15, v15), (18, v18), (21, v21), (23, v23)] g = some (.normal, [(0, v0), (11, v11), (13, v13), (15, v15), (18, v18), (21, v21), (23, v23), (24, .pobj g.next 0)], (g.alloc [.nils, .int .i64 0])) := by
  simp (disch := omega) only [go_sem, abin_shl, abin_shr, Nat.reduceEqDiff, reduceIte, Nat.reduceAdd, Nat.reduceMul, Nat.reduceLT, Nat.reduceLeDiff, Int.reduceBEq, Int.reduceBNe, Int.reduceLT, Int.reduceLE, Int.reduceEq, qqC, AOp.loud, AOp.births, Int.reduceAdd, Int.reduceSub, Int.reduceMul, Int.reduceNeg, Int.reduceToNat, AP.f13, at_z, at_s]
theorem dy19 {v0 v11 v13 v15 v18 v21 v23 v24 : AV} {g g2 : H} (k : callW AP.A 33 [v24, .int .i64 5, .int .i64 3] g = some (.int .i64 0, g2)) : evC (callW AP.A) loopW (at_ 19 AP.f13.body) [(0, v0), (11, v11), (13, v13), (15, v15), (18, v18), (21, v21), (23, v23), (24, v24)] g = some (.normal, [(0, v0), (11, v11), (13, v13), (15, v15), (18, v18), (21, v21), (23, v23), (24, v24)], g2) := by
  simp (disch := omega) only [go_sem, abin_shl, abin_shr, Nat.reduceEqDiff, reduceIte, Nat.reduceAdd, Nat.reduceMul, Nat.reduceLT, Nat.reduceLeDiff, Int.reduceBEq, Int.reduceBNe, Int.reduceLT, Int.reduceLE, Int.reduceEq, qqC, AOp.loud, AOp.births, Int.reduceAdd, Int.reduceSub, Int.reduceMul, Int.reduceNeg, Int.reduceToNat, AP.f13, at_z, at_s, k]
theorem dy20 {v0 v11 v13 v15 v18 v21 v23 v24 : AV} {g g2 : H} {n : Nat} (ln : alen false v11 = some (.int .i64 n)) (hn : n < 1000) (k : callW AP.A 33 [v24, .int .i64 ((n : Int) - 257), .int .i64 5] g = some (.int .i64 0, g2)) : evC (callW AP.A) loopW (at_ 20 AP.f13.body) [(0, v0), (11, v11), (13, v13), (15, v15), (18, v18), (21, v21), (23, v23), (24, v24)] g = some (.normal, [(0, v0), (11, v11), (13, v13), (15, v15), (18, v18), (21, v21), (23, v23), (24, v24)], g2) := by
  simp (disch := omega) only [go_sem, abin_shl, abin_shr, Nat.reduceEqDiff, reduceIte, Nat.reduceAdd, Nat.reduceMul, Nat.reduceLT, Nat.reduceLeDiff, Int.reduceBEq, Int.reduceBNe, Int.reduceLT, Int.reduceLE, Int.reduceEq, qqC, AOp.loud, AOp.births, Int.reduceAdd, Int.reduceSub, Int.reduceMul, Int.reduceNeg, Int.reduceToNat, AP.f13, at_z, at_s, ln, k]
theorem dy21 {v0 v11 v13 v15 v18 v21 v23 v24 : AV} {g g2 : H} {n : Nat} (ln : alen false v13 = some (.int .i64 n)) (hn : n < 1000) (k : callW AP.A 33 [v24, .int .i64 ((n : Int) - 1), .int .i64 5] g = some (.int .i64 0, g2)) : evC (callW AP.A) loopW (at_ 21 AP.f13.body) [(0, v0), (11, v11), (13, v13), (15, v15), (18, v18), (21, v21), (23, v23), (24, v24)] g = some (.normal, [(0, v0), (11, v11), (13, v13), (15, v15), (18, v18), (21, v21), (23, v23), (24, v24)], g2) := by
  simp (disch := omega) only [go_sem, abin_shl, abin_shr, Nat.reduceEqDiff, reduceIte, Nat.reduceAdd, Nat.reduceMul, Nat.reduceLT, Nat.reduceLeDiff, Int.reduceBEq, Int.reduceBNe, Int.reduceLT, Int.reduceLE, Int.reduceEq, qqC, AOp.loud, AOp.births, Int.reduceAdd, Int.reduceSub, Int.reduceMul, Int.reduceNeg, Int.reduceToNat, AP.f13, at_z, at_s, ln, k]
theorem dy22 {v0 v11 v13 v15 v18 v21 v24 : AV} {g g2 : H} {n : Nat} (hn : n < 1000) (k : callW AP.A 33 [v24, .int .i64 ((n : Int) - 4), .int .i64 4] g = some (.int .i64 0, g2)) : evC (callW AP.A) loopW (at_ 22 AP.f13.body) [(0, v0), (11, v11), (13, v13), (15, v15), (18, v18), (21, v21), (23, .int .i64 n), (24, v24)] g = some (.normal, [(0, v0), (11, v11), (13, v13), (15, v15), (18, v18), (21, v21), (23, .int .i64 n), (24, v24)], g2) := by
  simp (disch := omega) only [go_sem, abin_shl, abin_shr, Nat.reduceEqDiff, reduceIte, Nat.reduceAdd, Nat.reduceMul, Nat.reduceLT, Nat.reduceLeDiff, Int.reduceBEq, Int.reduceBNe, Int.reduceLT, Int.reduceLE, Int.reduceEq, qqC, AOp.loud, AOp.births, Int.reduceAdd, Int.reduceSub, Int.reduceMul, Int.reduceNeg, Int.reduceToNat, AP.f13, at_z, at_s, k]
theorem dy23 {v0 v11 v13 v15 v18 v21 v23 v24 : AV} {g g2 : H} {e : Env} (L : Lp AP.A [0, 11, 13, 15, 18, 21, 23, 24, 25] AP.f13L1 [(0, v0), (11, v11), (13, v13), (15, v15), (18, v18), (21, v21), (23, v23), (24, v24), (25, .int .i64 0)] g = some (.exit 6, e, g2)) (q0 : look e 0 = v0) (q11 : look e 11 = v11) (q13 : look e 13 = v13) (q15 : look e 15 = v15) (q18 : look e 18 = v18) (q24 : look e 24 = v24) : evC (callW AP.A) loopW (at_ 23 AP.f13.body) [(0, v0), (11, v11), (13, v13), (15, v15), (18, v18), (21, v21), (23, v23), (24, v24)] g = some (.normal, [(0, v0), (11, v11), (13, v13), (15, v15), (18, v18), (24, v24)], g2) := by
  simp (disch := omega) only [go_sem, abin_shl, abin_shr, Nat.reduceEqDiff, reduceIte, Nat.reduceAdd, Nat.reduceMul, Nat.reduceLT, Nat.reduceLeDiff, Int.reduceBEq, Int.reduceBNe, Int.reduceLT, Int.reduceLE, Int.reduceEq, qqC, AOp.loud, AOp.births, Int.reduceAdd, Int.reduceSub, Int.reduceMul, Int.reduceNeg, Int.reduceToNat, AP.f13, at_z, at_s, evC_loop, L, q0, q11, q13, q15, q18, q24]
theorem dy24 {v0 v11 v13 v15 v18 v24 v26 : AV} {g : H} (k : callW AP.A 34 [v18] g = some (.tup [v26, .int .i64 0], g)) : evC (callW AP.A) loopW (at_ 24 AP.f13.body) [(0, v0), (11, v11), (13, v13), (15, v15), (18, v18), (24, v24)] g = some (.normal, [(0, v0), (11, v11), (13, v13), (15, v15), (24, v24), (26, v26)], g) := by
  simp (disch := omega) only [go_sem, abin_shl, abin_shr, Nat.reduceEqDiff, reduceIte, Nat.reduceAdd, Nat.reduceMul, Nat.reduceLT, Nat.reduceLeDiff, Int.reduceBEq, Int.reduceBNe, Int.reduceLT, Int.reduceLE, Int.reduceEq, qqC, AOp.loud, AOp.births, Int.reduceAdd, Int.reduceSub, Int.reduceMul, Int.reduceNeg, Int.reduceToNat, AP.f13, at_z, at_s, k]
theorem dy25 {v0 v11 v13 v15 v24 v26 : AV} {g g2 : H} {e : Env} (L : Lp AP.A [0, 11, 13, 15, 24, 26, 28] AP.f13L0 [(0, v0), (11, v11), (13, v13), (15, v15), (24, v24), (26, v26), (28, .int .i64 0)] g = some (.exit 8, e, g2)) (q0 : look e 0 = v0) (q11 : look e 11 = v11) (q13 : look e 13 = v13) (q24 : look e 24 = v24) : evC (callW AP.A) loopW (at_ 25 AP.f13.body) [(0, v0), (11, v11), (13, v13), (15, v15), (24, v24), (26, v26)] g = some (.normal, [(0, v0), (11, v11), (13, v13), (24, v24)], g2) := by
  simp (disch := omega) only [go_sem, abin_shl, abin_shr, Nat.reduceEqDiff, reduceIte, Nat.reduceAdd, Nat.reduceMul, Nat.reduceLT, Nat.reduceLeDiff, Int.reduceBEq, Int.reduceBNe, Int.reduceLT, Int.reduceLE, Int.reduceEq, qqC, AOp.loud, AOp.births, Int.reduceAdd, Int.reduceSub, Int.reduceMul, Int.reduceNeg, Int.reduceToNat, AP.f13, at_z, at_s, evC_loop, L, q0, q11, q13, q24]
theorem dy26 {v0 v11 v13 v24 v29 : AV} {g : H} (k : callW AP.A 34 [v11] g = some (.tup [v29, .int .i64 0], g)) : evC (callW AP.A) loopW (at_ 26 AP.f13.body) [(0, v0), (11, v11), (13, v13), (24, v24)] g = some (.normal, [(0, v0), (13, v13), (24, v24), (29, v29)], g) := by
  simp (disch := omega) only [go_sem, abin_shl, abin_shr, Nat.reduceEqDiff, reduceIte, Nat.reduceAdd, Nat.reduceMul, Nat.reduceLT, Nat.reduceLeDiff, Int.reduceBEq, Int.reduceBNe, Int.reduceLT, Int.reduceLE, Int.reduceEq, qqC, AOp.loud, AOp.births, Int.reduceAdd, Int.reduceSub, Int.reduceMul, Int.reduceNeg, Int.reduceToNat, AP.f13, at_z, at_s, k]
theorem dy27 {v0 v13 v24 v29 v31 : AV} {g : H} (k : callW AP.A 34 [v13] g = some (.tup [v31, .int .i64 0], g)) : evC (callW AP.A) loopW (at_ 27 AP.f13.body) [(0, v0), (13, v13), (24, v24), (29, v29)] g = some (.normal, [(0, v0), (24, v24), (29, v29), (31, v31)], g) := by
  simp (disch := omega) only [go_sem, abin_shl, abin_shr, Nat.reduceEqDiff, reduceIte, Nat.reduceAdd, Nat.reduceMul, Nat.reduceLT, Nat.reduceLeDiff, Int.reduceBEq, Int.reduceBNe, Int.reduceLT, Int.reduceLE, Int.reduceEq, qqC, AOp.loud, AOp.births, Int.reduceAdd, Int.reduceSub, Int.reduceMul, Int.reduceNeg, Int.reduceToNat, AP.f13, at_z, at_s, k]
theorem dy28 {v0 v24 v29 v31 : AV} {g g2 : H} (k : callW AP.A 36 [v24, v0, v29, v31] g = some (.tup [], g2)) : evC (callW AP.A) loopW (at_ 28 AP.f13.body) [(0, v0), (24, v24), (29, v29), (31, v31)] g = some (.normal, [(24, v24)], g2) := by
  simp (disch := omega) only [go_sem, abin_shl, abin_shr, Nat.reduceEqDiff, reduceIte, Nat.reduceAdd, Nat.reduceMul, Nat.reduceLT, Nat.reduceLeDiff, Int.reduceBEq, Int.reduceBNe, Int.reduceLT, Int.reduceLE, Int.reduceEq, qqC, AOp.loud, AOp.births, Int.reduceAdd, Int.reduceSub, Int.reduceMul, Int.reduceNeg, Int.reduceToNat, AP.f13, at_z, at_s, k]
theorem dy29 {v24 : AV} {g : H} {t : ByteArray} (k : callW AP.A 37 [v24] g = some (.str t, g)) : evC (callW AP.A) loopW (tl_ 29 AP.f13.body) [(24, v24)] g = some (.ret, [(2, .str t), (3, .int .i64 0)], g) := by
  simp (disch := omega) only [go_sem, abin_shl, abin_shr, Nat.reduceEqDiff, reduceIte, Nat.reduceAdd, Nat.reduceMul, Nat.reduceLT, Nat.reduceLeDiff, Int.reduceBEq, Int.reduceBNe, Int.reduceLT, Int.reduceLE, Int.reduceEq, qqC, AOp.loud, AOp.births, Int.reduceAdd, Int.reduceSub, Int.reduceMul, Int.reduceNeg, Int.reduceToNat, AP.f13, tl_z, tl_s, k]
theorem asl_sl {h : H} {cs : List AV} {N k : Nat} (hN : cs.length = N) (h0 : 0 < N) (hk : k ≤ N) : asl h 1 (slN 1 N cs) none (some (.int .i64 k)) none = some (.simm false cs 0 k 1) := by
  unfold slN
  rw [if_neg (by omega)]
  exact asl_imm_hi hN hk
theorem dy7 {v0 v11 v13 : AV} {g : H} {cs : List AV} {N k : Nat} (hN : cs.length = N) (h0 : 0 < N) (hk : k ≤ N) (e : v11 = slN 1 N cs) (u : callW AP.A 31 [slN 1 N cs, .int .i64 257] g = some (.int .i64 k, g)) : evC (callW AP.A) loopW (at_ 7 AP.f13.body) [(0, v0), (11, v11), (13, v13)] g = some (.normal, [(0, v0), (11, .simm false cs 0 k 1), (13, v13)], g) := by
  subst e
  have s := asl_sl (h := g) hN h0 hk
  generalize slN 1 N cs = S at *
  simp (disch := omega) only [go_sem, abin_shl, abin_shr, Nat.reduceEqDiff, reduceIte, Nat.reduceAdd, Nat.reduceMul, Nat.reduceLT, Nat.reduceLeDiff, Int.reduceBEq, Int.reduceBNe, Int.reduceLT, Int.reduceLE, Int.reduceEq, qqC, AOp.loud, AOp.births, Int.reduceAdd, Int.reduceSub, Int.reduceMul, Int.reduceNeg, Int.reduceToNat, AP.f13, at_z, at_s, u, s]
theorem dy8 {v0 v11 v13 : AV} {g : H} {cs : List AV} {N k : Nat} (hN : cs.length = N) (h0 : 0 < N) (hk : k ≤ N) (e : v13 = slN 1 N cs) (u : callW AP.A 31 [slN 1 N cs, .int .i64 1] g = some (.int .i64 k, g)) : evC (callW AP.A) loopW (at_ 8 AP.f13.body) [(0, v0), (11, v11), (13, v13)] g = some (.normal, [(0, v0), (11, v11), (13, .simm false cs 0 k 1)], g) := by
  subst e
  have s := asl_sl (h := g) hN h0 hk
  generalize slN 1 N cs = S at *
  simp (disch := omega) only [go_sem, abin_shl, abin_shr, Nat.reduceEqDiff, reduceIte, Nat.reduceAdd, Nat.reduceMul, Nat.reduceLT, Nat.reduceLeDiff, Int.reduceBEq, Int.reduceBNe, Int.reduceLT, Int.reduceLE, Int.reduceEq, qqC, AOp.loud, AOp.births, Int.reduceAdd, Int.reduceSub, Int.reduceMul, Int.reduceNeg, Int.reduceToNat, AP.f13, at_z, at_s, u, s]
theorem dy9 {v0 v11 v13 v15 : AV} {g g2 : H} (p : aapp (g.alloc []) 1 8 (.sobj g.next 0 0 1) v11 = some (v15, g2)) : evC (callW AP.A) loopW (at_ 9 AP.f13.body) [(0, v0), (11, v11), (13, v13)] g = some (.normal, [(0, v0), (11, v11), (13, v13), (15, v15)], g2) := by
  simp (disch := omega) only [go_sem, abin_shl, abin_shr, Nat.reduceEqDiff, reduceIte, Nat.reduceAdd, Nat.reduceMul, Nat.reduceLT, Nat.reduceLeDiff, Int.reduceBEq, Int.reduceBNe, Int.reduceLT, Int.reduceLE, Int.reduceEq, qqC, AOp.loud, AOp.births, Int.reduceAdd, Int.reduceSub, Int.reduceMul, Int.reduceNeg, Int.reduceToNat, AP.f13, at_z, at_s, p]
theorem dy10 {v0 v11 v13 v15 v16 : AV} {g g2 : H} (p : aapp g 1 8 v15 v13 = some (v16, g2)) : evC (callW AP.A) loopW (at_ 10 AP.f13.body) [(0, v0), (11, v11), (13, v13), (15, v15)] g = some (.normal, [(0, v0), (11, v11), (13, v13), (15, v16)], g2) := by
  simp (disch := omega) only [go_sem, abin_shl, abin_shr, Nat.reduceEqDiff, reduceIte, Nat.reduceAdd, Nat.reduceMul, Nat.reduceLT, Nat.reduceLeDiff, Int.reduceBEq, Int.reduceBNe, Int.reduceLT, Int.reduceLE, Int.reduceEq, qqC, AOp.loud, AOp.births, Int.reduceAdd, Int.reduceSub, Int.reduceMul, Int.reduceNeg, Int.reduceToNat, AP.f13, at_z, at_s, p]
theorem dy11 {v0 v11 v13 v15 : AV} {g : H}  : evC (callW AP.A) loopW (at_ 11 AP.f13.body) [(0, v0), (11, v11), (13, v13), (15, v15)] g = some (.normal, [(0, v0), (11, v11), (13, v13), (15, v15), (16, .sobj g.next 0 19 1)], (g.alloc (replM 19 [.int .i64 0]))) := by
  simp (disch := omega) only [go_sem, abin_shl, abin_shr, Nat.reduceEqDiff, reduceIte, Nat.reduceAdd, Nat.reduceMul, Nat.reduceLT, Nat.reduceLeDiff, Int.reduceBEq, Int.reduceBNe, Int.reduceLT, Int.reduceLE, Int.reduceEq, qqC, AOp.loud, AOp.births, Int.reduceAdd, Int.reduceSub, Int.reduceMul, Int.reduceNeg, Int.reduceToNat, AP.f13, at_z, at_s]
theorem dy15 {v0 v11 v13 v15 v18 v20 : AV} {g : H}  : evC (callW AP.A) loopW (at_ 15 AP.f13.body) [(0, v0), (11, v11), (13, v13), (15, v15), (18, v18), (20, v20)] g = some (.normal, [(0, v0), (11, v11), (13, v13), (15, v15), (18, v18), (20, v20), (21, .sobj g.next 0 19 1)], (g.alloc (replM 19 [.int .i64 0]))) := by
  simp (disch := omega) only [go_sem, abin_shl, abin_shr, Nat.reduceEqDiff, reduceIte, Nat.reduceAdd, Nat.reduceMul, Nat.reduceLT, Nat.reduceLeDiff, Int.reduceBEq, Int.reduceBNe, Int.reduceLT, Int.reduceLE, Int.reduceEq, qqC, AOp.loud, AOp.births, Int.reduceAdd, Int.reduceSub, Int.reduceMul, Int.reduceNeg, Int.reduceToNat, AP.f13, at_z, at_s]
theorem dy12 {v0 v11 v13 v15 v16 x17 x122 : AV} {g g2 : H} (L : Lp AP.A [0, 11, 13, 15, 16, 17] AP.f13L3 [(0, v0), (11, v11), (13, v13), (15, v15), (16, v16), (17, .int .i64 0)] g = some (.exit 2, [(0, v0), (11, v11), (13, v13), (15, v15), (16, v16), (17, x17), (122, x122)], g2)) : evC (callW AP.A) loopW (at_ 12 AP.f13.body) [(0, v0), (11, v11), (13, v13), (15, v15), (16, v16)] g = some (.normal, [(0, v0), (11, v11), (13, v13), (15, v15), (16, v16)], g2) := by
  simp (disch := omega) only [go_sem, abin_shl, abin_shr, Nat.reduceEqDiff, reduceIte, Nat.reduceAdd, Nat.reduceMul, Nat.reduceLT, Nat.reduceLeDiff, Int.reduceBEq, Int.reduceBNe, Int.reduceLT, Int.reduceLE, Int.reduceEq, qqC, AOp.loud, AOp.births, Int.reduceAdd, Int.reduceSub, Int.reduceMul, Int.reduceNeg, Int.reduceToNat, AP.f13, at_z, at_s, evC_loop, L]
theorem dy16 {v0 v11 v13 v15 v18 v20 v21 x22 x142 : AV} {g g2 : H} (L : Lp AP.A [0, 11, 13, 15, 18, 20, 21, 22] AP.f13L2 [(0, v0), (11, v11), (13, v13), (15, v15), (18, v18), (20, v20), (21, v21), (22, .int .i64 0)] g = some (.exit 4, [(0, v0), (11, v11), (13, v13), (15, v15), (18, v18), (20, v20), (21, v21), (22, x22), (142, x142)], g2)) : evC (callW AP.A) loopW (at_ 16 AP.f13.body) [(0, v0), (11, v11), (13, v13), (15, v15), (18, v18), (20, v20), (21, v21)] g = some (.normal, [(0, v0), (11, v11), (13, v13), (15, v15), (18, v18), (21, v21)], g2) := by
  simp (disch := omega) only [go_sem, abin_shl, abin_shr, Nat.reduceEqDiff, reduceIte, Nat.reduceAdd, Nat.reduceMul, Nat.reduceLT, Nat.reduceLeDiff, Int.reduceBEq, Int.reduceBNe, Int.reduceLT, Int.reduceLE, Int.reduceEq, qqC, AOp.loud, AOp.births, Int.reduceAdd, Int.reduceSub, Int.reduceMul, Int.reduceNeg, Int.reduceToNat, AP.f13, at_z, at_s, evC_loop, L]
theorem dy4 {v0 v4 v5 x6 x43 : AV} {g g2 : H} (L : Lp AP.A [0, 4, 5, 6] AP.f13L4 [(0, v0), (4, v4), (5, v5), (6, .int .i64 0)] g = some (.exit 0, [(0, v0), (4, v4), (5, v5), (6, x6), (43, x43)], g2)) : evC (callW AP.A) loopW (at_ 4 AP.f13.body) [(0, v0), (4, v4), (5, v5)] g = some (.normal, [(0, v0), (4, v4), (5, v5)], g2) := by
  simp (disch := omega) only [go_sem, abin_shl, abin_shr, Nat.reduceEqDiff, reduceIte, Nat.reduceAdd, Nat.reduceMul, Nat.reduceLT, Nat.reduceLeDiff, Int.reduceBEq, Int.reduceBNe, Int.reduceLT, Int.reduceLE, Int.reduceEq, qqC, AOp.loud, AOp.births, Int.reduceAdd, Int.reduceSub, Int.reduceMul, Int.reduceNeg, Int.reduceToNat, AP.f13, at_z, at_s, evC_loop, L]
theorem dy2 {v0 : AV} {g : H} : evC (callW AP.A) loopW (at_ 2 AP.f13.body) [(0, v0)] g = some (.normal, [(0, v0), (4, .sobj g.next 0 286 1), (5, .sobj (g.next + 1) 0 30 1)], (g.alloc (replM 286 [.int .i64 0])).alloc (replM 30 [.int .i64 0])) := by
  simp (disch := first | omega | (simp only [qqH, List.length_cons, List.length_nil, Nat.zero_add, Nat.reduceAdd]; first | done | omega | fail) | (simp (disch := first | omega | (simp only [qqH, List.length_cons, List.length_nil, Nat.zero_add, Nat.reduceAdd]; first | done | omega | fail) | fail) only [qqH, qqG, Option.map_some, List.length_cons, List.length_nil, Nat.zero_add, Nat.reduceAdd]; done) | fail) only [go_sem, abin_shl, abin_shr, Nat.reduceEqDiff, reduceIte, Nat.reduceAdd, Nat.reduceMul, Nat.reduceLT, Nat.reduceLeDiff, Int.reduceBEq, Int.reduceBNe, Int.reduceLT, Int.reduceLE, Int.reduceEq, qqC, qqD, AOp.loud, AOp.births, Int.reduceAdd, Int.reduceSub, Int.reduceMul, Int.reduceNeg, Int.reduceToNat, AP.f13, at_z, at_s]
theorem dy3 {v0 v5 : AV} {g : H} {ia : Nat} {A : List AV} (ga : g.get ia = some A) (hA : A.length = 286) (fa : g.floor ≤ ia) : evC (callW AP.A) loopW (at_ 3 AP.f13.body) [(0, v0), (4, .sobj ia 0 286 1), (5, v5)] g = some (.normal, [(0, v0), (4, .sobj ia 0 286 1), (5, v5)], g.set ia (A.set 256 (.int .i64 1))) := by
  simp (disch := omega) only [go_sem, abin_shl, abin_shr, Nat.reduceEqDiff, reduceIte, Nat.reduceAdd, Nat.reduceMul, Nat.reduceLT, Nat.reduceLeDiff, Int.reduceBEq, Int.reduceBNe, Int.reduceLT, Int.reduceLE, Int.reduceEq, qqC, AOp.loud, AOp.births, Int.reduceAdd, Int.reduceSub, Int.reduceMul, Int.reduceNeg, Int.reduceToNat, AP.f13, at_z, at_s, ga, hA]
theorem dy_body : AP.f13.body = .seq (at_ 0 AP.f13.body) (.seq (at_ 1 AP.f13.body) (.seq (at_ 2 AP.f13.body) (.seq (at_ 3 AP.f13.body) (.seq (at_ 4 AP.f13.body) (.seq (at_ 5 AP.f13.body) (.seq (at_ 6 AP.f13.body) (.seq (at_ 7 AP.f13.body) (.seq (at_ 8 AP.f13.body) (.seq (at_ 9 AP.f13.body) (.seq (at_ 10 AP.f13.body) (.seq (at_ 11 AP.f13.body) (.seq (at_ 12 AP.f13.body) (.seq (at_ 13 AP.f13.body) (.seq (at_ 14 AP.f13.body) (.seq (at_ 15 AP.f13.body) (.seq (at_ 16 AP.f13.body) (.seq (at_ 17 AP.f13.body) (.seq (at_ 18 AP.f13.body) (.seq (at_ 19 AP.f13.body) (.seq (at_ 20 AP.f13.body) (.seq (at_ 21 AP.f13.body) (.seq (at_ 22 AP.f13.body) (.seq (at_ 23 AP.f13.body) (.seq (at_ 24 AP.f13.body) (.seq (at_ 25 AP.f13.body) (.seq (at_ 26 AP.f13.body) (.seq (at_ 27 AP.f13.body) (.seq (at_ 28 AP.f13.body) ((tl_ 29 AP.f13.body)))))))))))))))))))))))))))))) := rfl
end Ab
set_option linter.unusedSimpArgs false
set_option linter.unusedVariables false
set_option maxRecDepth 100000
namespace Ab
open Go
theorem upToA_rng (l : List Int) (k : Nat) : ∀ n, k ≤ upToA l k n ∧ upToA l k n ≤ max k n
  | 0 => ⟨Nat.le_refl _, by rw [upToA]; omega⟩
  | n + 1 => by
    rw [upToA]
    have := upToA_rng l k n
    split
    · omega
    · split
      · omega
      · omega
theorem lensR_len : ∀ (K : Nat) (S W O : List Int), (lensR S K W O).length = O.length
  | 0, S, W, O => by rw [lensR, setAll_len]
  | K + 1, S, W, O => by rw [lensR, lensR_len K, setAll_len]
theorem lensO_len (C : List Int) (K : Nat) : (lensO C K).length = C.length := by unfold lensO; rw [lensR_len]; simp
theorem rd_take (h : H) (l : List Int) {k : Nat} (hk : k ≤ l.length) : Rd h (.simm false (ints l) 0 k 1) (ints (l.take k)) := by
  refine ⟨?_, by intro s e; cases e⟩
  have : (ints (l.take k)).length = k := by rw [ints_length, List.length_take]; omega
  rw [this]
  simp [srcCells, ints, hk, List.map_take]
def dA (ts : List Tok) : List Int := cntA ts ((List.replicate 286 0).set 256 1)
def dB (ts : List Tok) : List Int := cntB ts (List.replicate 30 0)
def cutA (l : List Int) (k : Nat) : List Int := l.take (upToA l k l.length)
theorem cutA_len (l : List Int) {k : Nat} (h : k ≤ l.length) : (cutA l k).length = upToA l k l.length := by
  have := upToA_rng l k l.length
  unfold cutA; rw [List.length_take]; omega
def dynBits (ts : List Tok) (la lb Lc : List Int) : List Nat :=
  let all := la ++ lb
  let row := orderL.map (fun o => Lc.getD o.toNat 0)
  let k := upToA row 4 19
  putB 5 3 ++ (putB (la.length - 257) 5 ++ (putB (lb.length - 1) 5 ++ (putB (k - 4) 4 ++ (rowB (row.take k) ++ (allB (codesE Lc) all ++ (toksB (codesE la) (codesE lb) ts ++ codeBits (codesE la) 256))))))
structure DynOk (ts : List Tok) (KA KB KC : Nat) (la lb Lc : List Int) : Prop where
  few : fewA ts = true
  n : ts.length ≤ 300
  tok : ∀ t ∈ ts, tokOk t
  ra : Rounds 15 KA (lensW (dA ts))
  rb : Rounds 15 KB (lensW (dB ts))
  ea : la = cutA (lensO (dA ts) KA) 257
  eb : lb = cutA (lensO (dB ts) KB) 1
  all : ∀ y ∈ la ++ lb, 0 ≤ y ∧ y < 19
  rc : Rounds 7 KC (lensW (cntC (la ++ lb) (List.replicate 19 0)))
  ec : Lc = lensO (cntC (la ++ lb) (List.replicate 19 0)) KC
  row : ∀ y ∈ Lc, 0 ≤ y ∧ y < 8
  ca : checkS la = 0 ∨ checkS la = 302
  cb : checkS lb = 0 ∨ checkS lb = 302
  cc : checkS Lc = 0 ∨ checkS Lc = 302
  okall : ∀ y ∈ la ++ lb, okC (codesE Lc) y.toNat
  okt : ∀ t ∈ ts, okT (codesE la) (codesE lb) t
  ok256 : okC (codesE la) 256
theorem codesE_len (l : List Int) : (codesE l).length = l.length := by simp [codesE]
theorem rd_codes (h : H) (l : List Int) : RdN 2 h (codesV l) (codesE l).length ((codesE l).flatMap pairC) := by
  have := rd_slN (n := 2) (k := l.length) (h := h) (cs := (codesE l).flatMap pairC) (by rw [fm_len pairC_len, codesE_len])
  rw [codesE_len]; exact this
theorem rd_sl1 (h : H) (l : List Int) : Rd h (slN 1 l.length (ints l)) (ints l) := by
  have := rd_slN (n := 1) (k := l.length) (h := h) (cs := ints l) (by rw [ints_length]; omega)
  exact ⟨by have := this.1; rw [ints_length]; exact this, this.2.2⟩
theorem lensS_le {C : List Int} (h : 2 ≤ C.length) : (lensS C).length ≤ C.length := padS_len_le h (symsOf_len_le 0 C)
theorem dynamic2_c (h : H) (v : AV) (ts : List Tok) (KA KB KC : Nat) (la lb Lc : List Int) (ok : DynOk ts KA KB KC la lb Lc) (rd : RdN 3 h v ts.length (toksC ts)) :
    callW AP.A 13 [v] h = some (.tup [.str (bytesOf (packB (dynBits ts la lb Lc))), .int .i64 0], h) := by
  obtain ⟨few, hn, tok, ra, rb, ea, eb, hall, rc, ec, hrow, ca, cb, cc, okall, okt, ok256⟩ := ok
  have rd0 : RdN 3 h.fence v ts.length (toksC ts) := rd.mono fun i c q => q
  obtain ⟨h2', eh2⟩ : ∃ g, g = (h.fence.alloc (replM 286 [.int .i64 0])).alloc (replM 30 [.int .i64 0]) := ⟨_, rfl⟩
  have d2 := dy2 (v0 := v) (g := h.fence)
  rw [← eh2] at d2
  change evC (callW AP.A) loopW (at_ 2 AP.f13.body) [(0, v)] h.fence = some (.normal, [(0, v), (4, .sobj h.next 0 286 1), (5, .sobj (h.next + 1) 0 30 1)], h2') at d2
  have gA2 : h2'.get h.next = some (ints (List.replicate 286 0)) := by rw [eh2, get_miss (by simp), get_hit (by simp), replM_ints]
  have gB2 : h2'.get (h.next + 1) = some (ints (List.replicate 30 0)) := by rw [eh2, get_hit (by simp), replM_ints]
  have fl2 : h2'.floor = h.next := by rw [eh2]; simp
  have nx2 : h2'.next = h.next + 2 := by rw [eh2]; simp
  have x2 : Ext h.fence h2' := by rw [eh2]; exact ((Ext.refl _).alloc _).alloc _
  have d3 := dy3 (v0 := v) (v5 := .sobj (h.next + 1) 0 30 1) gA2 (by rw [ints_length]; simp) (by omega)
  rw [show (ints (List.replicate 286 0)).set 256 (.int .i64 1) = ints ((List.replicate 286 0).set 256 1) from ints_set _ _ _] at d3
  obtain ⟨h3', eh3⟩ : ∃ g, g = h2'.set h.next (ints ((List.replicate 286 0).set 256 1)) := ⟨_, rfl⟩
  rw [← eh3] at d3
  have gA3 : h3'.get h.next = some (ints ((List.replicate 286 0).set 256 1)) := by rw [eh3, set_hit rfl, gA2]; rfl
  have gB3 : h3'.get (h.next + 1) = some (ints (List.replicate 30 0)) := by rw [eh3, set_miss (by omega), gB2]
  have fl3 : h3'.floor = h.next := by rw [eh3]; simp [fl2]
  have nx3 : h3'.next = h.next + 2 := by rw [eh3]; simp [nx2]
  have x3 : Ext h.fence h3' := by rw [eh3]; exact x2.set (by simp) _
  obtain ⟨h4, L4, gA4, gB4, f4⟩ := dcount_loop (by omega) h.fence rd0 h.next (h.next + 1) tok (by omega) (by simp) (by simp) ts [] _ _ h3' rfl x3 (by simp; omega) gA3 gB3 (by simp) (by simp) (fun y hy => by
    rcases List.mem_or_eq_of_mem_set hy with q | q
    · have := List.eq_of_mem_replicate q; omega
    · omega) (fun y hy => by have := List.eq_of_mem_replicate hy; omega) (by omega) (by omega) (by omega)
  change h4.get h.next = some (ints (dA ts)) at gA4
  change h4.get (h.next + 1) = some (ints (dB ts)) at gB4
  have d4 := dy4 L4
  have fl4 : h4.floor = h.next := by rw [f4.floor, fl3]
  have nx4 : h.next + 2 ≤ h4.next := by have := f4.next; omega
  have x4 : Ext h.fence h4 := fun i c q => by
    have := h.fence.lt _ _ q
    simp at this
    rw [f4.keep i (by omega) (by omega) (by omega), x3 i c q]
  have lA : (dA ts).length = 286 := by unfold dA; rw [cntA_len]; simp
  have lB : (dB ts).length = 30 := by unfold dB; rw [cntB_len]; simp
  have rgA : ∀ y ∈ dA ts, 0 ≤ y ∧ y ≤ 2147483647 := fun y hy => by
    have := cntA_rng ts ((List.replicate 286 0).set 256 1) 1 (by omega) (fun y hy => by
      rcases List.mem_or_eq_of_mem_set hy with q | q
      · have := List.eq_of_mem_replicate q; omega
      · omega) y hy
    omega
  have rgB : ∀ y ∈ dB ts, 0 ≤ y ∧ y ≤ 2147483647 := fun y hy => by
    have := cntB_rng ts (List.replicate 30 0) 0 (by omega) (fun y hy => by have := List.eq_of_mem_replicate hy; omega) y hy
    omega
  have rdA : Rd h4 (.sobj h.next 0 286 1) (ints (dA ts)) := by
    have : OwnN 1 h4 (.sobj h.next 0 286 1) (dA ts).length (ints (dA ts)) := by rw [lA]; exact ⟨by rw [ints_length, lA], .inr ⟨h.next, rfl, gA4, by omega, by omega⟩⟩
    exact this.rdi
  have rdB : Rd h4 (.sobj (h.next + 1) 0 30 1) (ints (dB ts)) := by
    have : OwnN 1 h4 (.sobj (h.next + 1) 0 30 1) (dB ts).length (ints (dB ts)) := by rw [lB]; exact ⟨by rw [ints_length, lB], .inr ⟨h.next + 1, rfl, gB4, by omega, by omega⟩⟩
    exact this.rdi
  have sA := lensS_le (C := dA ts) (by omega)
  have sB := lensS_le (C := dB ts) (by omega)
  have kA := lengths2_c h4 _ (dA ts) 15 KA (by omega) (by omega) rdA (by omega) rgA (by omega) ra
  have kB := lengths2_c h4 _ (dB ts) 15 KB (by omega) (by omega) rdB (by omega) rgB (by omega) rb
  have lLA := lensO_len (dA ts) KA
  have lLB := lensO_len (dB ts) KB
  generalize lensO (dA ts) KA = LA at *
  generalize lensO (dB ts) KB = LB at *
  rw [lA] at lLA
  rw [lB] at lLB
  have kA' : callW AP.A 30 [.sobj h.next 0 286 1, .int .i64 15] h4 = some (.tup [slN 1 LA.length (ints LA), .int .i64 0], h4) := by rw [lLA]; rw [lA] at kA; exact kA
  have kB' : callW AP.A 30 [.sobj (h.next + 1) 0 30 1, .int .i64 15] h4 = some (.tup [slN 1 LB.length (ints LB), .int .i64 0], h4) := by rw [lLB]; rw [lB] at kB; exact kB
  have d5 := dy5 (v0 := v) (v5 := .sobj (h.next + 1) 0 30 1) kA'
  have d6 := dy6 (v0 := v) (v11 := slN 1 LA.length (ints LA)) kB'
  have uA := upto_c h4 _ LA (by omega) (rd_sl1 h4 LA) 257 (by omega)
  have uB := upto_c h4 _ LB (by omega) (rd_sl1 h4 LB) 1 (by omega)
  have ugA := upToA_rng LA 257 LA.length
  have ugB := upToA_rng LB 1 LB.length
  have d7 := dy7 (v0 := v) (v13 := slN 1 LB.length (ints LB)) (ints_length LA) (by omega) (by omega) rfl uA
  have d8 := dy8 (v0 := v) (v11 := .simm false (ints LA) 0 (upToA LA 257 LA.length) 1) (ints_length LB) (by omega) (by omega) rfl uB
  have r11 : ∀ g : H, Rd g (.simm false (ints LA) 0 (upToA LA 257 LA.length) 1) (ints la) := fun g => by rw [ea]; exact rd_take g LA (by omega)
  have r13 : ∀ g : H, Rd g (.simm false (ints LB) 0 (upToA LB 1 LB.length) 1) (ints lb) := fun g => by rw [eb]; exact rd_take g LB (by omega)
  have lla : la.length = upToA LA 257 LA.length := by rw [ea]; exact cutA_len LA (by omega)
  have llb : lb.length = upToA LB 1 LB.length := by rw [eb]; exact cutA_len LB (by omega)
  generalize hv11 : AV.simm false (ints LA) 0 (upToA LA 257 LA.length) 1 = v11 at *
  generalize hv13 : AV.simm false (ints LB) 0 (upToA LB 1 LB.length) 1 = v13 at *
  have la1 : 257 ≤ la.length ∧ la.length ≤ 286 := by omega
  have lb1 : 1 ≤ lb.length ∧ lb.length ≤ 30 := by omega
  clear uA uB kA kB kA' kB' ugA ugB rdA rdB rgA rgB sA sB
  have a1 := app_empty (z := 8) (r11 h4).rdN (by omega) (by omega) (by rw [ints_length]; omega) (roomy_t (by rw [ints_length]; omega)) (allsc_ints la)
  obtain ⟨h5, eh5⟩ : ∃ g, g = ((h4.alloc []).del h4.next).alloc (ints la) := ⟨_, rfl⟩
  rw [← eh5] at a1
  rw [ints_length] at a1
  have d9 := dy9 (v0 := v) (v13 := v13) a1
  have ow5 : OwnN 1 h5 (.sobj (h4.next + 1) 0 la.length 1) la.length (ints la) := ⟨by rw [ints_length]; omega, .inr ⟨h4.next + 1, rfl, by rw [eh5, get_hit (by simp)], by rw [eh5]; simp; omega, by omega⟩⟩
  have fl5 : h5.floor = h.next := by rw [eh5]; simp [fl4]
  have nx5 : h4.next ≤ h5.next := by rw [eh5]; simp; omega
  have k5 : ∀ i, i < h4.next → h5.get i = h4.get i := fun i hi => by rw [eh5, get_miss (by simp; omega), del_miss (by omega), get_miss (by omega)]
  obtain ⟨v15, h6, p1, ow6, fl6, nx6, k6, id6⟩ := ow5.app (by omega) (z := 8) (m := lb.length) (by omega) (by omega) (ints lb) (by rw [ints_length]; omega) (allsc_ints lb) (roomy_t (by omega))
  have a2 : aapp h5 1 8 (.sobj (h4.next + 1) 0 la.length 1) v13 = some (v15, h6) := by
    unfold aapp
    rw [(r13 h5).1, Option.bind_some, ints_length]
    exact p1
  have d10 := dy10 (v0 := v) (v11 := v11) a2
  rw [← ints_append, ← List.length_append] at ow6
  have k6' : ∀ i, i < h4.next → h6.get i = h4.get i := fun i hi => by
    rw [k6 i (fun e => by have := Option.some.inj e; omega) (by omega), k5 i hi]
  have id6' : v15.id? = some h5.next := id6
  generalize hal : la ++ lb = all at *
  have lal : all.length ≤ 316 ∧ 0 < all.length := by rw [← hal, List.length_append]; omega
  have d11 := dy11 (v0 := v) (v11 := v11) (v13 := v13) (v15 := v15) (g := h6)
  obtain ⟨h7, eh7⟩ : ∃ g, g = h6.alloc (replM 19 [.int .i64 0]) := ⟨_, rfl⟩
  rw [← eh7] at d11
  have gC7 : h7.get h6.next = some (ints (List.replicate 19 0)) := by rw [eh7, get_hit rfl, replM_ints]
  have h6n : h6.get h6.next = none := by
    cases e : h6.get h6.next with
    | none => rfl
    | some c => have := h6.lt _ _ e; omega
  have x7 : Ext h6 h7 := by rw [eh7]; exact (Ext.refl _).alloc _
  obtain ⟨h8, L8, gC8, fl8, nx8, k8⟩ := ccount_loop (lv := v) (dv := v11) (mv := v13) (by omega) hall h6.next h6 ow6.rdi h6n all [] _ h7 rfl x7 gC7 (by simp) (fun y hy => by have := List.eq_of_mem_replicate hy; simp; omega) (by rw [eh7]; simp; have := (ow6.lt id6').2; omega)
  have d12 := dy12 L8
  have lC : (cntC all (List.replicate 19 0)).length = 19 := by rw [cntC_len]; simp
  have rgC : ∀ y ∈ cntC all (List.replicate 19 0), 0 ≤ y ∧ y ≤ 2147483647 := fun y hy => by
    have := cntC_rng all (List.replicate 19 0) 0 (by omega) (fun y hy => by have := List.eq_of_mem_replicate hy; omega) y hy
    omega
  have fl7 : h7.floor = h.next := by rw [eh7]; simp; omega
  have rdC : Rd h8 (.sobj h6.next 0 19 1) (ints (cntC all (List.replicate 19 0))) := by
    have : OwnN 1 h8 (.sobj h6.next 0 19 1) (cntC all (List.replicate 19 0)).length (ints (cntC all (List.replicate 19 0))) := by
      rw [lC]; exact ⟨by rw [ints_length, lC], .inr ⟨h6.next, rfl, gC8, by rw [fl8, fl7]; have := (ow6.lt id6'); omega, by omega⟩⟩
    exact this.rdi
  have sC := lensS_le (C := cntC all (List.replicate 19 0)) (by omega)
  have kC := lengths2_c h8 _ (cntC all (List.replicate 19 0)) 7 KC (by omega) (by omega) rdC (by omega) rgC (by omega) rc
  have lLc : Lc.length = 19 := by rw [ec, lensO_len, lC]
  have kC' : callW AP.A 30 [.sobj h6.next 0 19 1, .int .i64 7] h8 = some (.tup [slN 1 Lc.length (ints Lc), .int .i64 0], h8) := by rw [lLc]; rw [← ec, lC] at kC; exact kC
  have d13 := dy13 (v0 := v) (v11 := v11) (v13 := v13) (v15 := v15) kC'
  have d14 := dy14 (v0 := v) (v11 := v11) (v13 := v13) (v15 := v15) (v18 := slN 1 Lc.length (ints Lc)) (order2_c h8)
  have d15 := dy15 (v0 := v) (v11 := v11) (v13 := v13) (v15 := v15) (v18 := slN 1 Lc.length (ints Lc)) (v20 := immI orderL) (g := h8)
  obtain ⟨h9, eh9⟩ : ∃ g, g = h8.alloc (replM 19 [.int .i64 0]) := ⟨_, rfl⟩
  rw [← eh9] at d15
  have gR9 : h9.get h8.next = some (ints (List.replicate 19 0)) := by rw [eh9, get_hit rfl, replM_ints]
  have h8n : h8.get h8.next = none := by
    cases e : h8.get h8.next with
    | none => rfl
    | some c => have := h8.lt _ _ e; omega
  have x9 : Ext h8 h9 := by rw [eh9]; exact (Ext.refl _).alloc _
  have fl8' : h8.floor = h.next := by rw [fl8, fl7]
  have nx8' : h6.next + 1 = h8.next := by rw [nx8, eh7]; simp
  have nx6' : h.next + 2 ≤ h6.next := by omega
  obtain ⟨h10, L10, gR10, fl10, nx10, k10⟩ := row_loop (a0 := v) (a1 := v11) (a2 := v13) (a3 := v15) lLc h8.next h8 (rd_sl1 h8 Lc) (rd_imm h8 orderL) h8n 19 0 h9 (by omega) x9 gR9 (by rw [eh9]; simp; omega)
  have d16 := dy16 L10
  obtain ⟨R, hR⟩ : ∃ R, R = orderL.map (fun o => Lc.getD o.toNat 0) := ⟨_, rfl⟩
  rw [← hR] at gR10
  have lR : R.length = 19 := by rw [hR]; rfl
  have rR : ∀ y ∈ R, 0 ≤ y ∧ y < 8 := by
    intro y hy
    rw [hR] at hy
    obtain ⟨o, ho, rfl⟩ := List.mem_map.1 hy
    have := order_mem o ho
    have hol : o.toNat < Lc.length := by omega
    rw [List.getD_eq_getElem?_getD, List.getElem?_eq_getElem hol]
    exact hrow _ (List.getElem_mem hol)
  have fl10' : h10.floor = h.next := by rw [fl10, eh9]; simp [fl8']
  have nx10' : h8.next + 1 = h10.next := by rw [nx10, eh9]; simp
  have rdR : Rd h10 (.sobj h8.next 0 19 1) (ints R) := by
    have : OwnN 1 h10 (.sobj h8.next 0 19 1) R.length (ints R) := by
      rw [lR]; exact ⟨by rw [ints_length, lR], .inr ⟨h8.next, rfl, gR10, by omega, by omega⟩⟩
    exact this.rdi
  have kU := upto_c h10 _ R (by omega) rdR 4 (by omega)
  have uk := upToA_rng R 4 R.length
  rw [lR] at uk
  have d17 := dy17 (v0 := v) (v11 := v11) (v13 := v13) (v15 := v15) (v18 := slN 1 Lc.length (ints Lc)) kU
  rw [lR] at d17
  obtain ⟨k, hk⟩ : ∃ k, k = upToA R 4 19 := ⟨_, rfl⟩
  rw [← hk] at d17 uk
  have b10 : ∀ i, i < h6.next → h10.get i = h6.get i := fun i hi => by
    rw [k10 i (by omega), eh9, get_miss (by omega), k8 i (by omega), eh7, get_miss (by omega)]
  have x10 : Ext h.fence h10 := fun i c q => by
    have hi := h.fence.lt _ _ q
    simp at hi
    rw [b10 i (by omega), k6' i (by omega), x4 i c q]
  have rdv : RdN 3 h10 v ts.length (toksC ts) := rd0.mono x10
  have rda : Rd h10 v15 (ints all) := (ow6.mono (by omega) fun i hi => b10 i (ow6.lt hi).2).rdi
  have d18 := dy18 (v0 := v) (v11 := v11) (v13 := v13) (v15 := v15) (v18 := slN 1 Lc.length (ints Lc)) (v21 := .sobj h8.next 0 19 1) (v23 := .int .i64 (k : Nat)) (g := h10)
  obtain ⟨h11, eh11⟩ : ∃ g, g = h10.alloc [.nils, .int .i64 0] := ⟨_, rfl⟩
  rw [← eh11] at d18
  have wx0 : WX h10 h11 h10.next [] .nils := by
    refine ⟨⟨by rw [eh11, get_hit rfl]; rfl, OwnN.nil, by rw [eh11]; simp; omega, by rw [eh11]; simp; omega, by simp [AV.id?], fun b hb => by simp [packB, outAll] at hb⟩, by rw [eh11]; exact (Ext.refl _).alloc _, Nat.le_refl _, by rw [eh11]; simp, fun j hj => by simp [AV.id?] at hj⟩
  obtain ⟨h12, o12, p12, w12, f12⟩ := wput_c wx0.wr 5 3 (by omega) (by omega) (by simp)
  have wx1 := wx0.step w12 f12
  have l1 : ([] ++ putB 5 3).length = 3 := by simp [putB, putF_len]
  obtain ⟨h13, o13, p13, w13, f13⟩ := wput_c wx1.wr (la.length - 257) 5 (by omega) (by omega) (by omega)
  have wx2 := wx1.step w13 f13
  have l2 : ([] ++ putB 5 3 ++ putB (la.length - 257) 5).length = 8 := by simp [putB, putF_len]
  obtain ⟨h14, o14, p14, w14, f14⟩ := wput_c wx2.wr (lb.length - 1) 5 (by omega) (by omega) (by omega)
  have wx3 := wx2.step w14 f14
  have l3 : ([] ++ putB 5 3 ++ putB (la.length - 257) 5 ++ putB (lb.length - 1) 5).length = 13 := by simp [putB, putF_len]
  obtain ⟨h15, o15, p15, w15, f15⟩ := wput_c wx3.wr (k - 4) 4 (by omega) (by omega) (by omega)
  have wx4 := wx3.step w15 f15
  have l4 : ([] ++ putB 5 3 ++ putB (la.length - 257) 5 ++ putB (lb.length - 1) 5 ++ putB (k - 4) 4).length = 17 := by simp [putB, putF_len]
  have p12' : callW AP.A 33 [.pobj h10.next 0, .int .i64 5, .int .i64 3] h11 = some (.int .i64 0, h12) := p12
  have p13' : callW AP.A 33 [.pobj h10.next 0, .int .i64 ((la.length : Int) - 257), .int .i64 5] h12 = some (.int .i64 0, h13) := by
    have e : ((la.length - 257 : Nat) : Int) = (la.length : Int) - 257 := by omega
    rw [e] at p13; exact p13
  have p14' : callW AP.A 33 [.pobj h10.next 0, .int .i64 ((lb.length : Int) - 1), .int .i64 5] h13 = some (.int .i64 0, h14) := by
    have e : ((lb.length - 1 : Nat) : Int) = (lb.length : Int) - 1 := by omega
    rw [e] at p14; exact p14
  have p15' : callW AP.A 33 [.pobj h10.next 0, .int .i64 ((k : Int) - 4), .int .i64 4] h14 = some (.int .i64 0, h15) := by
    have e : ((k - 4 : Nat) : Int) = (k : Int) - 4 := by omega
    rw [e] at p15; exact p15
  have ln11 : alen false v11 = some (.int .i64 la.length) := by have := (r11 h10).len; rw [ints_length] at this; exact this
  have ln13 : alen false v13 = some (.int .i64 lb.length) := by have := (r13 h10).len; rw [ints_length] at this; exact this
  have d19 := dy19 (v0 := v) (v11 := v11) (v13 := v13) (v15 := v15) (v18 := slN 1 Lc.length (ints Lc)) (v21 := .sobj h8.next 0 19 1) (v23 := .int .i64 (k : Nat)) p12'
  have d20 := dy20 (v0 := v) (v13 := v13) (v15 := v15) (v18 := slN 1 Lc.length (ints Lc)) (v21 := .sobj h8.next 0 19 1) (v23 := .int .i64 (k : Nat)) ln11 (by omega) p13'
  have d21 := dy21 (v0 := v) (v11 := v11) (v15 := v15) (v18 := slN 1 Lc.length (ints Lc)) (v21 := .sobj h8.next 0 19 1) (v23 := .int .i64 (k : Nat)) ln13 (by omega) p14'
  have d22 := dy22 (v0 := v) (v11 := v11) (v13 := v13) (v15 := v15) (v18 := slN 1 Lc.length (ints Lc)) (v21 := .sobj h8.next 0 19 1) (n := k) (by omega) p15'
  obtain ⟨e16, h16, o16, L16, q0, q11, q13, q15, q18, q24, wx5⟩ := rput_loop (a0 := v) (a1 := v11) (a2 := v13) (a3 := v15) (a4 := slN 1 Lc.length (ints Lc)) h10 rdR k (by omega) lR h10.next rR k 0 _ h15 o15 (by omega) wx4 (by omega)
  have d23 := dy23 L16 q0 q11 q13 q15 q18 q24
  have k24 := codes_c h16 _ Lc (by omega) (by omega) (rd_sl1 h16 Lc) cc
  have d24 := dy24 (v0 := v) (v11 := v11) (v13 := v13) (v15 := v15) (v24 := .pobj h10.next 0) k24
  have l5 : ([] ++ putB 5 3 ++ putB (la.length - 257) 5 ++ putB (lb.length - 1) 5 ++ putB (k - 4) 4 ++ rowB ((R.drop 0).take k)).length ≤ 17 + 57 := by
    rw [List.length_append, l4, rowB_len, List.length_take]; omega
  obtain ⟨e17, h17, o17, L17, q0', q11', q13', q24', wx6⟩ := rcode_loop (a0 := v) (a1 := v11) (a2 := v13) h10 rda (rd_codes h10 Lc) (by omega) (by rw [codesE_len]; exact lLc) h10.next hall okall all [] _ h16 o16 rfl wx5 (by omega)
  have d25 := dy25 L17 q0' q11' q13' q24'
  have k26 := codes_c h17 v11 la (by omega) (by omega) (r11 h17) ca
  have k27 := codes_c h17 v13 lb (by omega) (by omega) (r13 h17) cb
  have d26 := dy26 (v0 := v) (v13 := v13) (v24 := .pobj h10.next 0) k26
  have d27 := dy27 (v0 := v) (v24 := .pobj h10.next 0) (v29 := codesV la) k27
  have l6 := allB_len okall
  obtain ⟨h18, o18, k28, wx7⟩ := tput_c (by omega) h10 rdv (rd_codes h10 la) (rd_codes h10 lb) okt ok256 h10.next _ h17 o17 wx6 (by rw [List.length_append]; omega)
  have d28 := dy28 k28
  have k29 := wtext_c wx7.wr
  have d29 := dy29 k29
  have eB : [] ++ putB 5 3 ++ putB (la.length - 257) 5 ++ putB (lb.length - 1) 5 ++ putB (k - 4) 4 ++ rowB ((R.drop 0).take k) ++ allB (codesE Lc) all ++ (toksB (codesE la) (codesE lb) ts ++ codeBits (codesE la) 256) = dynBits ts la lb Lc := by
    unfold dynBits
    simp only [List.nil_append, List.append_assoc, List.drop_zero, hk, hR, hal]
  rw [eB] at d29
  have k1 := few_c h.fence v ts (by omega) rd0
  rw [few] at k1
  have d0 := dy0 (v0 := v) (g := h.fence)
  have d1 := dy1 k1
  refine pure_c (fn := AP.f13) (h2 := h18) (e := [(2, .str (bytesOf (packB (dynBits ts la lb Lc)))), (3, .int .i64 0)]) rfl rfl rfl ?_ rfl rfl
  rw [dy_body, C_seq, d0, goS_n, C_seq, d1, goS_n, C_seq, d2, goS_n, C_seq, d3, goS_n, C_seq, d4, goS_n, C_seq, d5, goS_n, C_seq, d6, goS_n, C_seq, d7, goS_n]
  rw [C_seq, d8, goS_n, C_seq, d9, goS_n, C_seq, d10, goS_n, C_seq, d11, goS_n, C_seq, d12, goS_n, C_seq, d13, goS_n, C_seq, d14, goS_n, C_seq, d15, goS_n, C_seq, d16, goS_n]
  rw [C_seq, d17, goS_n, C_seq, d18, goS_n, C_seq, d19, goS_n, C_seq, d20, goS_n, C_seq, d21, goS_n, C_seq, d22, goS_n, C_seq, d23, goS_n, C_seq, d24, goS_n, C_seq, d25, goS_n]
  rw [C_seq, d26, goS_n, C_seq, d27, goS_n, C_seq, d28, goS_n, d29]
end Ab
set_option linter.unusedSimpArgs false
set_option linter.unusedVariables false
namespace Ab
open Go
theorem pow32 (c : Int) : ∀ k : Nat, c * 2 ^ k < 3 ^ k → 0 ≤ c → ∀ m : Nat, c * 2 ^ (k + m) < 3 ^ (k + m)
  | k, h, hc, 0 => h
  | k, h, hc, m + 1 => by
    have ih := pow32 c k h hc m
    rw [← Nat.add_assoc, Int.pow_succ, Int.pow_succ, ← Int.mul_assoc]
    have p : (0 : Int) ≤ c * 2 ^ (k + m) := Int.mul_nonneg hc (Int.pow_nonneg (by omega))
    omega
theorem maxL_le : ∀ (ds : List Int) (a m : Int), (∀ d ∈ ds, d ≤ m) → a ≤ m → maxL ds a ≤ m
  | [], a, m, _, h => h
  | d :: ds, a, m, hd, h => by
    rw [maxL]
    refine maxL_le ds _ m (fun x hx => hd x (by simp [hx])) ?_
    have := hd d (by simp)
    unfold maxI; split <;> omega
theorem maxL_ge : ∀ (ds : List Int) (a : Int), a ≤ maxL ds a ∧ ∀ d ∈ ds, d ≤ maxL ds a
  | [], a => ⟨Int.le_refl _, by simp⟩
  | d :: ds, a => by
    have ⟨h1, h2⟩ := maxL_ge ds (maxI a d)
    have : a ≤ maxI a d ∧ d ≤ maxI a d := by unfold maxI; split <;> omega
    rw [maxL]
    refine ⟨by omega, fun x hx => ?_⟩
    rcases List.mem_cons.1 hx with q | q
    · subst q; omega
    · exact h2 x q
theorem ones_sum : ∀ ws : List Int, (∀ y ∈ ws, y = 1) → ws.sum = ws.length
  | [], _ => rfl
  | y :: ws, h => by
    have := ones_sum ws fun z hz => h z (by simp [hz])
    have := h y (by simp)
    rw [List.sum_cons, List.length_cons]; omega
theorem pos_sum : ∀ ws : List Int, (∀ y ∈ ws, 1 ≤ y) → (ws.length : Int) ≤ ws.sum
  | [], _ => by simp
  | y :: ws, h => by
    have := pos_sum ws fun z hz => h z (by simp [hz])
    have := h y (by simp)
    rw [List.sum_cons, List.length_cons]; omega
theorem halve_sum : ∀ ws : List Int, (∀ y ∈ ws, 1 ≤ y) → (halve ws).sum ≤ ws.sum ∧ ((∃ y ∈ ws, y ≠ 1) → (halve ws).sum < ws.sum)
  | [], _ => ⟨Int.le_refl _, by simp⟩
  | y :: ws, h => by
    obtain ⟨h1, h2⟩ := halve_sum ws fun z hz => h z (by simp [hz])
    have hy := h y (by simp)
    have e : (halve (y :: ws)).sum = halfI y + (halve ws).sum := by simp [halve]
    rw [e, List.sum_cons]
    have a : halfI y ≤ y := by unfold halfI; omega
    refine ⟨by omega, fun ⟨z, hz, hz1⟩ => ?_⟩
    rcases List.mem_cons.1 hz with q | q
    · subst q
      have : halfI z < z := by unfold halfI; omega
      omega
    · have := h2 ⟨z, q, hz1⟩; omega
theorem halve_pos {ws : List Int} (h : ∀ y ∈ ws, 1 ≤ y) : ∀ y ∈ halve ws, 1 ≤ y := by
  intro y hy
  obtain ⟨z, hz, rfl⟩ := List.mem_map.1 hy
  have := h z hz
  unfold halfI; omega
theorem ones_depth {ws : List Int} (h1 : 1 ≤ ws.length) (ho : ∀ y ∈ ws, y = 1) {c : Int} {k : Nat} (hc : (ws.length : Int) ≤ c) (hk : c * 2 ^ (k + 1) < 3 ^ (k + 1)) (hs : ws.length ≤ 288) : ∀ d ∈ depthsA ws, d ≤ k := by
  intro d hd
  have sm := ones_sum ws ho
  obtain ⟨_, _, _, _, hb, _⟩ := huff ws true h1 (fun y hy => by have := ho y hy; omega) (by omega) (fun _ => ho)
  have b := hb rfl d hd
  apply Classical.byContradiction
  intro q
  obtain ⟨m, hm⟩ : ∃ m : Nat, d.toNat = k + 1 + m := ⟨d.toNat - (k + 1), by omega⟩
  rw [hm] at b
  have := pow32 c (k + 1) hk (by omega) m
  have p : (0 : Int) < 2 ^ (k + 1 + m) := Int.pow_pos (by omega)
  have : ws.sum * 2 ^ (k + 1 + m) ≤ c * 2 ^ (k + 1 + m) := Int.mul_le_mul_of_nonneg_right (by omega) (by omega)
  omega
theorem okDep_of {ws : List Int} (hl : ws.length ≤ 288) (pos : ∀ y ∈ ws, 1 ≤ y) (hs : ws.sum < 1000000000000000) : okDep ws := by
  by_cases e : ws = []
  · exact .inl e
  · have h1 : 1 ≤ ws.length := List.length_pos_iff.2 e
    obtain ⟨a, b, c, _⟩ := huff ws false h1 pos hs (fun h => by cases h)
    exact .inr ⟨h1, hl, a, b, c⟩
theorem rounds_ex {most : Int} (hm : 0 ≤ most) : ∀ (f : Nat) (ws : List Int), ws.sum ≤ f → (∀ y ∈ ws, 1 ≤ y) → ws.sum < 1000000000000000 → ((13 ≤ most ∧ ws.length ≤ 288) ∨ (7 ≤ most ∧ ws.length ≤ 19)) → ∃ K, Rounds most K ws := by
  intro f
  induction f with
  | zero =>
    intro ws hf pos hs hl
    have := pos_sum ws pos
    have : ws = [] := List.length_eq_zero_iff.1 (by omega)
    subst this
    exact ⟨0, .last (.inl rfl) hm⟩
  | succ f ih =>
    intro ws hf pos hs hl
    have o := okDep_of (by omega) pos hs
    by_cases c : maxL (depthsA ws) 0 ≤ most
    · exact ⟨0, .last o c⟩
    · have hne : ws ≠ [] := fun e => by subst e; exact c hm
      have h1 : 1 ≤ ws.length := List.length_pos_iff.2 hne
      have ho : ∃ y ∈ ws, y ≠ 1 := by
        apply Classical.byContradiction
        intro q
        have all1 : ∀ y ∈ ws, y = 1 := fun y hy => Classical.byContradiction fun r => q ⟨y, hy, r⟩
        rcases hl with ⟨a, b⟩ | ⟨a, b⟩
        · have := ones_depth (c := 288) (k := 13) h1 all1 (by omega) (by decide) (by omega)
          exact c (maxL_le _ _ _ (fun d hd => by have := this d hd; omega) hm)
        · have := ones_depth (c := 19) (k := 7) h1 all1 (by omega) (by decide) (by omega)
          exact c (maxL_le _ _ _ (fun d hd => by have := this d hd; omega) hm)
      have hh := (halve_sum ws pos).2 ho
      obtain ⟨K, r⟩ := ih (halve ws) (by omega) (halve_pos pos) (by omega) (by rw [halve_len]; exact hl)
      exact ⟨K + 1, .more o (by omega) hne r⟩
theorem setAll_out : ∀ (S D O : List Int) (p : Nat), (∀ s ∈ S, s.toNat ≠ p) → (setAll S D O)[p]? = O[p]?
  | [], D, O, p, h => by simp [setAll]
  | s :: S, [], O, p, h => by simp [setAll]
  | s :: S, d :: D, O, p, h => by
    rw [setAll, setAll_out S D _ p fun t ht => h t (by simp [ht]), List.getElem?_set, if_neg (h s (by simp))]
theorem setAll_in : ∀ (S D O : List Int) (j : Nat) (s d : Int), (S.map Int.toNat).Nodup → S[j]? = some s → D[j]? = some d → s.toNat < O.length → (setAll S D O)[s.toNat]? = some d
  | [], D, O, j, s, d, nd, h1, h2, h3 => by simp at h1
  | t :: S, [], O, j, s, d, nd, h1, h2, h3 => by simp at h2
  | t :: S, e :: D, O, 0, s, d, nd, h1, h2, h3 => by
    simp at h1 h2
    subst h1; subst h2
    rw [List.map_cons, List.nodup_cons] at nd
    rw [setAll, setAll_out S D _ _ fun u hu q => nd.1 (List.mem_map.2 ⟨u, hu, q⟩), List.getElem?_set, if_pos rfl, if_pos h3]
  | t :: S, e :: D, O, j + 1, s, d, nd, h1, h2, h3 => by
    rw [List.map_cons, List.nodup_cons] at nd
    rw [setAll]
    exact setAll_in S D _ j s d nd.2 (by simpa using h1) (by simpa using h2) (by rw [List.length_set]; exact h3)
theorem setAll_zero {S D O : List Int} {n : Nat} (hl : D.length = S.length) (nd : (S.map Int.toNat).Nodup) (hO : O.length = n) (hr : ∀ s ∈ S, s.toNat < n) (hz : ∀ p, p < n → (∀ s ∈ S, s.toNat ≠ p) → O[p]? = some 0) : setAll S D O = setAll S D (List.replicate n 0) := by
  apply List.ext_getElem?
  intro p
  by_cases hp : p < n
  · by_cases c : ∃ s ∈ S, s.toNat = p
    · obtain ⟨s, hs, rfl⟩ := c
      obtain ⟨j, hj, ej⟩ := List.mem_iff_getElem.1 hs
      have h1 : S[j]? = some s := by rw [List.getElem?_eq_getElem hj, ej]
      have h2 : D[j]? = some (D[j]'(by omega)) := List.getElem?_eq_getElem (by omega)
      rw [setAll_in S D O j s _ nd h1 h2 (by omega), setAll_in S D _ j s _ nd h1 h2 (by simpa using hp)]
    · have c' : ∀ s ∈ S, s.toNat ≠ p := fun s hs q => c ⟨s, hs, q⟩
      rw [setAll_out _ _ _ _ c', setAll_out _ _ _ _ c', hz p hp c', List.getElem?_replicate, if_pos hp]
  · rw [List.getElem?_eq_none (by rw [setAll_len]; omega), List.getElem?_eq_none (by rw [setAll_len]; simp; omega)]
theorem lensR_last {most : Int} {S : List Int} {n : Nat} (nd : (S.map Int.toNat).Nodup) (hr : ∀ s ∈ S, s.toNat < n) : ∀ (K : Nat) (W O : List Int), Rounds most K W → W.length = S.length → (∀ y ∈ W, 1 ≤ y) → W.sum < 1000000000000000 → O.length = n → (∀ p, p < n → (∀ s ∈ S, s.toNat ≠ p) → O[p]? = some 0) →
    ∃ W', W'.length = S.length ∧ (∀ y ∈ W', 1 ≤ y) ∧ W'.sum < 1000000000000000 ∧ maxL (depthsA W') 0 ≤ most ∧ lensR S K W O = setAll S (depthsA W') (List.replicate n 0)
  | 0, W, O, r, hl, pos, hs, hO, hz => by
    cases r with
    | last o c => exact ⟨W, hl, pos, hs, c, setAll_zero (by rw [depthsA_len, hl]) nd hO hr hz⟩
  | K + 1, W, O, r, hl, pos, hs, hO, hz => by
    cases r with
    | more o c hne r =>
      have := (halve_sum W pos).1
      exact lensR_last nd hr K (halve W) _ r (by rw [halve_len, hl]) (halve_pos pos) (by omega) (by rw [setAll_len, hO]) (fun p hp hq => by rw [setAll_out _ _ _ _ hq]; exact hz p hp hq)
end Ab
set_option linter.unusedSimpArgs false
set_option linter.unusedVariables false
namespace Ab
open Go
theorem sum_set (f : Int → Nat) : ∀ (O : List Int) (i : Nat) (d : Int), i < O.length → ((O.set i d).map f).sum + f (O.getD i 0) = (O.map f).sum + f d
  | [], i, d, h => by simp at h
  | x :: O, 0, d, h => by simp; omega
  | x :: O, i + 1, d, h => by
    have := sum_set f O i d (by simpa using h)
    simp only [List.set_cons_succ, List.map_cons, List.sum_cons, List.getD_cons_succ]; omega
theorem setAll_sum (f : Int → Nat) : ∀ (S D O : List Int), D.length = S.length → (S.map Int.toNat).Nodup → (∀ s ∈ S, s.toNat < O.length) → ((setAll S D O).map f).sum + (S.map fun s => f (O.getD s.toNat 0)).sum = (O.map f).sum + (D.map f).sum
  | [], D, O, hl, nd, hr => by
    have : D = [] := List.length_eq_zero_iff.1 (by simpa using hl)
    subst this
    simp [setAll]
  | s :: S, [], O, hl, nd, hr => by simp at hl
  | s :: S, d :: D, O, hl, nd, hr => by
    rw [List.map_cons, List.nodup_cons] at nd
    have ih := setAll_sum f S D (O.set s.toNat d) (by simpa using hl) nd.2 (fun t ht => by rw [List.length_set]; exact hr t (by simp [ht]))
    have e : (S.map fun t => f ((O.set s.toNat d).getD t.toNat 0)) = S.map fun t => f (O.getD t.toNat 0) := List.map_congr_left fun t ht => by
      rw [getD_set_ne (fun q => nd.1 (List.mem_map.2 ⟨t, ht, q.symm⟩))]
    rw [e] at ih
    have ss := sum_set f O s.toNat d (hr s (by simp))
    simp only [setAll, List.map_cons, List.sum_cons]
    omega
def f15 (n : Nat) (x : Int) : Nat := if 1 ≤ x ∧ x ≤ n then 2 ^ (n - x.toNat) else 0
theorem leftC_nil : ∀ n, leftC [] n = 2 ^ n
  | 0 => rfl
  | n + 1 => by
    have c : cnt [] (n + 1) = 0 := cnt_nil _
    rw [leftC, leftC_nil n, c, Int.pow_succ]; omega
theorem leftC_app (n : Nat) : ∀ (q p : List Int), leftC (p ++ q) n = leftC p n - ((q.map (f15 n)).sum : Nat)
  | [], p => by simp
  | x :: q, p => by
    have e : p ++ x :: q = (p ++ [x]) ++ q := by simp
    rw [e, leftC_app n q (p ++ [x]), leftC_snoc, List.map_cons, List.sum_cons]
    unfold f15
    split
    · push_cast; omega
    · push_cast; omega
theorem leftC_sum (l : List Int) (n : Nat) : leftC l n = 2 ^ n - ((l.map (f15 n)).sum : Nat) := by
  have := leftC_app n l []
  rwa [List.nil_append, leftC_nil] at this
theorem leftC_fst (l : List Int) : ∀ n, firstC l n + cnt l n + leftC l n = 2 ^ n
  | 0 => by simp [firstC, leftC, cnt]
  | n + 1 => by
    have := leftC_fst l n
    rw [firstC, leftC, Int.pow_succ]; omega
theorem leftC_mono {l : List Int} {n : Nat} (h : 0 ≤ leftC l n) : ∀ m, m ≤ n → 0 ≤ leftC l m := by
  have : ∀ k m, m + k = n → 0 ≤ leftC l m := by
    intro k
    induction k with
    | zero => intro m hm; have : m = n := by omega
              subst this; exact h
    | succ k ih =>
      intro m hm
      have := ih (m + 1) (by omega)
      rw [leftC] at this
      omega
  exact fun m hm => this (n - m) m (by omega)
theorem cnt_take_lt {l : List Int} {s : Nat} (hs : s < l.length) {n : Nat} (hn : 1 ≤ n) (e : l.getD s 0 = (n : Int)) : cnt (l.take s) n < cnt l n := by
  have a := cnt_take_succ hs n hn
  rw [if_pos e] at a
  have : ∀ (p q : List Int), cnt p n ≤ cnt (p ++ q) n := fun p q => by
    unfold cnt; split
    · exact Nat.le_refl _
    · rw [List.countP_append]; omega
  have b := this (l.take (s + 1)) (l.drop (s + 1))
  rw [List.take_append_drop] at b
  omega
theorem okC_of {l : List Int} (hl : 0 ≤ leftC l 15) (hr : ∀ y ∈ l, 0 ≤ y ∧ y < 16) {s : Nat} (hs : s < l.length) (h1 : 1 ≤ l.getD s 0) : okC (codesE l) s := by
  have hm : l.getD s 0 ∈ l := by rw [List.getD_eq_getElem?_getD, List.getElem?_eq_getElem hs]; exact List.getElem_mem hs
  have r := hr _ hm
  obtain ⟨n, hn⟩ := Int.eq_ofNat_of_zero_le r.1
  have n1 : 1 ≤ n := by omega
  have lt := cnt_take_lt hs n1 hn
  have f := leftC_fst l n
  have m := leftC_mono hl n (by omega)
  have fb := (show 0 ≤ firstC l n from by
    have : ∀ n, 0 ≤ firstC l n := by
      intro n
      induction n with
      | zero => simp [firstC]
      | succ n ih => rw [firstC]; omega
    exact this n)
  have tn : ((n : Nat) : Int).toNat = n := by omega
  refine ⟨n, (firstC l n + cnt (l.take s) n).toNat, ?_, n1, by omega, ?_⟩
  · unfold codesE
    rw [List.getElem?_map, List.getElem?_range hs, Option.map_some]
    unfold codeP
    rw [if_pos h1, hn, tn]
    congr 2
    omega
  · have e2 : ((2 ^ n : Nat) : Int) = (2 : Int) ^ n := by push_cast; rfl
    omega
theorem symsOf_nd : ∀ (C : List Int) (i : Nat), ((symsOf i C).map Int.toNat).Nodup
  | [], i => by simp [symsOf]
  | c :: r, i => by
    have ih := symsOf_nd r (i + 1)
    rw [symsOf]
    split
    · rw [List.map_cons, List.nodup_cons]
      refine ⟨fun h => ?_, ih⟩
      obtain ⟨s, hs, e⟩ := List.mem_map.1 h
      have := symsOf_rng (i + 1) r s hs
      omega
    · exact ih
theorem symsOf_mem : ∀ (C : List Int) (i p : Nat), 0 < C.getD p 0 → ((i + p : Nat) : Int) ∈ symsOf i C
  | [], i, p, h => by simp at h
  | c :: r, i, 0, h => by
    rw [symsOf, if_pos (by simpa using h)]
    simp
  | c :: r, i, p + 1, h => by
    have ih := symsOf_mem r (i + 1) p (by simpa using h)
    have e : i + 1 + p = i + (p + 1) := by omega
    rw [e] at ih
    rw [symsOf]
    split
    · exact List.mem_cons_of_mem _ ih
    · exact ih
theorem symsOf_nil : ∀ (C : List Int) (i : Nat), (∀ y ∈ C, ¬ 0 < y) → symsOf i C = []
  | [], i, h => rfl
  | c :: r, i, h => by
    rw [symsOf, if_neg (h c (by simp))]
    exact symsOf_nil r (i + 1) fun y hy => h y (by simp [hy])
theorem padS_mem {S : List Int} {s : Int} (h : s ∈ S) : s ∈ padS S := by
  unfold padS
  split
  · rename_i h1
    match S, h1 with
    | [t], _ =>
      simp at h; subst h
      split <;> simp
  · exact h
theorem padS_nd {S : List Int} (h : (S.map Int.toNat).Nodup) (hp : ∀ s ∈ S, 0 ≤ s) : ((padS S).map Int.toNat).Nodup := by
  unfold padS
  split
  · rename_i h1
    match S, h1 with
    | [t], _ =>
      have := hp t (by simp)
      split
      · rename_i c
        simp at c ⊢
        omega
      · rename_i c
        simp at c ⊢
        omega
  · exact h
theorem padS_two {S : List Int} (h : S ≠ []) : 2 ≤ (padS S).length := by
  unfold padS
  split
  · rename_i h1
    split
    · simp
    · simp [h1]
  · rename_i h1
    have := List.length_pos_iff.2 h
    omega
theorem padW_pos {S W : List Int} (hl : W.length = S.length) (h : ∀ y ∈ W, 1 ≤ y) : ∀ y ∈ padW S W, 1 ≤ y := by
  intro s hs
  unfold padW at hs
  split at hs
  · rename_i h1
    rw [← hl] at h1
    match W, h1 with
    | [t], _ =>
      have := h t (by simp)
      split at hs
      · simp at hs; omega
      · simp at hs; omega
  · exact h s hs
theorem sum_zero {α : Type} : ∀ l : List α, (l.map fun _ => (0 : Nat)).sum = 0
  | [] => rfl
  | x :: l => by rw [List.map_cons, List.sum_cons, sum_zero l]
theorem lensS_nil {C : List Int} (h : ∀ y ∈ C, ¬ 0 < y) : lensS C = [] := by
  unfold lensS; rw [symsOf_nil C 0 h]; rfl
theorem sum_le_mul : ∀ (l : List Int) (b : Int), (∀ y ∈ l, y ≤ b) → l.sum ≤ b * l.length
  | [], b, _ => by simp
  | y :: l, b, h => by
    have := sum_le_mul l b fun z hz => h z (by simp [hz])
    have hy := h y (by simp)
    rw [List.sum_cons, List.length_cons]
    have e : b * ((l.length + 1 : Nat) : Int) = b * l.length + b := by rw [Int.natCast_add, Int.mul_add]; simp
    omega
theorem lensW_ok {C : List Int} (hC : ∀ y ∈ C, 0 ≤ y ∧ y ≤ 2147483647) (h2 : 2 ≤ C.length) (hl : C.length ≤ 288) : (∀ y ∈ lensW C, 1 ≤ y) ∧ (lensW C).sum < 1000000000000000 := by
  have pos : ∀ y ∈ lensW C, 1 ≤ y := padW_pos (symsOf_len 0 C).symm fun y hy => by have := (wtsOf_mem C y hy).2; omega
  refine ⟨pos, ?_⟩
  have up : ∀ y ∈ lensW C, y ≤ 2147483647 := by
    intro y hy
    have w : ∀ z ∈ wtsOf C, z ≤ 2147483647 := fun z hz => (hC z (wtsOf_mem C z hz).1).2
    unfold lensW padW at hy
    split at hy
    · rename_i h1
      rw [symsOf_len] at h1
      match hW : wtsOf C, h1 with
      | [t], _ =>
        rw [hW] at w hy
        have := w t (by simp)
        split at hy
        · simp at hy; omega
        · simp at hy; omega
    · exact w y hy
  have := sum_le_mul (lensW C) 2147483647 up
  have l1 : (lensW C).length = (lensS C).length := lensWS C
  have l2 := lensS_le h2
  omega
theorem lens_rounds {C : List Int} {most : Int} (hC : ∀ y ∈ C, 0 ≤ y ∧ y ≤ 2147483647) (h2 : 2 ≤ C.length) (hm : 0 ≤ most) (hl : (13 ≤ most ∧ C.length ≤ 288) ∨ (7 ≤ most ∧ C.length ≤ 19)) : ∃ K, Rounds most K (lensW C) := by
  obtain ⟨a, b⟩ := lensW_ok hC h2 (by omega)
  have l1 : (lensW C).length = (lensS C).length := lensWS C
  have l2 := lensS_le h2
  exact rounds_ex hm (lensW C).sum.toNat (lensW C) (by have := pos_sum _ a; omega) a b (by omega)
theorem lens_full {C : List Int} {most : Int} {K : Nat} (hC : ∀ y ∈ C, 0 ≤ y ∧ y ≤ 2147483647) (h2 : 2 ≤ C.length) (hl : C.length ≤ 288) (hm : 0 ≤ most ∧ most ≤ 15) (r : Rounds most K (lensW C)) :
    (lensO C K).length = C.length ∧ (∀ y ∈ lensO C K, 0 ≤ y ∧ y ≤ most) ∧ (∀ p, 0 < C.getD p 0 → 1 ≤ (lensO C K).getD p 0) ∧ ((∃ y ∈ C, 0 < y) → leftC (lensO C K) 15 = 0) ∧ ((∀ y ∈ C, ¬ 0 < y) → lensO C K = List.replicate C.length 0) := by
  obtain ⟨a, b⟩ := lensW_ok hC h2 hl
  have nd : ((lensS C).map Int.toNat).Nodup := padS_nd (symsOf_nd C 0) fun s hs => by have := symsOf_rng 0 C s hs; omega
  have rg : ∀ s ∈ lensS C, 0 ≤ s ∧ s < C.length := padS_rng h2 fun s hs => by have := symsOf_rng 0 C s hs; omega
  have rg' : ∀ s ∈ lensS C, s.toNat < C.length := fun s hs => by have := rg s hs; omega
  obtain ⟨W', w1, w2, w3, w4, w5⟩ := lensR_last nd rg' K (lensW C) (List.replicate C.length 0) r (lensWS C) a b (by simp) (fun p hp _ => by rw [List.getElem?_replicate, if_pos hp])
  have e : lensO C K = setAll (lensS C) (depthsA W') (List.replicate C.length 0) := w5
  have dl : (depthsA W').length = (lensS C).length := by rw [depthsA_len, w1]
  have dm : ∀ d ∈ depthsA W', d ≤ most := fun d hd => by have := (maxL_ge (depthsA W') 0).2 d hd; omega
  have o := okDep_of (ws := W') (by have := lensS_le h2; omega) w2 w3
  have d0 := depthsA_rng o
  have gin : ∀ (j : Nat) (s d : Int), (lensS C)[j]? = some s → (depthsA W')[j]? = some d → (lensO C K)[s.toNat]? = some d := fun j s d h1 h2 => by
    rw [e]; exact setAll_in _ _ _ j s d nd h1 h2 (by simpa using rg' s (List.mem_of_getElem? h1))
  have gout : ∀ p : Nat, (∀ s ∈ lensS C, s.toNat ≠ p) → (lensO C K)[p]? = (List.replicate C.length (0 : Int))[p]? := fun p hp => by rw [e, setAll_out _ _ _ _ hp]
  have hu : lensS C ≠ [] → 2 ≤ (lensS C).length := fun hne => by
    refine padS_two fun q => hne ?_
    unfold lensS; rw [q]; rfl
  have h1w : lensS C ≠ [] → _ := fun hne => huff W' false (by have := hu hne; omega) w2 w3 (fun h => by cases h)
  refine ⟨lensO_len C K, ?_, ?_, ?_, ?_⟩
  · intro y hy
    obtain ⟨p, hp⟩ := List.mem_iff_getElem?.1 hy
    by_cases c : ∃ s ∈ lensS C, s.toNat = p
    · obtain ⟨s, hs, rfl⟩ := c
      obtain ⟨j, hj⟩ := List.mem_iff_getElem?.1 hs
      have jl := (List.getElem?_eq_some_iff.1 hj).1
      have hd : (depthsA W')[j]? = some ((depthsA W')[j]'(by omega)) := List.getElem?_eq_getElem (by omega)
      rw [gin j s _ hj hd] at hp
      obtain rfl := Option.some.inj hp
      have m := List.getElem_mem (l := depthsA W') (n := j) (by omega)
      exact ⟨(d0 _ m).1, dm _ m⟩
    · rw [gout p fun s hs q => c ⟨s, hs, q⟩, List.getElem?_replicate] at hp
      split at hp
      · obtain rfl := Option.some.inj hp; omega
      · cases hp
  · intro p hp
    have sm := symsOf_mem C 0 p hp
    rw [Nat.zero_add] at sm
    have hs : (p : Int) ∈ lensS C := padS_mem sm
    obtain ⟨j, hj⟩ := List.mem_iff_getElem?.1 hs
    have jl := (List.getElem?_eq_some_iff.1 hj).1
    have hd : (depthsA W')[j]? = some ((depthsA W')[j]'(by omega)) := List.getElem?_eq_getElem (by omega)
    have g := gin j _ _ hj hd
    have tp : ((p : Nat) : Int).toNat = p := by omega
    rw [tp] at g
    rw [List.getD_eq_getElem?_getD, g]
    have hne : lensS C ≠ [] := fun q => by rw [q] at hs; simp at hs
    exact (h1w hne).2.2.2.2.2 (by have := hu hne; omega) _ (List.getElem_mem _)
  · rintro ⟨y, hy, hpos⟩
    obtain ⟨p, hp⟩ := List.mem_iff_getElem?.1 hy
    have sm := symsOf_mem C 0 p (by rw [List.getD_eq_getElem?_getD, hp]; exact hpos)
    have hs : ((0 + p : Nat) : Int) ∈ lensS C := padS_mem sm
    have hne : lensS C ≠ [] := fun q => by rw [q] at hs; simp at hs
    have H := h1w hne
    have kr := H.2.2.2.1 15 (fun d hd => by have := dm d hd; omega)
    have one := H.2.2.2.2.2 (by have := hu hne; omega)
    have ss := setAll_sum (f15 15) (lensS C) (depthsA W') (List.replicate C.length 0) dl nd (fun s hs => by simpa using rg' s hs)
    rw [← e] at ss
    have z1 : ((lensS C).map fun s => f15 15 ((List.replicate C.length (0 : Int)).getD s.toNat 0)).sum = 0 := by
      have : (lensS C).map (fun s => f15 15 ((List.replicate C.length (0 : Int)).getD s.toNat 0)) = (lensS C).map fun _ => 0 := List.map_congr_left fun s hs => by
        rw [repl_getD (rg' s hs)]; rfl
      rw [this, sum_zero]
    have z2 : ((List.replicate C.length (0 : Int)).map (f15 15)).sum = 0 := by
      rw [List.map_replicate]
      have : f15 15 0 = 0 := rfl
      rw [this]; simp
    have z3 : (depthsA W').map (f15 15) = (depthsA W').map fun d => 2 ^ (15 - d.toNat) := List.map_congr_left fun d hd => by
      unfold f15
      rw [if_pos ⟨one d hd, by have := dm d hd; omega⟩]
    rw [z1, z2, z3, kr] at ss
    rw [leftC_sum, show ((lensO C K).map (f15 15)).sum = 2 ^ 15 by omega]
    rfl
  · intro h
    rw [e, lensS_nil h]
    simp [setAll]
theorem upToA_zero (l : List Int) (k : Nat) : ∀ n p, upToA l k n ≤ p → p < n → ¬ 0 < l.getD p 0
  | 0, p, h1, h2 => by omega
  | n + 1, p, h1, h2 => by
    rw [upToA] at h1
    split at h1
    · omega
    · split at h1
      · omega
      · by_cases e : p = n
        · subst e; assumption
        · exact upToA_zero l k n p h1 (by omega)
theorem cut_sum {l : List Int} (hr : ∀ y ∈ l, 0 ≤ y) (k n : Nat) : leftC (cutA l k) n = leftC l n := by
  have e : l = cutA l k ++ l.drop (upToA l k l.length) := (List.take_append_drop _ _).symm
  have z : ((l.drop (upToA l k l.length)).map (f15 n)).sum = 0 := by
    have : ∀ q : List Int, (∀ y ∈ q, y = 0) → (q.map (f15 n)).sum = 0 := by
      intro q
      induction q with
      | nil => intro _; rfl
      | cons x q ih =>
        intro h
        rw [List.map_cons, List.sum_cons, ih fun y hy => h y (by simp [hy]), h x (by simp)]
        unfold f15; simp
    refine this _ fun y hy => ?_
    obtain ⟨j, hj⟩ := List.mem_iff_getElem?.1 hy
    rw [List.getElem?_drop] at hj
    have hl := (List.getElem?_eq_some_iff.1 hj).1
    have := upToA_zero l k l.length (upToA l k l.length + j) (by omega) hl
    rw [List.getD_eq_getElem?_getD, hj] at this
    have := hr y (List.mem_of_mem_drop hy)
    simp at *
    omega
  rw [leftC_sum, leftC_sum]
  have : (l.map (f15 n)).sum = ((cutA l k).map (f15 n)).sum := by
    conv => lhs; rw [e]
    rw [List.map_append, List.sum_append, z, Nat.add_zero]
  rw [this]
theorem cut_get {l : List Int} (k : Nat) {p : Nat} (h : 0 < l.getD p 0) : p < (cutA l k).length ∧ (cutA l k).getD p 0 = l.getD p 0 := by
  have hp : p < l.length := by
    apply Classical.byContradiction
    intro c
    rw [List.getD_eq_getElem?_getD, List.getElem?_eq_none (by omega)] at h
    simp at h
  have : p < upToA l k l.length := by
    apply Classical.byContradiction
    intro c
    exact upToA_zero l k l.length p (by omega) hp h
  unfold cutA
  refine ⟨by rw [List.length_take]; omega, ?_⟩
  rw [List.getD_eq_getElem?_getD, List.getElem?_take, if_pos this, ← List.getD_eq_getElem?_getD]
theorem check_of {l : List Int} (h1 : 1 ≤ l.length) (h2 : l.length ≤ 288) (hr : ∀ y ∈ l, 0 ≤ y ∧ y < 16) (h : 0 ≤ leftC l 15) : checkS l = if leftC l 15 = 0 then 0 else 302 := by
  have hm : mayS l = true := by
    unfold mayS
    have : (ints l).any badV = false := by
      rw [List.any_eq_false]
      intro x hx
      obtain ⟨y, hy, rfl⟩ := List.mem_map.1 hx
      have := hr y hy
      simp [badV, I]; omega
    rw [this]; simp; omega
  unfold checkS
  rw [if_neg (by rw [hm]; simp), if_neg (by omega)]
  split
  · rw [if_neg (by omega)]
  · rw [if_pos (by omega)]
end Ab
set_option linter.unusedSimpArgs false
set_option linter.unusedVariables false
namespace Ab
open Go
theorem sameA_eq (s : ByteArray) (i j : Nat) : ∀ f k, (∀ m, m < k → byN s (i + m) = byN s (j + m)) → ∀ m, m < sameA s i j f k → byN s (i + m) = byN s (j + m)
  | 0, k, h => by simpa [sameA] using h
  | f + 1, k, h => by
    unfold sameA
    split
    · rename_i q
      refine sameA_eq s i j f (k + 1) fun m hm => ?_
      by_cases e : m = k
      · subst e; exact q.2.2
      · exact h m (by omega)
    · exact h
theorem bestA_spec (s : ByteArray) (i : Nat) (hi : i ≤ s.size) : ∀ (n : Nat) (b : Nat × Nat), n ≤ i → (b.1 = 0 ∨ (b.1 ≤ 258 ∧ 1 ≤ b.2 ∧ b.2 ≤ i ∧ i + b.1 ≤ s.size ∧ ∀ m, m < b.1 → byN s (i + m) = byN s (i - b.2 + m))) →
    ((bestA s i n b).1 = 0 ∨ ((bestA s i n b).1 ≤ 258 ∧ 1 ≤ (bestA s i n b).2 ∧ (bestA s i n b).2 ≤ i ∧ i + (bestA s i n b).1 ≤ s.size ∧ ∀ m, m < (bestA s i n b).1 → byN s (i + m) = byN s (i - (bestA s i n b).2 + m)))
  | 0, b, hn, h => h
  | n + 1, b, hn, h => by
    unfold bestA
    refine bestA_spec s i hi n _ (by omega) ?_
    split
    · right
      refine ⟨same_le s i n, by show 1 ≤ i - n; omega, by show i - n ≤ i; omega, same_room s i n hi, fun m hm => ?_⟩
      have := sameA_eq s i n 258 0 (fun m hm => by omega) m hm
      have e : i - (i - n) = n := by omega
      show byN s (i + m) = byN s (i - (i - n) + m)
      rw [e]; exact this
    · exact h
def preB (s : ByteArray) (i : Nat) : List Nat := (List.range i).map (byN s)
theorem preB_len (s : ByteArray) (i : Nat) : (preB s i).length = i := by simp [preB]
theorem preB_succ (s : ByteArray) (i : Nat) : preB s (i + 1) = preB s i ++ [byN s i] := by simp [preB, List.range_succ]
theorem preB_get (s : ByteArray) {i j : Nat} (h : j < i) : (preB s i).getD j 0 = byN s j := by
  rw [List.getD_eq_getElem?_getD, preB, List.getElem?_map, List.getElem?_range h]; rfl
theorem cpy_pre (s : ByteArray) {d : Nat} (hd : 1 ≤ d) : ∀ (n i : Nat), d ≤ i → (∀ m, m < n → byN s (i + m) = byN s (i - d + m)) → cpy d n (preB s i) = preB s (i + n)
  | 0, i, h, _ => rfl
  | n + 1, i, h, hm => by
    have e0 := hm 0 (by omega)
    simp only [Nat.add_zero] at e0
    rw [cpy, preB_len, preB_get s (by omega), ← e0, ← preB_succ, cpy_pre s hd n (i + 1) (by omega) fun m h2 => by
      have := hm (m + 1) (by omega)
      have a1 : i + (m + 1) = i + 1 + m := by omega
      have a2 : i - d + (m + 1) = i + 1 - d + m := by omega
      rw [a1, a2] at this; exact this]
    congr 1; omega
theorem tokAt_spec (s : ByteArray) {i : Nat} (hi : i < s.size) : ((tokAt s i).1.len = 0 ∧ (tokAt s i).1.lit = byN s i ∧ (tokAt s i).1.dist = 0 ∧ (tokAt s i).2 = i + 1) ∨
    (∃ L D : Nat, (tokAt s i).1.len = L ∧ (tokAt s i).1.dist = D ∧ (tokAt s i).1.lit = 0 ∧ 3 ≤ L ∧ L ≤ 258 ∧ 1 ≤ D ∧ D ≤ i ∧ (tokAt s i).2 = i + L ∧ i + L ≤ s.size ∧ ∀ m, m < L → byN s (i + m) = byN s (i - D + m)) := by
  unfold tokAt
  split
  · exact .inl ⟨rfl, rfl, rfl, rfl⟩
  · rename_i c
    right
    rcases bestA_spec s i (by omega) i (0, 0) (Nat.le_refl _) (.inl rfl) with h | ⟨h1, h2, h3, h4, h5⟩
    · omega
    · exact ⟨_, _, rfl, rfl, rfl, by omega, h1, h2, h3, rfl, h4, h5⟩
theorem tokA_spec (s : ByteArray) (hs : s.size ≤ 300) : ∀ (f i : Nat), s.size - i ≤ f → i ≤ s.size → (tokA s f i).length ≤ s.size - i ∧ (∀ t ∈ tokA s f i, tokOk t) ∧ toksMayA i (tokA s f i) = true ∧ expT (tokA s f i) (preB s i) = preB s s.size
  | 0, i, hf, hi => by
    have : i = s.size := by omega
    subst this
    simp [tokA, toksMayA, expT]
  | f + 1, i, hf, hi => by
    rw [tokA]
    split
    · rename_i c
      have lt := tokAt_lt s i
      have le := tokAt_le s i c
      obtain ⟨i1, i2, i3, i4⟩ := tokA_spec s hs f (tokAt s i).2 (by omega) le
      have sp := tokAt_spec s c
      refine ⟨by rw [List.length_cons]; omega, ?_, ?_, ?_⟩
      · intro t ht
        rcases List.mem_cons.1 ht with q | q
        · subst q
          rcases sp with ⟨a, b, _, _⟩ | ⟨L, D, a, b, _, c1, c2, c3, c4, _, _, _⟩
          · have := byN_lt s i
            exact .inl ⟨a, by omega, by omega⟩
          · exact .inr ⟨by omega, by omega, by omega, by omega⟩
        · exact i2 t q
      · rw [toksMayA]
        rcases sp with ⟨a, b, c0, d⟩ | ⟨L, D, a, b, c0, c1, c2, c3, c4, d, e, _⟩
        · have hb := byN_lt s i
          have st : tokStep (i : Int) (tokAt s i).1 = some ((i : Int) + 1) := by
            unfold tokStep
            rw [if_pos a, if_neg (by omega)]
          rw [st]
          simp only
          rw [if_neg (by omega)]
          have e : (((tokAt s i).2 : Nat) : Int) = (i : Int) + 1 := by omega
          rw [← e]; exact i3
        · have st : tokStep (i : Int) (tokAt s i).1 = some ((i : Int) + L) := by
            unfold tokStep
            rw [if_neg (by omega), if_neg (by omega), a]
          rw [st]
          simp only
          rw [if_neg (by omega)]
          have e' : (((tokAt s i).2 : Nat) : Int) = (i : Int) + L := by omega
          rw [← e']; exact i3
      · rw [expT]
        rcases sp with ⟨a, b, c0, d⟩ | ⟨L, D, a, b, c0, c1, c2, c3, c4, d, e, g⟩
        · have : expStep (preB s i) (tokAt s i).1 = preB s (tokAt s i).2 := by
            unfold expStep
            rw [if_pos a, b, d, preB_succ]; rfl
          rw [this]; exact i4
        · have : expStep (preB s i) (tokAt s i).1 = preB s (tokAt s i).2 := by
            unfold expStep
            rw [if_neg (by omega), a, b, d]
            exact cpy_pre s c3 L i c4 g
          rw [this]; exact i4
    · have : i = s.size := by omega
      subst this
      simp [toksMayA, expT]
theorem few_tokens (s : ByteArray) (hs : s.size ≤ 300) : fewA (tokens s) = true := by
  obtain ⟨_, _, h3, h4⟩ := tokA_spec s hs s.size 0 (by omega) (by omega)
  unfold fewA expandA tokens
  have h3' : toksMayA 0 (tokA s s.size 0) = true := h3
  rw [if_pos h3']
  have : expT (tokA s s.size 0) [] = preB s s.size := h4
  rw [this]
  simp only [bytesOf_size, preB_len]
  simpa using hs
theorem incL_get (l : List Int) (i p : Nat) : l.getD p 0 ≤ (incL l i).getD p 0 := by
  unfold incL
  by_cases e : i = p
  · subst e
    by_cases h : i < l.length
    · rw [List.getD_eq_getElem?_getD (l := l.set i _), List.getElem?_set, if_pos rfl, if_pos h]
      show l.getD i 0 ≤ l.getD i 0 + 1
      omega
    · rw [List.set_eq_of_length_le (by omega)]; exact Int.le_refl _
  · rw [getD_set_ne e]; exact Int.le_refl _
theorem incL_hit {l : List Int} {i : Nat} (h : i < l.length) : (incL l i).getD i 0 = l.getD i 0 + 1 := by
  unfold incL
  rw [List.getD_eq_getElem?_getD (l := l.set i _), List.getElem?_set, if_pos rfl, if_pos h]; rfl
theorem cntA_get : ∀ (ts : List Tok) (A : List Int) (p : Nat), A.getD p 0 ≤ (cntA ts A).getD p 0
  | [], A, p => Int.le_refl _
  | t :: r, A, p => by
    rw [cntA]
    refine Int.le_trans ?_ (cntA_get r _ p)
    split <;> exact incL_get _ _ _
theorem cntB_get : ∀ (ts : List Tok) (A : List Int) (p : Nat), A.getD p 0 ≤ (cntB ts A).getD p 0
  | [], A, p => Int.le_refl _
  | t :: r, A, p => by
    rw [cntB]
    refine Int.le_trans ?_ (cntB_get r _ p)
    split
    · exact Int.le_refl _
    · exact incL_get _ _ _
theorem cntC_get : ∀ (ts : List Int) (A : List Int) (p : Nat), A.getD p 0 ≤ (cntC ts A).getD p 0
  | [], A, p => Int.le_refl _
  | t :: r, A, p => by
    rw [cntC]
    exact Int.le_trans (incL_get _ _ _) (cntC_get r _ p)
theorem nn_getD {A : List Int} (h : ∀ y ∈ A, 0 ≤ y) (p : Nat) : 0 ≤ A.getD p 0 := by
  rw [List.getD_eq_getElem?_getD]
  cases e : A[p]? with
  | none => simp
  | some y => exact h y (List.mem_of_getElem? e)
theorem nn_inc {A : List Int} (h : ∀ y ∈ A, 0 ≤ y) (i : Nat) : ∀ y ∈ incL A i, 0 ≤ y := by
  intro y hy
  rcases List.mem_or_eq_of_mem_set hy with q | q
  · exact h y q
  · have := nn_getD h i; omega
theorem cntA_hit : ∀ (ts : List Tok) (A : List Int), (∀ y ∈ A, 0 ≤ y) → A.length = 286 → ∀ t ∈ ts, tokOk t → (t.len = 0 → 1 ≤ (cntA ts A).getD t.lit.toNat 0) ∧ (t.len ≠ 0 → 1 ≤ (cntA ts A).getD (lsym t.len.toNat) 0)
  | [], A, _, _, t, h, _ => by simp at h
  | u :: r, A, hA, hl, t, h, o => by
    rw [cntA]
    rcases List.mem_cons.1 h with q | q
    · subst q
      refine ⟨fun h0 => ?_, fun h0 => ?_⟩
      · rw [if_pos h0]
        refine Int.le_trans ?_ (cntA_get r _ _)
        rcases o with ⟨_, b, c⟩ | ⟨a, _⟩
        · rw [incL_hit (by omega)]
          have := nn_getD hA t.lit.toNat; omega
        · omega
      · rw [if_neg h0]
        refine Int.le_trans ?_ (cntA_get r _ _)
        rcases o with ⟨a, _⟩ | ⟨a, b, _⟩
        · exact absurd a h0
        · have := lsym_spec (k := t.len.toNat) (by omega) (by omega)
          rw [incL_hit (by omega)]
          have := nn_getD hA (lsym t.len.toNat); omega
    · exact cntA_hit r _ (by split <;> exact nn_inc hA _) (by split <;> rw [incL_len, hl]) t q o
theorem cntB_hit : ∀ (ts : List Tok) (A : List Int), (∀ y ∈ A, 0 ≤ y) → A.length = 30 → ∀ t ∈ ts, tokOk t → t.len ≠ 0 → 1 ≤ (cntB ts A).getD (dsym t.dist.toNat) 0
  | [], A, _, _, t, h, _, _ => by simp at h
  | u :: r, A, hA, hl, t, h, o, h0 => by
    rw [cntB]
    rcases List.mem_cons.1 h with q | q
    · subst q
      rw [if_neg h0]
      refine Int.le_trans ?_ (cntB_get r _ _)
      rcases o with ⟨a, _⟩ | ⟨a, b, c, d⟩
      · exact absurd a h0
      · have := dsym_spec (k := t.dist.toNat) (by omega) (by omega)
        rw [incL_hit (by omega)]
        have := nn_getD hA (dsym t.dist.toNat); omega
    · refine cntB_hit r _ ?_ ?_ t q o h0
      · split
        · exact hA
        · exact nn_inc hA _
      · split
        · exact hl
        · rw [incL_len, hl]
theorem cntC_hit : ∀ (ds : List Int) (A : List Int), (∀ y ∈ A, 0 ≤ y) → A.length = 19 → ∀ y ∈ ds, 0 ≤ y ∧ y < 19 → 1 ≤ (cntC ds A).getD y.toNat 0
  | [], A, _, _, t, h, _ => by simp at h
  | u :: r, A, hA, hl, t, h, o => by
    rw [cntC]
    rcases List.mem_cons.1 h with q | q
    · subst q
      refine Int.le_trans ?_ (cntC_get r _ _)
      rw [incL_hit (by omega)]
      have := nn_getD hA t.toNat; omega
    · exact cntC_hit r _ (nn_inc hA _) (by rw [incL_len, hl]) t q o
theorem rep_rng (n : Nat) : ∀ y ∈ List.replicate n (0 : Int), 0 ≤ y ∧ y ≤ 0 := fun y hy => by have := List.eq_of_mem_replicate hy; omega
theorem dA_ok (ts : List Tok) (hn : ts.length ≤ 300) : (dA ts).length = 286 ∧ (∀ y ∈ dA ts, 0 ≤ y ∧ y ≤ 2147483647) ∧ 1 ≤ (dA ts).getD 256 0 := by
  have z : ∀ y ∈ (List.replicate 286 (0 : Int)).set 256 1, 0 ≤ y ∧ y ≤ 1 := fun y hy => by
    rcases List.mem_or_eq_of_mem_set hy with q | q
    · have := List.eq_of_mem_replicate q; omega
    · omega
  refine ⟨by unfold dA; rw [cntA_len, List.length_set, List.length_replicate], fun y hy => ?_, ?_⟩
  · have := cntA_rng ts _ 1 (by omega) z y hy; omega
  · have h : ((List.replicate 286 (0 : Int)).set 256 1).getD 256 0 = 1 := by decide
    have := cntA_get ts ((List.replicate 286 0).set 256 1) 256
    rw [h] at this
    exact this
theorem dB_ok (ts : List Tok) (hn : ts.length ≤ 300) : (dB ts).length = 30 ∧ (∀ y ∈ dB ts, 0 ≤ y ∧ y ≤ 2147483647) := by
  refine ⟨by unfold dB; rw [cntB_len, List.length_replicate], fun y hy => ?_⟩
  have := cntB_rng ts _ 0 (by omega) (rep_rng 30) y hy; omega
theorem okT_of {ts : List Tok} {la lb : List Int} {t : Tok} (o : tokOk t) (hA : t.len = 0 → okC (codesE la) t.lit.toNat) (hL : t.len ≠ 0 → okC (codesE la) (lsym t.len.toNat)) (hB : t.len ≠ 0 → okC (codesE lb) (dsym t.dist.toNat)) : okT (codesE la) (codesE lb) t := by
  rcases o with ⟨a, b, c⟩ | ⟨a, b, c, d⟩
  · exact .inl ⟨a, b, hA a⟩
  · exact .inr ⟨a, b, c, d, hL (by omega), hB (by omega)⟩
theorem cut_ok {C l : List Int} {K k m : Nat} (hC : ∀ y ∈ C, 0 ≤ y ∧ y ≤ 2147483647) (h2 : 2 ≤ C.length) (hl : C.length ≤ 288) (hk : k ≤ C.length) (hk1 : 1 ≤ k) (r : Rounds 15 K (lensW C)) (e : l = cutA (lensO C K) k) :
    (k ≤ l.length ∧ l.length ≤ C.length) ∧ (∀ y ∈ l, 0 ≤ y ∧ y < 16) ∧ (checkS l = 0 ∨ checkS l = 302) ∧ (∀ p, 0 < C.getD p 0 → okC (codesE l) p) ∧ 0 ≤ leftC l 15 := by
  obtain ⟨f1, f2, f3, f4, f5⟩ := lens_full hC h2 hl (by omega) r
  have ug := upToA_rng (lensO C K) k (lensO C K).length
  have ll : l.length = upToA (lensO C K) k (lensO C K).length := by rw [e]; exact cutA_len _ (by omega)
  have hr : ∀ y ∈ l, 0 ≤ y ∧ y < 16 := fun y hy => by
    rw [e] at hy
    have := f2 y (List.mem_of_mem_take hy)
    omega
  have lc : leftC l 15 = leftC (lensO C K) 15 := by rw [e]; exact cut_sum (fun y hy => (f2 y hy).1) k 15
  have l0 : 0 ≤ leftC l 15 := by
    rw [lc]
    by_cases c : ∃ y ∈ C, 0 < y
    · rw [f4 c]; omega
    · rw [f5 fun y hy q => c ⟨y, hy, q⟩]
      rw [leftC_sum, List.map_replicate]
      have : f15 15 0 = 0 := rfl
      rw [this]; simp
  have ck := check_of (l := l) (by omega) (by omega) hr l0
  refine ⟨by omega, hr, ?_, fun p hp => ?_, l0⟩
  · rw [ck]; split
    · exact .inl rfl
    · exact .inr rfl
  · have g := f3 p hp
    obtain ⟨c1, c2⟩ := cut_get k (show 0 < (lensO C K).getD p 0 by omega)
    rw [← e] at c1 c2
    exact okC_of l0 hr c1 (by omega)
theorem dyn_ex (s : ByteArray) (hs : s.size ≤ 300) : ∃ KA KB KC la lb Lc, DynOk (tokens s) KA KB KC la lb Lc := by
  obtain ⟨t1, t2, t3, t4⟩ := tokA_spec s hs s.size 0 (by omega) (by omega)
  change (tokens s).length ≤ s.size - 0 at t1
  change ∀ t ∈ tokens s, tokOk t at t2
  have hn : (tokens s).length ≤ 300 := by omega
  have few := few_tokens s hs
  generalize tokens s = ts at *
  obtain ⟨a1, a2, a3⟩ := dA_ok ts hn
  obtain ⟨b1, b2⟩ := dB_ok ts hn
  obtain ⟨KA, rA⟩ := lens_rounds (most := 15) a2 (by omega) (by omega) (.inl (by omega))
  obtain ⟨KB, rB⟩ := lens_rounds (most := 15) b2 (by omega) (by omega) (.inl (by omega))
  obtain ⟨la, ea⟩ : ∃ l, l = cutA (lensO (dA ts) KA) 257 := ⟨_, rfl⟩
  obtain ⟨lb, eb⟩ : ∃ l, l = cutA (lensO (dB ts) KB) 1 := ⟨_, rfl⟩
  obtain ⟨x1, x2, x3, x4, x5⟩ := cut_ok (m := 0) a2 (by omega) (by omega) (by omega) (by omega) rA ea
  obtain ⟨y1, y2, y3, y4, y5⟩ := cut_ok (m := 0) b2 (by omega) (by omega) (by omega) (by omega) rB eb
  have hall : ∀ y ∈ la ++ lb, 0 ≤ y ∧ y < 19 := fun y hy => by
    rcases List.mem_append.1 hy with q | q
    · have := x2 y q; omega
    · have := y2 y q; omega
  have c1 : (cntC (la ++ lb) (List.replicate 19 0)).length = 19 := by rw [cntC_len, List.length_replicate]
  have c2 : ∀ y ∈ cntC (la ++ lb) (List.replicate 19 0), 0 ≤ y ∧ y ≤ 2147483647 := fun y hy => by
    have := cntC_rng (la ++ lb) _ 0 (by omega) (rep_rng 19) y hy
    rw [List.length_append] at this
    omega
  obtain ⟨KC, rC⟩ := lens_rounds (most := 7) c2 (by omega) (by omega) (.inr (by omega))
  obtain ⟨f1, f2, f3, f4, f5⟩ := lens_full c2 (by omega) (by omega) (by omega) rC
  have hit := cntC_hit (la ++ lb) (List.replicate 19 0) (fun y hy => (rep_rng 19 y hy).1) (by rw [List.length_replicate])
  have ex : ∃ y ∈ cntC (la ++ lb) (List.replicate 19 0), 0 < y := by
    obtain ⟨z, hz⟩ := List.exists_mem_of_ne_nil (la ++ lb) (fun q => by
      have := congrArg List.length q
      rw [List.length_append, List.length_nil] at this
      omega)
    have h := hit z hz (hall z hz)
    refine ⟨_, ?_, show 0 < (cntC (la ++ lb) (List.replicate 19 0)).getD z.toNat 0 by omega⟩
    have zl : z.toNat < (cntC (la ++ lb) (List.replicate 19 0)).length := by have := hall z hz; omega
    rw [List.getD_eq_getElem?_getD, List.getElem?_eq_getElem zl]
    exact List.getElem_mem zl
  have l0 := f4 ex
  have r16 : ∀ y ∈ lensO (cntC (la ++ lb) (List.replicate 19 0)) KC, 0 ≤ y ∧ y < 16 := fun y hy => by have := f2 y hy; omega
  refine ⟨KA, KB, KC, la, lb, _, ⟨few, hn, t2, rA, rB, ea, eb, hall, rC, rfl, fun y hy => by have := f2 y hy; omega, x3, y3, ?_, ?_, ?_, ?_⟩⟩
  · have := check_of (by omega) (by omega) r16 (by omega)
    rw [this, if_pos l0]; exact .inl rfl
  · intro y hy
    have h := hit y hy (hall y hy)
    have g := f3 y.toNat (by omega)
    exact okC_of (by omega) r16 (by have := hall y hy; omega) g
  · intro t ht
    have o := t2 t ht
    have zA : ∀ y ∈ (List.replicate 286 (0 : Int)).set 256 1, 0 ≤ y := fun y hy => by
      rcases List.mem_or_eq_of_mem_set hy with q | q
      · have := List.eq_of_mem_replicate q; omega
      · omega
    have hA := cntA_hit ts _ zA (by rw [List.length_set, List.length_replicate]) t ht o
    have hB := cntB_hit ts (List.replicate 30 0) (fun y hy => (rep_rng 30 y hy).1) (by rw [List.length_replicate]) t ht o
    exact okT_of (ts := ts) o (fun h0 => x4 _ (by have := hA.1 h0; unfold dA; omega)) (fun h0 => x4 _ (by have := hA.2 h0; unfold dA; omega)) (fun h0 => y4 _ (by have := hB h0; unfold dB; omega))
  · exact x4 256 (by omega)
end Ab
set_option linter.unusedSimpArgs false
set_option linter.unusedVariables false
set_option maxRecDepth 100000
namespace Ab
open Go
theorem dyn_len {ts : List Tok} {KA KB KC : Nat} {la lb Lc : List Int} (ok : DynOk ts KA KB KC la lb Lc) : 17 ≤ (dynBits ts la lb Lc).length ∧ (dynBits ts la lb Lc).length ≤ 30000 := by
  obtain ⟨few, hn, tok, ra, rb, ea, eb, hall, rc, ec, hrow, ca, cb, cc, okall, okt, ok256⟩ := ok
  have a := allB_len okall
  have b := toksB_len okt
  obtain ⟨n, v, _, q1, q2, q3, q4⟩ := ok256.bits
  have lA : (dA ts).length = 286 := (dA_ok ts hn).1
  have lB : (dB ts).length = 30 := (dB_ok ts hn).1
  have l1 : la.length ≤ 286 := by rw [ea]; unfold cutA; rw [List.length_take, lensO_len, lA]; omega
  have l2 : lb.length ≤ 30 := by rw [eb]; unfold cutA; rw [List.length_take, lensO_len, lB]; omega
  have c : (codeBits (codesE la) 256).length ≤ 15 := by rw [q4, codeB_len]; exact q2
  rw [List.length_append] at a
  unfold dynBits
  simp only [List.length_append, putB, putF_len, rowB_len, List.length_take, List.length_map]
  have : orderL.length = 19 := rfl
  omega
theorem packB_byt : ∀ bs : List Nat, (∀ b ∈ bs, b ≤ 1) → Byt (packB bs) := by
  have : ∀ (l : List Nat) (i : Nat) (out : List Nat), (∀ b ∈ l, b ≤ 1) → Byt out → Byt (outAll l i out) := by
    intro l
    induction l with
    | nil => intro i out _ h; exact h
    | cons x l ih => intro i out hl h; exact ih (i + 1) _ (fun b hb => hl b (by simp [hb])) (outStep_byt (hl x (by simp)) h)
  exact fun bs h => this bs 0 [] h fun _ q => by simp at q
theorem codeB_bit (v : Nat) : ∀ m, ∀ b ∈ codeB v m, b ≤ 1
  | 0, b, h => by simp [codeB] at h
  | m + 1, b, h => by
    rw [codeB] at h
    rcases List.mem_cons.1 h with q | q
    · omega
    · exact codeB_bit v m b q
theorem putF_bit (v : Nat) : ∀ m i, ∀ b ∈ putF v i m, b ≤ 1
  | 0, i, b, h => by simp [putF] at h
  | m + 1, i, b, h => by
    rw [putF] at h
    rcases List.mem_cons.1 h with q | q
    · omega
    · exact putF_bit v m (i + 1) b q
theorem tokBits_bit (E D : List (Int × Int)) (t : Tok) : ∀ b ∈ tokBits E D t, b ≤ 1 := by
  intro b h
  unfold tokBits codeBits putB at h
  split at h
  · exact codeB_bit _ _ b h
  · simp only [List.mem_append] at h
    rcases h with h | h | h | h
    · exact codeB_bit _ _ b h
    · exact putF_bit _ _ _ b h
    · exact codeB_bit _ _ b h
    · exact putF_bit _ _ _ b h
theorem dyn_bit (ts : List Tok) (la lb Lc : List Int) : ∀ b ∈ dynBits ts la lb Lc, b ≤ 1 := by
  intro b h
  unfold dynBits at h
  simp only [List.mem_append] at h
  rcases h with h | h | h | h | h | h | h | h
  · exact putF_bit _ _ _ b h
  · exact putF_bit _ _ _ b h
  · exact putF_bit _ _ _ b h
  · exact putF_bit _ _ _ b h
  · obtain ⟨y, _, hy⟩ := List.mem_flatMap.1 h
    exact putF_bit _ _ _ b hy
  · obtain ⟨y, _, hy⟩ := List.mem_flatMap.1 h
    exact codeB_bit _ _ b hy
  · obtain ⟨y, _, hy⟩ := List.mem_flatMap.1 h
    exact tokBits_bit _ _ y b hy
  · exact codeB_bit _ _ b h
theorem emp_toks : tokens ⟨#[]⟩ = [] := rfl
theorem law_dyn (h : H) (s : ByteArray) (hs : s.size < 140737488355328) : ∃ v y P, callW AP.A 12 [.str s] h = some (.tup [v, .int .i64 y], h) ∧ callW AP.A 13 [v] h = some (.tup [.str (bytesOf P), .int .i64 0], h) ∧ (y = 0 ∧ s.size ≤ 300 ∨ y = 500 ∧ 300 < s.size) ∧ 1 ≤ P.length ∧ P.length ≤ 10000 ∧ Byt P := by
  have k := tokens_c h s (by omega)
  by_cases c : 300 < s.size
  · rw [if_pos c] at k
    obtain ⟨KA, KB, KC, la, lb, Lc, ok⟩ := dyn_ex ⟨#[]⟩ (by show 0 ≤ 300; omega)
    rw [emp_toks] at ok
    have d := dynamic2_c h .nils [] KA KB KC la lb Lc ok ⟨rfl, rfl, by intro s e; cases e⟩
    have l := dyn_len ok
    have pl := packB_len (dynBits [] la lb Lc)
    exact ⟨.nils, 500, packB (dynBits [] la lb Lc), k, d, .inr ⟨rfl, c⟩, by omega, by omega, packB_byt _ (dyn_bit _ _ _ _)⟩
  · rw [if_neg c] at k
    obtain ⟨KA, KB, KC, la, lb, Lc, ok⟩ := dyn_ex s (by omega)
    have d := dynamic2_c h (toksV (tokens s)) (tokens s) KA KB KC la lb Lc ok (rd_slN (by rw [toksC_len]))
    have l := dyn_len ok
    have pl := packB_len (dynBits (tokens s) la lb Lc)
    exact ⟨toksV (tokens s), 0, packB (dynBits (tokens s) la lb Lc), k, d, .inl ⟨rfl, by omega⟩, by omega, by omega, packB_byt _ (dyn_bit _ _ _ _)⟩
end Ab
set_option linter.unusedSimpArgs false
set_option linter.unusedVariables false
namespace Ab
open Go
def Bits (t : ByteArray) (p : Nat) (bs : List Nat) : Prop := p + bs.length ≤ 8 * t.size ∧ ∀ i, i < bs.length → bitAt t (p + i) = bs.getD i 0
theorem Bits.app {t : ByteArray} {p : Nat} {a b : List Nat} (h : Bits t p (a ++ b)) : Bits t p a ∧ Bits t (p + a.length) b := by
  obtain ⟨h1, h2⟩ := h
  rw [List.length_append] at h1 h2
  refine ⟨⟨by omega, fun i hi => ?_⟩, ⟨by omega, fun i hi => ?_⟩⟩
  · have := h2 i (by omega)
    rw [this, List.getD_eq_getElem?_getD, List.getD_eq_getElem?_getD, List.getElem?_append_left hi]
  · have := h2 (a.length + i) (by omega)
    rw [Nat.add_assoc, this, List.getD_eq_getElem?_getD, List.getD_eq_getElem?_getD, List.getElem?_append_right (by omega), Nat.add_sub_cancel_left]
theorem byteL_get (l : List Nat) (h : Byt l) (i : Nat) : (((bytesOf l)[i]?).map (·.toNat)).getD 0 = l.getD i 0 := by
  have e : (bytesOf l)[i]? = (l.map UInt8.ofNat)[i]? := by
    show (l.map UInt8.ofNat).toArray[i]? = _
    simp
  rw [e, List.getElem?_map, List.getD_eq_getElem?_getD]
  cases hx : l[i]? with
  | none => rfl
  | some x =>
    have := h x (List.mem_of_getElem? hx)
    simp [UInt8.toNat_ofNat_of_lt' this]
theorem bit_or {x b k j : Nat} (hb : b ≤ 1) (hx : x < 2 ^ k) : (x ||| b * 2 ^ k) / 2 ^ j % 2 = if j = k then b else x / 2 ^ j % 2 := by
  rw [← Nat.toNat_testBit, ← Nat.toNat_testBit, Nat.testBit_or]
  have hb' : b = 0 ∨ b = 1 := by omega
  rcases hb' with rfl | rfl
  · rw [Nat.zero_mul, Nat.zero_testBit, Bool.or_false]
    split
    · rename_i e; subst e
      rw [Nat.testBit_lt_two_pow hx]; rfl
    · rfl
  · rw [Nat.one_mul, Nat.testBit_two_pow]
    split
    · rename_i e; subst e; simp
    · rename_i e
      have : decide (k = j) = false := by simp; omega
      rw [this, Bool.or_false]
structure PInv (out : List Nat) (bs : List Nat) : Prop where
  len : out.length = (bs.length + 7) / 8
  bit : ∀ j, j < bs.length → out.getD (j / 8) 0 / 2 ^ (j % 8) % 2 = bs.getD j 0
  top : bs.length % 8 ≠ 0 → out.getD (bs.length / 8) 0 < 2 ^ (bs.length % 8)
theorem PInv.step {out bs : List Nat} {b : Nat} (hb : b ≤ 1) (v : PInv out bs) : PInv (outStep out bs.length b) (bs ++ [b]) := by
  obtain ⟨len, bit, top⟩ := v
  obtain ⟨n, hn⟩ : ∃ n, n = bs.length := ⟨_, rfl⟩
  rw [← hn] at len bit top ⊢
  obtain ⟨o, ho⟩ : ∃ o, o = if n % 8 = 0 then out ++ [0] else out := ⟨_, rfl⟩
  have es : outStep out n b = o.set (n / 8) (o.getD (n / 8) 0 ||| b * 2 ^ (n % 8)) := by rw [ho]; rfl
  have ol : n / 8 < o.length := by
    rw [ho]; split
    · rw [List.length_append, len]; simp; omega
    · rw [len]; omega
  have og : ∀ j, j < n → o.getD (j / 8) 0 = out.getD (j / 8) 0 := fun j hj => by
    rw [ho]; split
    · rw [List.getD_eq_getElem?_getD, List.getElem?_append_left (by omega), ← List.getD_eq_getElem?_getD]
    · rfl
  have ox : o.getD (n / 8) 0 < 2 ^ (n % 8) := by
    by_cases c : n % 8 = 0
    · rw [ho, if_pos c, List.getD_eq_getElem?_getD, List.getElem?_append_right (by omega), c]
      have : n / 8 - out.length = 0 := by omega
      rw [this]; simp
    · rw [ho, if_neg c]; exact top c
  have gn : ∀ m, (outStep out n b).getD m 0 = if m = n / 8 then o.getD (n / 8) 0 ||| b * 2 ^ (n % 8) else o.getD m 0 := fun m => by
    rw [es]
    by_cases e : m = n / 8
    · subst e
      rw [if_pos rfl, List.getD_eq_getElem?_getD, List.getElem?_set, if_pos rfl, if_pos ol]; rfl
    · rw [if_neg e, getD_set_ne (fun q => e q.symm)]
  have bl : (bs ++ [b]).length = n + 1 := by simp [hn]
  refine ⟨by rw [bl, outStep_len len], fun j hj => ?_, fun hc => ?_⟩
  · rw [bl] at hj
    rw [gn]
    by_cases e : j = n
    · subst e
      rw [if_pos rfl, bit_or hb ox, if_pos rfl, List.getD_eq_getElem?_getD, hn, List.getElem?_append_right (Nat.le_refl _)]; simp
    · have hjn : j < n := by omega
      have gb : (bs ++ [b]).getD j 0 = bs.getD j 0 := by rw [List.getD_eq_getElem?_getD, List.getElem?_append_left (by omega), ← List.getD_eq_getElem?_getD]
      rw [gb, ← bit j hjn, ← og j hjn]
      split
      · rename_i e2
        rw [bit_or hb ox, if_neg (by omega), e2]
      · rfl
  · rw [bl] at hc ⊢
    have e8 : (n + 1) / 8 = n / 8 := by omega
    have m8 : (n + 1) % 8 = n % 8 + 1 := by omega
    rw [gn, e8, if_pos rfl, m8, or_add ox, Nat.pow_succ]
    have : b * 2 ^ (n % 8) ≤ 1 * 2 ^ (n % 8) := Nat.mul_le_mul_right _ hb
    omega
theorem packB_inv : ∀ bs : List Nat, (∀ b ∈ bs, b ≤ 1) → PInv (packB bs) bs := by
  have key : ∀ (q p : List Nat) (out : List Nat), (∀ b ∈ q, b ≤ 1) → PInv out p → PInv (outAll q p.length out) (p ++ q) := by
    intro q
    induction q with
    | nil => intro p out _ h; simpa [outAll] using h
    | cons x q ih =>
      intro p out hb h
      have := ih (p ++ [x]) (outStep out p.length x) (fun b q => hb b (by simp [q])) (h.step (hb x (by simp)))
      rw [List.length_append, List.append_assoc] at this
      exact this
  intro bs hb
  exact key bs [] [] hb ⟨rfl, fun j hj => by simp at hj, fun h => by simp at h⟩
theorem bits_pack (bs : List Nat) (hb : ∀ b ∈ bs, b ≤ 1) : Bits (bytesOf (packB bs)) 0 bs := by
  have v := packB_inv bs hb
  have y := packB_byt bs hb
  refine ⟨by rw [bytesOf_size, v.len]; omega, fun i hi => ?_⟩
  rw [Nat.zero_add]
  unfold bitAt
  rw [byteL_get _ y]
  exact v.bit i hi
theorem val_put {t : ByteArray} {p : Nat} {v : Nat} : ∀ (n : Nat), (∀ i, i < n → bitAt t (p + i) = v / 2 ^ i % 2) → valAt t p n = v % 2 ^ n
  | 0, h => by simp [valAt, Nat.mod_one]
  | n + 1, h => by
    rw [valAt, val_put n fun i hi => h i (by omega), h n (by omega), Nat.pow_succ, Nat.mod_mul, Nat.mul_comm]
theorem putF_get (v : Nat) : ∀ m i j, j < m → (putF v i m).getD j 0 = v / 2 ^ (i + j) % 2
  | 0, i, j, h => by omega
  | m + 1, i, 0, h => rfl
  | m + 1, i, j + 1, h => by
    show (putF v (i + 1) m).getD j 0 = _
    rw [putF_get v m (i + 1) j (by omega)]
    congr 3; omega
theorem Bits.put {t : ByteArray} {p v n : Nat} (h : Bits t p (putB v n)) (hv : v < 2 ^ n) : valAt t p n = v ∧ p + n ≤ 8 * t.size := by
  obtain ⟨h1, h2⟩ := h
  unfold putB at h1 h2
  rw [putF_len] at h1 h2
  refine ⟨?_, h1⟩
  rw [val_put n fun i hi => by rw [h2 i hi, putF_get v n 0 i hi, Nat.zero_add], Nat.mod_eq_of_lt hv]
end Ab
set_option linter.unusedSimpArgs false
set_option linter.unusedVariables false
namespace Ab
open Go
theorem syms_pre (n : Nat) : ∀ (q p : List Int), ∃ r, syms (p ++ q) n = syms p n ++ r
  | [], p => ⟨[], by simp⟩
  | x :: q, p => by
    obtain ⟨r, hr⟩ := syms_pre n q (p ++ [x])
    rw [List.append_assoc, syms_snoc] at hr
    exact ⟨_, by rw [show p ++ x :: q = p ++ ([x] ++ q) by simp, hr, List.append_assoc]⟩
theorem syms_at {l : List Int} {s n : Nat} (hs : s < l.length) (hn : 1 ≤ n) (e : l.getD s 0 = (n : Int)) : (syms l n)[cnt (l.take s) n]? = some (s : Int) := by
  have e2 : l.take (s + 1) = l.take s ++ [l.getD s 0] := by
    rw [List.take_add_one, List.getElem?_eq_getElem hs, List.getD_eq_getElem?_getD, List.getElem?_eq_getElem hs]; rfl
  obtain ⟨r, hr⟩ := syms_pre n (l.drop (s + 1)) (l.take (s + 1))
  rw [List.take_append_drop, e2, syms_snoc, if_pos ⟨by omega, e⟩] at hr
  have ls := syms_cnt (l.take s) n
  have lt : (l.take s).length = s := by rw [List.length_take]; omega
  rw [hr, List.append_assoc, List.getElem?_append_right (by omega), ls, Nat.sub_self, lt]; rfl
theorem firstC_grow (l : List Int) (n : Nat) : ∀ m, (firstC l n + cnt l n) * 2 ^ (m + 1) ≤ firstC l (n + m + 1)
  | 0 => by rw [firstC]; simp
  | m + 1 => by
    have ih := firstC_grow l n m
    rw [show n + (m + 1) + 1 = (n + m + 1) + 1 by omega, firstC, Int.pow_succ, ← Int.mul_assoc]
    omega
theorem find_no {l : List Int} {n m : Nat} {c : Nat} (hc : firstC l (n + m + 1) ≤ (c : Int)) : findS l n ((c / 2 ^ (m + 1) : Nat) : Int) = none := by
  have g := firstC_grow l n m
  have h1 : firstC l n + cnt l n ≤ ((c / 2 ^ (m + 1) : Nat) : Int) := by
    have p2 : ((2 ^ (m + 1) : Nat) : Int) = (2 : Int) ^ (m + 1) := by push_cast; rfl
    have : (firstC l n + cnt l n) * ((2 ^ (m + 1) : Nat) : Int) ≤ (c : Int) := by rw [p2]; omega
    rw [Int.natCast_ediv]
    exact (Int.le_ediv_iff_mul_le (by have := Nat.pow_pos (n := m + 1) (show 0 < 2 by omega); omega)).2 this
  unfold findS
  split
  · rw [List.getElem?_eq_none]
    rw [syms_cnt]; omega
  · rfl
theorem sym_code {t : ByteArray} {l : List Int} {s N c : Nat} (hs : s < l.length) (hN : 1 ≤ N) (e : l.getD s 0 = (N : Int)) (hc : (c : Int) = firstC l N + cnt (l.take s) N) : ∀ (m n k p : Nat), n + m = N → m + 1 ≤ k → Bits t p (codeB c (m + 1)) → symA t l k n (c / 2 ^ (m + 1)) p = some ((s : Int), p + (m + 1))
  | m, n, 0, p, hn, hk, hb => by omega
  | m, n, k + 1, p, hn, hk, hb => by
    have hb1 : Bits t p ([c / 2 ^ m % 2] ++ codeB c m) := hb
    obtain ⟨b1, b2⟩ := hb1.app
    have v1 : valAt t p 1 = c / 2 ^ m % 2 := by
      have := b1.2 0 (by simp)
      simp only [Nat.add_zero, List.getD_cons_zero] at this
      simp [valAt, this]
    have pl : p + 1 ≤ 8 * t.size := b1.1
    have vv : c / 2 ^ (m + 1) * 2 + c / 2 ^ m % 2 = c / 2 ^ m := by
      rw [Nat.pow_succ, ← Nat.div_div_eq_div_mul]; omega
    rw [symA, if_pos pl, v1, vv]
    cases m with
    | zero =>
      have : findS l n ((c / 2 ^ 0 : Nat) : Int) = some (s : Int) := by
        have hn' : n = N := by omega
        subst hn'
        unfold findS
        rw [Nat.pow_zero, Nat.div_one, if_pos (by omega)]
        have : ((c : Int) - firstC l n).toNat = cnt (l.take s) n := by omega
        rw [this]
        exact syms_at hs hN e
      rw [this]
    | succ m =>
      have : findS l n ((c / 2 ^ (m + 1) : Nat) : Int) = none := find_no (by rw [show n + m + 1 = N by omega]; omega)
      rw [this]
      have r := sym_code hs hN e hc m (n + 1) k (p + 1) (by omega) (by omega) b2
      rw [r]
      simp only [Option.some.injEq, Prod.mk.injEq, true_and]; omega
theorem sym_bits {t : ByteArray} {l : List Int} (hl : 0 ≤ leftC l 15) (hr : ∀ y ∈ l, 0 ≤ y ∧ y < 16) {s p : Nat} (hs : s < l.length) (h1 : 1 ≤ l.getD s 0) (hb : Bits t p (codeBits (codesE l) s)) : symA t l 15 1 0 p = some ((s : Int), p + (codeBits (codesE l) s).length) := by
  obtain ⟨n, v, g, n1, n2, n3, n4⟩ := (okC_of hl hr hs h1).bits
  have g2 : (codesE l)[s]? = some (codeP l s) := by
    unfold codesE
    rw [List.getElem?_map, List.getElem?_range hs]; rfl
  rw [g2] at g
  have g3 := Option.some.inj g
  unfold codeP at g3
  rw [if_pos h1] at g3
  have e1 : l.getD s 0 = (n : Int) := congrArg Prod.fst g3
  have e2 : firstC l (l.getD s 0).toNat + cnt (l.take s) (l.getD s 0).toNat = (v : Int) := congrArg Prod.snd g3
  have tn : ((n : Nat) : Int).toNat = n := by omega
  rw [e1, tn] at e2
  rw [n4] at hb ⊢
  rw [codeB_len]
  obtain ⟨m, rfl⟩ : ∃ m, n = m + 1 := ⟨n - 1, by omega⟩
  have := sym_code hs n1 e1 e2.symm m 1 15 p (by omega) (by omega) hb
  rw [Nat.div_eq_of_lt n3] at this
  exact this
end Ab
set_option linter.unusedSimpArgs false
set_option linter.unusedVariables false
namespace Ab
open Go
theorem okC_len {l : List Int} {s : Nat} (o : okC (codesE l) s) : s < l.length ∧ 1 ≤ l.getD s 0 := by
  have hs : s < l.length := by have := o.lt; rwa [codesE_len] at this
  obtain ⟨n, v, g, n1, _⟩ := o
  have g2 : (codesE l)[s]? = some (codeP l s) := by
    unfold codesE
    rw [List.getElem?_map, List.getElem?_range hs]; rfl
  rw [g2] at g
  have g3 := Option.some.inj g
  unfold codeP at g3
  refine ⟨hs, ?_⟩
  apply Classical.byContradiction
  intro c
  rw [if_neg c] at g3
  have := congrArg Prod.fst g3
  simp at this
  omega
theorem copyL_cpy {most : Int} (d : Nat) : ∀ (n : Nat) (out : List Nat), (out.length : Int) + n ≤ most → copyL most d n out = .ok (cpy d n out)
  | 0, out, h => rfl
  | n + 1, out, h => by
    rw [copyL, if_neg (by omega), cpy]
    exact copyL_cpy d n _ (by simp; omega)
structure Book (l : List Int) : Prop where
  left : 0 ≤ leftC l 15
  rng : ∀ y ∈ l, 0 ≤ y ∧ y < 16
theorem Book.sym {l : List Int} (b : Book l) {t : ByteArray} {s p : Nat} (o : okC (codesE l) s) (hb : Bits t p (codeBits (codesE l) s)) : symA t l 15 1 0 p = some ((s : Int), p + (codeBits (codesE l) s).length) :=
  sym_bits b.left b.rng (okC_len o).1 (okC_len o).2 hb
theorem expStep_len (o : List Nat) (t : Tok) : o.length ≤ (expStep o t).length := by
  unfold expStep
  split
  · simp
  · rw [cpy_len]; omega
theorem expT_len : ∀ (ts : List Tok) (o : List Nat), o.length ≤ (expT ts o).length
  | [], o => Nat.le_refl _
  | t :: r, o => Nat.le_trans (expStep_len o t) (expT_len r _)
theorem coded_toks {t : ByteArray} {la lb : List Int} (bA : Book la) (bB : Book lb) (o256 : okC (codesE la) 256) {most : Int} : ∀ (ts : List Tok) (k p : Nat) (out : List Nat), Bits t p (toksB (codesE la) (codesE lb) ts ++ codeBits (codesE la) 256) → (∀ x ∈ ts, okT (codesE la) (codesE lb) x) → toksMayA out.length ts = true → ((expT ts out).length : Int) ≤ most → ts.length < k →
    codedA t most la lb k p out = .ok (p + (toksB (codesE la) (codesE lb) ts ++ codeBits (codesE la) 256).length, expT ts out)
  | ts, 0, p, out, hb, ok, hm, hl, hk => by omega
  | [], k + 1, p, out, hb, ok, hm, hl, hk => by
    have hb' : Bits t p (codeBits (codesE la) 256) := hb
    have s := bA.sym o256 hb'
    rw [codedA, s]
    simp only
    rw [if_neg (by omega), if_pos (by omega)]
    rfl
  | x :: r, k + 1, p, out, hb, ok, hm, hl, hk => by
    have ox := ok x (by simp)
    have e : toksB (codesE la) (codesE lb) (x :: r) ++ codeBits (codesE la) 256 = tokBits (codesE la) (codesE lb) x ++ (toksB (codesE la) (codesE lb) r ++ codeBits (codesE la) 256) := by
      unfold toksB; rw [List.flatMap_cons, List.append_assoc]
    rw [e] at hb ⊢
    obtain ⟨h1, h2⟩ := hb.app
    have gl := expT_len r (expStep out x)
    have hl' : ((expT r (expStep out x)).length : Int) ≤ most := hl
    rw [toksMayA] at hm
    cases hst : tokStep out.length x with
    | none => rw [hst] at hm; cases hm
    | some s' =>
      rw [hst] at hm
      simp only at hm
      by_cases k8 : 8192 < s'
      · rw [if_pos k8] at hm; cases hm
      rw [if_neg k8] at hm
      unfold tokStep at hst
      have rec_ : s' = ((expStep out x).length : Nat) → codedA t most la lb k (p + (tokBits (codesE la) (codesE lb) x).length) (expStep out x) = .ok (p + (tokBits (codesE la) (codesE lb) x ++ (toksB (codesE la) (codesE lb) r ++ codeBits (codesE la) 256)).length, expT r (expStep out x)) := fun es => by
        have := coded_toks bA bB o256 r k _ (expStep out x) h2 (fun y hy => ok y (by simp [hy])) (by rw [← es]; exact hm) hl' (by simp at hk; omega)
        rw [this, List.length_append (as := tokBits _ _ _), Nat.add_assoc]
      rw [expT]
      by_cases c0 : x.len = 0
      · rw [if_pos c0] at hst
        by_cases c : x.lit < 0 ∨ 255 < x.lit ∨ x.dist ≠ 0
        · rw [if_pos c] at hst; cases hst
        rw [if_neg c] at hst
        obtain rfl := Option.some.inj hst
        have tb : tokBits (codesE la) (codesE lb) x = codeBits (codesE la) x.lit.toNat := by rw [tokBits, if_pos c0]
        rcases ox with ⟨_, q2, q3⟩ | ⟨q, _⟩
        · have es : expStep out x = out ++ [x.lit.toNat] := by unfold expStep; rw [if_pos c0]
          rw [es] at gl hl' rec_ ⊢
          rw [List.length_append, List.length_singleton] at gl rec_
          rw [tb] at h1 rec_ ⊢
          have s := bA.sym q3 h1
          rw [codedA, s]
          simp only
          have tl : ((x.lit.toNat : Nat) : Int) < 256 := by omega
          rw [if_pos tl, if_neg (by omega)]
          have tn : (((x.lit.toNat : Nat) : Int)).toNat = x.lit.toNat := by omega
          rw [tn]
          exact rec_ (by push_cast; rfl)
        · omega
      · rw [if_neg c0] at hst
        by_cases c : x.len < 3 ∨ 258 < x.len ∨ x.dist < 1 ∨ 32768 < x.dist ∨ (out.length : Int) < x.dist ∨ x.lit ≠ 0
        · rw [if_pos c] at hst; cases hst
        rw [if_neg c] at hst
        obtain rfl := Option.some.inj hst
        obtain ⟨L, hL⟩ : ∃ y : Nat, x.len = y := Int.eq_ofNat_of_zero_le (by omega)
        obtain ⟨D, hD⟩ : ∃ y : Nat, x.dist = y := Int.eq_ofNat_of_zero_le (by omega)
        have Lt : x.len.toNat = L := by omega
        have Dt : x.dist.toNat = D := by omega
        rcases ox with ⟨q, _⟩ | ⟨_, _, _, _, q5, q6⟩
        · exact absurd q c0
        rw [Lt] at q5
        rw [Dt] at q6
        have es : expStep out x = cpy D L out := by unfold expStep; rw [if_neg c0, Lt, Dt]
        have cl := cpy_len D L out
        have tb : tokBits (codesE la) (codesE lb) x = codeBits (codesE la) (lsym L) ++ (putB (lval L) (lbit L) ++ (codeBits (codesE lb) (dsym D) ++ putB (dval D) (dbit D))) := by rw [tokBits, if_neg c0, Lt, Dt]
        rw [es] at gl hl' rec_ ⊢
        rw [tb] at h1 rec_ ⊢
        obtain ⟨i1, i2⟩ := h1.app
        obtain ⟨i3, i4⟩ := i2.app
        obtain ⟨i5, i6⟩ := i4.app
        have s1 := bA.sym q5 i1
        have lb_ := lbit_bd (k := L) (by omega) (by omega)
        have db_ := dbit_bd (k := D) (by omega) (by omega)
        have ls := lsym_spec (k := L) (by omega) (by omega)
        have ds := dsym_spec (k := D) (by omega) (by omega)
        obtain ⟨a, b, hab⟩ := lenOf_some ls.1 ls.2.1
        obtain ⟨a', b', hab'⟩ := distOf_some ds.1
        have ea : leastOf (lenOf (lsym L)) = a := by rw [hab]; rfl
        have eb : lbit L = b := by unfold lbit; rw [hab]; rfl
        have ea' : leastOf (distOf (dsym D)) = a' := by rw [hab']; rfl
        have eb' : dbit D = b' := by unfold dbit; rw [hab']; rfl
        have v1 := i3.put lb_.2
        have v2 := i6.put db_.2
        have pl : ∀ v n, (putB v n).length = n := fun v n => by unfold putB; exact putF_len v n 0
        rw [pl] at i5 v2
        have s2 := bB.sym q6 i5
        have eL : a + lval L = L := by unfold lval; rw [ea]; omega
        have eD : a' + dval D = D := by unfold dval; rw [ea']; omega
        rw [codedA, s1]
        simp only
        rw [if_neg (by omega), if_neg (by omega)]
        have tn : (((lsym L : Nat) : Int)).toNat = lsym L := by omega
        have tn2 : (((dsym D : Nat) : Int)).toNat = dsym D := by omega
        have cp : copyA t most lb (lsym L) (p + (codeBits (codesE la) (lsym L)).length) out = .ok (p + (codeBits (codesE la) (lsym L) ++ (putB (lval L) (lbit L) ++ (codeBits (codesE lb) (dsym D) ++ putB (dval D) (dbit D)))).length, cpy D L out) := by
          unfold copyA
          rw [hab]
          simp only
          rw [← eb, if_pos v1.2, s2]
          simp only
          rw [tn2, hab']
          simp only
          rw [← eb', v2.1, v1.1, eL, eD, if_pos ⟨v2.2, by omega⟩, copyL_cpy D L out (by omega)]
          simp only [List.length_append, pl, Except.ok.injEq, Prod.mk.injEq, and_true]
          omega
        rw [tn, cp]
        simp only
        exact rec_ (by rw [cl, hL]; push_cast; rfl)
end Ab
set_option linter.unusedSimpArgs false
set_option linter.unusedVariables false
namespace Ab
open Go
theorem Book.of_cut {C l : List Int} {K k : Nat} (hC : ∀ y ∈ C, 0 ≤ y ∧ y ≤ 2147483647) (h2 : 2 ≤ C.length) (hl : C.length ≤ 288) (hk : k ≤ C.length) (hk1 : 1 ≤ k) (r : Rounds 15 K (lensW C)) (e : l = cutA (lensO C K) k) : Book l ∧ ((∃ y ∈ C, 0 < y) → checkS l = 0) ∧ ((∀ y ∈ C, ¬ 0 < y) → ∀ y ∈ l, y = 0) := by
  obtain ⟨a, b, c, d, l0⟩ := cut_ok (m := 0) hC h2 hl hk hk1 r e
  obtain ⟨f1, f2, f3, f4, f5⟩ := lens_full hC h2 hl (by omega) r
  refine ⟨⟨l0, b⟩, fun ex => ?_, fun nn y hy => ?_⟩
  · rw [check_of (by omega) (by omega) b l0, if_pos]
    rw [e, cut_sum (fun y hy => (f2 y hy).1) k 15]
    exact f4 ex
  · rw [e, f5 nn] at hy
    exact List.eq_of_mem_replicate (List.mem_of_mem_take hy)
theorem sumL_zero : ∀ (l : List Int) (a : Int), (∀ y ∈ l, y = 0) → sumL l a = a
  | [], a, h => rfl
  | y :: l, a, h => by
    have := h y (by simp)
    subst this
    rw [sumL]
    first
      | exact sumL_zero l a fun z hz => h z (by simp [hz])
      | (simp; exact sumL_zero l a fun z hz => h z (by simp [hz]))
theorem lensLoop_all {t : ByteArray} {Lc : List Int} (bk : Book Lc) (many : Nat) : ∀ (q acc : List Int) (f p : Nat), Bits t p (allB (codesE Lc) q) → (∀ y ∈ q, okC (codesE Lc) y.toNat) → (∀ y ∈ q, 0 ≤ y ∧ y < 16) → acc.length + q.length = many → q.length < f → lensLoop t Lc many f acc p = some (acc ++ q, p + (allB (codesE Lc) q).length)
  | q, acc, 0, p, hb, ok, hr, hm, hf => by omega
  | [], acc, f + 1, p, hb, ok, hr, hm, hf => by
    simp at hm
    rw [lensLoop, if_neg (by omega), if_neg (by omega)]
    simp [allB]
  | y :: q, acc, f + 1, p, hb, ok, hr, hm, hf => by
    have e : allB (codesE Lc) (y :: q) = codeBits (codesE Lc) y.toNat ++ allB (codesE Lc) q := by unfold allB; rw [List.flatMap_cons]
    rw [e] at hb ⊢
    obtain ⟨h1, h2⟩ := hb.app
    have s := bk.sym (ok y (by simp)) h1
    have yr := hr y (by simp)
    have ty : ((y.toNat : Nat) : Int) = y := by omega
    simp only [List.length_cons] at hm hf
    rw [lensLoop, if_pos (by omega), s]
    simp only
    rw [ty]
    have ag : againA t y acc (p + (codeBits (codesE Lc) y.toNat).length) = some (y, 1, p + (codeBits (codesE Lc) y.toNat).length) := by
      unfold againA
      rw [if_neg (by omega), if_neg (by omega), if_neg (by omega)]
    rw [ag]
    simp only
    have r := lensLoop_all bk many q (acc ++ [y]) f _ h2 (fun z hz => ok z (by simp [hz])) (fun z hz => hr z (by simp [hz])) (by simp; omega) (by omega)
    have e1 : List.replicate 1 y = [y] := rfl
    rw [e1, r, List.length_append, ← Nat.add_assoc, List.append_assoc]; rfl
def ownF (L : List Int) : List Int → List Int → List Int
  | [], o => o
  | s :: r, o => ownF L r (o.set s.toNat (L.getD s.toNat 0))
theorem ownL_own {t : ByteArray} {L : List Int} (hr : ∀ y ∈ L, 0 ≤ y ∧ y < 8) : ∀ (os : List Int) (p : Nat) (o : List Int), Bits t p (rowB (os.map fun s => L.getD s.toNat 0)) → (∀ s ∈ os, s.toNat < L.length) → ownL t os p o = ownF L os o
  | [], p, o, hb, hs => rfl
  | s :: os, p, o, hb, hs => by
    have e : rowB ((s :: os).map fun s => L.getD s.toNat 0) = putB (L.getD s.toNat 0).toNat 3 ++ rowB (os.map fun s => L.getD s.toNat 0) := by unfold rowB; rw [List.map_cons, List.flatMap_cons]
    rw [e] at hb
    obtain ⟨h1, h2⟩ := hb.app
    have hl := hs s (by simp)
    have yr : 0 ≤ L.getD s.toNat 0 ∧ L.getD s.toNat 0 < 8 := hr _ (by rw [List.getD_eq_getElem?_getD, List.getElem?_eq_getElem hl]; exact List.getElem_mem hl)
    have v := h1.put (by omega)
    have pl : (putB (L.getD s.toNat 0).toNat 3).length = 3 := by unfold putB; exact putF_len _ _ _
    rw [pl] at h2
    rw [ownL, ownF, v.1, ownL_own hr os _ _ h2 (fun z hz => hs z (by simp [hz]))]
    congr 2; omega
theorem ownF_len (L : List Int) : ∀ (os o : List Int), (ownF L os o).length = o.length
  | [], o => rfl
  | s :: os, o => by rw [ownF, ownF_len L os, List.length_set]
theorem ownF_get (L : List Int) : ∀ (os o : List Int) (j : Nat), j < o.length → (ownF L os o).getD j 0 = if (∃ s ∈ os, s.toNat = j) then L.getD j 0 else o.getD j 0
  | [], o, j, hj => by simp [ownF]
  | s :: os, o, j, hj => by
    rw [ownF, ownF_get L os _ j (by rw [List.length_set]; exact hj)]
    by_cases c : ∃ s ∈ os, s.toNat = j
    · rw [if_pos c, if_pos (by obtain ⟨u, hu, e⟩ := c; exact ⟨u, by simp [hu], e⟩)]
    · rw [if_neg c]
      by_cases e : s.toNat = j
      · subst e
        rw [if_pos ⟨s, by simp, rfl⟩, List.getD_eq_getElem?_getD, List.getElem?_set, if_pos rfl, if_pos hj]; rfl
      · rw [getD_set_ne e, if_neg]
        rintro ⟨u, hu, e2⟩
        rcases List.mem_cons.1 hu with q | q
        · subst q; exact e e2
        · exact c ⟨u, q, e2⟩
theorem order_all : ∀ j : Nat, j < 19 → ∃ i : Nat, i < 19 ∧ orderL[i]? = some (j : Int) := by
  intro j hj
  have : ∀ j : Nat, j < 19 → ∃ i : Nat, i < 19 ∧ orderL[i]? = some (j : Int) := by decide
  exact this j hj
theorem own_back {L : List Int} (hl : L.length = 19) (h0 : ∀ y ∈ L, 0 ≤ y) : ownF L (orderL.take (upToA (orderL.map fun s => L.getD s.toNat 0) 4 19)) (List.replicate 19 0) = L := by
  apply List.ext_getElem?
  intro j
  have fl := ownF_len L (orderL.take (upToA (orderL.map fun s => L.getD s.toNat 0) 4 19)) (List.replicate 19 0)
  rw [List.length_replicate] at fl
  by_cases hj : j < 19
  · have g := ownF_get L (orderL.take (upToA (orderL.map fun s => L.getD s.toNat 0) 4 19)) (List.replicate 19 0) j (by simpa using hj)
    rw [List.getElem?_eq_getElem (by omega), List.getElem?_eq_getElem (by omega)]
    rw [List.getD_eq_getElem?_getD, List.getElem?_eq_getElem (by omega)] at g
    congr 1
    have g' : (ownF L (orderL.take (upToA (orderL.map fun s => L.getD s.toNat 0) 4 19)) (List.replicate 19 0))[j]'(by omega) = _ := g
    rw [g']
    have e : L.getD j 0 = L[j]'(by omega) := by rw [List.getD_eq_getElem?_getD, List.getElem?_eq_getElem (by omega)]; rfl
    split
    · exact e
    · rename_i c
      rw [repl_getD hj]
      obtain ⟨i, hi, oi⟩ := order_all j hj
      have hk : upToA (orderL.map fun s => L.getD s.toNat 0) 4 19 ≤ i := by
        apply Classical.byContradiction
        intro q
        refine c ⟨(j : Int), ?_, by omega⟩
        refine List.mem_of_getElem? (i := i) ?_
        rw [List.getElem?_take, if_pos (by omega), oi]
      have z := upToA_zero (orderL.map fun s => L.getD s.toNat 0) 4 19 i hk hi
      have tj : ((j : Nat) : Int).toNat = j := by omega
      rw [List.getD_eq_getElem?_getD, List.getElem?_map, oi] at z
      simp only [Option.map_some, Option.getD_some, tj] at z
      have nn := h0 _ (List.getElem_mem (l := L) (n := j) (by omega))
      omega
  · rw [List.getElem?_eq_none (by omega), List.getElem?_eq_none (by omega)]
theorem dynA_ok {t : ByteArray} {ts : List Tok} {KA KB KC : Nat} {la lb Lc : List Int} (ok : DynOk ts KA KB KC la lb Lc) (hb : Bits t 0 (dynBits ts la lb Lc)) (hm : toksMayA 0 ts = true) {most : Int} (hl : ((expT ts []).length : Int) ≤ most) : dynA t most 3 [] = .ok ((dynBits ts la lb Lc).length, expT ts []) ∧ valAt t 0 1 = 1 ∧ valAt t 1 2 = 2 ∧ 3 ≤ 8 * t.size := by
  obtain ⟨few, hn, tok, ra, rb, ea, eb, hall, rc, ec, hrow, ca, cb, cc, okall, okt, ok256⟩ := ok
  obtain ⟨a1, a2, a3⟩ := dA_ok ts hn
  obtain ⟨b1, b2⟩ := dB_ok ts hn
  obtain ⟨x1, x2, x3, x4, x5⟩ := cut_ok (m := 0) a2 (by omega) (by omega) (by omega) (by omega) ra ea
  obtain ⟨y1, y2, y3, y4, y5⟩ := cut_ok (m := 0) b2 (by omega) (by omega) (by omega) (by omega) rb eb
  obtain ⟨bkA, chA, _⟩ := Book.of_cut a2 (by omega) (by omega) (by omega) (by omega) ra ea
  obtain ⟨bkB, chB, zB⟩ := Book.of_cut b2 (by omega) (by omega) (by omega) (by omega) rb eb
  have c1 : (cntC (la ++ lb) (List.replicate 19 0)).length = 19 := by rw [cntC_len, List.length_replicate]
  have c2 : ∀ y ∈ cntC (la ++ lb) (List.replicate 19 0), 0 ≤ y ∧ y ≤ 2147483647 := fun y hy => by
    have := cntC_rng (la ++ lb) _ 0 (by omega) (rep_rng 19) y hy
    rw [List.length_append] at this
    omega
  obtain ⟨f1, f2, f3, f4, f5⟩ := lens_full c2 (by omega) (by omega) (by omega) rc
  rw [← ec] at f1 f2 f3 f4 f5
  have lLc : Lc.length = 19 := by omega
  have hit := cntC_hit (la ++ lb) (List.replicate 19 0) (fun y hy => (rep_rng 19 y hy).1) (by rw [List.length_replicate])
  have exC : ∃ y ∈ cntC (la ++ lb) (List.replicate 19 0), 0 < y := by
    obtain ⟨z, hz⟩ := List.exists_mem_of_ne_nil (la ++ lb) (fun q => by
      have := congrArg List.length q
      rw [List.length_append, List.length_nil] at this
      omega)
    have h := hit z hz (hall z hz)
    refine ⟨_, ?_, show 0 < (cntC (la ++ lb) (List.replicate 19 0)).getD z.toNat 0 by omega⟩
    have zl : z.toNat < (cntC (la ++ lb) (List.replicate 19 0)).length := by have := hall z hz; omega
    rw [List.getD_eq_getElem?_getD, List.getElem?_eq_getElem zl]
    exact List.getElem_mem zl
  have l0 := f4 exC
  have r16 : ∀ y ∈ Lc, 0 ≤ y ∧ y < 16 := fun y hy => by have := f2 y hy; omega
  have bkC : Book Lc := ⟨by omega, r16⟩
  have chC : checkS Lc = 0 := by rw [check_of (by omega) (by omega) r16 (by omega), if_pos l0]
  have exA : ∃ y ∈ dA ts, 0 < y := by
    have zl : 256 < (dA ts).length := by omega
    refine ⟨(dA ts).getD 256 0, ?_, by omega⟩
    rw [List.getD_eq_getElem?_getD, List.getElem?_eq_getElem zl]
    exact List.getElem_mem zl
  have chA' := chA exA
  have chB' : ¬ (checkS lb ≠ 0 ∧ singleS lb = false) := by
    rintro ⟨q1, q2⟩
    by_cases c : ∃ y ∈ dB ts, 0 < y
    · exact q1 (chB c)
    · have := sumL_zero lb 0 (zB fun y hy q => c ⟨y, hy, q⟩)
      unfold singleS at q2
      rw [this] at q2
      simp at q2
  obtain ⟨R, hR⟩ : ∃ R, R = orderL.map (fun o => Lc.getD o.toNat 0) := ⟨_, rfl⟩
  obtain ⟨k, hk⟩ : ∃ k, k = upToA R 4 19 := ⟨_, rfl⟩
  have uk := upToA_rng R 4 19
  rw [← hk] at uk
  have eD : dynBits ts la lb Lc = putB 5 3 ++ (putB (la.length - 257) 5 ++ (putB (lb.length - 1) 5 ++ (putB (k - 4) 4 ++ (rowB (R.take k) ++ (allB (codesE Lc) (la ++ lb) ++ (toksB (codesE la) (codesE lb) ts ++ codeBits (codesE la) 256)))))) := by rw [hk, hR]; rfl
  rw [eD] at hb ⊢
  have pl : ∀ v n, (putB v n).length = n := fun v n => by unfold putB; exact putF_len v n 0
  obtain ⟨h1, g1⟩ := hb.app
  rw [pl] at g1
  obtain ⟨h2, g2⟩ := g1.app
  rw [pl] at g2
  obtain ⟨h3, g3⟩ := g2.app
  rw [pl] at g3
  obtain ⟨h4, g4⟩ := g3.app
  rw [pl] at g4
  obtain ⟨h5, g5⟩ := g4.app
  obtain ⟨h6, g6⟩ := g5.app
  have v2 := h2.put (by omega)
  have v3 := h3.put (by omega)
  have v4 := h4.put (by omega)
  have rl : (rowB (R.take k)).length = 3 * k := by rw [rowB_len, List.length_take, hR, List.length_map]; show 3 * min k 19 = _; omega
  rw [rl] at g5 g6 h6
  have rb5 : rowB (R.take k) = rowB ((orderL.take k).map fun s => Lc.getD s.toNat 0) := by rw [hR, List.map_take]
  have h5' := h5
  rw [rb5] at h5'
  have own := ownL_own hrow (orderL.take k) _ (List.replicate 19 0) h5' (fun s hs => by have := order_mem s (List.mem_of_mem_take hs); omega)
  have back := own_back lLc (fun y hy => (hrow y hy).1)
  rw [← hR, ← hk] at back
  rw [back] at own
  have okr : ∀ y ∈ la ++ lb, 0 ≤ y ∧ y < 16 := fun y hy => by
    rcases List.mem_append.1 hy with q | q
    · exact x2 y q
    · exact y2 y q
  have h5l := h5.1
  rw [rl] at h5l
  have h6l := h6.1
  have g6l := g6.1
  have ll : (la ++ lb).length = la.length + lb.length := List.length_append
  have all := lensLoop_all bkC (la.length + lb.length) (la ++ lb) [] (8 * t.size + 1) _ h6 okall okr (by simp) (by
    have : ∀ D : List Int, (∀ y ∈ D, okC (codesE Lc) y.toNat) → D.length ≤ (allB (codesE Lc) D).length := by
      intro D
      induction D with
      | nil => intro _; simp
      | cons y D ih =>
        intro h
        have := ih fun z hz => h z (by simp [hz])
        obtain ⟨n, v, _, q1, q2, q3, q4⟩ := (h y (by simp)).bits
        unfold allB at *
        rw [List.flatMap_cons, List.length_append, q4, codeB_len, List.length_cons]; omega
    have := this _ okall
    omega)
  have cod := coded_toks bkA bkB ok256 ts (8 * t.size + 1) _ [] g6 okt hm hl (by
    have : ∀ T : List Tok, (∀ x ∈ T, okT (codesE la) (codesE lb) x) → T.length ≤ (toksB (codesE la) (codesE lb) T).length := by
      intro T
      induction T with
      | nil => intro _; simp
      | cons x T ih =>
        intro h
        have := ih fun z hz => h z (by simp [hz])
        have o := h x (by simp)
        have one : 1 ≤ (tokBits (codesE la) (codesE lb) x).length := by
          rcases o with ⟨h1, h2, h3⟩ | ⟨h1, h2, h3, h4, h5, h6⟩
          · obtain ⟨n, v, _, q1, q2, q3, q4⟩ := h3.bits
            rw [tokBits, if_pos h1, q4, codeB_len]; omega
          · obtain ⟨n, v, _, q1, q2, q3, q4⟩ := h5.bits
            rw [tokBits, if_neg (by omega), q4, List.length_append, codeB_len]; omega
        unfold toksB at *
        rw [List.flatMap_cons, List.length_append, List.length_cons]; omega
    have := this _ okt
    rw [List.length_append] at g6l
    omega)
  have v1 := h1.put (by omega)
  simp only [Nat.zero_add, Nat.reduceAdd, List.nil_append] at v1 v2 v3 v4 own all cod h5l
  have n1 : valAt t 3 5 + 257 = la.length := by rw [v2.1]; omega
  have n2 : valAt t 8 5 + 1 = lb.length := by rw [v3.1]; omega
  have n3 : valAt t 13 4 + 4 = k := by rw [v4.1]; omega
  have lens : lensA t (la.length + lb.length) 13 = some (la ++ lb, 17 + 3 * k + (allB (codesE Lc) (la ++ lb)).length) := by
    unfold lensA
    simp only [Nat.reduceAdd, n3]
    rw [if_pos (by omega), if_pos (by omega), own, if_pos chC, all]
  have tk : (la ++ lb).take la.length = la := List.take_left' rfl
  have dr : (la ++ lb).drop la.length = lb := List.drop_left' rfl
  have g256 : la.getD 256 0 ≠ 0 := by have := (okC_len ok256).2; omega
  refine ⟨?_, ?_, ?_, by omega⟩
  · unfold dynA
    simp only [Nat.reduceAdd, n1, n2]
    rw [if_pos (by omega), if_neg (by omega), lens]
    simp only [tk, dr]
    rw [if_neg (by rintro (q | q | q); exact q chA'; exact g256 q; exact chB' q), cod]
    simp only [List.length_append, pl, rl, Except.ok.injEq, Prod.mk.injEq, and_true]
    omega
  · have b0 := h1.2 0 (by rw [pl]; omega)
    have e0 : (putB 5 3).getD 0 0 = 1 := by decide
    rw [e0] at b0
    simp [valAt, b0]
  · have b1 := h1.2 1 (by rw [pl]; omega)
    have b2 := h1.2 2 (by rw [pl]; omega)
    have e1 : (putB 5 3).getD 1 0 = 0 := by decide
    have e2 : (putB 5 3).getD 2 0 = 1 := by decide
    rw [e1] at b1
    rw [e2] at b2
    simp only [Nat.zero_add] at b1 b2
    simp [valAt, b1, b2]
theorem inflate_dyn {s : ByteArray} (hs : s.size ≤ 300) {KA KB KC : Nat} {la lb Lc : List Int} (ok : DynOk (tokens s) KA KB KC la lb Lc) {most : Int} (hm1 : (s.size : Int) ≤ most) (hm2 : most ≤ 8192) : inflateA (bytesOf (packB (dynBits (tokens s) la lb Lc))) most = .ok (preB s s.size, (bytesOf (packB (dynBits (tokens s) la lb Lc))).size) := by
  obtain ⟨t1, t2, t3, t4⟩ := tokA_spec s hs s.size 0 (by omega) (by omega)
  have t3' : toksMayA 0 (tokens s) = true := t3
  have t4' : expT (tokens s) [] = preB s s.size := t4
  have hb := bits_pack (dynBits (tokens s) la lb Lc) (dyn_bit _ _ _ _)
  obtain ⟨d, v1, v2, sz⟩ := dynA_ok ok hb t3' (most := most) (by rw [t4', preB_len]; omega)
  rw [t4'] at d
  have psz : (bytesOf (packB (dynBits (tokens s) la lb Lc))).size = ((dynBits (tokens s) la lb Lc).length + 7) / 8 := by rw [bytesOf_size, packB_len]
  generalize bytesOf (packB (dynBits (tokens s) la lb Lc)) = T at *
  unfold inflateA
  rw [if_neg (by omega)]
  have bl : blockA T most 0 [] = .ok (true, (dynBits (tokens s) la lb Lc).length, preB s s.size) := by
    unfold blockA
    simp only [Nat.zero_add]
    rw [if_pos sz, v2]
    simp only [Nat.reduceEqDiff, if_false, if_true, reduceIte]
    rw [d]
    simp [v1]
  rw [infLoop, bl]
  simp only [if_true, psz]
end Ab
set_option linter.unusedSimpArgs false
set_option linter.unusedVariables false
set_option maxRecDepth 100000
namespace Ab
open Go
theorem preB_bytes (s : ByteArray) : bytesOf (preB s s.size) = s := by
  have : preB s s.size = toL s := by
    apply List.ext_getElem?
    intro i
    by_cases h : i < s.size
    · have g := byteL_get (toL s) (toL_lt s) i
      rw [bytesOf_toL] at g
      have l1 := toL_len s
      rw [List.getElem?_eq_getElem (by rw [preB_len]; exact h), List.getElem?_eq_getElem (by omega)]
      congr 1
      have a := preB_get s h
      rw [List.getD_eq_getElem?_getD, List.getElem?_eq_getElem (by rw [preB_len]; exact h)] at a
      rw [List.getD_eq_getElem?_getD, List.getElem?_eq_getElem (by omega)] at g
      exact a.trans g
    · rw [List.getElem?_eq_none (by rw [preB_len]; omega), List.getElem?_eq_none (by rw [toL_len]; omega)]
  rw [this, bytesOf_toL]
theorem law_InflateDynamic (s : ByteArray) (hs : s.size < 140737488355328) (h : H) : callW AP.A 6 [.str s] h = some (.bool true, h) := by
  have aw := awake_c h.fence
  have k1 := tokens_c h.fence s (by omega)
  by_cases c : 300 < s.size
  · rw [if_pos c] at k1
    obtain ⟨v, y, P, k3, k4, hy, l1, l2, byt⟩ := law_dyn h.fence s hs
    rcases hy with ⟨rfl, q⟩ | ⟨rfl, q⟩
    · omega
    refine pure_c (fn := AP.f6) (h2 := h.fence) (e := [(2, .bool true)]) rfl rfl rfl ?_ rfl rfl
    clear byt k1
    generalize bytesOf P = T at *
    simp (disch := omega) only [go_sem, abin_shl, abin_shr, Nat.reduceEqDiff, reduceIte, Nat.reduceAdd, Nat.reduceMul, Nat.reduceLT, Nat.reduceLeDiff, Int.reduceBEq, Int.reduceBNe, Int.reduceLT, Int.reduceLE, Int.reduceEq, qqC, AOp.loud, AOp.births, Int.reduceAdd, Int.reduceSub, Int.reduceMul, Int.reduceNeg, Int.reduceToNat, AP.f6, aw, k3, k4]
  · rw [if_neg c] at k1
    obtain ⟨KA, KB, KC, la, lb, Lc, ok⟩ := dyn_ex s (by omega)
    have k2 := dynamic2_c h.fence (toksV (tokens s)) (tokens s) KA KB KC la lb Lc ok (rd_slN (by rw [toksC_len]))
    have i1 := inflate_dyn (s := s) (by omega) ok (most := 8192) (by omega) (by omega)
    have l := dyn_len ok
    have pl := packB_len (dynBits (tokens s) la lb Lc)
    have bz : (bytesOf (packB (dynBits (tokens s) la lb Lc))).size = (packB (dynBits (tokens s) la lb Lc)).length := bytesOf_size _
    have i2 : 0 < s.size → inflateA (bytesOf (packB (dynBits (tokens s) la lb Lc))) ((s.size : Int) - 1) = .error 701 := fun hp => inflateA_less i1 (by omega) (by rw [preB_len]; omega)
    have i3 : s.size = 0 → inflateA (bytesOf (packB (dynBits (tokens s) la lb Lc))) 0 = .ok (preB s s.size, (bytesOf (packB (dynBits (tokens s) la lb Lc))).size) := fun hz => inflate_dyn (s := s) (by omega) ok (most := 0) (by omega) (by omega)
    generalize bytesOf (packB (dynBits (tokens s) la lb Lc)) = T at *
    have i4 := inflateA_more (pre_append T s) i1
    have kT := inflate_c h.fence (Nat.le_refl _) (T ++ s) 8192 (by rw [ByteArray.size_append]; omega)
    rw [i4] at kT
    simp only [infV, preB_bytes, I] at kT
    have ad : abin .add (.str T) (.str s) = some (.str (T ++ s)) := abin_strAdd (by omega)
    have es : abin .eql (.str s) (.str s) = some (.bool true) := by rw [str_eql]; simp
    have nm : ∀ (g : H) (n : Int), callW AP.A 9 [.int .i64 n] g = some (.int .i64 n, g) := fun g n => num_c g n
    refine pure_c (fn := AP.f6) (h2 := h.fence) (e := [(2, .bool true)]) rfl rfl rfl ?_ rfl rfl
    by_cases hp : 0 < s.size
    · have kL := inflate_c h.fence (Nat.le_refl _) T ((s.size : Int) - 1) (by omega)
      rw [i2 hp] at kL
      simp only [infV, I] at kL
      have mx1 : maxI ((s.size : Int) - 1) 0 = (s.size : Int) - 1 := by unfold maxI; rw [if_neg (by omega)]
      have z : ¬ (s.size : Int) = 0 := by omega
      clear i1 i2 i3 i4
      generalize T ++ s = TS at *
      simp (disch := omega) only [go_sem, abin_shl, abin_shr, Nat.reduceEqDiff, reduceIte, Nat.reduceAdd, Nat.reduceMul, Nat.reduceLT, Nat.reduceLeDiff, Int.reduceBEq, Int.reduceBNe, Int.reduceLT, Int.reduceLE, Int.reduceEq, qqC, AOp.loud, AOp.births, Int.reduceAdd, Int.reduceSub, Int.reduceMul, Int.reduceNeg, Int.reduceToNat, AP.f6, aw, k1, k2, ad, kT, kL, nm, es, op_mx2, amax2_s, mx1]
      rfl
    · have hz : s.size = 0 := by omega
      have kL := inflate_c h.fence (Nat.le_refl _) T 0 (by omega)
      rw [i3 hz] at kL
      simp only [infV, preB_bytes, I] at kL
      have mx1 : maxI ((s.size : Int) - 1) 0 = 0 := by unfold maxI; rw [if_pos (by omega)]
      have z : (s.size : Int) = 0 := by omega
      have mx2 : maxI (-1) 0 = 0 := rfl
      clear i1 i2 i3 i4
      generalize T ++ s = TS at *
      simp (disch := omega) only [go_sem, abin_shl, abin_shr, Nat.reduceEqDiff, reduceIte, Nat.reduceAdd, Nat.reduceMul, Nat.reduceLT, Nat.reduceLeDiff, Int.reduceBEq, Int.reduceBNe, Int.reduceLT, Int.reduceLE, Int.reduceEq, qqC, AOp.loud, AOp.births, Int.reduceAdd, Int.reduceSub, Int.reduceMul, Int.reduceNeg, Int.reduceToNat, AP.f6, aw, k1, k2, ad, kT, kL, nm, es, op_mx2, amax2_s, mx1, mx2, z]
      rfl
end Ab
namespace Ab
open Go
def strT : Ty := .str
theorem law_inflateDynamic (r : List (Ty × List AV)) (h : r.map (·.1) = [strT]) (hp : ∀ x ∈ r, Sh reachBytes x.1 x.2) : callW AP.A 6 (r.map avOf) H.empty = some (.bool true, H.empty) := by
  obtain ⟨x, rfl, h1⟩ := row1 h hp
  obtain ⟨s, rfl, hs⟩ := sh_str h1
  exact law_InflateDynamic s hs H.empty
end Ab
