/- Part C3. -/
import Derived.Test.YtbihdlhgfnoejaaGreatDoorC2
set_option linter.unusedSimpArgs false
set_option linter.unusedVariables false
set_option maxRecDepth 100000
namespace Ab
open Go
theorem DD {p q : Prop} [Decidable p] [Decidable q] {α : Type} {a b : α} (h : p ↔ q) : (if p then a else b) = if q then a else b := by
 by_cases c : p
 · rw [if_pos c, if_pos (h.1 c)]
 · rw [if_neg c, if_neg (fun x => c (h.2 x))]
def xM (p : Int × Int) : List AV := [.int .i64 p.1, .int .i64 p.2]
theorem Aa (p : Int × Int) : (xM p).length = 2 := rfl
theorem K4 {α : Type} {C : α → List AV} {n : Nat} (hC : ∀ x, (C x).length = n) : ∀ (l : List α) (i : Nat) (x : α), i < l.length → setFrom (l.flatMap C) (i * n) (C x) = (l.set i x).flatMap C
 | [], i, x, h => by simp at h
 | y :: l, 0, x, h => by
   have := yY (C y) (C x) [] (l.flatMap C) (by rw [hC, hC])
   simpa using this
 | y :: l, i + 1, x, h => by
   have ih := K4 hC l i x (by simpa using h)
   rw [UU, List.set_cons_succ, UU, ← ih]
   have e := CX hC l
   have : i < l.length := by simpa using h
   have hi : i * n + n ≤ l.length * n := by
    have := vU n (show i + 1 ≤ l.length from this)
    rwa [Nat.succ_mul] at this
   have hs : (i + 1) * n = n + i * n := by rw [Nat.succ_mul]; omega
   rw [BV _ _ _ (by rw [wo, hC, hC, e, hs]; omega), BV _ _ _ (by rw [hC, e]; omega), hs, hC]
   rw [List.take_append, List.drop_append, hC]
   rw [U3 (by rw [hC]; omega), List.drop_of_length_le (by rw [hC]; omega)]
   rw [show n + i * n - n = i * n by omega, show n + i * n + n - n = i * n + n by omega]
   simp
def Bq (l : List Int) (i : Nat) : Int × Int := if 1 ≤ l.getD i 0 then (l.getD i 0, wK l (l.getD i 0).toNat + yy (l.take i) (l.getD i 0).toNat) else (0, 0)
def wD (l : List Int) : List (Int × Int) := (List.range l.length).map (Bq l)
def xH (l : List Int) (b i : Nat) : List (Int × Int) := (List.range l.length).map fun j => if 1 ≤ l.getD j 0 ∧ (l.getD j 0 < b ∨ (l.getD j 0 = b ∧ j < i)) then Bq l j else (0, 0)
theorem CR (l : List Int) (b i : Nat) : (xH l b i).length = l.length := by simp [xH]
theorem JT {l : List Int} {b i : Nat} (hi : i < l.length) (hb : 1 ≤ b) (hl : l.getD i 0 = (b : Int)) : (xH l b i).set i ((b : Int), wK l b + yy (l.take i) b) = xH l b (i + 1) := by
 apply List.ext_getElem?
 intro j
 rw [U4]
 by_cases e : i = j
 · subst e
   rw [if_pos rfl, if_pos (by rw [CR]; exact hi)]
   simp only [xH, v7, Vp hi, US]
   rw [if_pos ⟨by omega, .inr ⟨hl, by omega⟩⟩, Bq, if_pos (by omega), hl]; rfl
 · rw [if_neg e]
   simp only [xH, v7]
   by_cases hj : j < l.length
   · rw [Vp hj]
     simp only [US]
     exact Vt some (DD (by omega))
   · rw [U8 (by simp; omega)]; rfl
theorem Ir {l : List Int} {b i : Nat} (hl : ¬ l.getD i 0 = (b : Int)) : xH l b (i + 1) = xH l b i := by
 unfold xH
 refine Vi fun j hj => ?_
 by_cases e : j = i
 · subst e
   exact DD (by omega)
 · exact DD (by omega)
theorem It (l : List Int) (b : Nat) : xH l (b + 1) 0 = xH l b l.length := by
 unfold xH
 refine Vi fun j hj => ?_
 have hj' : j < l.length := Vs.1 hj
 exact DD (by omega)
theorem JS {l : List Int} (hr : ∀ y ∈ l, 0 ≤ y ∧ y < 16) : xH l 16 0 = wD l := by
 unfold xH wD
 refine Vi fun j hj => ?_
 have hj' : j < l.length := Vs.1 hj
 have hm := hr (l.getD j 0) (by rw [UM, UP hj']; simp)
 by_cases c : 1 ≤ l.getD j 0
 · rw [if_pos ⟨c, .inl (by omega)⟩]
 · rw [if_neg (fun q => c q.1), Bq, if_neg c]
theorem Iu (l : List Int) : xH l 1 0 = List.replicate l.length (0, 0) := by
 unfold xH
 have : (List.range l.length).map (fun j => if 1 ≤ l.getD j 0 ∧ (l.getD j 0 < (1 : Nat) ∨ (l.getD j 0 = (1 : Nat) ∧ j < 0)) then Bq l j else ((0 : Int), (0 : Int))) = (List.range l.length).map (fun _ => ((0 : Int), (0 : Int))) := by
  refine Vi fun j hj => ?_
  rw [if_neg (by omega)]
 rw [this, List.map_const', List.length_range]
theorem Bp {l : List Int} {i : Nat} (hi : i < l.length) (b : Nat) (hb : 1 ≤ b) : yy (l.take (i + 1)) b = yy (l.take i) b + if l.getD i 0 = (b : Int) then 1 else 0 := by
 have e : l.take (i + 1) = l.take i ++ [l.getD i 0] := by
  rw [List.take_add_one, UP hi, UM, UP hi]; rfl
 rw [e, Cq]
 congr 1
 by_cases c : l.getD i 0 = (b : Int)
 · rw [if_pos ⟨by omega, c⟩, if_pos c]
 · rw [if_neg (fun q => c q.2), if_neg c]
theorem DW {x : AV} {l : List Int} (hl : l.length < 1000) (h0 : H) (rd : Rd h0 x (ints l)) (id b : Nat) (hid : h0.next ≤ id) (hb1 : 1 ≤ b) (hb : b ≤ 15) : ∀ (m i : Nat) (h : H), i + m = l.length → Ext h0 h → h.floor ≤ id → h.get id = some ((xH l b i).flatMap xM) →
 ∃ h', Lp AP.A [0, 5, 6, 7, 8] AP.f34L0 [(0, x), (5, .aF id 0 l.length 2), (6, .int .i64 (wK l b + yy (l.take i) b)), (7, .int .i64 b), (8, .int .i64 i)] h = some (.exit 2, [(0, x), (5, .aF id 0 l.length 2), (6, .int .i64 (wK l b + yy l b)), (7, .int .i64 b), (8, .int .i64 l.length), (30, .bool false)], h') ∧ Ext h0 h' ∧ h'.floor = h.floor ∧ h'.get id = some ((xH l b l.length).flatMap xM)
 | 0, i, h, hi, hx, hf, hg => by
   obtain rfl : i = l.length := by omega
   have ln := rd.len
   rw [qy] at ln
   simp only [I] at ln
   rw [List.take_length]
   refine ⟨h, ux ?_, hx, rfl, hg⟩
   simp (disch := omega) only [go_sem, wy, wz, Nat.reduceEqDiff, reduceIte, Nat.reduceAdd, Nat.reduceMul, Nat.reduceLT, Nat.reduceLeDiff, Int.reduceBEq, Int.reduceBNe, Int.reduceLT, Int.reduceLE, Int.reduceEq, wI, cf.aP, cf.aJ, Int.reduceAdd, Int.reduceSub, Int.reduceMul, Int.reduceNeg, Int.reduceToNat, AP.f34L0, ln]
 | m + 1, i, h, hi, hx, hf, hg => by
   have ln := rd.len
   rw [qy] at ln
   simp only [I] at ln
   have hil : i < l.length := by omega
   obtain ⟨ad, a1, a2⟩ := rd.xQ
   have b1 := a1 i ⟨by omega, by omega⟩
   have lg : l[i]? = some (l.getD i 0) := by rw [UM, UP hil]; rfl
   have b2 := a2 h hx i _ lg
   have n1 : ((i + 1 : Nat) : Int) = (i : Int) + 1 := by omega
   have ct := Bp hil b hb1
   have fb := A1 (l := l) (by omega) b
   have pw := Bb hb
   have cl := Bz (l.take i) b
   have tl := List.length_take_le i l
   generalize hy : l.getD i 0 = y at *
   by_cases c : y = (b : Int)
   · have st : ve h id (i * 2) 2 [.int .i64 (b : Int), .int .i64 (wK l b + yy (l.take i) b)] (some ((xH l b i).flatMap xM)) = some (h.set id ((xH l b (i + 1)).flatMap xM)) := by
      rw [JB, ← JT hil hb1 (hy.trans c), ← K4 Aa _ _ _ (by rw [CR]; exact hil)]
      have := CX Aa (xH l b i)
      rw [CR] at this
      simp only [this, hf, UO, UR, decide_true, AV.aC, AV.sc, Bool.and_true, Bool.true_and, show i * 2 + 2 ≤ l.length * 2 by omega]
      rfl
     rw [if_pos c] at ct
     have g2 : (h.set id ((xH l b (i + 1)).flatMap xM)).get id = some ((xH l b (i + 1)).flatMap xM) := by rw [wS rfl, hg]; rfl
     obtain ⟨h', r1, r2, r3, r4⟩ := DW hl h0 rd id b hid hb1 hb m (i + 1) _ (by omega) (hx.set hid _) (by simpa using hf) g2
     have e1 : wK l b + (yy (l.take i) b : Int) + 1 = wK l b + (yy (l.take (i + 1)) b : Nat) := by rw [ct]; omega
     refine ⟨h', uy ?_ r1, r2, by rw [r3]; simp, r4⟩
     rw [← e1, n1]
     subst c
     clear r1 r2 r3 r4 g2 ct e1 hx
     generalize wK l b = F at *
     generalize yy (l.take i) b = K at *
     generalize (xH l b i).flatMap xM = CS at *
     generalize (xH l b (i + 1)).flatMap xM = CS2 at *
     simp (disch := omega) only [go_sem, wy, wz, Nat.reduceEqDiff, reduceIte, Nat.reduceAdd, Nat.reduceMul, Nat.reduceLT, Nat.reduceLeDiff, Int.reduceBEq, Int.reduceBNe, Int.reduceLT, Int.reduceLE, Int.reduceEq, wI, cf.aP, cf.aJ, Int.reduceAdd, Int.reduceSub, Int.reduceMul, Int.reduceNeg, Int.reduceToNat, AP.f34L0, ln, b1, b2, hg, st]
   · rw [if_neg c, Nat.add_zero] at ct
     obtain ⟨h', r1, r2, r3, r4⟩ := DW hl h0 rd id b hid hb1 hb m (i + 1) h (by omega) hx hf (by rw [Ir (fun q => c (hy.symm.trans q))]; exact hg)
     rw [ct] at r1
     refine ⟨h', uy ?_ r1, r2, r3, r4⟩
     rw [n1]
     generalize wK l b = F at *
     generalize yy (l.take i) b = K at *
     simp (disch := omega) only [go_sem, wy, wz, Nat.reduceEqDiff, reduceIte, Nat.reduceAdd, Nat.reduceMul, Nat.reduceLT, Nat.reduceLeDiff, Int.reduceBEq, Int.reduceBNe, Int.reduceLT, Int.reduceLE, Int.reduceEq, wI, cf.aP, cf.aJ, Int.reduceAdd, Int.reduceSub, Int.reduceMul, Int.reduceNeg, Int.reduceToNat, AP.f34L0, ln, b1, b2]
theorem Hd {x : AV} {l : List Int} (hl : l.length < 1000) (h0 : H) (rd : Rd h0 x (ints l)) (id : Nat) (hid : h0.next ≤ id) : ∀ (m b : Nat) (h : H) (F : Int), b + m = 16 → 1 ≤ b → F + F = wK l b → Ext h0 h → h.floor ≤ id → h.get id = some ((xH l b 0).flatMap xM) →
 ∃ e' h', Lp AP.A [0, 5, 6, 7] AP.f34L1 [(0, x), (5, .aF id 0 l.length 2), (6, .int .i64 F), (7, .int .i64 b)] h = some (.exit 0, e', h') ∧ look e' 5 = .aF id 0 l.length 2 ∧ h'.floor = h.floor ∧ h'.get id = some ((xH l 16 0).flatMap xM)
 | 0, b, h, F, hb, hb1, hF, hx, hf, hg => by
   obtain rfl : b = 16 := by omega
   refine ⟨[(0, x), (5, .aF id 0 l.length 2), (6, .int .i64 F), (7, .int .i64 16), (22, .bool false)], h, ux ?_, rfl, rfl, hg⟩
   simp (disch := omega) only [go_sem, wy, wz, Nat.reduceEqDiff, reduceIte, Nat.reduceAdd, Nat.reduceMul, Nat.reduceLT, Nat.reduceLeDiff, Int.reduceBEq, Int.reduceBNe, Int.reduceLT, Int.reduceLE, Int.reduceEq, wI, cf.aP, cf.aJ, Int.reduceAdd, Int.reduceSub, Int.reduceMul, Int.reduceNeg, Int.reduceToNat, AP.f34L1]
 | m + 1, b, h, F, hb, hb1, hF, hx, hf, hg => by
   obtain ⟨h1, q1, q2, q3, q4⟩ := DW hl h0 rd id b hid hb1 (by omega) l.length 0 h (by omega) hx hf hg
   rw [← It] at q4
   have c0 : yy (l.take 0) b = 0 := by rw [List.take_zero]; exact I0 b
   rw [c0] at q1
   have fb := A1 (l := l) (by omega) b
   have pw := Bb (m := b) (by omega)
   have q1' : Lp AP.A [0, 5, 6, 7, 8] AP.f34L0 [(0, x), (5, .aF id 0 l.length 2), (6, .int .i64 (wK l b)), (7, .int .i64 b), (8, .int .i64 0)] h = some (.exit 2, [(0, x), (5, .aF id 0 l.length 2), (6, .int .i64 (wK l b + yy l b)), (7, .int .i64 b), (8, .int .i64 l.length), (30, .bool false)], h1) := by
    have e : (wK l b + ((0 : Nat) : Int)) = wK l b := by omega
    rw [e] at q1; exact q1
   obtain ⟨e', h', r1, r2, r3, r4⟩ := Hd hl h0 rd id hid m (b + 1) h1 (wK l b + yy l b) (by omega) (by omega) (by rw [wK]; omega) q2 (by omega) q4
   have n1 : ((b + 1 : Nat) : Int) = (b : Int) + 1 := by omega
   have n2 : 2 * F = wK l b := by omega
   have hFb : 0 ≤ F ∧ F < 100000000000 := by omega
   refine ⟨e', h', uy ?_ r1, r2, by omega, r4⟩
   rw [n1]
   clear q1 r1 r2 r3 r4 q4 hx rd
   generalize wK l b = G at *
   simp (disch := omega) only [go_sem, wy, wz, Nat.reduceEqDiff, reduceIte, Nat.reduceAdd, Nat.reduceMul, Nat.reduceLT, Nat.reduceLeDiff, Int.reduceBEq, Int.reduceBNe, Int.reduceLT, Int.reduceLE, Int.reduceEq, wI, cf.aP, cf.aJ, Int.reduceAdd, Int.reduceSub, Int.reduceMul, Int.reduceNeg, Int.reduceToNat, AP.f34L1, n2, th, q1']
theorem BU : ∀ E : List (Int × Int), E.flatMap xM = ints (E.flatMap fun p => [p.1, p.2])
 | [] => rfl
 | p :: E => by rw [UU, UU, qx, BU E]; rfl
theorem Dq : ∀ n, yX n [.int .i64 0, .int .i64 0] = (List.replicate n ((0 : Int), (0 : Int))).flatMap xM
 | 0 => rfl
 | n + 1 => by
   have := Dq n
   unfold yX at *
   rw [eh, this, List.replicate_succ, UU]; rfl
def DT (l : List Int) : AV := zO 2 l.length ((wD l).flatMap xM)
theorem Cs (h : H) (x : AV) (l : List Int) (h1 : 1 ≤ l.length) (hl : l.length < 1000) (rd : Rd h x (ints l)) (hc : wT l = 0 ∨ wT l = 302) : aS AP.A 34 [x] h = some (.bU [DT l, .int .i64 0], h) := by
 have k := KM h.ez x l (by omega) (rd.mono (wJ h))
 simp only [I] at k
 have hr : ∀ y ∈ l, 0 ≤ y ∧ y < 16 := by
  refine C3 ?_
  unfold wT at hc
  by_cases q : BT l = false
  · rw [if_pos q] at hc; omega
  · simpa using q
 have Es : Rd h.ez x (ints l) := rd.mono (wJ h)
 obtain ⟨g, eg⟩ : ∃ g, g = h.ez.alloc (yX l.length [.int .i64 0, .int .i64 0]) := ⟨_, rfl⟩
 have hn : h.ez.next = h.next := rfl
 have ex : Ext h.ez g := by rw [eg]; exact (Ext.refl _).alloc _
 have gg : g.get h.next = some ((xH l 1 0).flatMap xM) := by rw [eg, wO (by simp), Dq, Iu]
 obtain ⟨e', h', r1, r2, r3, r4⟩ := Hd hl h.ez Es h.next (by simp) 15 1 g 0 (by omega) (by omega) (by simp [wK, yy]) ex (by rw [eg]; simp) gg
 have r1' : Lp AP.A [0, 5, 6, 7] AP.f34L1 [(0, x), (5, .aF h.next 0 l.length 2), (6, .int .i64 0), (7, .int .i64 1)] g = some (.exit 0, e', h') := r1
 have ln := rd.len
 rw [qy] at ln
 simp only [I] at ln
 rw [JS hr] at r4
 have ce : (wD l).length = l.length := by simp [wD]
 have ow : wW 2 h' (.aF h.next 0 l.length 2) l.length ((wD l).flatMap xM) := ⟨by rw [CX Aa, ce], .inr ⟨h.next, rfl, r4, by rw [r3, eg]; simp, by omega⟩⟩
 have kk : (¬ wT l = 0 ∧ ¬ wT l = 302) = False := by simp; omega
 refine u7 (fn := AP.f34) (h2 := h') (e := [(2, .aF h.next 0 l.length 2), (3, .int .i64 0)]) (vs := [.aF h.next 0 l.length 2, .int .i64 0]) rfl rfl rfl ?_ rfl ?_
 · clear r1 r4 ow rd Es hr kk gg ex
   rcases hc with q | q
   · rw [q] at k
     simp (disch := omega) only [go_sem, wy, wz, Nat.reduceEqDiff, reduceIte, Nat.reduceAdd, Nat.reduceMul, Nat.reduceLT, Nat.reduceLeDiff, Int.reduceBEq, Int.reduceBNe, Int.reduceLT, Int.reduceLE, Int.reduceEq, wI, cf.aP, cf.aJ, Int.reduceAdd, Int.reduceSub, Int.reduceMul, Int.reduceNeg, Int.reduceToNat, AP.f34, k, ln, ← eg, hn, th, r1', r2]
   · rw [q] at k
     simp (disch := omega) only [go_sem, wy, wz, Nat.reduceEqDiff, reduceIte, Nat.reduceAdd, Nat.reduceMul, Nat.reduceLT, Nat.reduceLeDiff, Int.reduceBEq, Int.reduceBNe, Int.reduceLT, Int.reduceLE, Int.reduceEq, wI, cf.aP, cf.aJ, Int.reduceAdd, Int.reduceSub, Int.reduceMul, Int.reduceNeg, Int.reduceToNat, AP.f34, k, ln, ← eg, hn, th, r1', r2]
 · have o' := ow
   rw [BU] at o'
   have s1 := o'.yj (fl := h.next) (m := 13) (t := true) (by rw [r3, eg]; simp)
   show (fV (snap h'.get h.next 15 true) [.aF h.next 0 l.length 2, .int .i64 0]).bind _ = _
   simp only [fV, s1, vO]
   rw [← BU]; rfl
def xi (l : List Int) (least : Nat) : Nat → Nat
 | 0 => least
 | i + 1 => if i + 1 ≤ least then least else if 0 < l.getD i 0 then i + 1 else xi l least i
theorem FZ {x : AV} {l : List Int} (hl : l.length < 1000) (h : H) (rd : Rd h x (ints l)) (k : Nat) (hk : k < 1000) : ∀ i : Nat, i ≤ l.length →
 (∃ e', Lp AP.A [0, 1, 5] AP.f31L0 [(0, x), (1, .int .i64 k), (5, .int .i64 i)] h = some (.exit 0, e', h) ∧ look e' 1 = .int .i64 k ∧ xi l k i = k) ∨
 Lp AP.A [0, 1, 5] AP.f31L0 [(0, x), (1, .int .i64 k), (5, .int .i64 i)] h = some (.ret, [(4, .int .i64 (xi l k i : Nat))], h)
 | 0, hi => by
   refine .inl ⟨[(0, x), (1, .int .i64 k), (5, .int .i64 0), (10, .bool false)], ux ?_, rfl, rfl⟩
   simp (disch := omega) only [go_sem, wy, wz, Nat.reduceEqDiff, reduceIte, Nat.reduceAdd, Nat.reduceMul, Nat.reduceLT, Nat.reduceLeDiff, Int.reduceBEq, Int.reduceBNe, Int.reduceLT, Int.reduceLE, Int.reduceEq, wI, cf.aP, cf.aJ, Int.reduceAdd, Int.reduceSub, Int.reduceMul, Int.reduceNeg, Int.reduceToNat, AP.f31L0]
 | i + 1, hi => by
   by_cases c : i + 1 ≤ k
   · refine .inl ⟨[(0, x), (1, .int .i64 k), (5, .int .i64 (i + 1 : Nat)), (10, .bool false)], ux ?_, rfl, by rw [xi, if_pos c]⟩
     simp (disch := omega) only [go_sem, wy, wz, Nat.reduceEqDiff, reduceIte, Nat.reduceAdd, Nat.reduceMul, Nat.reduceLT, Nat.reduceLeDiff, Int.reduceBEq, Int.reduceBNe, Int.reduceLT, Int.reduceLE, Int.reduceEq, wI, cf.aP, cf.aJ, Int.reduceAdd, Int.reduceSub, Int.reduceMul, Int.reduceNeg, Int.reduceToNat, AP.f31L0]
   · obtain ⟨ad, a1, a2⟩ := rd.xQ
     have b1 := a1 i ⟨by omega, by omega⟩
     have lg : l[i]? = some (l.getD i 0) := by rw [UM, UP (by omega)]; rfl
     have b2 := a2 h (Ext.refl h) i _ lg
     have n1 : ((i + 1 : Nat) : Int) - 1 = (i : Int) := by omega
     rw [xi, if_neg c]
     generalize hy : l.getD i 0 = y at *
     by_cases c2 : 0 < y
     · rw [if_pos c2]
       refine .inr (uT ?_)
       simp (disch := omega) only [go_sem, wy, wz, Nat.reduceEqDiff, reduceIte, Nat.reduceAdd, Nat.reduceMul, Nat.reduceLT, Nat.reduceLeDiff, Int.reduceBEq, Int.reduceBNe, Int.reduceLT, Int.reduceLE, Int.reduceEq, wI, cf.aP, cf.aJ, Int.reduceAdd, Int.reduceSub, Int.reduceMul, Int.reduceNeg, Int.reduceToNat, AP.f31L0, n1, b1, b2]
     · rw [if_neg c2]
       have step : aM (aS AP.A) bG AP.f31L0 (ay [(0, x), (1, .int .i64 k), (5, .int .i64 (i + 1 : Nat))] [0, 1, 5]) h = some (.normal, [(0, x), (1, .int .i64 k), (5, .int .i64 i)], h) := by
        simp (disch := omega) only [go_sem, wy, wz, Nat.reduceEqDiff, reduceIte, Nat.reduceAdd, Nat.reduceMul, Nat.reduceLT, Nat.reduceLeDiff, Int.reduceBEq, Int.reduceBNe, Int.reduceLT, Int.reduceLE, Int.reduceEq, wI, cf.aP, cf.aJ, Int.reduceAdd, Int.reduceSub, Int.reduceMul, Int.reduceNeg, Int.reduceToNat, AP.f31L0, n1, b1, b2]
       rcases FZ hl h rd k hk i (by omega) with ⟨e', r1, r2, r3⟩ | r1
       · exact .inl ⟨e', uy step r1, r2, r3⟩
       · exact .inr (uy step r1)
theorem IP (h : H) (x : AV) (l : List Int) (hl : l.length < 1000) (rd : Rd h x (ints l)) (k : Nat) (hk : k < 1000) : aS AP.A 31 [x, .int .i64 k] h = some (.int .i64 (xi l k l.length : Nat), h) := by
 have ln := rd.len
 rw [qy] at ln
 simp only [I] at ln
 have Es : Rd h.ez x (ints l) := rd.mono (wJ h)
 rcases FZ hl h.ez Es k hk l.length (vR _) with ⟨e', r1, r2, r3⟩ | r1
 · rw [r3]
   refine u7 (fn := AP.f31) (h2 := h.ez) (e := [(4, .int .i64 k)]) rfl rfl rfl ?_ rfl rfl
   simp (disch := omega) only [go_sem, wy, wz, Nat.reduceEqDiff, reduceIte, Nat.reduceAdd, Nat.reduceMul, Nat.reduceLT, Nat.reduceLeDiff, Int.reduceBEq, Int.reduceBNe, Int.reduceLT, Int.reduceLE, Int.reduceEq, wI, cf.aP, cf.aJ, Int.reduceAdd, Int.reduceSub, Int.reduceMul, Int.reduceNeg, Int.reduceToNat, AP.f31, ln, th, r1, r2]
 · refine u7 (fn := AP.f31) (h2 := h.ez) (e := [(4, .int .i64 (xi l k l.length : Nat))]) rfl rfl rfl ?_ rfl rfl
   generalize xi l k l.length = U at *
   simp (disch := omega) only [go_sem, wy, wz, Nat.reduceEqDiff, reduceIte, Nat.reduceAdd, Nat.reduceMul, Nat.reduceLT, Nat.reduceLeDiff, Int.reduceBEq, Int.reduceBNe, Int.reduceLT, Int.reduceLE, Int.reduceEq, wI, cf.aP, cf.aJ, Int.reduceAdd, Int.reduceSub, Int.reduceMul, Int.reduceNeg, Int.reduceToNat, AP.f31, ln, th, r1]
structure WX (h0 h : H) (w : Nat) (bs : List Nat) (ov : AV) : Prop where
 wr : Wr h w bs ov
 ext : Ext h0 h
 lw : h0.next ≤ w
 ln : h0.next ≤ h.next
 lo : ∀ j, ov.id? = some j → h0.next ≤ j
theorem WX.step {h0 h h' : H} {w : Nat} {bs bs' : List Nat} {ov ov' : AV} (x : WX h0 h w bs ov) (wr : Wr h' w bs' ov') (f : GP h w ov h' ov') : WX h0 h' w bs' ov' :=
 ⟨wr, fun i c hi => by
  have := h0.lt _ _ hi
  have := x.ln
  have := x.lw
  rw [f.xX i (by omega) (by omega) (fun q => by have := x.lo i q; omega), x.ext i c hi], x.lw, by have := f.next; have := x.ln; omega, fun j hj => by
  rcases f.ids j hj with q | q
  · exact x.lo j q
  · have := x.ln; omega⟩
theorem WX.turn {h0 h h' : H} {w : Nat} {bs : List Nat} {ov : AV} (x : WX h0 h w bs ov) (hf : h'.floor = h.floor) (hn : h.next ≤ h'.next) (hk : ∀ i, i < h.next → h'.get i = h.get i) : WX h0 h' w bs ov :=
 ⟨⟨by rw [hk w (h.lt _ _ x.wr.get), x.wr.get], x.wr.own.mono hf fun i q => hk i (x.wr.own.lt q).2, by rw [hf]; exact x.wr.fl, by rw [hf]; exact wk x.wr.Ks hn, x.wr.ne, x.wr.Np⟩,
   fun i c hi => by have := h0.lt _ _ hi; have := x.ln; rw [hk i (by omega), x.ext i c hi], x.lw, wk x.ln hn, x.lo⟩
def Dz (E : List (Int × Int)) (s : Nat) : Prop := ∃ n v : Nat, E[s]? = some ((n : Int), (v : Int)) ∧ 1 ≤ n ∧ n ≤ 15 ∧ v < 2 ^ n
def wP (E : List (Int × Int)) (s : Nat) : List Nat := zh (E.getD s (0, 0)).2.toNat (E.getD s (0, 0)).1.toNat
theorem Dz.bits {E : List (Int × Int)} {s : Nat} (o : Dz E s) : ∃ n v : Nat, E[s]? = some ((n : Int), (v : Int)) ∧ 1 ≤ n ∧ n ≤ 15 ∧ v < 2 ^ n ∧ wP E s = zh v n := by
 obtain ⟨n, v, h, h1, h2, h3⟩ := o
 refine ⟨n, v, h, h1, h2, h3, ?_⟩
 unfold wP
 rw [UM, h]; rfl
theorem Dz.lt {E : List (Int × Int)} {s : Nat} (o : Dz E s) : s < E.length := by
 obtain ⟨n, v, h, _⟩ := o
 exact (vN.1 h).1
theorem zE.Ju {h : H} {v : AV} {E : List (Int × Int)} (r : zE 2 h v E.length (E.flatMap xM)) : ∃ ad : Int → AV,
 (∀ i : Int, 0 ≤ i ∧ i < E.length → gG 2 v (.int .i64 i) = some (ad i)) ∧
 ∀ g : H, Ext h g → ∀ (i : Nat) (p : Int × Int), E[i]? = some p → cJ true 2 (ad i) g = some (.agg [.int .i64 p.1, .int .i64 p.2]) := by
 obtain ⟨ad, a1, a2, _, a3⟩ := r.at_
 refine ⟨fun i => ad i 0, a1, fun g hg i t ht => ?_⟩
 obtain ⟨b1, b2⟩ := a3 g hg
 have hi : i < E.length := (vN.1 ht).1
 have hI : (0 : Int) ≤ (i : Int) ∧ (i : Int) < E.length := ⟨by omega, by omega⟩
 have ti : ((i : Int)).toNat = i := by omega
 rw [b2 i hI, ti, Gg Aa ht]; rfl
def xe (E D : List (Int × Int)) (t : Tok) : List Nat :=
 if t.len = 0 then wP E t.lit.toNat
 else wP E (xL t.len.toNat) ++ (w8 (AF t.len.toNat) (zZ t.len.toNat) ++ (wP D (ya t.xb.toNat) ++ w8 (AE t.xb.toNat) (zV t.xb.toNat)))
def xO (E D : List (Int × Int)) (ts : List Tok) : List Nat := ts.flatMap (xe E D)
def Ku (E D : List (Int × Int)) (t : Tok) : Prop :=
 (t.len = 0 ∧ 0 ≤ t.lit ∧ Dz E t.lit.toNat) ∨ (3 ≤ t.len ∧ t.len ≤ 258 ∧ 1 ≤ t.xb ∧ t.xb ≤ 32768 ∧ Dz E (xL t.len.toNat) ∧ Dz D (ya t.xb.toNat))
theorem Gl {k : Nat} (h1 : 3 ≤ k) (h2 : k ≤ 258) : zZ k ≤ 5 ∧ AF k < 2 ^ zZ k := by
 obtain ⟨a1, a2, a3, a4⟩ := z9 h1 h2
 obtain ⟨a, b, hab⟩ := BQ a1 a2
 have := Ee hab
 refine ⟨by unfold zZ; rw [hab]; show b ≤ 5; omega, ?_⟩
 unfold AF zZ; omega
theorem Gb {k : Nat} (h1 : 1 ≤ k) (h2 : k ≤ 32768) : zV k ≤ 13 ∧ AE k < 2 ^ zV k := by
 obtain ⟨a2, a3, a4⟩ := zW h1 h2
 obtain ⟨a, b, hab⟩ := AL a2
 have := CW hab
 refine ⟨by unfold zV; rw [hab]; show b ≤ 13; omega, ?_⟩
 unfold AE zV; omega
theorem Dx {E D : List (Int × Int)} {t : Tok} (o : Ku E D t) : (xe E D t).length ≤ 48 := by
 rcases o with ⟨h1, h2, h3⟩ | ⟨h1, h2, h3, h4, h5, h6⟩
 · obtain ⟨n, v, _, q1, q2, q3, q4⟩ := h3.bits
   rw [xe, if_pos h1, q4, xk]; omega
 · obtain ⟨n, v, _, q1, q2, q3, q4⟩ := h5.bits
   obtain ⟨n', v', _, q1', q2', q3', q4'⟩ := h6.bits
   have l := Gl (k := t.len.toNat) (by omega) (by omega)
   have d := Gb (k := t.xb.toNat) (by omega) (by omega)
   rw [xe, if_neg (by omega), q4, q4']
   simp only [wo, xk, w8, xc]; omega
theorem Km {v lv dv : AV} {ts : List Tok} {E D : List (Int × Int)} (hn : ts.length < 1000000) (h0 : H) (rd : zE 3 h0 v ts.length (xu ts)) (rl : zE 2 h0 lv E.length (E.flatMap xM)) (rx : zE 2 h0 dv D.length (D.flatMap xM)) (w i : Nat) (t : Tok) (ht : ts[i]? = some t) (o : Ku E D t) (h : H) (bs : List Nat) (ov : AV) (x : WX h0 h w bs ov) (hb : bs.length + 48 ≤ 65000) :
 ∃ h' ov', aM (aS AP.A) bG AP.f36L0 (ay [(0, .aE w 0), (1, v), (2, lv), (3, dv), (8, .int .i64 i)] [0, 1, 2, 3, 8]) h = some (.normal, [(0, .aE w 0), (1, v), (2, lv), (3, dv), (8, .int .i64 (i + 1 : Nat))], h') ∧ WX h0 h' w (bs ++ xe E D t) ov' := by
 have ln := rd.len
 obtain ⟨ad, a1, a2, a3⟩ := rd.Kk
 have hi : i < ts.length := (vN.1 ht).1
 have hI : (0 : Int) ≤ (i : Int) ∧ (i : Int) < ts.length := ⟨by omega, by omega⟩
 have b1 := a1 _ hI
 have b2 := a2 i 0 1 hI
 have b20 := a2 i 0 0 hI
 have b22 := a2 i 0 2 hI
 obtain ⟨b3, b4, b5, _⟩ := a3 h x.ext _ _ ht
 obtain ⟨le, l1, l2⟩ := rl.Ju
 have n1 : ((i + 1 : Nat) : Int) = (i : Int) + 1 := by omega
 rcases o with ⟨c0, h2, h3⟩ | ⟨h1, h2, h3, h4, h5, h6⟩
 · obtain ⟨y, hy⟩ : ∃ y : Nat, t.lit = y := UT h2
   have yt : t.lit.toNat = y := by omega
   have yl := h3.lt
   obtain ⟨n, c, q0, q1, q2, q3, q4⟩ := h3.bits
   rw [yt] at q0 q4 yl
   have e1 := l1 y ⟨by omega, by omega⟩
   have e2 := l2 h x.ext _ _ q0
   obtain ⟨h', ov', k1, k2, k3⟩ := CN x.wr c n q1 q2 q3 (by omega)
   rw [hy] at b3
   rw [c0] at b4
   refine ⟨h', ov', ?_, ?_⟩
   · rw [n1]
     clear rd rl rx a1 a2 a3 l1 l2 x k2 k3 q4 b5 h3 ht q3
     simp (disch := omega) only [go_sem, wy, wz, Nat.reduceEqDiff, reduceIte, Nat.reduceAdd, Nat.reduceMul, Nat.reduceLT, Nat.reduceLeDiff, Int.reduceBEq, Int.reduceBNe, Int.reduceLT, Int.reduceLE, Int.reduceEq, wI, cf.aP, cf.aJ, Int.reduceAdd, Int.reduceSub, Int.reduceMul, Int.reduceNeg, Int.reduceToNat, AP.f36L0, ln, b1, b2, b20, b3, b4, e1, e2, k1]
   · rw [xe, if_pos c0, yt, q4]
     exact x.step k2 k3
 · obtain ⟨L, hL⟩ : ∃ y : Nat, t.len = y := UT (by omega)
   obtain ⟨K, hK⟩ : ∃ y : Nat, t.xb = y := UT (by omega)
   have Lt : t.len.toNat = L := by omega
   have Kt : t.xb.toNat = K := by omega
   rw [Lt] at h5
   rw [Kt] at h6
   have lb := Gl (k := L) (by omega) (by omega)
   have db := Gb (k := K) (by omega) (by omega)
   obtain ⟨de, d1, d2⟩ := rx.Ju
   have ll := h5.lt
   have dl := h6.lt
   obtain ⟨n, c, q0, q1, q2, q3, q4⟩ := h5.bits
   obtain ⟨n', c', p0, p1, p2, p3, p4⟩ := h6.bits
   have kl : ∀ g : H, aS AP.A 28 [.int .i64 L] g = _ := fun g => HB g L (by omega) (by omega)
   have kd : ∀ g : H, aS AP.A 29 [.int .i64 K] g = _ := fun g => KT g K (by omega) (by omega)
   have e1 := l1 (xL L) ⟨by omega, by omega⟩
   have f1 := d1 (ya K) ⟨by omega, by omega⟩
   obtain ⟨h1', eh1⟩ : ∃ g, g = (h.alloc [.int .i64 0, .int .i64 0, .int .i64 0]).set h.next [.int .i64 (xL L : Nat), .int .i64 (zZ L : Nat), .int .i64 (AF L : Nat)] := ⟨_, rfl⟩
   have x1 : WX h0 h1' w bs ov := x.turn (by rw [eh1]; simp) (by rw [eh1]; simp) fun j hj => by rw [eh1, wL (by omega), wY (by omega)]
   have g1 : h1'.get h.next = some [.int .i64 (xL L : Nat), .int .i64 (zZ L : Nat), .int .i64 (AF L : Nat)] := by rw [eh1, wS rfl, wO rfl]; rfl
   have nx1 : h1'.next = h.next + 1 := by rw [eh1]; simp
   have e2 := l2 h1' x1.ext _ _ q0
   obtain ⟨h2', o2, k1, k2, k3⟩ := CN x1.wr c n q1 q2 q3 (by omega)
   have x2 := x1.step k2 k3
   have hw := h.lt _ _ x.wr.get
   have hon : ov.id? ≠ some h.next := fun q => by have := (x.wr.own.lt q).2; omega
   have g2 : h2'.get h.next = _ := (k3.xX h.next (by omega) (by omega) hon).trans g1
   obtain ⟨h3', o3, k4, k5, k6⟩ := zy x2.wr (AF L) (zZ L) (by omega) lb.2 (by simp [xk]; omega)
   have x3 := x2.step k5 k6
   have nx3 : h1'.next ≤ h3'.next := wk k3.next k6.next
   obtain ⟨_, _, b5', _⟩ := a3 h3' x3.ext _ _ ht
   obtain ⟨h4, eh4⟩ : ∃ g, g = (h3'.alloc [.int .i64 0, .int .i64 0, .int .i64 0]).set h3'.next [.int .i64 (ya K : Nat), .int .i64 (zV K : Nat), .int .i64 (AE K : Nat)] := ⟨_, rfl⟩
   have x4 : WX h0 h4 w _ o3 := x3.turn (h' := h4) (by rw [eh4]; simp) (by rw [eh4]; simp) fun j hj => by rw [eh4, wL (by omega), wY (by omega)]
   have g4 : h4.get h3'.next = some [.int .i64 (ya K : Nat), .int .i64 (zV K : Nat), .int .i64 (AE K : Nat)] := by rw [eh4, wS rfl, wO rfl]; rfl
   have f2 := d2 h4 x4.ext _ _ p0
   obtain ⟨h5', o5, m1, m2, m3⟩ := CN x4.wr c' n' p1 p2 p3 (by simp [xk, w8, xc]; omega)
   have x5 := x4.step m2 m3
   have hw3 := h3'.lt _ _ x3.wr.get
   have hon3 : o3.id? ≠ some h3'.next := fun q => by have := (x3.wr.own.lt q).2; omega
   have g5 : h5'.get h3'.next = _ := (m3.xX h3'.next (by rw [eh4]; simp) (by omega) hon3).trans g4
   obtain ⟨h6', o6, m4, m5, m6⟩ := zy x5.wr (AE K) (zV K) (by omega) db.2 (by simp [xk, w8, xc]; omega)
   have x6 := x5.step m5 m6
   rw [hL] at b4
   rw [hK] at b5'
   have fl1 : h.floor ≤ h.next := x.wr.Ks
   have fl3 : h3'.floor ≤ h3'.next := x3.wr.Ks
   have cL : ¬ (L : Int) = 0 := by omega
   refine ⟨h6', o6, ?_, ?_⟩
   · rw [n1]
     clear rd rl rx a1 a2 a3 l1 l2 d1 d2 x x1 x2 x3 x4 x5 x6 k2 k3 k5 k6 m2 m3 m5 m6 q4 p4 b5 h5 h6 ht b3 hon hon3 lb db p3 q3 hI hb
     generalize xL L = S at *
     generalize zZ L = B at *
     generalize AF L = V at *
     generalize ya K = S' at *
     generalize zV K = B' at *
     generalize AE K = V' at *
     simp (disch := omega) only [go_sem, wy, wz, Nat.reduceEqDiff, reduceIte, Nat.reduceAdd, Nat.reduceMul, Nat.reduceLT, Nat.reduceLeDiff, Int.reduceBEq, Int.reduceBNe, Int.reduceLT, Int.reduceLE, Int.reduceEq, wI, cf.aP, cf.aJ, Int.reduceAdd, Int.reduceSub, Int.reduceMul, Int.reduceNeg, Int.reduceToNat, AP.f36L0, ln, b1, b2, b22, b4, b5', e1, e2, f1, f2, kl, kd, cL, ← eh1, ← eh4, g1, g2, g4, g5, k1, k4, m1, m4]
   · rw [xe, if_neg (by omega), Lt, Kt, q4, p4]
     rw [UY, UY, UY] at x6
     exact x6
theorem FU {E D : List (Int × Int)} : ∀ {ts : List Tok}, (∀ t ∈ ts, Ku E D t) → (xO E D ts).length ≤ 48 * ts.length
 | [], _ => by simp [xO]
 | t :: ts, h => by
   have a := Dx (h t (by simp))
   have b := FU (E := E) (D := D) (ts := ts) fun u hu => h u (by simp [hu])
   unfold xO at *
   simp only [UU, wo, UO]; omega
theorem FW {v lv dv : AV} {ts : List Tok} {E D : List (Int × Int)} (hn : ts.length < 1000000) (h0 : H) (rd : zE 3 h0 v ts.length (xu ts)) (rl : zE 2 h0 lv E.length (E.flatMap xM)) (rx : zE 2 h0 dv D.length (D.flatMap xM)) (ok : ∀ t ∈ ts, Ku E D t) (w : Nat) : ∀ (q p : List Tok) (bs : List Nat) (h : H) (ov : AV), ts = p ++ q → WX h0 h w bs ov → bs.length + 48 * q.length ≤ 65000 →
 ∃ e' h' ov', Lp AP.A [0, 1, 2, 3, 8] AP.f36L0 [(0, .aE w 0), (1, v), (2, lv), (3, dv), (8, .int .i64 p.length)] h = some (.exit 0, e', h') ∧ look e' 0 = .aE w 0 ∧ look e' 2 = lv ∧ WX h0 h' w (bs ++ xO E D q) ov'
 | [], p, bs, h, ov, hp, x, hb => by
   rw [U7] at hp; subst hp
   have ln := rd.len
   refine ⟨[(0, .aE w 0), (1, v), (2, lv), (3, dv), (8, .int .i64 ts.length), (16, .bool false)], h, ov, ux ?_, rfl, rfl, by simpa [xO] using x⟩
   simp (disch := omega) only [go_sem, wy, wz, Nat.reduceEqDiff, reduceIte, Nat.reduceAdd, Nat.reduceMul, Nat.reduceLT, Nat.reduceLeDiff, Int.reduceBEq, Int.reduceBNe, Int.reduceLT, Int.reduceLE, Int.reduceEq, wI, cf.aP, cf.aJ, Int.reduceAdd, Int.reduceSub, Int.reduceMul, Int.reduceNeg, Int.reduceToNat, AP.f36L0, ln]
 | t :: q, p, bs, h, ov, hp, x, hb => by
   have ht : ts[p.length]? = some t := by rw [hp]; simp
   have o := ok t (vV ht)
   have tl := Dx o
   simp only [UO] at hb
   obtain ⟨h1, o1, s1, x1⟩ := Km hn h0 rd rl rx w p.length t ht o h bs ov x (by omega)
   have hlen : (((p ++ [t]).length : Nat) : Int) = ((p.length + 1 : Nat) : Int) := by simp
   obtain ⟨e', h', ov', r1, r2, r3, r4⟩ := FW hn h0 rd rl rx ok w q (p ++ [t]) _ h1 o1 (by rw [hp]; simp) x1 (by simp; omega)
   rw [hlen] at r1
   refine ⟨e', h', ov', uy s1 r1, r2, r3, ?_⟩
   have e : bs ++ xO E D (t :: q) = bs ++ xe E D t ++ xO E D q := by unfold xO; rw [UU, UY]
   rw [e]; exact r4
theorem L7 {v lv dv : AV} {ts : List Tok} {E D : List (Int × Int)} (hn : ts.length < 1000000) (h0 : H) (rd : zE 3 h0 v ts.length (xu ts)) (rl : zE 2 h0 lv E.length (E.flatMap xM)) (rx : zE 2 h0 dv D.length (D.flatMap xM)) (ok : ∀ t ∈ ts, Ku E D t) (o256 : Dz E 256) (w : Nat) (bs : List Nat) (h : H) (ov : AV) (x : WX h0 h w bs ov) (hb : bs.length + 48 * ts.length ≤ 65000) :
 ∃ h' ov', aS AP.A 36 [.aE w 0, v, lv, dv] h = some (.bU [], h') ∧ WX h0 h' w (bs ++ (xO E D ts ++ wP E 256)) ov' := by
 obtain ⟨e', h1, o1, r1, r2, r3, x1⟩ := FW hn h0 rd rl rx ok w ts [] bs h ov rfl x hb
 have r1' : Lp AP.A [0, 1, 2, 3, 8] AP.f36L0 [(0, .aE w 0), (1, v), (2, lv), (3, dv), (8, .int .i64 0)] h = some (.exit 0, e', h1) := r1
 obtain ⟨n, c, q0, q1, q2, q3, q4⟩ := o256.bits
 obtain ⟨le, l1, l2⟩ := rl.Ju
 have ll := o256.lt
 have e1 := l1 256 ⟨by omega, by omega⟩
 have e2 : cJ true 2 (le 256) h1 = _ := l2 h1 x1.ext _ _ q0
 have tb := FU ok
 obtain ⟨h', ov', k1, k2, k3⟩ := CN x1.wr c n q1 q2 q3 (by rw [wo]; omega)
 have x2 := x1.step k2 k3
 rw [← q4, UY] at x2
 obtain ⟨e2', he⟩ : ∃ e2', aM (aS AP.A) bG AP.f36.body (params 0 [.aE w 0, v, lv, dv]) h = some (.normal, e2', h') := by
  clear rd rl rx x x1 k2 k3 x2 q4 l1 l2 ok o256 r1
  refine ⟨?_, ?_⟩
  rotate_left
  · simp (disch := omega) only [go_sem, wy, wz, Nat.reduceEqDiff, reduceIte, Nat.reduceAdd, Nat.reduceMul, Nat.reduceLT, Nat.reduceLeDiff, Int.reduceBEq, Int.reduceBNe, Int.reduceLT, Int.reduceLE, Int.reduceEq, wI, cf.aP, cf.aJ, Int.reduceAdd, Int.reduceSub, Int.reduceMul, Int.reduceNeg, Int.reduceToNat, AP.f36, th, r1', r2, r3, e1, e2, k1]
    rfl
 exact ⟨h', ov', xI (fn := AP.f36) (e := e2') (vs := []) rfl rfl rfl he rfl, x2⟩
structure Ro (h : H) (f : Nat) (vs : List AV) (cs : List (List AV)) : Prop where
 get : h.get f = some vs
 own : ∀ (i : Nat) (v : AV) (c : List AV), vs[i]? = some v → cs[i]? = some c → wW 1 h v c.length c
 len : vs.length = cs.length
 ne : ∀ (i : Nat) (v : AV), vs[i]? = some v → v.id? ≠ some f
 Me : ∀ (i j : Nat) (v u : AV), i ≠ j → vs[i]? = some v → vs[j]? = some u → ∀ id, v.id? = some id → u.id? ≠ some id
 fl : h.floor ≤ f
 Ks : h.floor ≤ h.next
structure Lo (h h' : H) : Prop where
 floor : h'.floor = h.floor
 next : h.next ≤ h'.next
 xX : ∀ i, i < h.floor → h'.get i = h.get i
theorem Lo.refl (h : H) : Lo h h := ⟨rfl, vR _, fun _ _ => rfl⟩
theorem Lo.trans {a b c : H} (x : Lo a b) (y : Lo b c) : Lo a c := ⟨y.floor.trans x.floor, wk x.next y.next, fun i hi => (y.xX i (by rw [x.floor]; exact hi)).trans (x.xX i hi)⟩
theorem Ext.lo {h0 a b : H} (x : Ext h0 a) (y : Lo a b) (hf : a.floor = h0.next) : Ext h0 b := fun i c hi => by
 rw [y.xX i (by rw [hf]; exact h0.lt _ _ hi), x i c hi]
theorem Ro.push {h : H} {f : Nat} {vs : List AV} {cs : List (List AV)} (r : Ro h f vs cs) (k : Nat) {v : AV} {c : List AV} (hv : vs[k]? = some v) (hc : cs[k]? = some c) (x : AV) (sc : x.sc = true) {z : Nat} (hz : roomy z (c.length + 1) = true) :
 ∃ v' h1, lL (h.alloc [x]) 1 z v (.aF h.next 0 1 1) = some (v', h1) ∧ h1.get f = some vs ∧ h1.floor = h.floor ∧ Ro (h1.set f (vs.set k v')) f (vs.set k v') (cs.set k (c ++ [x])) ∧ Lo h (h1.set f (vs.set k v')) := by
 have o := r.own k v c hv hc
 have hfl := h.lt _ _ r.get
 obtain ⟨v', h1, p1, p2, p3, p4, p5, p6⟩ := o.push r.Ks (z := z) (m := 1) (by omega) (by omega) [x] rfl (by simp [AV.aC, sc]) hz
 have hk : k < vs.length := (vN.1 hv).1
 have gf : h1.get f = some vs := by rw [p5 f (r.ne k v hv) hfl, r.get]
 have key : ∀ (i : Nat) (u : AV), (vs.set k v')[i]? = some u → (i = k ∧ u = v') ∨ (i ≠ k ∧ vs[i]? = some u) := by
  intro i u hu
  by_cases e : k = i
  · subst e
    rw [U4, if_pos rfl, if_pos hk] at hu
    exact .inl ⟨rfl, (vG hu).symm⟩
  · rw [U4, if_neg e] at hu
    exact .inr ⟨fun q => e q.symm, hu⟩
 have jb : ∀ (i : Nat) (u : AV), vs[i]? = some u → ∀ id, u.id? = some id → id < h.next := by
  intro i u hu id hid
  have hi : i < cs.length := by rw [← r.len]; exact (vN.1 hu).1
  exact ((r.own i u _ hu (UP hi)).lt hid).2
 refine ⟨v', h1, p1, gf, p3, ⟨?_, ?_, ?_, ?_, ?_, ?_, ?_⟩, ⟨by simp [p3], by simp; omega, ?_⟩⟩
 · rw [wS rfl, gf]; rfl
 · intro i u d hu hd
   rcases key i u hu with ⟨rfl, rfl⟩ | ⟨hne, hu⟩
   · rw [U4, if_pos rfl, if_pos (by rw [← r.len]; exact hk)] at hd
     obtain rfl := vG hd
     have : (c ++ [x]).length = c.length + 1 := by simp
     rw [this]
     exact p2.mono (by simp) fun j hj => by rw [wL]; rw [p6] at hj; have := vG hj; omega
   · rw [U4, if_neg (fun q => hne q.symm)] at hd
     exact (r.own i u d hu hd).mono (by simp [p3]) fun j hj => by
      rw [wL (fun q => r.ne i u hu (by rw [hj, q])), p5 j (fun q => r.Me i k u v hne hu hv j hj q) (jb i u hu j hj)]
 · simp [r.len]
 · intro i u hu
   rcases key i u hu with ⟨rfl, rfl⟩ | ⟨hne, hu⟩
   · rw [p6]; intro q; have := vG q; omega
   · exact r.ne i u hu
 · intro i j u w hij hu hw id hid
   rcases key i u hu with ⟨e1, e2⟩ | ⟨hne, hu2⟩
   · rcases key j w hw with ⟨e3, e4⟩ | ⟨hne2, hw2⟩
     · exact absurd (e1.trans e3.symm) hij
     · intro q; have := jb j w hw2 id q; rw [e2, p6] at hid; have := vG hid; omega
   · rcases key j w hw with ⟨e3, e4⟩ | ⟨hne2, hw2⟩
     · intro q; have := jb i u hu2 id hid; rw [e4, p6] at q; have := vG q; omega
     · exact r.Me i j u w hij hu2 hw2 id hid
 · simpa [p3] using r.fl
 · simp [p3]; have := r.Ks; omega
 · intro i hi
   have := r.fl
   rw [wL (by omega), p5 i (fun q => by have := (o.lt q).1; omega) (by have := r.Ks; omega)]
theorem Ro.put {h : H} {f : Nat} {vs : List AV} {cs : List (List AV)} (r : Ro h f vs cs) (k i : Nat) {v : AV} {c : List AV} (hv : vs[k]? = some v) (hc : cs[k]? = some c) (x : AV) (sc : x.sc = true) (hi : i < c.length) :
 ∃ id, v = .aF id 0 c.length 1 ∧ h.get id = some c ∧ h.floor ≤ id ∧ id ≠ f ∧ (∀ (j : Nat) (u : AV), j ≠ k → vs[j]? = some u → u.id? ≠ some id) ∧ Ro (h.set id (c.set i x)) f vs (cs.set k (c.set i x)) ∧ Lo h (h.set id (c.set i x)) := by
 have o := r.own k v c hv hc
 rcases o.2 with ⟨_, q⟩ | ⟨id, q1, q2, q3, q4⟩
 · omega
 have hid : v.id? = some id := by rw [q1]; rfl
 have hne : id ≠ f := fun q => r.ne k v hv (by rw [hid, q])
 have hk : k < vs.length := (vN.1 hv).1
 refine ⟨id, q1, q2, q3, hne, fun j u hj hu q => r.Me j k u v hj hu hv id q hid, ⟨?_, ?_, ?_, r.ne, r.Me, by simpa using r.fl, by simpa using r.Ks⟩, ⟨by simp, by simp, fun j hj => by rw [wL (by omega)]⟩⟩
 · rw [wL hne.symm, r.get]
 · intro j u d hu hd
   by_cases e : k = j
   · subst e
     rw [hv] at hu
     obtain rfl := vG hu
     rw [U4, if_pos rfl, if_pos (by rw [← r.len]; exact hk)] at hd
     obtain rfl := vG hd
     have lc : (c.set i x).length = c.length := U5
     rw [lc]
     exact ⟨by omega, .inr ⟨id, q1, by rw [wS rfl, q2]; rfl, by simpa using q3, q4⟩⟩
   · rw [U4, if_neg e] at hd
     exact (r.own j u d hu hd).mono (by simp) fun m hm => by rw [wL]; intro q; subst q; exact r.Me j k u v (fun q => e q.symm) hu hv m hm hid
 · simp [r.len]
def E2 (F : List Bool) : List AV := F.map .bool
theorem Cb (F : List Bool) : (E2 F).length = F.length := by simp [E2]
theorem Mt {F : List Bool} {i : Nat} {b : Bool} (h : F[i]? = some b) : (E2 F)[i]? = some (.bool b) := by simp [E2, h]
abbrev Nu (W U : List Int) (F : List Bool) : List (List AV) := [ints W, ints U, E2 F]
theorem wW.cells {n : Nat} {h : H} {v : AV} {k : Nat} {cs : List AV} (o : wW n h v k cs) : v.cells = [v] := by
 rcases o.2 with ⟨e, _⟩ | ⟨id, e, _⟩ <;> rw [e] <;> rfl
theorem KX {h : H} {f : Nat} {W U : List Int} {F : List Bool} {wv uv fv : AV} (r : Ro h f [wv, uv, fv] (Nu W U F)) (x : Int) (hl : W.length < 100000 ∧ U.length < 100000 ∧ F.length < 100000) :
 ∃ h' wv' uv' fv', aS AP.A 70 [.aE f 0, .int .i64 x] h = some (.bU [], h') ∧ Ro h' f [wv', uv', fv'] (Nu (W ++ [x]) (U ++ [-1]) (F ++ [true])) ∧ Lo h h' := by
 have rz : ∀ n z, n < 100000 → 1 ≤ z → z ≤ 8 → roomy z (n + 1) = true := fun n z h1 h2 h3 => yi ⟨h2, by
  have : (n + 1 + (n + 1) / 4 + 512) * z ≤ 1000000 * 8 := Nat.mul_le_mul (by omega) h3
  omega⟩
 obtain ⟨v1, h1, a1, a2, a3, a4, a5⟩ := r.push 0 rfl rfl (.int .i64 x) rfl (z := 8) (rz _ _ (by rw [qy]; exact hl.1) (by omega) (by omega))
 simp only [List.set_cons_zero] at a4 a5
 obtain ⟨g1, eg1⟩ : ∃ g, g = h1.set f [v1, uv, fv] := ⟨_, rfl⟩
 rw [← eg1] at a4 a5
 obtain ⟨v2, h2, b1, b2, b3, b4, b5⟩ := a4.push 1 rfl rfl (.int .i64 (-1)) rfl (z := 8) (rz _ _ (by rw [qy]; exact hl.2.1) (by omega) (by omega))
 simp only [List.set_cons_succ, List.set_cons_zero] at b4 b5
 obtain ⟨g2, eg2⟩ : ∃ g, g = h2.set f [v1, v2, fv] := ⟨_, rfl⟩
 rw [← eg2] at b4 b5
 obtain ⟨v3, h3, c1, c2, c3, c4, c5⟩ := b4.push 2 rfl rfl (.bool true) rfl (z := 1) (rz _ _ (by rw [Cb]; exact hl.2.2) (by omega) (by omega))
 simp only [List.set_cons_succ, List.set_cons_zero] at c4 c5
 obtain ⟨g3, eg3⟩ : ∃ g, g = h3.set f [v1, v2, v3] := ⟨_, rfl⟩
 rw [← eg3] at c4 c5
 have e : Nu (W ++ [x]) (U ++ [-1]) (F ++ [true]) = [ints W ++ [.int .i64 x], ints U ++ [.int .i64 (-1)], E2 F ++ [.bool true]] := by
  unfold Nu E2; rw [qx, qx, List.map_append]; rfl
 have gf := r.get
 have gf1 := a4.get
 have gf2 := b4.get
 have f1 : h1.floor ≤ f := by have := r.fl; omega
 have f2 : h2.floor ≤ f := by have := a4.fl; omega
 have f3 : h3.floor ≤ f := by have := b4.fl; omega
 have k1 := (a4.own 0 _ _ rfl rfl).cells
 have k2 := (b4.own 1 _ _ rfl rfl).cells
 have k3 := (c4.own 2 _ _ rfl rfl).cells
 have s1 : v1.sc = true := (a4.own 0 _ _ rfl rfl).sc
 have s2 : v2.sc = true := (b4.own 1 _ _ rfl rfl).sc
 have s3 : v3.sc = true := (c4.own 2 _ _ rfl rfl).sc
 refine ⟨g3, v1, v2, v3, xI (fn := AP.f70) (e := []) (vs := []) rfl rfl rfl ?_ rfl, by rw [e]; exact c4, a5.trans (b5.trans c5)⟩
 clear a4 a5 b4 b5 c4 c5 r e rz
 simp (disch := omega) only [go_sem, wy, wz, Nat.reduceEqDiff, reduceIte, Nat.reduceAdd, Nat.reduceMul, Nat.reduceLT, Nat.reduceLeDiff, Int.reduceBEq, Int.reduceBNe, Int.reduceLT, Int.reduceLE, Int.reduceEq, wI, cf.aP, cf.aJ, Int.reduceAdd, Int.reduceSub, Int.reduceMul, Int.reduceNeg, Int.reduceToNat, AP.f70, gf, gf1, gf2, a1, a2, b1, b2, c1, c2, s1, s2, s3, k1, k2, k3, f1, f2, f3, ← eg1, ← eg2, ← eg3]
def xG (W : List Int) (F : List Bool) : Nat → Nat → Int → Int
 | 0, _, a => a
 | m + 1, i, a => xG W F m (i + 1) (if F.getD i false = true ∧ (a < 0 ∨ W.getD i 0 < W.getD a.toNat 0) then i else a)
theorem BM {W : List Int} {F : List Bool} {n : Nat} : ∀ (m i : Nat) (a : Int), i + m = n → (a = -1 ∨ (0 ≤ a ∧ a < n)) → (xG W F m i a = -1 ∨ (0 ≤ xG W F m i a ∧ xG W F m i a < n))
 | 0, i, a, _, h => h
 | m + 1, i, a, hi, h => by
   rw [xG]
   refine BM m (i + 1) _ (by omega) ?_
   split
   · right; omega
   · exact h
theorem Di {h : H} {f iw ifr n : Nat} {uv : AV} {W : List Int} {F : List Bool} (gf : h.get f = some [.aF iw 0 n 1, uv, .aF ifr 0 n 1]) (gw : h.get iw = some (ints W)) (gb : h.get ifr = some (E2 F)) (hW : W.length = n) (hF : F.length = n) (hn : n < 100000) : ∀ (m i : Nat) (a : Int), i + m = n → (a = -1 ∨ (0 ≤ a ∧ a < n)) →
 Lp AP.A [0, 3, 4] AP.f71L0 [(0, .aE f 0), (3, .int .i64 a), (4, .int .i64 i)] h = some (.exit 0, [(0, .aE f 0), (3, .int .i64 (xG W F m i a)), (4, .int .i64 n), (11, .bool false)], h)
 | 0, i, a, hi, ha => by
   obtain rfl : i = n := by omega
   refine ux ?_
   rw [xG]
   simp (disch := omega) only [go_sem, wy, wz, Nat.reduceEqDiff, reduceIte, Nat.reduceAdd, Nat.reduceMul, Nat.reduceLT, Nat.reduceLeDiff, Int.reduceBEq, Int.reduceBNe, Int.reduceLT, Int.reduceLE, Int.reduceEq, wI, cf.aP, cf.aJ, Int.reduceAdd, Int.reduceSub, Int.reduceMul, Int.reduceNeg, Int.reduceToNat, AP.f71L0, gf]
 | m + 1, i, a, hi, ha => by
   have lw : (ints W).length = n := by rw [qy, hW]
   have lb : (E2 F).length = n := by rw [Cb, hF]
   have n1 : ((i + 1 : Nat) : Int) = (i : Int) + 1 := by omega
   obtain ⟨b, hb⟩ : ∃ b, F[i]? = some b := ⟨_, UP (by omega)⟩
   obtain ⟨x, hx⟩ : ∃ x, W[i]? = some x := ⟨_, UP (by omega)⟩
   have gb' := Mt hb
   have gx := tU hx
   simp only [I] at gx
   have fb : F.getD i false = b := by rw [UM, hb]; rfl
   have fx : W.getD i 0 = x := by rw [UM, hx]; rfl
   have hk : 0 ≤ a → ∃ k : Nat, a = k ∧ k < n ∧ (ints W)[k]? = some (.int .i64 (W.getD k 0)) := fun h0 => by
    refine ⟨a.toNat, by omega, by omega, ?_⟩
    have := tU (l := W) (i := a.toNat) (x := W.getD a.toNat 0) (by rw [UM, UP (by omega)]; rfl)
    exact this
   have r1 := Di gf gw gb hW hF hn m (i + 1) (if F.getD i false = true ∧ (a < 0 ∨ W.getD i 0 < W.getD a.toNat 0) then i else a) (by omega) (by
    split
    · right; omega
    · exact ha)
   rw [xG]
   refine uy ?_ r1
   rw [n1, fb, fx]
   clear r1 hb hx
   generalize ints W = IW at *
   generalize E2 F = BF at *
   cases b with
   | false =>
     rw [if_neg (by simp)]
     simp (disch := omega) only [go_sem, wy, wz, Nat.reduceEqDiff, reduceIte, Nat.reduceAdd, Nat.reduceMul, Nat.reduceLT, Nat.reduceLeDiff, Int.reduceBEq, Int.reduceBNe, Int.reduceLT, Int.reduceLE, Int.reduceEq, wI, cf.aP, cf.aJ, Int.reduceAdd, Int.reduceSub, Int.reduceMul, Int.reduceNeg, Int.reduceToNat, AP.f71L0, gf, gw, gb, lw, lb, gb']
   | true =>
     by_cases c : a < 0
     · rw [if_pos ⟨rfl, .inl c⟩]
       simp (disch := omega) only [go_sem, wy, wz, Nat.reduceEqDiff, reduceIte, Nat.reduceAdd, Nat.reduceMul, Nat.reduceLT, Nat.reduceLeDiff, Int.reduceBEq, Int.reduceBNe, Int.reduceLT, Int.reduceLE, Int.reduceEq, wI, cf.aP, cf.aJ, Int.reduceAdd, Int.reduceSub, Int.reduceMul, Int.reduceNeg, Int.reduceToNat, AP.f71L0, gf, gw, gb, lw, lb, gb', UQ c]
     · obtain ⟨k, rfl, hkn, gk⟩ := hk (by omega)
       have tk : ((k : Nat) : Int).toNat = k := by omega
       rw [tk]
       have c' : ¬ ((k : Nat) : Int) < 0 := c
       by_cases c2 : x < W.getD k 0
       · rw [if_pos ⟨rfl, .inr c2⟩]
         generalize W.getD k 0 = y at *
         clear fx fb ha hk c
         simp (disch := omega) only [go_sem, wy, wz, Nat.reduceEqDiff, reduceIte, Nat.reduceAdd, Nat.reduceMul, Nat.reduceLT, Nat.reduceLeDiff, Int.reduceBEq, Int.reduceBNe, Int.reduceLT, Int.reduceLE, Int.reduceEq, wI, cf.aP, cf.aJ, Int.reduceAdd, Int.reduceSub, Int.reduceMul, Int.reduceNeg, Int.reduceToNat, AP.f71L0, gf, gw, gb, lw, lb, gb', gx, gk, UN c', UQ c2]
       · rw [if_neg (by rintro ⟨_, q | q⟩; exact c' q; exact c2 q)]
         generalize W.getD k 0 = y at *
         clear fx fb ha hk c
         simp (disch := omega) only [go_sem, wy, wz, Nat.reduceEqDiff, reduceIte, Nat.reduceAdd, Nat.reduceMul, Nat.reduceLT, Nat.reduceLeDiff, Int.reduceBEq, Int.reduceBNe, Int.reduceLT, Int.reduceLE, Int.reduceEq, wI, cf.aP, cf.aJ, Int.reduceAdd, Int.reduceSub, Int.reduceMul, Int.reduceNeg, Int.reduceToNat, AP.f71L0, gf, gw, gb, lw, lb, gb', gx, gk, UN c', UN c2]
def xn (W : List Int) (F : List Bool) : Nat := (xG W F W.length 0 (-1)).toNat
theorem Hr {h : H} {f : Nat} {W U : List Int} {F : List Bool} {wv uv fv : AV} (r : Ro h f [wv, uv, fv] (Nu W U F)) (hF : F.length = W.length) (hn : W.length < 100000) (h0 : 0 ≤ xG W F W.length 0 (-1)) :
 ∃ h', aS AP.A 71 [.aE f 0] h = some (.int .i64 (xn W F : Nat), h') ∧ Ro h' f [wv, uv, fv] (Nu W U (F.set (xn W F) false)) ∧ Lo h h' := by
 have rg := BM (W := W) (F := F) (n := W.length) W.length 0 (-1) (by omega) (.inl rfl)
 have hA : xG W F W.length 0 (-1) = ((xn W F : Nat) : Int) := by unfold xn; omega
 have hAn : xn W F < W.length := by omega
 obtain ⟨n, en⟩ : ∃ n, n = W.length := ⟨_, rfl⟩
 obtain ⟨ifr, q1, q2, q3, q4, q5, q6, q7⟩ := r.put 2 (xn W F) (v := fv) (c := E2 F) rfl rfl (.bool false) rfl (by rw [Cb, hF]; exact hAn)
 rw [Cb, hF, ← en] at q1
 obtain ⟨iw, p1, p2, _⟩ := r.put 0 (xn W F) (v := wv) (c := ints W) rfl rfl (.int .i64 0) rfl (by rw [qy]; exact hAn)
 rw [qy, ← en] at p1
 have gf := r.get
 rw [q1, p1] at gf
 have L := Di gf p2 q2 en.symm (hF.trans en.symm) (by omega) n 0 (-1) (by omega) (.inl rfl)
 rw [en, hA, ← en] at L
 have L' : Lp AP.A [0, 3, 4] AP.f71L0 [(0, .aE f 0), (3, .int .i64 (-1)), (4, .int .i64 0)] h = _ := L
 have lb : (E2 F).length = n := by rw [Cb, hF, en]
 have es : (E2 F).set (xn W F) (.bool false) = E2 (F.set (xn W F) false) := by simp [E2, List.map_set]
 rw [es] at q6 q7
 have q6' : Ro (h.set ifr (E2 (F.set (xn W F) false))) f [wv, uv, fv] (Nu W U (F.set (xn W F) false)) := q6
 have fl := r.fl
 refine ⟨h.set ifr (E2 (F.set (xn W F) false)), uM (fn := AP.f71) (e := [(2, .int .i64 (xn W F : Nat))]) (vs := [.int .i64 (xn W F : Nat)]) rfl rfl rfl ?_ rfl, q6', q7⟩
 rw [← en] at hAn
 clear q6 q6' q7 q5 r rg hA L p1 q1 h0
 generalize xn W F = A at *
 generalize E2 F = BF at *
 generalize E2 (F.set A false) = BF2 at *
 simp (disch := omega) only [go_sem, wy, wz, Nat.reduceEqDiff, reduceIte, Nat.reduceAdd, Nat.reduceMul, Nat.reduceLT, Nat.reduceLeDiff, Int.reduceBEq, Int.reduceBNe, Int.reduceLT, Int.reduceLE, Int.reduceEq, wI, cf.aP, cf.aJ, Int.reduceAdd, Int.reduceSub, Int.reduceMul, Int.reduceNeg, Int.reduceToNat, AP.f71, th, L', gf, q2, lb, es]
structure FS where
 W : List Int
 U : List Int
 F : List Bool
def FS.add (s : FS) (x : Int) : FS := ⟨s.W ++ [x], s.U ++ [-1], s.F ++ [true]⟩
def FS.a (s : FS) : Nat := xn s.W s.F
def FS.F1 (s : FS) : List Bool := s.F.set s.a false
def FS.b (s : FS) : Nat := xn s.W s.F1
def FS.F2 (s : FS) : List Bool := s.F1.set s.b false
def FS.sum (s : FS) : Int := s.W.getD s.a 0 + s.W.getD s.b 0
def FS.Ij (s : FS) : FS := FS.add ⟨s.W, (s.U.set s.a s.U.length).set s.b s.U.length, s.F2⟩ s.sum
structure FS.ok (s : FS) : Prop where
 lu : s.U.length = s.W.length
 lf : s.F.length = s.W.length
 l1 : 0 ≤ xG s.W s.F s.W.length 0 (-1)
 l2 : 0 ≤ xG s.W s.F1 s.W.length 0 (-1)
 sm : 0 ≤ s.sum ∧ s.sum < 1000000000000000
abbrev FS.C (s : FS) : List (List AV) := Nu s.W s.U s.F
theorem Fk {W : List Int} {F : List Bool} (h : 0 ≤ xG W F W.length 0 (-1)) : xn W F < W.length := by
 have rg := BM (W := W) (F := F) (n := W.length) W.length 0 (-1) (by omega) (.inl rfl)
 unfold xn; omega
theorem xW (l : List Int) (i : Nat) (x : Int) : (ints l).set i (.int .i64 x) = ints (l.set i x) := by simp [ints, List.map_set, I]
theorem PT {h : H} {f : Nat} {s : FS} {wv uv fv : AV} {N : Nat} {x : AV} {i : Nat} (r : Ro h f [wv, uv, fv] s.C) (ok : s.ok) (hn : s.W.length < 10000) (ln : jy false x = some (.int .i64 N)) (hi : i < N) (hN : N < 100000) :
 ∃ h' wv' uv' fv', aM (aS AP.A) bG AP.f56L2 (ay [(0, x), (3, .aE f 0), (5, .int .i64 i)] [0, 3, 5]) h = some (.normal, [(0, x), (3, .aE f 0), (5, .int .i64 (i + 1 : Nat))], h') ∧ Ro h' f [wv', uv', fv'] s.Ij.C ∧ Lo h h' := by
 obtain ⟨lu, lf, l1, l2, sm⟩ := ok
 have la := Fk l1
 have lb := Fk l2
 change s.a < s.W.length at la
 change s.b < s.W.length at lb
 obtain ⟨h1, k1, r1, o1⟩ := Hr r lf (by omega) l1
 obtain ⟨h2, k2, r2, o2⟩ := Hr r1 (by rw [U5]; exact lf) (by omega) l2
 change aS AP.A 71 [.aE f 0] h = some (.int .i64 (s.a : Nat), h1) at k1
 change aS AP.A 71 [.aE f 0] h1 = some (.int .i64 (s.b : Nat), h2) at k2
 obtain ⟨iw, p1, p2, p3, p4, p5, _⟩ := r2.put 0 s.a (v := wv) (c := ints s.W) rfl rfl (.int .i64 0) rfl (by rw [qy]; exact la)
 obtain ⟨iu, q1, q2, q3, q4, q5, r3, o3⟩ := r2.put 1 s.a (v := uv) (c := ints s.U) rfl rfl (.int .i64 s.U.length) rfl (by rw [qy]; omega)
 rw [xW] at r3 o3
 obtain ⟨h3, eh3⟩ : ∃ g, g = h2.set iu (ints (s.U.set s.a s.U.length)) := ⟨_, rfl⟩
 rw [← eh3] at r3 o3
 obtain ⟨iu2, q1', q2', q3', q4', q5', r4, o4⟩ := r3.put 1 s.b (v := uv) (c := ints (s.U.set s.a s.U.length)) rfl rfl (.int .i64 s.U.length) rfl (by rw [qy, U5]; omega)
 rw [xW] at r4 o4
 have : iu2 = iu := by rw [q1] at q1'; injection q1' with a _ _ _; exact a.symm
 subst this
 obtain ⟨h4, eh4⟩ : ∃ g, g = h3.set iu2 (ints ((s.U.set s.a s.U.length).set s.b s.U.length)) := ⟨_, rfl⟩
 rw [← eh4] at r4 o4
 obtain ⟨h5, wv', uv', fv', k5, r5, o5⟩ := KX r4 s.sum (by
  refine ⟨by omega, by rw [U5, U5]; omega, by rw [U5, U5]; omega⟩)
 refine ⟨h5, wv', uv', fv', ?_, r5, o1.trans (o2.trans (o3.trans (o4.trans o5)))⟩
 have hwu : iw ≠ iu2 := by
  intro e
  exact p5 1 uv (by omega) rfl (by rw [q1, e]; rfl)
 have gf2 := r2.get
 have gf3 := r3.get
 have gf4 := r4.get
 have gw4 : h4.get iw = some (ints s.W) := by rw [eh4, wL hwu, eh3, wL hwu, p2]
 rw [p1, q1] at gf2 gf3 gf4
 rw [qy] at gf2 gf3 gf4
 rw [qy] at gf2 gf3 gf4
 have n1 : ((i + 1 : Nat) : Int) = (i : Int) + 1 := by omega
 have luI := qy s.U
 have lwI := qy s.W
 have lsI := qy (s.U.set s.a s.U.length)
 rw [U5] at lsI
 have e1 := xW s.U s.a s.U.length
 have e2 := xW (s.U.set s.a s.U.length) s.b s.U.length
 have ga : (ints s.W)[s.a]? = some (.int .i64 (s.W.getD s.a 0)) := tU (by rw [UM, UP la]; rfl)
 have gb : (ints s.W)[s.b]? = some (.int .i64 (s.W.getD s.b 0)) := tU (by rw [UM, UP lb]; rfl)
 have es : s.W.getD s.a 0 + s.W.getD s.b 0 = s.sum := rfl
 clear r r1 r2 r3 r4 r5 o1 o2 o3 o4 o5 p5 q5 q5' l1 l2 p1 q1 q1'
 rw [n1]
 generalize ints ((s.U.set s.a s.U.length).set s.b s.U.length) = U2 at *
 generalize ints (s.U.set s.a s.U.length) = U1 at *
 generalize ints s.U = U0 at *
 generalize ints s.W = W0 at *
 generalize s.W.getD s.a 0 = wa at *
 generalize s.W.getD s.b 0 = wb0 at *
 generalize s.sum = S at *
 generalize s.a = a at *
 generalize s.b = b at *
 generalize s.U.length = ul at *
 generalize s.W.length = wl at *
 subst lu
 simp (disch := omega) only [go_sem, wy, wz, Nat.reduceEqDiff, reduceIte, Nat.reduceAdd, Nat.reduceMul, Nat.reduceLT, Nat.reduceLeDiff, Int.reduceBEq, Int.reduceBNe, Int.reduceLT, Int.reduceLE, Int.reduceEq, wI, cf.aP, cf.aJ, Int.reduceAdd, Int.reduceSub, Int.reduceMul, Int.reduceNeg, Int.reduceToNat, AP.f56L2, ln, k1, k2, gf2, gf3, gf4, q2, q2', gw4, luI, lwI, lsI, ga, gb, e1, e2, es, ← eh3, ← eh4, k5]
def FS.y6 : Nat → FS → FS
 | 0, s => s
 | n + 1, s => FS.y6 n s.Ij
theorem FS.Jp (s : FS) : s.Ij.W.length = s.W.length + 1 := by simp [FS.Ij, FS.add]
theorem FS.AN : ∀ (n : Nat) (s : FS), (FS.y6 n s).W.length = s.W.length + n
 | 0, s => rfl
 | n + 1, s => by rw [FS.y6, FS.AN n, FS.Jp]; omega
theorem Fc {f : Nat} {N : Nat} {x : AV} (hN : N < 1000) : ∀ (m i : Nat) (s : FS) (h : H) (wv uv fv : AV), i + m = N → Ro h f [wv, uv, fv] s.C → (∀ k, k < m → (FS.y6 k s).ok) → s.W.length + m < 10000 → jy false x = some (.int .i64 N) →
 ∃ h' wv' uv' fv', Lp AP.A [0, 3, 5] AP.f56L2 [(0, x), (3, .aE f 0), (5, .int .i64 i)] h = some (.exit 2, [(0, x), (3, .aE f 0), (5, .int .i64 N), (29, .bool false)], h') ∧ Ro h' f [wv', uv', fv'] (FS.y6 m s).C ∧ Lo h h'
 | 0, i, s, h, wv, uv, fv, hi, r, ok, hl, ln => by
   obtain rfl : i = N := by omega
   refine ⟨h, wv, uv, fv, ux ?_, r, Lo.refl h⟩
   simp (disch := omega) only [go_sem, wy, wz, Nat.reduceEqDiff, reduceIte, Nat.reduceAdd, Nat.reduceMul, Nat.reduceLT, Nat.reduceLeDiff, Int.reduceBEq, Int.reduceBNe, Int.reduceLT, Int.reduceLE, Int.reduceEq, wI, cf.aP, cf.aJ, Int.reduceAdd, Int.reduceSub, Int.reduceMul, Int.reduceNeg, Int.reduceToNat, AP.f56L2, ln]
 | m + 1, i, s, h, wv, uv, fv, hi, r, ok, hl, ln => by
   obtain ⟨h1, w1, u1, f1, k1, r1, o1⟩ := PT r (ok 0 (by omega)) (by omega) ln (show i < N by omega) (by omega)
   obtain ⟨h', w', u', f', k2, r2, o2⟩ := Fc hN m (i + 1) s.Ij h1 w1 u1 f1 (by omega) r1 (fun k hk => ok (k + 1) (by omega)) (by rw [FS.Jp]; omega) ln
   exact ⟨h', w', u', f', uy k1 k2, r2, o1.trans o2⟩
def Ax (ws : List Int) : FS := ⟨ws, List.replicate ws.length (-1), List.replicate ws.length true⟩
theorem K5 (p : List Int) (x : Int) : Ax (p ++ [x]) = (Ax p).add x := by
 unfold Ax FS.add
 simp only [wo, List.length_singleton, List.replicate_succ']
theorem E9 {f : Nat} {x : AV} {ws : List Int} (hn : ws.length < 1000) (h0 : H) (rd : Rd h0 x (ints ws)) : ∀ (q p : List Int) (h : H) (wv uv fv : AV), ws = p ++ q → Ext h0 h → h.floor = h0.next → Ro h f [wv, uv, fv] (Ax p).C →
 ∃ h' wv' uv' fv', Lp AP.A [0, 3, 4] AP.f56L3 [(0, x), (3, .aE f 0), (4, .int .i64 p.length)] h = some (.exit 0, [(0, x), (3, .aE f 0), (4, .int .i64 ws.length), (17, .bool false)], h') ∧ Ro h' f [wv', uv', fv'] (Ax ws).C ∧ Lo h h'
 | [], p, h, wv, uv, fv, hp, hx, hf, r => by
   rw [U7] at hp; subst hp
   have ln := rd.len
   rw [qy] at ln
   simp only [I] at ln
   refine ⟨h, wv, uv, fv, ux ?_, r, Lo.refl h⟩
   simp (disch := omega) only [go_sem, wy, wz, Nat.reduceEqDiff, reduceIte, Nat.reduceAdd, Nat.reduceMul, Nat.reduceLT, Nat.reduceLeDiff, Int.reduceBEq, Int.reduceBNe, Int.reduceLT, Int.reduceLE, Int.reduceEq, wI, cf.aP, cf.aJ, Int.reduceAdd, Int.reduceSub, Int.reduceMul, Int.reduceNeg, Int.reduceToNat, AP.f56L3, ln]
 | y :: q, p, h, wv, uv, fv, hp, hx, hf, r => by
   have ln := rd.len
   rw [qy] at ln
   simp only [I] at ln
   have hl : ws.length = p.length + (q.length + 1) := by rw [hp]; simp
   obtain ⟨ad, a1, a2⟩ := rd.xQ
   have b1 := a1 p.length ⟨by omega, by omega⟩
   have b2 := a2 h hx p.length y (by rw [hp]; simp)
   obtain ⟨h1, w1, u1, f1, k1, r1, o1⟩ := KX r y (by simp [Ax]; omega)
   have r1' : Ro h1 f [w1, u1, f1] (Ax (p ++ [y])).C := by rw [K5]; exact r1
   obtain ⟨h', w', u', f', k2, r2, o2⟩ := E9 hn h0 rd q (p ++ [y]) h1 w1 u1 f1 (by rw [hp]; simp) (hx.lo o1 hf) (by rw [o1.floor, hf]) r1'
   have n1 : (((p ++ [y]).length : Nat) : Int) = (p.length : Int) + 1 := by simp
   refine ⟨h', w', u', f', uy ?_ k2, r2, o1.trans o2⟩
   rw [n1]
   clear r r1 r1' k2 r2 o1 o2 hx rd a1 a2
   simp (disch := omega) only [go_sem, wy, wz, Nat.reduceEqDiff, reduceIte, Nat.reduceAdd, Nat.reduceMul, Nat.reduceLT, Nat.reduceLeDiff, Int.reduceBEq, Int.reduceBNe, Int.reduceLT, Int.reduceLE, Int.reduceEq, wI, cf.aP, cf.aJ, Int.reduceAdd, Int.reduceSub, Int.reduceMul, Int.reduceNeg, Int.reduceToNat, AP.f56L3, ln, b1, b2, k1]
def Af (U : List Int) : Nat → Int → Nat
 | 0, _ => 0
 | m + 1, j => if 0 ≤ j then Af U m (U.getD j.toNat (-1)) + 1 else 0
def EV (U : List Int) : Prop := ∀ j : Nat, j < U.length → U.getD j (-1) = -1 ∨ ((j : Int) < U.getD j (-1) ∧ U.getD j (-1) < U.length)
theorem F4 {h : H} {f iu n : Nat} {wv fv x ov : AV} {U : List Int} {i : Nat} (gf : h.get f = some [wv, .aF iu 0 n 1, fv]) (gu : h.get iu = some (ints U)) (hU : U.length = n) (hn : n < 10000) (ok : EV U) : ∀ (m : Nat) (j : Int) (k : Nat), (j = -1 ∨ (0 ≤ j ∧ j < n)) → (0 ≤ j → (n : Int) ≤ j + m) → k + m < 100000 →
 ∃ j', Lp AP.A [0, 3, 8, 9, 10, 11] AP.f56L0 [(0, x), (3, .aE f 0), (8, ov), (9, .int .i64 i), (10, .int .i64 k), (11, .int .i64 j)] h = some (.exit 6, [(0, x), (3, .aE f 0), (8, ov), (9, .int .i64 i), (10, .int .i64 (k + Af U m j : Nat)), (11, .int .i64 j'), (89, .bool false)], h)
 | 0, j, k, hj, hm, hk => by
   obtain rfl : j = -1 := by omega
   refine ⟨-1, ux ?_⟩
   rw [Af]
   simp (disch := omega) only [go_sem, wy, wz, Nat.reduceEqDiff, reduceIte, Nat.reduceAdd, Nat.reduceMul, Nat.reduceLT, Nat.reduceLeDiff, Int.reduceBEq, Int.reduceBNe, Int.reduceLT, Int.reduceLE, Int.reduceEq, wI, cf.aP, cf.aJ, Int.reduceAdd, Int.reduceSub, Int.reduceMul, Int.reduceNeg, Int.reduceToNat, AP.f56L0]
 | m + 1, j, k, hj, hm, hk => by
   by_cases c : 0 ≤ j
   · obtain ⟨q, rfl⟩ := UT c
     have hq : q < n := by omega
     have o := ok q (by omega)
     have lu : (ints U).length = n := by rw [qy, hU]
     have gq : (ints U)[q]? = some (.int .i64 (U.getD q (-1))) := tU (by rw [UM, UP (by omega)]; rfl)
     rw [hU] at o
     obtain ⟨j', r1⟩ := F4 (x := x) (ov := ov) (i := i) gf gu hU hn ok m (U.getD q (-1)) (k + 1) (by omega) (by omega) (by omega)
     have n1 : ((k + 1 : Nat) : Int) = (k : Int) + 1 := by omega
     have tq : ((q : Nat) : Int).toNat = q := by omega
     rw [Af, if_pos c, tq]
     rw [show k + (Af U m (U.getD q (-1)) + 1) = k + 1 + Af U m (U.getD q (-1)) by omega]
     refine ⟨j', uy ?_ r1⟩
     rw [n1]
     clear r1 o ok
     generalize U.getD q (-1) = y at *
     generalize ints U = IU at *
     simp (disch := omega) only [go_sem, wy, wz, Nat.reduceEqDiff, reduceIte, Nat.reduceAdd, Nat.reduceMul, Nat.reduceLT, Nat.reduceLeDiff, Int.reduceBEq, Int.reduceBNe, Int.reduceLT, Int.reduceLE, Int.reduceEq, wI, cf.aP, cf.aJ, Int.reduceAdd, Int.reduceSub, Int.reduceMul, Int.reduceNeg, Int.reduceToNat, AP.f56L0, gf, gu, lu, gq]
   · rw [Af, if_neg c]
     refine ⟨j, ux ?_⟩
     simp (disch := omega) only [go_sem, wy, wz, Nat.reduceEqDiff, reduceIte, Nat.reduceAdd, Nat.reduceMul, Nat.reduceLT, Nat.reduceLeDiff, Int.reduceBEq, Int.reduceBNe, Int.reduceLT, Int.reduceLE, Int.reduceEq, wI, cf.aP, cf.aJ, Int.reduceAdd, Int.reduceSub, Int.reduceMul, Int.reduceNeg, Int.reduceToNat, AP.f56L0]
def CV (U : List Int) (n : Nat) : List Int := (List.range n).map fun i => ((Af U U.length (U.getD i (-1)) : Nat) : Int)
theorem JW (U : List Int) (n : Nat) : CV U (n + 1) = CV U n ++ [((Af U U.length (U.getD n (-1)) : Nat) : Int)] := by simp [CV, List.range_succ]
theorem KQ (U : List Int) (n : Nat) : (CV U n).length = n := by simp [CV]
theorem Hj {f iu n N : Nat} {wv fv x : AV} {U : List Int} (hU : U.length = n) (hn : n < 10000) (ok : EV U) (hN : N ≤ n) (ln : jy false x = some (.int .i64 N)) (B : Nat) : ∀ (m i : Nat) (h : H) (ov : AV), i + m = N → h.get f = some [wv, .aF iu 0 n 1, fv] → h.get iu = some (ints U) → f < B → iu < B → B ≤ h.next → wW 1 h ov i (ints (CV U i)) → h.floor ≤ h.next → (∀ j, ov.id? = some j → B ≤ j) →
 ∃ h' ov', Lp AP.A [0, 3, 8, 9] AP.f56L1 [(0, x), (3, .aE f 0), (8, ov), (9, .int .i64 i)] h = some (.exit 4, [(0, x), (3, .aE f 0), (8, ov'), (9, .int .i64 N), (78, .bool false)], h') ∧ wW 1 h' ov' N (ints (CV U N)) ∧ h'.floor = h.floor
 | 0, i, h, ov, hi, gf, gu, hf, hiu, hB, ow, hfl, hov => by
   obtain rfl : i = N := by omega
   refine ⟨h, ov, ux ?_, ow, rfl⟩
   simp (disch := omega) only [go_sem, wy, wz, Nat.reduceEqDiff, reduceIte, Nat.reduceAdd, Nat.reduceMul, Nat.reduceLT, Nat.reduceLeDiff, Int.reduceBEq, Int.reduceBNe, Int.reduceLT, Int.reduceLE, Int.reduceEq, wI, cf.aP, cf.aJ, Int.reduceAdd, Int.reduceSub, Int.reduceMul, Int.reduceNeg, Int.reduceToNat, AP.f56L1, ln]
 | m + 1, i, h, ov, hi, gf, gu, hf, hiu, hB, ow, hfl, hov => by
   have o := ok i (by omega)
   rw [hU] at o
   have lu : (ints U).length = n := by rw [qy, hU]
   have gq : (ints U)[i]? = some (.int .i64 (U.getD i (-1))) := tU (by rw [UM, UP (by omega)]; rfl)
   obtain ⟨j', L⟩ := F4 (x := x) (ov := ov) (i := i) gf gu hU hn ok n (U.getD i (-1)) 0 (by omega) (by omega) (by omega)
   rw [vW] at L
   obtain ⟨v', h1, p1, p2, p3, p4, p5, p6⟩ := ow.push hfl (z := 8) (m := 1) (by omega) (by omega) [.int .i64 (Af U n (U.getD i (-1)) : Nat)] rfl rfl (yi (by omega))
   have e := JW U i
   rw [hU] at e
   have ow2 : wW 1 h1 v' (i + 1) (ints (CV U (i + 1))) := by rw [e, qx]; exact p2
   obtain ⟨h', ov', r1, r2, r3⟩ := Hj hU hn ok hN ln B m (i + 1) h1 v' (by omega) (by rw [p5 f (fun q => by have := hov f q; omega) (by omega), gf]) (by rw [p5 iu (fun q => by have := hov iu q; omega) (by omega), gu]) hf hiu (by omega) ow2 (by omega) (fun j hj => by rw [p6] at hj; have := vG hj; omega)
   have n1 : ((i + 1 : Nat) : Int) = (i : Int) + 1 := by omega
   have L' : Lp AP.A [0, 3, 8, 9, 10, 11] AP.f56L0 [(0, x), (3, .aE f 0), (8, ov), (9, .int .i64 i), (10, .int .i64 0), (11, .int .i64 (U.getD i (-1)))] h = _ := L
   refine ⟨h', ov', uy ?_ r1, r2, by omega⟩
   rw [n1]
   clear r1 r2 r3 ow2 e p2 p5 p6 ok o L hov ow
   generalize Af U n (U.getD i (-1)) = K at *
   generalize U.getD i (-1) = y at *
   generalize ints U = IU at *
   simp (disch := omega) only [go_sem, wy, wz, Nat.reduceEqDiff, reduceIte, Nat.reduceAdd, Nat.reduceMul, Nat.reduceLT, Nat.reduceLeDiff, Int.reduceBEq, Int.reduceBNe, Int.reduceLT, Int.reduceLE, Int.reduceEq, wI, cf.aP, cf.aJ, Int.reduceAdd, Int.reduceSub, Int.reduceMul, Int.reduceNeg, Int.reduceToNat, AP.f56L1, ln, gf, gu, lu, gq, th, L', p1]
def wQ (ws : List Int) : List Int := CV (FS.y6 (ws.length - 1) (Ax ws)).U ws.length
theorem KR (h : H) (x : AV) (ws : List Int) (h2 : 1 ≤ ws.length) (hn : ws.length < 1000) (rd : Rd h x (ints ws)) (ok : ∀ k, k < ws.length - 1 → (FS.y6 k (Ax ws)).ok) (up : EV (FS.y6 (ws.length - 1) (Ax ws)).U) (lu : (FS.y6 (ws.length - 1) (Ax ws)).U.length = (FS.y6 (ws.length - 1) (Ax ws)).W.length) :
 aS AP.A 56 [x] h = some (zO 1 ws.length (ints (wQ ws)), h) := by
 have Es : Rd h.ez x (ints ws) := rd.mono (wJ h)
 have ln := rd.len
 rw [qy] at ln
 simp only [I] at ln
 obtain ⟨h1, eh1⟩ : ∃ g, g = h.ez.alloc [.aQ, .aQ, .aQ] := ⟨_, rfl⟩
 have g1 : h1.get h.next = some [.aQ, .aQ, .aQ] := by rw [eh1, wO (by simp)]
 have r0 : Ro h1 h.next [.aQ, .aQ, .aQ] (Ax []).C := by
  have nl : ∀ (i : Nat) (v : AV), ([.aQ, .aQ, .aQ] : List AV)[i]? = some v → v = .aQ := by
   intro i v hv
   have := vV hv
   simp at this; exact this
  refine ⟨g1, ?_, rfl, ?_, ?_, by rw [eh1]; simp, by rw [eh1]; simp⟩
  · intro i v c hv hc
    have := nl i v hv
    subst this
    have hc' : c = [] := by
     have := vV hc
     simp [Ax, ints, E2] at this; exact this
    subst hc'
    exact wW.nil
  · intro i v hv; rw [nl i v hv]; simp [AV.id?]
  · intro i j v u _ hv _ id hid; rw [nl i v hv] at hid; simp [AV.id?] at hid
 obtain ⟨h2', w2, u2, f2, k2, r2, o2⟩ := E9 hn h.ez Es ws [] h1 .aQ .aQ .aQ rfl (by rw [eh1]; exact (Ext.refl _).alloc _) (by rw [eh1]; simp) r0
 have k2' : Lp AP.A [0, 3, 4] AP.f56L3 [(0, x), (3, .aE h.next 0), (4, .int .i64 0)] h1 = _ := k2
 obtain ⟨h3, w3, u3, f3, k3, r3, o3⟩ := Fc (N := ws.length) (x := x) hn (ws.length - 1) 1 (Ax ws) h2' w2 u2 f2 (by omega) r2 ok (by simp [Ax]; omega) ln
 have k3' : Lp AP.A [0, 3, 5] AP.f56L2 [(0, x), (3, .aE h.next 0), (5, .int .i64 1)] h2' = _ := k3
 unfold wQ
 have wl := FS.AN (ws.length - 1) (Ax ws)
 have wl0 : (Ax ws).W.length = ws.length := rfl
 generalize hS : FS.y6 (ws.length - 1) (Ax ws) = S at *
 obtain ⟨iu, q1, q2, q3, q4, q5, _⟩ := r3.put 1 0 (v := u3) (c := ints S.U) rfl rfl (.int .i64 0) rfl (by rw [qy]; omega)
 rw [qy] at q1
 have gf := r3.get
 rw [q1] at gf
 obtain ⟨h4, o4, k4, ow4, fl4⟩ := Hj (x := x) (N := ws.length) (f := h.next) (iu := iu) (wv := w3) (fv := f3) (n := S.U.length) (U := S.U) rfl (by omega) up (by omega) ln h3.next ws.length 0 h3 .aQ (by omega) gf q2 (h3.lt _ _ gf) (h3.lt _ _ q2) (vR _) wW.nil r3.Ks (fun j hj => by simp [AV.id?] at hj)
 have k4' : Lp AP.A [0, 3, 8, 9] AP.f56L1 [(0, x), (3, .aE h.next 0), (8, .aQ), (9, .int .i64 0)] h3 = _ := k4
 have hnx : h.ez.next = h.next := rfl
 have fl : h4.floor = h.next := by rw [fl4, o3.floor, o2.floor, eh1]; simp
 refine u7 (fn := AP.f56) (h2 := h4) (e := [(2, o4)]) (vs := [o4]) rfl rfl rfl ?_ rfl ?_
 · clear k2 k3 k4 r0 r2 r3 ow4 rd Es ok up o2 o3 q5
   simp (disch := omega) only [go_sem, wy, wz, Nat.reduceEqDiff, reduceIte, Nat.reduceAdd, Nat.reduceMul, Nat.reduceLT, Nat.reduceLeDiff, Int.reduceBEq, Int.reduceBNe, Int.reduceLT, Int.reduceLE, Int.reduceEq, wI, cf.aP, cf.aJ, Int.reduceAdd, Int.reduceSub, Int.reduceMul, Int.reduceNeg, Int.reduceToNat, AP.f56, hnx, ← eh1, th, k2', k3', k4']
 · exact ow4.yj (fl := h.next) (m := 14) (t := true) (by omega)
def B7 (u v : AV) : Prop := ∀ j, u.id? = some j → v.id? ≠ some j
theorem B7.symm {u v : AV} (a : B7 u v) : B7 v u := fun j h q => a j q h
def xp : Nat → List Int → List Int
 | _, [] => []
 | i, c :: r => if 0 < c then (i : Int) :: xp (i + 1) r else xp (i + 1) r
def zC : List Int → List Int
 | [] => []
 | c :: r => if 0 < c then c :: zC r else zC r
theorem wW.Es {h : H} {v : AV} {cs : List AV} (o : wW 1 h v cs.length cs) : Rd h v cs := ⟨o.rd.1, o.rd.2.2⟩
theorem wW.NG {h : H} {v : AV} {l : List Int} (o : wW 1 h v l.length (ints l)) : Rd h v (ints l) := by
 refine wW.Es ?_
 rw [qy]; exact o
theorem Eg {x mv : AV} {C : List Int} (hC : C.length < 1000) (hr : ∀ y ∈ C, 0 ≤ y ∧ y ≤ 2147483647) (h0 : H) (rd : Rd h0 x (ints C)) : ∀ (q p S W : List Int) (h : H) (sv wv : AV), C = p ++ q → Ext h0 h → h.floor = h0.next → h.floor ≤ h.next → wW 1 h sv S.length (ints S) → wW 1 h wv W.length (ints W) → B7 sv wv → S.length ≤ p.length → W.length ≤ p.length →
 ∃ h' sv' wv', Lp AP.A [0, 1, 6, 7, 8] AP.f30L3 [(0, x), (1, mv), (6, sv), (7, wv), (8, .int .i64 p.length)] h = some (.exit 0, [(0, x), (1, mv), (6, sv'), (7, wv'), (8, .int .i64 C.length), (33, .bool false)], h') ∧ wW 1 h' sv' (S ++ xp p.length q).length (ints (S ++ xp p.length q)) ∧ wW 1 h' wv' (W ++ zC q).length (ints (W ++ zC q)) ∧ B7 sv' wv' ∧ h'.floor = h.floor ∧ h'.floor ≤ h'.next
 | [], p, S, W, h, sv, wv, hp, hx, hf, hfl, os, ow, ap, hS, hW => by
   rw [U7] at hp; subst hp
   have ln := rd.len
   rw [qy] at ln
   simp only [I] at ln
   refine ⟨h, sv, wv, ux ?_, by simpa [xp] using os, by simpa [zC] using ow, ap, rfl, hfl⟩
   simp (disch := omega) only [go_sem, wy, wz, Nat.reduceEqDiff, reduceIte, Nat.reduceAdd, Nat.reduceMul, Nat.reduceLT, Nat.reduceLeDiff, Int.reduceBEq, Int.reduceBNe, Int.reduceLT, Int.reduceLE, Int.reduceEq, wI, cf.aP, cf.aJ, Int.reduceAdd, Int.reduceSub, Int.reduceMul, Int.reduceNeg, Int.reduceToNat, AP.f30L3, ln]
 | y :: q, p, S, W, h, sv, wv, hp, hx, hf, hfl, os, ow, ap, hS, hW => by
   have ln := rd.len
   rw [qy] at ln
   simp only [I] at ln
   have hl : C.length = p.length + (q.length + 1) := by rw [hp]; simp
   obtain ⟨ad, a1, a2⟩ := rd.xQ
   have b1 := a1 p.length ⟨by omega, by omega⟩
   have hyC : C[p.length]? = some y := by rw [hp]; simp
   have b2 := a2 h hx p.length y hyC
   have yr := hr y (vV hyC)
   have n1 : (((p ++ [y]).length : Nat) : Int) = (p.length : Int) + 1 := by simp
   have n2 : (p ++ [y]).length = p.length + 1 := by simp
   by_cases c : 0 < y
   · obtain ⟨v1, h1, p1, p2, p3, p4, p5, p6⟩ := os.push hfl (z := 8) (m := 1) (by omega) (by omega) [.int .i64 p.length] rfl rfl (yi (by omega))
     have ow1 : wW 1 h1 wv W.length (ints W) := ow.mono p3 fun j hj => p5 j (fun e => ap j e hj) (ow.lt hj).2
     have hx1 : Ext h0 h1 := fun i d hi => by
      have := h0.lt _ _ hi
      rw [p5 i (fun e => by have := (os.lt e).1; omega) (by omega), hx i d hi]
     have b3 := a2 h1 hx1 p.length y hyC
     obtain ⟨v2, h2, q1, q2, q3, q4, q5, q6⟩ := ow1.push (by omega) (z := 8) (m := 1) (by omega) (by omega) [.int .i64 y] rfl rfl (yi (by omega))
     have hx2 : Ext h0 h2 := fun i d hi => by
      have := h0.lt _ _ hi
      rw [q5 i (fun e => by have := (ow1.lt e).1; omega) (by omega), hx1 i d hi]
     have os2 : wW 1 h2 v1 (S ++ [(p.length : Int)]).length (ints (S ++ [(p.length : Int)])) := by
      rw [qx, wo]
      exact p2.mono (by omega) fun j hj => q5 j (fun e => by rw [p6] at hj; have := vG hj; have := (ow.lt e).2; omega) (p2.lt hj).2
     have ow2 : wW 1 h2 v2 (W ++ [y]).length (ints (W ++ [y])) := by rw [qx, wo]; exact q2
     obtain ⟨h', sv', wv', r1, r2, r3, r4, r5, r6⟩ := Eg hC hr h0 rd q (p ++ [y]) (S ++ [(p.length : Int)]) (W ++ [y]) h2 v1 v2 (by rw [hp]; simp) hx2 (by omega) (by omega) os2 ow2 (fun j hj e => by rw [p6] at hj; rw [q6] at e; have := vG hj; have := vG e; omega) (by simp; omega) (by simp; omega)
     rw [xp, if_pos c, zC, if_pos c]
     rw [n2, UY] at r2
     rw [UY] at r3
     refine ⟨h', sv', wv', uy ?_ r1, r2, r3, r4, by omega, r6⟩
     rw [n1]
     clear r1 r2 r3 r4 os ow os2 ow2 ow1 hx hx1 hx2 rd a1 a2 hr p2 p5 q2 q5 ap
     simp (disch := omega) only [go_sem, wy, wz, Nat.reduceEqDiff, reduceIte, Nat.reduceAdd, Nat.reduceMul, Nat.reduceLT, Nat.reduceLeDiff, Int.reduceBEq, Int.reduceBNe, Int.reduceLT, Int.reduceLE, Int.reduceEq, wI, cf.aP, cf.aJ, Int.reduceAdd, Int.reduceSub, Int.reduceMul, Int.reduceNeg, Int.reduceToNat, AP.f30L3, ln, b1, b2, b3, p1, q1]
   · obtain ⟨h', sv', wv', r1, r2, r3, r4, r5, r6⟩ := Eg hC hr h0 rd q (p ++ [y]) S W h sv wv (by rw [hp]; simp) hx hf hfl os ow ap (by simp; omega) (by simp; omega)
     rw [xp, if_neg c, zC, if_neg c]
     rw [n2] at r2
     refine ⟨h', sv', wv', uy ?_ r1, r2, r3, r4, by omega, r6⟩
     rw [n1]
     clear r1 r2 r3 r4 os ow hx rd a1 a2 hr ap
     simp (disch := omega) only [go_sem, wy, wz, Nat.reduceEqDiff, reduceIte, Nat.reduceAdd, Nat.reduceMul, Nat.reduceLT, Nat.reduceLeDiff, Int.reduceBEq, Int.reduceBNe, Int.reduceLT, Int.reduceLE, Int.reduceEq, wI, cf.aP, cf.aJ, Int.reduceAdd, Int.reduceSub, Int.reduceMul, Int.reduceNeg, Int.reduceToNat, AP.f30L3, ln, b1, b2]
def xg : List Int → List Int → List Int → List Int
 | s :: ss, d :: ds, o => xg ss ds (o.set s.toNat d)
 | _, _, o => o
theorem xS : ∀ (ss ds o : List Int), (xg ss ds o).length = o.length
 | [], _, o => by simp [xg]
 | s :: ss, [], o => by simp [xg]
 | s :: ss, d :: ds, o => by rw [xg, xS ss ds, U5]
def AG : List Int → Int → Int
 | [], m => m
 | d :: ds, m => AG ds (xC m d)
theorem Ext.GI {hb h : H} {o : Nat} (x : Ext hb h) (hn : hb.get o = none) (c : List AV) : Ext hb (h.set o c) := fun i d q => by
 have : i ≠ o := fun e => by rw [e, hn] at q; cases q
 rw [wL this, x i d q]
theorem Fx {mv wv dv sv : AV} {S D : List Int} {n oid : Nat} (hS : S.length < 1000) (hDS : D.length = S.length) (hn : n < 1000) (hr : ∀ s ∈ S, 0 ≤ s ∧ s < n) (hb : H) (rds : Rd hb sv (ints S)) (rdd : Rd hb dv (ints D)) (hno : hb.get oid = none) : ∀ (q p s1 s2 : List Int) (O : List Int) (m : Int) (h : H), D = p ++ q → S = s1 ++ s2 → s1.length = p.length → Ext hb h → O.length = n → h.get oid = some (ints O) → h.floor ≤ oid → (∀ d ∈ q, 0 ≤ d ∧ d < 1000) → 0 ≤ m →
 ∃ h', Lp AP.A [1, 6, 7, 9, 10, 11, 12] AP.f30L1 [(1, mv), (6, sv), (7, wv), (9, .aF oid 0 n 1), (10, dv), (11, .int .i64 m), (12, .int .i64 p.length)] h = some (.exit 4, [(1, mv), (6, sv), (7, wv), (9, .aF oid 0 n 1), (10, dv), (11, .int .i64 (AG q m)), (12, .int .i64 D.length), (103, .bool false)], h') ∧ h'.get oid = some (ints (xg s2 q O)) ∧ h'.floor = h.floor ∧ h'.next = h.next ∧ (∀ i, i ≠ oid → h'.get i = h.get i)
 | [], p, s1, s2, O, m, h, hp, hs, hl, hx, hO, go, hfo, hd, hm => by
   rw [U7] at hp; subst hp
   have ln := rdd.len
   rw [qy] at ln
   simp only [I] at ln
   have e : xg s2 [] O = O := by cases s2 <;> rfl
   rw [e]
   refine ⟨h, ux ?_, go, rfl, rfl, fun _ _ => rfl⟩
   rw [AG]
   simp (disch := omega) only [go_sem, wy, wz, Nat.reduceEqDiff, reduceIte, Nat.reduceAdd, Nat.reduceMul, Nat.reduceLT, Nat.reduceLeDiff, Int.reduceBEq, Int.reduceBNe, Int.reduceLT, Int.reduceLE, Int.reduceEq, wI, cf.aP, cf.aJ, Int.reduceAdd, Int.reduceSub, Int.reduceMul, Int.reduceNeg, Int.reduceToNat, AP.f30L1, ln]
 | d :: q, p, s1, s2, O, m, h, hp, hs, hl, hx, hO, go, hfo, hd, hm => by
   have ln := rdd.len
   rw [qy] at ln
   simp only [I] at ln
   have hDl : D.length = p.length + (q.length + 1) := by rw [hp]; simp
   have hSl : S.length = s1.length + s2.length := by rw [hs]; simp
   obtain ⟨s, s2, rfl⟩ : ∃ s r, s2 = s :: r := by
    cases s2 with
    | nil => simp at hSl; omega
    | cons s r => exact ⟨s, r, rfl⟩
   have dr := hd d (by simp)
   have hs' : S[p.length]? = some s := by rw [hs, ← hl]; simp
   have sr := hr s (vV hs')
   obtain ⟨sn, rfl⟩ := UT sr.1
   obtain ⟨as, a1, a2⟩ := rds.xQ
   obtain ⟨ad, d1, d2⟩ := rdd.xQ
   have b1 := a1 p.length ⟨by omega, by omega⟩
   have b2 := a2 h hx p.length _ hs'
   have c1 := d1 p.length ⟨by omega, by omega⟩
   have c2 := d2 h hx p.length d (by rw [hp]; simp)
   have lO : (ints O).length = n := by rw [qy, hO]
   have es := xW O sn d
   have tsn : ((sn : Nat) : Int).toNat = sn := by omega
   have fr' : ∀ i, i ≠ oid → (h.set oid (ints (O.set sn d))).get i = h.get i := fun i hi => wL hi
   have hx2 := hx.GI hno (ints (O.set sn d))
   have gO : (h.set oid (ints (O.set sn d))).get oid = some (ints (O.set sn d)) := by rw [wS rfl, go]; rfl
   obtain ⟨h', k1, k2, k3, k4, k5⟩ := Fx hS hDS hn hr hb rds rdd hno q (p ++ [d]) (s1 ++ [(sn : Int)]) s2 (O.set sn d) (xC m d) (h.set oid (ints (O.set sn d))) (by rw [hp]; simp) (by rw [hs]; simp) (by simp [hl]) hx2 (by rw [U5, hO]) gO (by simpa using hfo) (fun e he => hd e (by simp [he])) (by unfold xC; split <;> omega)
   have b1' : gG 1 dv (.int .i64 p.length) = some (ad p.length) := c1
   have c3 : cJ false 1 (ad p.length) (h.set oid (ints (O.set sn d))) = some (.int .i64 d) := d2 _ hx2 p.length d (by rw [hp]; simp)
   have n1 : (((p ++ [d]).length : Nat) : Int) = (p.length : Int) + 1 := by simp
   rw [xg, tsn, AG]
   refine ⟨h', uy ?_ k1, k2, by rw [k3]; simp, by rw [k4]; simp, fun i hi => (k5 i hi).trans (fr' i hi)⟩
   rw [n1]
   have snn : sn < n := by omega
   clear k1 k2 k3 k4 k5 fr' hx hx2 rds rdd a1 a2 d1 d2 hd hr hs hp hs'
   generalize ints (O.set sn d) = O2 at *
   generalize ints O = O1 at *
   simp (disch := omega) only [go_sem, wy, wz, Nat.reduceEqDiff, reduceIte, Nat.reduceAdd, Nat.reduceMul, Nat.reduceLT, Nat.reduceLeDiff, Int.reduceBEq, Int.reduceBNe, Int.reduceLT, Int.reduceLE, Int.reduceEq, wI, cf.aP, cf.aJ, Int.reduceAdd, Int.reduceSub, Int.reduceMul, Int.reduceNeg, Int.reduceToNat, AP.f30L1, ln, b1, b2, c1, c2, c3, go, lO, es, Lr, IY]
def Bu (w : Int) : Int := (w + 1) / 2
def xy (ws : List Int) : List Int := ws.map Bu
theorem ze (ws : List Int) : (xy ws).length = ws.length := by simp [xy]
theorem Fe {mv sv ov : AV} {n wid : Nat} (hn : n < 1000) : ∀ (q p : List Int) (h : H), p.length + q.length = n → (∀ y ∈ q, 0 ≤ y ∧ y < 1000000000000) → h.get wid = some (ints (xy p ++ q)) → h.floor ≤ wid → h.floor ≤ h.next →
 ∃ h', Lp AP.A [1, 6, 7, 9, 13] AP.f30L0 [(1, mv), (6, sv), (7, .aF wid 0 n 1), (9, ov), (13, .int .i64 p.length)] h = some (.exit 6, [(1, mv), (6, sv), (7, .aF wid 0 n 1), (9, ov), (13, .int .i64 n), (129, .bool false)], h') ∧ h'.get wid = some (ints (xy (p ++ q))) ∧ h'.floor = h.floor ∧ h'.next = h.next ∧ (∀ i, i ≠ wid → h'.get i = h.get i)
 | [], p, h, hl, hr, hg, hf, hfl => by
   obtain rfl : p.length = n := by simpa using hl
   refine ⟨h, ux ?_, by simpa using hg, rfl, rfl, fun _ _ => rfl⟩
   simp (disch := omega) only [go_sem, wy, wz, Nat.reduceEqDiff, reduceIte, Nat.reduceAdd, Nat.reduceMul, Nat.reduceLT, Nat.reduceLeDiff, Int.reduceBEq, Int.reduceBNe, Int.reduceLT, Int.reduceLE, Int.reduceEq, wI, cf.aP, cf.aJ, Int.reduceAdd, Int.reduceSub, Int.reduceMul, Int.reduceNeg, Int.reduceToNat, AP.f30L0]
 | y :: q, p, h, hl, hr, hg, hf, hfl => by
   have yr := hr y (by simp)
   simp only [UO] at hl
   have n1 : (((p ++ [y]).length : Nat) : Int) = (p.length : Int) + 1 := by simp
   have hp : (xy p).length = p.length := ze p
   have ix : (ints (xy p ++ y :: q))[p.length]? = some (.int .i64 y) := tU (by rw [U6 (by omega), hp]; simp)
   have il : (ints (xy p ++ y :: q)).length = n := by rw [qy, wo, hp, UO]; omega
   have st : (ints (xy p ++ y :: q)).set p.length (.int .i64 (Bu y)) = ints (xy (p ++ [y]) ++ q) := by
    rw [xW, List.set_append_right _ _ (by omega), hp, Nat.sub_self]
    simp [xy]
   have q1 : bw .quo (.int .i64 (y + 1)) (.int .i64 2) = some (.int .i64 (Bu y)) := by
    rw [sV _ _ _ (by omega), Int.tdiv_eq_ediv_of_nonneg (by omega), wi (by omega)]; rfl
   have g2 : (h.set wid (ints (xy (p ++ [y]) ++ q))).get wid = some (ints (xy (p ++ [y]) ++ q)) := by rw [wS rfl, hg]; rfl
   obtain ⟨h', k1, k2, k3, k4, k5⟩ := Fe (mv := mv) (sv := sv) (ov := ov) hn q (p ++ [y]) (h.set wid (ints (xy (p ++ [y]) ++ q))) (by simp; omega) (fun e he => hr e (by simp [he])) g2 (by simpa using hf) (by simpa using hfl)
   refine ⟨h', uy ?_ k1, by rw [k2]; simp, by rw [k3]; simp, by rw [k4]; simp, fun i hi => by rw [k5 i hi, wL hi]⟩
   rw [n1]
   clear k1 k2 k3 k4 k5 g2 hr
   generalize ints (xy p ++ y :: q) = A at *
   generalize ints (xy (p ++ [y]) ++ q) = B at *
   simp (disch := omega) only [go_sem, wy, wz, Nat.reduceEqDiff, reduceIte, Nat.reduceAdd, Nat.reduceMul, Nat.reduceLT, Nat.reduceLeDiff, Int.reduceBEq, Int.reduceBNe, Int.reduceLT, Int.reduceLE, Int.reduceEq, wI, cf.aP, cf.aJ, Int.reduceAdd, Int.reduceSub, Int.reduceMul, Int.reduceNeg, Int.reduceToNat, AP.f30L0, ix, il, st, q1, hg]
def FB (ws : List Int) : Prop := ws = [] ∨ (1 ≤ ws.length ∧ ws.length ≤ 288 ∧ (∀ k, k < ws.length - 1 → (FS.y6 k (Ax ws)).ok) ∧ EV (FS.y6 (ws.length - 1) (Ax ws)).U ∧ (FS.y6 (ws.length - 1) (Ax ws)).U.length = (FS.y6 (ws.length - 1) (Ax ws)).W.length)
theorem JF (U : List Int) : ∀ (m : Nat) (j : Int), Af U m j ≤ m
 | 0, j => vR _
 | m + 1, j => by
   rw [Af]
   split
   · have := JF U m (U.getD j.toNat (-1)); omega
   · omega
theorem Dd {ws : List Int} (o : FB ws) : ∀ d ∈ wQ ws, 0 ≤ d ∧ d < 1000 := by
 intro d hd
 rcases o with rfl | ⟨h1, h2, _, _, h5⟩
 · simp [wQ, CV] at hd
 · unfold wQ CV at hd
   obtain ⟨i, _, rfl⟩ := U9.1 hd
   have := JF (FS.y6 (ws.length - 1) (Ax ws)).U (FS.y6 (ws.length - 1) (Ax ws)).U.length ((FS.y6 (ws.length - 1) (Ax ws)).U.getD i (-1))
   rw [h5, FS.AN] at this
   rw [h5, FS.AN]
   have : (Ax ws).W.length = ws.length := rfl
   omega
theorem AK (ws : List Int) : (wQ ws).length = ws.length := KQ _ _
theorem JX (h : H) (x : AV) (ws : List Int) (rd : Rd h x (ints ws)) (o : FB ws) : aS AP.A 56 [x] h = some (zO 1 ws.length (ints (wQ ws)), h) := by
 rcases o with rfl | ⟨h1, h2, h3, h4, h5⟩
 · have ln := rd.len
   simp only [I, qy] at ln
   have ln' : jy false x = some (.int .i64 0) := ln
   have l3 : ∀ g : H, Lp AP.A [0, 3, 4] AP.f56L3 [(0, x), (3, .aE h.next 0), (4, .int .i64 0)] g = some (.exit 0, [(0, x), (3, .aE h.next 0), (4, .int .i64 0), (17, .bool false)], g) := fun g => by
    refine ux ?_
    simp (disch := omega) only [go_sem, wy, wz, Nat.reduceEqDiff, reduceIte, Nat.reduceAdd, Nat.reduceMul, Nat.reduceLT, Nat.reduceLeDiff, Int.reduceBEq, Int.reduceBNe, Int.reduceLT, Int.reduceLE, Int.reduceEq, wI, cf.aP, cf.aJ, Int.reduceAdd, Int.reduceSub, Int.reduceMul, Int.reduceNeg, Int.reduceToNat, AP.f56L3, ln']
   have l2 : ∀ g : H, Lp AP.A [0, 3, 5] AP.f56L2 [(0, x), (3, .aE h.next 0), (5, .int .i64 1)] g = some (.exit 2, [(0, x), (3, .aE h.next 0), (5, .int .i64 1), (29, .bool false)], g) := fun g => by
    refine ux ?_
    simp (disch := omega) only [go_sem, wy, wz, Nat.reduceEqDiff, reduceIte, Nat.reduceAdd, Nat.reduceMul, Nat.reduceLT, Nat.reduceLeDiff, Int.reduceBEq, Int.reduceBNe, Int.reduceLT, Int.reduceLE, Int.reduceEq, wI, cf.aP, cf.aJ, Int.reduceAdd, Int.reduceSub, Int.reduceMul, Int.reduceNeg, Int.reduceToNat, AP.f56L2, ln']
   have l1 : ∀ g : H, Lp AP.A [0, 3, 8, 9] AP.f56L1 [(0, x), (3, .aE h.next 0), (8, .aQ), (9, .int .i64 0)] g = some (.exit 4, [(0, x), (3, .aE h.next 0), (8, .aQ), (9, .int .i64 0), (78, .bool false)], g) := fun g => by
    refine ux ?_
    simp (disch := omega) only [go_sem, wy, wz, Nat.reduceEqDiff, reduceIte, Nat.reduceAdd, Nat.reduceMul, Nat.reduceLT, Nat.reduceLeDiff, Int.reduceBEq, Int.reduceBNe, Int.reduceLT, Int.reduceLE, Int.reduceEq, wI, cf.aP, cf.aJ, Int.reduceAdd, Int.reduceSub, Int.reduceMul, Int.reduceNeg, Int.reduceToNat, AP.f56L1, ln']
   have hnx : h.ez.next = h.next := rfl
   refine u7 (fn := AP.f56) (h2 := h.ez.alloc [.aQ, .aQ, .aQ]) (e := [(2, .aQ)]) (vs := [.aQ]) rfl rfl rfl ?_ rfl rfl
   simp (disch := omega) only [go_sem, wy, wz, Nat.reduceEqDiff, reduceIte, Nat.reduceAdd, Nat.reduceMul, Nat.reduceLT, Nat.reduceLeDiff, Int.reduceBEq, Int.reduceBNe, Int.reduceLT, Int.reduceLE, Int.reduceEq, wI, cf.aP, cf.aJ, Int.reduceAdd, Int.reduceSub, Int.reduceMul, Int.reduceNeg, Int.reduceToNat, AP.f56, hnx, th, l1, l2, l3]
 · exact KR h x ws h1 (by omega) rd h3 h4 h5
def Bv (S : List Int) : Nat → List Int → List Int → List Int
 | 0, W, O => xg S (wQ W) O
 | K + 1, W, O => Bv S K (xy W) (xg S (wQ W) O)
theorem Il {h : H} {v : AV} {k : Nat} {cs : List AV} (o : wW 1 h v k cs) (hk : 0 < k) : ∃ id, v = .aF id 0 k 1 ∧ h.get id = some cs ∧ h.floor ≤ id := by
 rcases o.2 with ⟨_, q⟩ | ⟨id, q1, q2, q3, _⟩
 · omega
 · exact ⟨id, q1, q2, q3⟩
theorem Lf {S W O : List Int} {h : H} {sv wv : AV} {n oid : Nat} {most : Int} (hW : W.length = S.length) (hS : S.length ≤ 288) (hn : n ≤ 288) (hO : O.length = n) (hr : ∀ s ∈ S, 0 ≤ s ∧ s < n) (hfl : h.floor ≤ h.next) (os : wW 1 h sv S.length (ints S)) (ow : wW 1 h wv W.length (ints W)) (go : h.get oid = some (ints O)) (hfo : h.floor ≤ oid) (ap : B7 sv wv) (ns : sv.id? ≠ some oid) (nw : wv.id? ≠ some oid) (o : FB W) (hm : 1 ≤ most ∧ most ≤ 15) (wr : ∀ y ∈ W, 0 ≤ y ∧ y < 1000000000000) :
 (AG (wQ W) 0 ≤ most → ∃ h', aM (aS AP.A) bG AP.f30L2 (ay [(1, .int .i64 most), (6, sv), (7, wv), (9, .aF oid 0 n 1)] [1, 6, 7, 9]) h = some (.ret, [(4, .aF oid 0 n 1), (5, .int .i64 0)], h') ∧ h'.get oid = some (ints (xg S (wQ W) O)) ∧ h'.floor = h.floor) ∧
 (most < AG (wQ W) 0 → W ≠ [] → ∃ h', aM (aS AP.A) bG AP.f30L2 (ay [(1, .int .i64 most), (6, sv), (7, wv), (9, .aF oid 0 n 1)] [1, 6, 7, 9]) h = some (.normal, [(1, .int .i64 most), (6, sv), (7, wv), (9, .aF oid 0 n 1)], h') ∧ h'.get oid = some (ints (xg S (wQ W) O)) ∧ wW 1 h' sv S.length (ints S) ∧ wW 1 h' wv (xy W).length (ints (xy W)) ∧ h'.floor = h.floor ∧ h'.floor ≤ h'.next) := by
 have k1 := JX h wv W ow.NG o
 have dl := AK W
 have dr := Dd o
 obtain ⟨D, eD⟩ : ∃ D, D = wQ W := ⟨_, rfl⟩
 rw [← eD] at k1 dl dr ⊢
 obtain ⟨hb, ehb⟩ : ∃ g, g = h.del oid := ⟨_, rfl⟩
 have hbn : hb.get oid = none := by rw [ehb, H.eI, if_pos rfl]
 have ext : Ext hb h := fun i c q => by
  rw [ehb, H.eI] at q
  split at q
  · cases q
  · exact q
 have hbk : ∀ i, i ≠ oid → hb.get i = h.get i := fun i hi => by rw [ehb, H.eI, if_neg hi]
 have rs : Rd hb sv (ints S) := (os.mono (by rw [ehb]; simp) fun i q => hbk i (fun e => ns (by rw [q, e]))).NG
 have rdd : Rd hb (zO 1 W.length (ints D)) (ints D) := by
  have := GG (n := 1) (k := D.length) (h := hb) (cs := ints D) (by rw [qy]; omega)
  rw [dl] at this
  exact ⟨by have := this.1; rw [qy, dl]; exact this, this.2.2⟩
 obtain ⟨h1, L1, g1, f1, n1, t1⟩ := Fx (mv := .int .i64 most) (wv := wv) (O := O) (oid := oid) (h := h) (s1 := []) (p := []) (q := D) (s2 := S) (m := 0) (by omega) (dl.trans hW) (by omega) hr hb rs rdd hbn rfl rfl rfl ext hO go hfo dr (by omega)
 have L1' : Lp AP.A [1, 6, 7, 9, 10, 11, 12] AP.f30L1 [(1, .int .i64 most), (6, sv), (7, wv), (9, .aF oid 0 n 1), (10, zO 1 W.length (ints D)), (11, .int .i64 0), (12, .int .i64 0)] h = _ := L1
 constructor
 · intro c
   refine ⟨h1, ?_, g1, f1⟩
   clear L1 rs rdd os ow dr hr wr
   generalize zO 1 W.length (ints D) = dv at *
   generalize AG D 0 = M at *
   simp (disch := omega) only [go_sem, wy, wz, Nat.reduceEqDiff, reduceIte, Nat.reduceAdd, Nat.reduceMul, Nat.reduceLT, Nat.reduceLeDiff, Int.reduceBEq, Int.reduceBNe, Int.reduceLT, Int.reduceLE, Int.reduceEq, wI, cf.aP, cf.aJ, Int.reduceAdd, Int.reduceSub, Int.reduceMul, Int.reduceNeg, Int.reduceToNat, AP.f30L2, k1, th, L1', UQ c]
 · intro c hne
   have hWp : 0 < W.length := List.length_pos_iff.2 hne
   obtain ⟨wid, q1, q2, q3⟩ := Il ow hWp
   have hwo : wid ≠ oid := fun e => nw (by rw [q1, e]; rfl)
   have hsw : ∀ j, sv.id? = some j → j ≠ wid := fun j hj e => ap j hj (by rw [q1, e]; rfl)
   obtain ⟨h2, L2, g2, f2, n2, t2⟩ := Fe (mv := .int .i64 most) (sv := sv) (ov := .aF oid 0 n 1) (n := W.length) (wid := wid) (by omega) W [] h1 (by simp) wr (by rw [t1 wid hwo, q2]; rfl) (by omega) (by omega)
   have L2' : Lp AP.A [1, 6, 7, 9, 13] AP.f30L0 [(1, .int .i64 most), (6, sv), (7, .aF wid 0 W.length 1), (9, .aF oid 0 n 1), (13, .int .i64 0)] h1 = _ := L2
   have os2 : wW 1 h2 sv S.length (ints S) := os.mono (by omega) fun j hj => by
    rw [t2 j (hsw j hj), t1 j (fun e => ns (by rw [hj, e]))]
   have ow2 : wW 1 h2 wv (xy W).length (ints (xy W)) := by
    rw [ze]
    exact ⟨by rw [qy, ze]; omega, .inr ⟨wid, q1, by simpa using g2, by omega, hWp⟩⟩
   refine ⟨h2, ?_, by rw [t2 oid hwo.symm, g1], os2, ow2, by omega, by omega⟩
   clear L1 L2 rs rdd os ow os2 ow2 dr hr wr
   rw [q1] at L1' k1 ⊢
   have c' : ¬ AG D 0 ≤ most := by omega
   generalize zO 1 W.length (ints D) = dv at *
   generalize AG D 0 = M at *
   simp (disch := omega) only [go_sem, wy, wz, Nat.reduceEqDiff, reduceIte, Nat.reduceAdd, Nat.reduceMul, Nat.reduceLT, Nat.reduceLeDiff, Int.reduceBEq, Int.reduceBNe, Int.reduceLT, Int.reduceLE, Int.reduceEq, wI, cf.aP, cf.aJ, Int.reduceAdd, Int.reduceSub, Int.reduceMul, Int.reduceNeg, Int.reduceToNat, AP.f30L2, k1, th, L1', L2', UN c']
inductive yJ (most : Int) : Nat → List Int → Prop
 | last {W : List Int} : FB W → AG (wQ W) 0 ≤ most → yJ most 0 W
 | more {K : Nat} {W : List Int} : FB W → most < AG (wQ W) 0 → W ≠ [] → yJ most K (xy W) → yJ most (K + 1) W
theorem J2 {W : List Int} (wr : ∀ y ∈ W, 0 ≤ y ∧ y < 1000000000000) : ∀ y ∈ xy W, 0 ≤ y ∧ y < 1000000000000 := by
 intro y hy
 obtain ⟨z, hz, rfl⟩ := U9.1 hy
 have := wr z hz
 unfold Bu; omega
theorem Jn {S : List Int} {sv wv : AV} {n oid : Nat} {most : Int} (hS : S.length ≤ 288) (hn : n ≤ 288) (hr : ∀ s ∈ S, 0 ≤ s ∧ s < n) (ap : B7 sv wv) (ns : sv.id? ≠ some oid) (nw : wv.id? ≠ some oid) (hm : 1 ≤ most ∧ most ≤ 15) : ∀ (K : Nat) (W O : List Int) (h : H), yJ most K W → W.length = S.length → O.length = n → h.floor ≤ h.next → wW 1 h sv S.length (ints S) → wW 1 h wv W.length (ints W) → h.get oid = some (ints O) → h.floor ≤ oid → (∀ y ∈ W, 0 ≤ y ∧ y < 1000000000000) →
 ∃ h', Lp AP.A [1, 6, 7, 9] AP.f30L2 [(1, .int .i64 most), (6, sv), (7, wv), (9, .aF oid 0 n 1)] h = some (.ret, [(4, .aF oid 0 n 1), (5, .int .i64 0)], h') ∧ h'.get oid = some (ints (Bv S K W O)) ∧ h'.floor = h.floor
 | 0, W, O, h, r, hW, hO, hfl, os, ow, go, hfo, wr => by
   cases r with
   | last o c =>
     obtain ⟨h', k, g, f⟩ := (Lf hW hS hn hO hr hfl os ow go hfo ap ns nw o hm wr).1 c
     exact ⟨h', uT k, g, f⟩
 | K + 1, W, O, h, r, hW, hO, hfl, os, ow, go, hfo, wr => by
   cases r with
   | more o c hne r =>
     obtain ⟨h1, k, g, os1, ow1, f, fl⟩ := (Lf hW hS hn hO hr hfl os ow go hfo ap ns nw o hm wr).2 c hne
     obtain ⟨h', k2, g2, f2⟩ := Jn hS hn hr ap ns nw hm K (xy W) _ h1 r (by rw [ze, hW]) (by rw [xS, hO]) fl os1 ow1 g (by omega) (J2 wr)
     exact ⟨h', uy k k2, g2, by omega⟩
def zN (S : List Int) : List Int := if S.length = 1 then (if 0 < S.getD 0 0 then [0, S.getD 0 0] else S ++ [1]) else S
def Bn (S W : List Int) : List Int := if S.length = 1 then (if 0 < S.getD 0 0 then [1, W.getD 0 0] else W ++ [1]) else W
theorem MV {S W : List Int} (h : W.length = S.length) : (Bn S W).length = (zN S).length := by
 unfold Bn zN
 split
 · split
   · rfl
   · simp [h]
 · exact h
theorem T7 {x : AV} {most : Int} {S W : List Int} {h : H} {sv wv : AV} (hl : W.length = S.length) (hS : S.length ≤ 288) (hfl : h.floor ≤ h.next) (os : wW 1 h sv S.length (ints S)) (ow : wW 1 h wv W.length (ints W)) (ap : B7 sv wv) :
 ∃ h' sv' wv', aM (aS AP.A) bG (at_ 4 AP.f30.body) [(0, x), (1, .int .i64 most), (6, sv), (7, wv)] h = some (.normal, [(0, x), (1, .int .i64 most), (6, sv'), (7, wv')], h') ∧ wW 1 h' sv' (zN S).length (ints (zN S)) ∧ wW 1 h' wv' (Bn S W).length (ints (Bn S W)) ∧ B7 sv' wv' ∧ h'.floor = h.floor ∧ h'.floor ≤ h'.next := by
 have ln := os.rd.len
 by_cases c1 : S.length = 1
 · obtain ⟨s0, rfl⟩ : ∃ s, S = [s] := by
    match S, c1 with
    | [s], _ => exact ⟨s, rfl⟩
   obtain ⟨w0, rfl⟩ : ∃ s, W = [s] := by
    match W, hl with
    | [s], _ => exact ⟨s, rfl⟩
   obtain ⟨sid, q1, q2, q3⟩ := Il os (by simp)
   obtain ⟨wid, p1, p2, p3⟩ := Il ow (by simp)
   simp only [UO, UR, ints, UW, Vn, I] at q1 q2 p1 p2
   subst q1
   subst p1
   by_cases c2 : 0 < s0
   · have e1 : zN [s0] = [0, s0] := by simp [zN, c2]
     have e2 : Bn [s0] [w0] = [1, w0] := by simp [Bn, c2]
     rw [e1, e2]
     refine ⟨(h.alloc [.int .i64 0, .int .i64 s0]).alloc [.int .i64 1, .int .i64 w0], .aF h.next 0 2 1, .aF (h.next + 1) 0 2 1, ?_, ⟨rfl, .inr ⟨h.next, rfl, ?_, by simpa using hfl, by simp⟩⟩, ⟨rfl, .inr ⟨h.next + 1, rfl, ?_, by simp; omega, by simp⟩⟩, ?_, by simp, by simp; omega⟩
     · have w2 := h.lt _ _ p2
       simp (disch := first | omega | (simp only [yx, UO, UR, vW, Nat.reduceAdd]; first | done | omega | fail) | (simp (disch := first | omega | (simp only [yx, UO, UR, vW, Nat.reduceAdd]; first | done | omega | fail) | fail) only [yx, ER, US, UO, UR, vW, Nat.reduceAdd]; done) | fail) only [go_sem, wy, wz, Nat.reduceEqDiff, reduceIte, Nat.reduceAdd, Nat.reduceMul, Nat.reduceLT, Nat.reduceLeDiff, Int.reduceBEq, Int.reduceBNe, Int.reduceLT, Int.reduceLE, Int.reduceEq, wI, FJ, cf.aP, cf.aJ, Int.reduceAdd, Int.reduceSub, Int.reduceMul, Int.reduceNeg, Int.reduceToNat, AP.f30, q2, p2, UQ c2]
     · rw [wY (by simp), wO rfl]; rfl
     · rw [wO (by simp)]; rfl
     · intro j hj e; have := vG hj; have := vG e; omega
   · have e1 : zN [s0] = [s0, 1] := by simp [zN, c2]
     have e2 : Bn [s0] [w0] = [w0, 1] := by simp [Bn, c2]
     rw [e1, e2]
     obtain ⟨v1, h1, a1, a2, a3, a4, a5, a6⟩ := os.push hfl (z := 8) (m := 1) (by omega) (by omega) [.int .i64 1] rfl rfl (yi (by simp))
     have ow1 : wW 1 h1 (.aF wid 0 1 1) 1 (ints [w0]) := ow.mono a3 fun j hj => a5 j (fun e => ap j e hj) (ow.lt hj).2
     obtain ⟨v2, h2, b1, b2, b3, b4, b5, b6⟩ := ow1.push (by omega) (z := 8) (m := 1) (by omega) (by omega) [.int .i64 1] rfl rfl (yi (by simp))
     refine ⟨h2, v1, v2, ?_, ?_, b2, fun j hj e => by rw [a6] at hj; rw [b6] at e; have := vG hj; have := vG e; omega, by omega, by omega⟩
     · clear os ow ow1 ap a2 b2 a5 b5
       simp only [UO, UR] at a1 b1 ln
       simp (disch := omega) only [go_sem, wy, wz, Nat.reduceEqDiff, reduceIte, Nat.reduceAdd, Nat.reduceMul, Nat.reduceLT, Nat.reduceLeDiff, Int.reduceBEq, Int.reduceBNe, Int.reduceLT, Int.reduceLE, Int.reduceEq, wI, cf.aP, cf.aJ, Int.reduceAdd, Int.reduceSub, Int.reduceMul, Int.reduceNeg, Int.reduceToNat, AP.f30, xV, xY, ln, q2, p2, a1, b1, UN c2]
     · exact a2.mono b3 fun j hj => b5 j (fun e => by rw [a6] at hj; have := vG hj; have := vG e; have := h.lt _ _ p2; omega) (a2.lt hj).2
 · have e1 : zN S = S := by simp [zN, c1]
   have e2 : Bn S W = W := by simp [Bn, c1]
   rw [e1, e2]
   refine ⟨h, sv, wv, ?_, os, ow, ap, rfl, hfl⟩
   have c1' : ¬ ((S.length : Int) = 1) := by omega
   clear os ow ap
   simp (disch := omega) only [go_sem, wy, wz, Nat.reduceEqDiff, reduceIte, Nat.reduceAdd, Nat.reduceMul, Nat.reduceLT, Nat.reduceLeDiff, Int.reduceBEq, Int.reduceBNe, Int.reduceLT, Int.reduceLE, Int.reduceEq, wI, cf.aP, cf.aJ, Int.reduceAdd, Int.reduceSub, Int.reduceMul, Int.reduceNeg, Int.reduceToNat, AP.f30, xV, xY, ln]
theorem yC : ∀ (i : Nat) (C : List Int), (xp i C).length = (zC C).length
 | i, [] => rfl
 | i, c :: r => by
   rw [xp, zC]
   split
   · simp [yC (i + 1) r]
   · exact yC (i + 1) r
theorem zP : ∀ (i : Nat) (C : List Int), (xp i C).length ≤ C.length
 | i, [] => vR _
 | i, c :: r => by
   have := zP (i + 1) r
   rw [xp]
   split <;> simp <;> omega
theorem yT : ∀ (i : Nat) (C : List Int), ∀ s ∈ xp i C, (i : Int) ≤ s ∧ s < i + C.length
 | i, [], s, h => by simp [xp] at h
 | i, c :: r, s, h => by
   rw [xp] at h
   split at h
   · rcases wj.1 h with q | q
     · subst q; simp; omega
     · have := yT (i + 1) r s q; simp only [UO]; omega
   · have := yT (i + 1) r s h; simp only [UO]; omega
theorem Ah : ∀ (C : List Int), ∀ y ∈ zC C, y ∈ C ∧ 0 < y
 | [], y, h => by simp [zC] at h
 | c :: r, y, h => by
   rw [zC] at h
   split at h
   · rcases wj.1 h with q | q
     · subst q; exact ⟨by simp, by assumption⟩
     · have := Ah r y q; exact ⟨by simp [this.1], this.2⟩
   · have := Ah r y h; exact ⟨by simp [this.1], this.2⟩
theorem HQ {S : List Int} {n : Nat} (hn : 2 ≤ n) (h : ∀ s ∈ S, 0 ≤ s ∧ s < n) : ∀ s ∈ zN S, 0 ≤ s ∧ s < n := by
 intro s hs
 unfold zN at hs
 split at hs
 · split at hs
   · rename_i h1 h2
     rcases wj.1 hs with q | q
     · subst q; omega
     · simp at q
       subst q
       match S, h1 with
       | [t], _ => exact h t (by simp)
   · rcases Vf.1 hs with q | q
     · exact h s q
     · simp at q; subst q; omega
 · exact h s hs
theorem LC {S W : List Int} (hl : W.length = S.length) (h : ∀ y ∈ W, 0 ≤ y ∧ y < 1000000000000) : ∀ y ∈ Bn S W, 0 ≤ y ∧ y < 1000000000000 := by
 intro s hs
 unfold Bn at hs
 split at hs
 · split at hs
   · rename_i h1 h2
     rcases wj.1 hs with q | q
     · subst q; omega
     · simp at q
       subst q
       rw [← hl] at h1
       match W, h1 with
       | [t], _ => exact h t (by simp)
   · rcases Vf.1 hs with q | q
     · exact h s q
     · simp at q; subst q; omega
 · exact h s hs
theorem Dn {S : List Int} {n : Nat} (hn : 2 ≤ n) (h : S.length ≤ n) : (zN S).length ≤ n := by
 unfold zN
 split
 · split
   · simpa using hn
   · simp; omega
 · exact h
theorem zq (n : Nat) : yX n [.int .i64 0] = ints (List.replicate n 0) := by
 unfold yX; rw [GH]; simp [ints, I]
def xh (C : List Int) : List Int := zN (xp 0 C)
def xK (C : List Int) : List Int := Bn (xp 0 C) (zC C)
theorem Gm (C : List Int) : (xK C).length = (xh C).length := MV (yC 0 C).symm
def xA (C : List Int) (K : Nat) : List Int := Bv (xh C) K (xK C) (List.replicate C.length 0)
theorem BR (h : H) (x : AV) (C : List Int) (m K : Nat) (h2 : 2 ≤ C.length) (hn : C.length ≤ 288) (rd : Rd h x (ints C)) (hm : 1 ≤ m ∧ m ≤ 15) (hr : ∀ y ∈ C, 0 ≤ y ∧ y ≤ 2147483647) (hs : (xh C).length ≤ 2 ^ m) (ro : yJ m K (xK C)) :
 aS AP.A 30 [x, .int .i64 m] h = some (.bU [zO 1 C.length (ints (xA C K)), .int .i64 0], h) := by
 have Es : Rd h.ez x (ints C) := rd.mono (wJ h)
 have ln := rd.len
 rw [qy] at ln
 simp only [I] at ln
 obtain ⟨h1, sv, wv, L1, os, ow, ap, f1, fl1⟩ := Eg (mv := .int .i64 m) (by omega) hr h.ez Es C [] [] [] h.ez .aQ .aQ rfl (Ext.refl _) rfl (by simp) wW.nil wW.nil (fun j hj => by simp [AV.id?] at hj) (by simp) (by simp)
 have L1' : Lp AP.A [0, 1, 6, 7, 8] AP.f30L3 [(0, x), (1, .int .i64 m), (6, .aQ), (7, .aQ), (8, .int .i64 0)] h.ez = _ := L1
 simp only [List.nil_append, UR] at os ow
 have sl := zP 0 C
 obtain ⟨h2', sv2, wv2, P, os2, ow2, ap2, f2, fl2⟩ := T7 (x := x) (most := m) (yC 0 C).symm (by omega) fl1 os ow ap
 change wW 1 h2' sv2 (xh C).length (ints (xh C)) at os2
 change wW 1 h2' wv2 (xK C).length (ints (xK C)) at ow2
 have hSl : (xh C).length ≤ C.length := Dn h2 sl
 have hSr : ∀ s ∈ xh C, 0 ≤ s ∧ s < C.length := HQ h2 fun s hs => by have := yT 0 C s hs; omega
 have hWr : ∀ y ∈ xK C, 0 ≤ y ∧ y < 1000000000000 := LC (yC 0 C).symm fun y hy => by
  have := hr y (Ah C y hy).1; omega
 have hWS := Gm C
 obtain ⟨h3, eh3⟩ : ∃ g, g = h2'.alloc (yX C.length [.int .i64 0]) := ⟨_, rfl⟩
 have g3 : h3.get h2'.next = some (ints (List.replicate C.length 0)) := by rw [eh3, wO rfl, zq]
 have os3 : wW 1 h3 sv2 (xh C).length (ints (xh C)) := os2.mono (by rw [eh3]; simp) fun j hj => by rw [eh3, wY (by have := (os2.lt hj).2; omega)]
 have ow3 : wW 1 h3 wv2 (xK C).length (ints (xK C)) := ow2.mono (by rw [eh3]; simp) fun j hj => by rw [eh3, wY (by have := (ow2.lt hj).2; omega)]
 have fl3 : h3.floor = h.next := by rw [eh3]; simp [f2, f1]
 obtain ⟨h4, L4, g4, f4⟩ := Jn (n := C.length) (oid := h2'.next) (most := m) (by omega) hn hSr ap2 (fun q => by have := (os2.lt q).2; omega) (fun q => by have := (ow2.lt q).2; omega) (by omega) K (xK C) (List.replicate C.length 0) h3 ro hWS (by simp) (by rw [eh3]; simp; omega) os3 ow3 g3 (by rw [eh3]; simp; omega) hWr
 have s1 : qe .shl .i64 1 (m : Int) = some (.int .i64 ((2 ^ m : Nat) : Int)) := by
  have := y9 (a := 1) (s := m) (by omega) (by
   have : 2 ^ m ≤ 2 ^ 15 := UX (by omega) hm.2
   omega)
  rwa [Nat.one_mul] at this
 have lS : jy false sv2 = some (.int .i64 (xh C).length) := os2.rd.len
 have t5 : aM (aS AP.A) bG (Mh 5 AP.f30.body) [(0, x), (1, .int .i64 m), (6, sv2), (7, wv2)] h2' = some (.ret, [(4, .aF h2'.next 0 C.length 1), (5, .int .i64 0)], h4) := by
  clear os ow os2 ow2 os3 ow3 rd Es hSr hWr ro hr L1 P
  generalize 2 ^ m = M at *
  generalize (xh C).length = sL at *
  simp (disch := omega) only [go_sem, wy, wz, Nat.reduceEqDiff, reduceIte, Nat.reduceAdd, Nat.reduceMul, Nat.reduceLT, Nat.reduceLeDiff, Int.reduceBEq, Int.reduceBNe, Int.reduceLT, Int.reduceLE, Int.reduceEq, wI, cf.aP, cf.aJ, Int.reduceAdd, Int.reduceSub, Int.reduceMul, Int.reduceNeg, Int.reduceToNat, AP.f30, Nd, Nc, lS, s1, ln, ← eh3, th, L4]
 have lo : (xA C K).length = C.length := by
  unfold xA
  have : ∀ (K : Nat) (S W O : List Int), (Bv S K W O).length = O.length := by
   intro K
   induction K with
   | zero => intro S W O; rw [Bv, xS]
   | succ K ih => intro S W O; rw [Bv, ih, xS]
  rw [this]; simp
 have ow4 : wW 1 h4 (.aF h2'.next 0 C.length 1) C.length (ints (xA C K)) := ⟨by rw [qy, lo]; omega, .inr ⟨h2'.next, rfl, g4, by rw [f4, fl3]; have := fl2; rw [f2, f1] at this; simpa using this, by omega⟩⟩
 refine u7 (fn := AP.f30) (h2 := h4) (e := [(4, .aF h2'.next 0 C.length 1), (5, .int .i64 0)]) (vs := [.aF h2'.next 0 C.length 1, .int .i64 0]) rfl rfl rfl ?_ rfl ?_
 · have hb : AP.f30.body = .seq (at_ 0 AP.f30.body) (.seq (at_ 1 AP.f30.body) (.seq (at_ 2 AP.f30.body) (.seq (at_ 3 AP.f30.body) (.seq (at_ 4 AP.f30.body) (Mh 5 AP.f30.body))))) := rfl
   have a0 : aM (aS AP.A) bG (at_ 0 AP.f30.body) (params 0 [x, .int .i64 m]) h.ez = some (.normal, [(0, x), (1, .int .i64 m)], h.ez) := by
    simp (disch := omega) only [go_sem, wy, wz, Nat.reduceEqDiff, reduceIte, Nat.reduceAdd, Nat.reduceMul, Nat.reduceLT, Nat.reduceLeDiff, Int.reduceBEq, Int.reduceBNe, Int.reduceLT, Int.reduceLE, Int.reduceEq, wI, cf.aP, cf.aJ, Int.reduceAdd, Int.reduceSub, Int.reduceMul, Int.reduceNeg, Int.reduceToNat, AP.f30, xV, xY]
   have a1 : aM (aS AP.A) bG (at_ 1 AP.f30.body) [(0, x), (1, .int .i64 m)] h.ez = some (.normal, [(0, x), (1, .int .i64 m)], h.ez) := by
    clear os ow os2 ow2 os3 ow3 rd Es hSr hWr ro hr L1 P t5
    simp (disch := omega) only [go_sem, wy, wz, Nat.reduceEqDiff, reduceIte, Nat.reduceAdd, Nat.reduceMul, Nat.reduceLT, Nat.reduceLeDiff, Int.reduceBEq, Int.reduceBNe, Int.reduceLT, Int.reduceLE, Int.reduceEq, wI, cf.aP, cf.aJ, Int.reduceAdd, Int.reduceSub, Int.reduceMul, Int.reduceNeg, Int.reduceToNat, AP.f30, xV, xY, ln]
   have a2 : aM (aS AP.A) bG (at_ 2 AP.f30.body) [(0, x), (1, .int .i64 m)] h.ez = some (.normal, [(0, x), (1, .int .i64 m), (6, .aQ), (7, .aQ)], h.ez) := by
    simp (disch := omega) only [go_sem, wy, wz, Nat.reduceEqDiff, reduceIte, Nat.reduceAdd, Nat.reduceMul, Nat.reduceLT, Nat.reduceLeDiff, Int.reduceBEq, Int.reduceBNe, Int.reduceLT, Int.reduceLE, Int.reduceEq, wI, cf.aP, cf.aJ, Int.reduceAdd, Int.reduceSub, Int.reduceMul, Int.reduceNeg, Int.reduceToNat, AP.f30, xV, xY]
   have a3 : aM (aS AP.A) bG (at_ 3 AP.f30.body) [(0, x), (1, .int .i64 m), (6, .aQ), (7, .aQ)] h.ez = some (.normal, [(0, x), (1, .int .i64 m), (6, sv), (7, wv)], h1) := by
    simp (disch := omega) only [go_sem, wy, wz, Nat.reduceEqDiff, reduceIte, Nat.reduceAdd, Nat.reduceMul, Nat.reduceLT, Nat.reduceLeDiff, Int.reduceBEq, Int.reduceBNe, Int.reduceLT, Int.reduceLE, Int.reduceEq, wI, cf.aP, cf.aJ, Int.reduceAdd, Int.reduceSub, Int.reduceMul, Int.reduceNeg, Int.reduceToNat, AP.f30, xV, xY, th, L1']
   rw [hb, sS, a0, tP, sS, a1, tP, sS, a2, tP, sS, a3, tP, sS, P, tP, t5]
 · have s1 := ow4.yj (fl := h.next) (m := 13) (t := true) (by omega)
   show (fV (snap h4.get h.next 15 true) [.aF h2'.next 0 C.length 1, .int .i64 0]).bind _ = _
   simp only [fV, s1, vO]
   rfl
theorem Ec (W : List Int) (F : List Bool) : ∀ (m i : Nat) (a : Int), (a = -1 ∧ (∀ j, j < i → F.getD j false = false)) ∨ (∃ k : Nat, a = k ∧ k < i ∧ F.getD k false = true ∧ ∀ j, j < i → F.getD j false = true → W.getD k 0 ≤ W.getD j 0) →
 (xG W F m i a = -1 ∧ (∀ j, j < i + m → F.getD j false = false)) ∨ (∃ k : Nat, xG W F m i a = k ∧ k < i + m ∧ F.getD k false = true ∧ ∀ j, j < i + m → F.getD j false = true → W.getD k 0 ≤ W.getD j 0)
 | 0, i, a, h => by simpa [xG] using h
 | m + 1, i, a, h => by
   rw [xG]
   have e : i + (m + 1) = i + 1 + m := by omega
   rw [e]
   refine Ec W F m (i + 1) _ ?_
   by_cases c : F.getD i false = true ∧ (a < 0 ∨ W.getD i 0 < W.getD a.toNat 0)
   · rw [if_pos c]
     refine .inr ⟨i, rfl, by omega, c.1, fun j hj hf => ?_⟩
     by_cases q : j = i
     · subst q; exact Int.le_refl _
     · rcases h with ⟨_, h2⟩ | ⟨k, rfl, h1, h2, h3⟩
       · rw [h2 j (by omega)] at hf; cases hf
       · have := h3 j (by omega) hf
         have tk : ((k : Nat) : Int).toNat = k := by omega
         rw [tk] at c
         have := c.2
         omega
   · rw [if_neg c]
     rcases h with ⟨rfl, h2⟩ | ⟨k, rfl, h1, h2, h3⟩
     · refine .inl ⟨rfl, fun j hj => ?_⟩
       by_cases q : j = i
       · subst q
         cases e : F.getD j false with
         | false => rfl
         | true => exact absurd ⟨e, .inl (by omega)⟩ c
       · exact h2 j (by omega)
     · refine .inr ⟨k, rfl, by omega, h2, fun j hj hf => ?_⟩
       by_cases q : j = i
       · subst q
         have tk : ((k : Nat) : Int).toNat = k := by omega
         rw [tk] at c
         have : ¬ (W.getD j 0 < W.getD k 0) := fun x => c ⟨hf, .inr x⟩
         omega
       · exact h3 j (by omega) hf
theorem Ed {W : List Int} {F : List Bool} (hl : F.length = W.length) {i : Nat} (hi : F.getD i false = true) : 0 ≤ xG W F W.length 0 (-1) ∧ xn W F < W.length ∧ F.getD (xn W F) false = true ∧ ∀ j, F.getD j false = true → W.getD (xn W F) 0 ≤ W.getD j 0 := by
 have hiL : ∀ j, F.getD j false = true → j < F.length := by
  intro j hj
  rw [UM] at hj
  cases e : F[j]? with
  | none => rw [e] at hj; cases hj
  | some b => exact (vN.1 e).1
 rcases Ec W F W.length 0 (-1) (.inl ⟨rfl, fun j hj => by omega⟩) with ⟨_, h2⟩ | ⟨k, h1, h2, h3, h4⟩
 · have := h2 i (by have := hiL i hi; omega)
   rw [hi] at this; cases this
 · have ek : xn W F = k := by unfold xn; rw [h1]; omega
   rw [ek]
   exact ⟨by omega, by omega, h3, fun j hj => h4 j (by have := hiL j hj; omega) hj⟩
def MX (U : List Int) : Nat → Nat → Nat → Prop
 | 0, i, r => i = r
 | d + 1, i, r => ∃ j : Nat, U[i]? = some (j : Int) ∧ MX U d j r
theorem Em {U : List Int} : ∀ {d i r : Nat} {j : Nat}, MX U d i r → U[r]? = some (j : Int) → MX U (d + 1) i j
 | 0, i, r, j, h, hj => by
   have : i = r := h
   subst this
   exact ⟨j, hj, rfl⟩
 | d + 1, i, r, j, ⟨k, h1, h2⟩, hj => ⟨k, h1, Em h2 hj⟩
theorem Jv {U : List Int} (up : EV U) : ∀ {d i r : Nat}, MX U d i r → U.getD r (-1) = -1 → ∀ m, d ≤ m → Af U m (U.getD i (-1)) = d
 | 0, i, r, h, hr, m, hm => by
   have : i = r := h
   subst this
   rw [hr]
   cases m with
   | zero => rfl
   | succ m => rw [Af, if_neg (by omega)]
 | d + 1, i, r, ⟨j, h1, h2⟩, hr, m, hm => by
   obtain ⟨m, rfl⟩ : ∃ k, m = k + 1 := ⟨m - 1, by omega⟩
   have e : U.getD i (-1) = (j : Int) := by rw [UM, h1]; rfl
   rw [e, Af, if_pos (by omega)]
   have tj : ((j : Nat) : Int).toNat = j := by omega
   rw [tj, Jv up h2 hr m (by omega)]
theorem IH {U : List Int} (up : EV U) : ∀ {d i r : Nat}, MX U d i r → i + d ≤ r
 | 0, i, r, h => by
   have : i = r := h
   omega
 | d + 1, i, r, ⟨j, h1, h2⟩ => by
   have := IH up h2
   have hi := (vN.1 h1).1
   have e : U.getD i (-1) = (j : Int) := by rw [UM, h1]; rfl
   have := up i hi
   rw [e] at this
   omega
def zm (U : List Int) (a b : Nat) : List Int := (U.set a U.length).set b U.length ++ [-1]
theorem Fh (U : List Int) (a b : Nat) : (zm U a b).length = U.length + 1 := by simp [zm]
theorem CZ {U : List Int} {a b i : Nat} (hi : i < U.length) (ha : a ≠ i) (hb : b ≠ i) : (zm U a b)[i]? = U[i]? := by
 unfold zm
 rw [Ve (by simpa using hi), U4, if_neg hb, U4, if_neg ha]
theorem Jj {U : List Int} {a b : Nat} (ha : a < U.length) : (zm U a b)[a]? = some (U.length : Int) := by
 unfold zm
 rw [Ve (by simpa using ha), U4]
 split
 · rename_i e; subst e; simp [ha]
 · rw [U4, if_pos rfl, if_pos ha]
theorem Jk {U : List Int} {a b : Nat} (hb : b < U.length) : (zm U a b)[b]? = some (U.length : Int) := by
 unfold zm
 rw [Ve (by simpa using hb), U4, if_pos rfl, if_pos (by simpa using hb)]
theorem Jl {U : List Int} {a b : Nat} : (zm U a b)[U.length]? = some (-1) := by
 unfold zm
 rw [U6 (by simp)]; simp
theorem CJ {U : List Int} {a b : Nat} (ha : U[a]? = some (-1)) (hb : U[b]? = some (-1)) : ∀ {d i r : Nat}, MX U d i r → MX (zm U a b) d i r
 | 0, i, r, h => h
 | d + 1, i, r, ⟨j, h1, h2⟩ => by
   refine ⟨j, ?_, CJ ha hb h2⟩
   rw [CZ (vN.1 h1).1 (fun e => by rw [e, h1] at ha; have := vG ha; omega) (fun e => by rw [e, h1] at hb; have := vG hb; omega), h1]
theorem Ko {U : List Int} {a b : Nat} (ha : a < U.length) (hb : b < U.length) (up : EV U) : EV (zm U a b) := by
 intro j hj
 rw [Fh] at hj ⊢
 by_cases e : j = U.length
 · subst e
   left
   rw [UM, Jl]; rfl
 · by_cases ea : a = j
   · subst ea
     right
     rw [UM, Jj ha]
     simp; omega
   · by_cases eb : b = j
     · subst eb
       right
       rw [UM, Jk hb]
       simp; omega
     · have := up j (by omega)
       rw [UM, CZ (by omega) ea eb, ← UM]
       omega
theorem FS.Tj (s : FS) : s.Ij.U = zm s.U s.a s.b := rfl
abbrev Tr := Nat × List (Nat × Nat)
def kr (D : Nat) (l : List (Nat × Nat)) : Nat := (l.map fun p => 2 ^ (D - p.2)).sum
structure Bm (bal : Bool) (n : Nat) (tot : Int) (s : FS) (T : List Tr) : Prop where
 lu : s.U.length = s.W.length
 lf : s.F.length = s.W.length
 root : ∀ t ∈ T, s.F.getD t.1 false = true ∧ s.U[t.1]? = some (-1)
 free : ∀ i, s.F.getD i false = true → ∃ t ∈ T, t.1 = i
 nd : (T.map (·.1)).Nodup
 pt : ∀ t ∈ T, ∀ p ∈ t.2, MX s.U p.2 p.1 t.1
 leaves : (T.flatMap fun t => t.2.map (·.1)).Perm (List.range n)
 Ea : ∀ t ∈ T, ∀ D, (∀ p ∈ t.2, p.2 ≤ D) → kr D t.2 = 2 ^ D
 ne : ∀ t ∈ T, t.2 ≠ []
 Kq : ∀ t ∈ T, 1 ≤ s.W.getD t.1 0
 up : EV s.U
 sum : (T.map fun t => s.W.getD t.1 0).sum = tot
 Mq : bal = true → ∀ t ∈ T, ∀ u ∈ T, s.W.getD t.1 0 ≤ 2 * s.W.getD u.1 0
 JO : bal = true → ∀ t ∈ T, ∀ p ∈ t.2, (3 : Int) ^ p.2 ≤ s.W.getD t.1 0 * 2 ^ p.2
theorem Kf {l l' : List Int} (p : l.Perm l') : l.sum = l'.sum := by
 induction p with
 | nil => rfl
 | cons x _ ih => simp only [Vh, ih]
 | swap x y l => simp only [Vh]; omega
 | trans _ _ h1 h2 => exact h1.trans h2
theorem FG {l l' : List Nat} (p : l.Perm l') : l.sum = l'.sum := by
 induction p with
 | nil => rfl
 | cons x _ ih => simp only [Vh, ih]
 | swap x y l => simp only [Vh]; omega
 | trans _ _ h1 h2 => exact h1.trans h2
theorem Bm.perm {bal : Bool} {n : Nat} {tot : Int} {s : FS} {T T' : List Tr} (v : Bm bal n tot s T) (p : T.Perm T') : Bm bal n tot s T' where
 lu := v.lu
 lf := v.lf
 root t h := v.root t (p.mem_iff.2 h)
 free i h := by
  obtain ⟨t, h1, h2⟩ := v.free i h
  exact ⟨t, p.mem_iff.1 h1, h2⟩
 nd := (p.map _).nodup_iff.1 v.nd
 pt t h := v.pt t (p.mem_iff.2 h)
 leaves := ((p.flatMap_right _).symm).trans v.leaves
 Ea t h := v.Ea t (p.mem_iff.2 h)
 ne t h := v.ne t (p.mem_iff.2 h)
 Kq t h := v.Kq t (p.mem_iff.2 h)
 up := v.up
 sum := by rw [← v.sum]; exact (Kf (p.map _)).symm
 Mq hb t h u h2 := v.Mq hb t (p.mem_iff.2 h) u (p.mem_iff.2 h2)
 JO hb t h := v.JO hb t (p.mem_iff.2 h)
def Aq (l : List (Nat × Nat)) : List (Nat × Nat) := l.map fun p => (p.1, p.2 + 1)
theorem J4 {D : Nat} {l : List (Nat × Nat)} : kr (D + 1) (Aq l) = kr D l := by
 unfold kr Aq
 rw [List.map_map]
 congr 1
 refine Vi fun p _ => ?_
 show 2 ^ (D + 1 - (p.2 + 1)) = _
 rw [Nat.add_sub_add_right]
theorem P2 (D : Nat) (a b : List (Nat × Nat)) : kr D (a ++ b) = kr D a + kr D b := by simp [kr]
theorem getD_set_ne {α : Type} {l : List α} {i j : Nat} {x d : α} (h : i ≠ j) : (l.set i x).getD j d = l.getD j d := by
 rw [UM, U4, if_neg h, ← UM]
theorem BJ {l : List Bool} {i : Nat} : (l.set i false).getD i false = false := by
 rw [UM, U4, if_pos rfl]
 split <;> rfl
theorem Bm.two {bal : Bool} {n : Nat} {tot : Int} {s : FS} {T : List Tr} (v : Bm bal n tot s T) (h2 : 2 ≤ T.length) :
 ∃ ta tb T2, T.Perm (ta :: tb :: T2) ∧ ta.1 = s.a ∧ tb.1 = s.b ∧ 0 ≤ xG s.W s.F s.W.length 0 (-1) ∧ 0 ≤ xG s.W s.F1 s.W.length 0 (-1) ∧ s.W.getD s.a 0 ≤ s.W.getD s.b 0 ∧ (∀ t ∈ T2, s.W.getD s.b 0 ≤ s.W.getD t.1 0) := by
 obtain ⟨t0, t1, T0, rfl⟩ : ∃ t0 t1 T0, T = t0 :: t1 :: T0 := by
  match T, h2 with
  | t0 :: t1 :: T0, _ => exact ⟨t0, t1, T0, rfl⟩
 obtain ⟨l1, la, fa, ma⟩ := Ed v.lf (v.root t0 (by simp)).1
 obtain ⟨ta, hta, ea⟩ := v.free _ fa
 have p1 := List.perm_cons_erase hta
 have v1 := v.perm p1
 obtain ⟨T1, eT1⟩ : ∃ T1, T1 = (t0 :: t1 :: T0).erase ta := ⟨_, rfl⟩
 rw [← eT1] at p1 v1
 have lT1 : T1 ≠ [] := by
  intro e
  have := p1.length_eq
  rw [e] at this
  simp at this
 obtain ⟨tx, hx⟩ := List.exists_mem_of_ne_nil _ lT1
 have nd1 : ∀ t ∈ T1, t.1 ≠ ta.1 := by
  intro t ht e
  have := v1.nd
  rw [UW, List.nodup_cons] at this
  exact this.1 (U9.2 ⟨t, ht, e⟩)
 have f1 : ∀ t ∈ T1, s.F1.getD t.1 false = true := by
  intro t ht
  have := (v1.root t (by simp [ht])).1
  show (s.F.set s.a false).getD t.1 false = true
  rw [getD_set_ne (by have := nd1 t ht; intro e; exact this (by rw [ea, ← e]; rfl)), this]
 obtain ⟨l2, lb, fb, mb⟩ := Ed (W := s.W) (F := s.F1) (by show (s.F.set s.a false).length = _; rw [U5]; exact v.lf) (f1 tx hx)
 have hnb : s.a ≠ s.b := by
  intro e
  have fb' : s.F1.getD s.b false = true := fb
  rw [← e] at fb'
  have : (s.F.set s.a false).getD s.a false = true := fb'
  rw [BJ] at this; cases this
 have fb2 : s.F.getD s.b false = true := by
  have fb' : (s.F.set s.a false).getD s.b false = true := fb
  rwa [getD_set_ne hnb] at fb'
 obtain ⟨tb, htb, eb⟩ := v1.free _ fb2
 have htb1 : tb ∈ T1 := by
  rcases wj.1 htb with q | q
  · subst q; exact absurd (ea.symm.trans eb) hnb
  · exact q
 have p2 := List.perm_cons_erase htb1
 refine ⟨ta, tb, T1.erase tb, p1.trans (p2.cons ta), ea, eb, l1, l2, ma _ fb2, fun t ht => mb _ (f1 t (List.mem_of_mem_erase ht))⟩
theorem Bm.step {bal : Bool} {n : Nat} {tot : Int} {s : FS} {T : List Tr} (v : Bm bal n tot s T) (h2 : 2 ≤ T.length) (ht : tot < 1000000000000000) : s.ok ∧ ∃ T', T'.length + 1 = T.length ∧ Bm bal n tot s.Ij T' := by
 obtain ⟨ta, tb, T2, p, ea, eb, l1, l2, wab, wbt⟩ := v.two h2
 have lT := p.length_eq
 have v1 := v.perm p
 have nd := v1.nd
 rw [UW, UW, List.nodup_cons, List.nodup_cons] at nd
 obtain ⟨nd1, nd2, nd3⟩ := nd
 have ra := v1.root ta (by simp)
 have rb := v1.root tb (by simp)
 rw [ea] at ra
 rw [eb] at rb
 have hla : s.a < s.U.length := (vN.1 ra.2).1
 have hlb : s.b < s.U.length := (vN.1 rb.2).1
 have wa := v1.Kq ta (by simp)
 have wb1 := v1.Kq tb (by simp)
 rw [ea] at wa
 rw [eb] at wb1
 have sm := v1.sum
 rw [UW, UW, Vh, Vh, ea, eb] at sm
 have nn : 0 ≤ (T2.map fun t => s.W.getD t.1 0).sum := by
  have : ∀ l : List Tr, (∀ t ∈ l, 1 ≤ s.W.getD t.1 0) → 0 ≤ (l.map fun t => s.W.getD t.1 0).sum := by
   intro l
   induction l with
   | nil => intro _; simp
   | cons x l ih => intro h; have := ih fun t ht => h t (by simp [ht]); have := h x (by simp); simp only [UW, Vh]; omega
  exact this T2 fun t ht => v1.Kq t (by simp [ht])
 have es : s.sum = s.W.getD s.a 0 + s.W.getD s.b 0 := rfl
 refine ⟨⟨v.lu, v.lf, l1, l2, by omega⟩, (s.U.length, Aq (ta.2 ++ tb.2)) :: T2, by rw [lT]; simp, ?_⟩
 have nT2 : ∀ t ∈ T2, t.1 ≠ s.a ∧ t.1 ≠ s.b ∧ t.1 < s.U.length := fun t ht => ⟨fun e => nd1 (by simp only [wj, U9]; exact .inr ⟨t, ht, by rw [e, ea]⟩), fun e => nd2 (U9.2 ⟨t, ht, by rw [e, eb]⟩), (vN.1 (v1.root t (by simp [ht])).2).1⟩
 have mW : ∀ i, i < s.W.length → s.Ij.W.getD i 0 = s.W.getD i 0 := fun i hi => by
  show (s.W ++ [s.sum]).getD i 0 = _
  rw [UM, Ve hi, ← UM]
 have mWn : s.Ij.W.getD s.U.length 0 = s.sum := by
  show (s.W ++ [s.sum]).getD s.U.length 0 = _
  rw [v.lu, UM, U6 (vR _)]; simp
 have lF2 : s.F2.length = s.W.length := by show ((s.F.set s.a false).set s.b false).length = _; rw [U5, U5, v.lf]
 have mF : ∀ i, i < s.W.length → s.Ij.F.getD i false = s.F2.getD i false := fun i hi => by
  show (s.F2 ++ [true]).getD i false = _
  rw [UM, Ve (by omega), ← UM]
 have mFn : s.Ij.F.getD s.U.length false = true := by
  show (s.F2 ++ [true]).getD s.U.length false = _
  rw [v.lu, UM, U6 (by omega), lF2]; simp
 have F2o : ∀ i, i ≠ s.a → i ≠ s.b → s.F2.getD i false = s.F.getD i false := fun i h1 h2 => by
  show ((s.F.set s.a false).set s.b false).getD i false = _
  rw [getD_set_ne h2.symm, getD_set_ne h1.symm]
 have F2a : s.a ≠ s.b → s.F2.getD s.a false = false := fun h => by
  show ((s.F.set s.a false).set s.b false).getD s.a false = _
  rw [getD_set_ne h.symm, BJ]
 have F2b : s.F2.getD s.b false = false := BJ
 have hab : s.a ≠ s.b := fun e => nd1 (by simp only [wj]; exact .inl (by rw [ea, eb, e]))
 have jl : ∀ p ∈ ta.2 ++ tb.2, MX (zm s.U s.a s.b) (p.2 + 1) p.1 s.U.length := fun q hq => by
  rcases Vf.1 hq with h | h
  · have := v1.pt ta (by simp) q h
    rw [ea] at this
    exact Em (CJ ra.2 rb.2 this) (Jj hla)
  · have := v1.pt tb (by simp) q h
    rw [eb] at this
    exact Em (CJ ra.2 rb.2 this) (Jk hlb)
 have lu := v.lu
 have lf := v.lf
 have getT2 : ∀ t ∈ T2, s.Ij.W.getD t.1 0 = s.W.getD t.1 0 := fun t ht => mW _ (by have := (nT2 t ht).2.2; omega)
 have W2 : ∀ t ∈ (s.U.length, Aq (ta.2 ++ tb.2)) :: T2, (t.1 = s.U.length ∧ t.2 = Aq (ta.2 ++ tb.2) ∧ s.Ij.W.getD t.1 0 = s.sum) ∨ (t ∈ T2 ∧ s.Ij.W.getD t.1 0 = s.W.getD t.1 0) := fun t ht => by
  rcases wj.1 ht with q | q
  · subst q; exact .inl ⟨rfl, rfl, mWn⟩
  · exact .inr ⟨q, getT2 t q⟩
 constructor
 · show (zm s.U s.a s.b).length = (s.W ++ [s.sum]).length
   rw [Fh]; simp [lu]
 · show (s.F2 ++ [true]).length = (s.W ++ [s.sum]).length
   simp [lF2]
 · intro t ht
   rcases wj.1 ht with q | q
   · subst q
     exact ⟨mFn, Jl⟩
   · have n := nT2 t q
     have r := v1.root t (by simp [q])
     refine ⟨by rw [mF _ (by omega), F2o _ n.1 n.2.1]; exact r.1, ?_⟩
     rw [FS.Tj, CZ n.2.2 n.1.symm n.2.1.symm]; exact r.2
 · intro i hi
   by_cases e : i = s.U.length
   · exact ⟨_, List.mem_cons_self .., e.symm⟩
   · have hiL : i < s.W.length := by
      apply Vd
      intro c
      have : s.Ij.F.length = s.W.length + 1 := by show (s.F2 ++ [true]).length = _; simp [lF2]
      rw [UM, U8 (by omega)] at hi
      cases hi
     rw [mF i hiL] at hi
     have h1 : i ≠ s.a := fun q => by rw [q, F2a hab] at hi; cases hi
     have h2 : i ≠ s.b := fun q => by rw [q, F2b] at hi; cases hi
     rw [F2o i h1 h2] at hi
     obtain ⟨t, ht, et⟩ := v1.free i hi
     rcases wj.1 ht with q | q
     · subst q; exact absurd (et.symm.trans ea) h1
     · rcases wj.1 q with q | q
       · subst q; exact absurd (et.symm.trans eb) h2
       · exact ⟨t, List.mem_cons_of_mem _ q, et⟩
 · rw [UW, List.nodup_cons]
   refine ⟨fun hm => ?_, nd3⟩
   obtain ⟨t, ht, e⟩ := U9.1 hm
   have := (nT2 t ht).2.2
   rw [e] at this
   exact absurd this (by simp)
 · intro t ht
   rcases wj.1 ht with q | q
   · subst q
     intro q hq
     obtain ⟨q', hq', rfl⟩ := U9.1 hq
     exact jl q' hq'
   · intro x hx
     exact CJ ra.2 rb.2 (v1.pt t (by simp [q]) x hx)
 · have lv := v1.leaves
   refine List.Perm.trans ?_ lv
   rw [UU, UU, UU, ← UY]
   have : (Aq (ta.2 ++ tb.2)).map (·.1) = ta.2.map (·.1) ++ tb.2.map (·.1) := by
    unfold Aq; rw [List.map_map, List.map_append]; rfl
   rw [this]
 · intro t ht
   rcases wj.1 ht with q | q
   · subst q
     intro D hD
     have hne := v1.ne ta (by simp)
     obtain ⟨x, hx⟩ := List.exists_mem_of_ne_nil _ hne
     have h1 := hD (x.1, x.2 + 1) (U9.2 ⟨x, List.mem_append_left _ hx, rfl⟩)
     obtain ⟨D, rfl⟩ : ∃ E, D = E + 1 := ⟨D - 1, by simp at h1; omega⟩
     rw [J4, P2]
     rw [v1.Ea ta (by simp) D fun y hy => by have := hD (y.1, y.2 + 1) (U9.2 ⟨y, List.mem_append_left _ hy, rfl⟩); simp at this; omega]
     rw [v1.Ea tb (by simp) D fun y hy => by have := hD (y.1, y.2 + 1) (U9.2 ⟨y, List.mem_append_right _ hy, rfl⟩); simp at this; omega]
     rw [Nat.pow_succ]; omega
   · exact v1.Ea t (by simp [q])
 · intro t ht
   rcases wj.1 ht with q | q
   · subst q
     have hne := v1.ne ta (by simp)
     intro e
     have : Aq (ta.2 ++ tb.2) = [] := e
     unfold Aq at this
     rw [List.map_eq_nil_iff, List.append_eq_nil_iff] at this
     exact hne this.1
   · exact v1.ne t (by simp [q])
 · intro t ht
   rcases W2 t ht with ⟨_, _, e⟩ | ⟨q, e⟩
   · rw [e]; omega
   · rw [e]; exact v1.Kq t (by simp [q])
 · exact Ko hla hlb v.up
 · rw [UW, Vh, mWn, Vi getT2]; omega
 · intro hb t ht u hu
   have b1 := v1.Mq hb
   have ba := b1 tb (by simp) ta (by simp)
   rw [ea, eb] at ba
   rcases W2 t ht with ⟨_, _, e⟩ | ⟨q, e⟩
   · rcases W2 u hu with ⟨_, _, e'⟩ | ⟨q', e'⟩
     · rw [e, e']; omega
     · rw [e, e']; have := wbt u q'; omega
   · rcases W2 u hu with ⟨_, _, e'⟩ | ⟨q', e'⟩
     · rw [e, e']; have := b1 t (by simp [q]) ta (by simp); rw [ea] at this; omega
     · rw [e, e']; exact b1 t (by simp [q]) u (by simp [q'])
 · intro hb t ht x hx
   have b1 := v1.Mq hb
   have ba := b1 tb (by simp) ta (by simp)
   have bb := b1 ta (by simp) tb (by simp)
   rw [ea, eb] at ba bb
   rcases W2 t ht with ⟨_, e2, e⟩ | ⟨q, e⟩
   · rw [e]
     rw [e2] at hx
     obtain ⟨y, hy, rfl⟩ := U9.1 hx
     have p2 : (0 : Int) < 2 ^ y.2 := Int.pow_pos (by omega)
     show (3 : Int) ^ (y.2 + 1) ≤ s.sum * 2 ^ (y.2 + 1)
     rw [Int.pow_succ, Int.pow_succ]
     have key : ∀ w : Int, (3 : Int) ^ y.2 ≤ w * 2 ^ y.2 → 3 * w ≤ 2 * s.sum → (3 : Int) ^ y.2 * 3 ≤ s.sum * (2 ^ y.2 * 2) := fun w h1 h2 => by
      have a1 : (3 : Int) ^ y.2 * 3 ≤ (w * 2 ^ y.2) * 3 := Int.mul_le_mul_of_nonneg_right h1 (by omega)
      have a2 : (3 * w) * 2 ^ y.2 ≤ (2 * s.sum) * 2 ^ y.2 := Int.mul_le_mul_of_nonneg_right h2 (by omega)
      have a3 : (w * 2 ^ y.2) * 3 = (3 * w) * 2 ^ y.2 := by rw [Int.mul_comm 3 w, Int.mul_assoc, Int.mul_assoc, Int.mul_comm _ 3]
      have a4 : s.sum * (2 ^ y.2 * 2) = (2 * s.sum) * 2 ^ y.2 := by rw [Int.mul_comm 2 s.sum, Int.mul_assoc, Int.mul_comm 2 (2 ^ y.2)]
      omega
     rcases Vf.1 hy with h | h
     · have := v1.JO hb ta (by simp) y h
       rw [ea] at this
       exact key _ this (by omega)
     · have := v1.JO hb tb (by simp) y h
       rw [eb] at this
       exact key _ this (by omega)
   · rw [e]; exact v1.JO hb t (by simp [q]) x hx
def T0 (n : Nat) : List Tr := (List.range n).map fun i => (i, [(i, 0)])
theorem EG : ∀ (ws : List Int), ((List.range ws.length).map fun i => ws.getD i 0).sum = ws.sum := by
 intro ws
 have : (List.range ws.length).map (fun i => ws.getD i 0) = ws := by
  apply List.ext_getElem?
  intro i
  rw [v7]
  by_cases h : i < ws.length
  · rw [Vp h, UP h]; simp [UM, h]
  · rw [U8 (by simp; omega), U8 (by omega)]; rfl
 rw [this]
theorem Bg {α : Type} {n i : Nat} {x d : α} (h : i < n) : (List.replicate n x).getD i d = x := by
 rw [UM, List.getElem?_replicate, if_pos h]; rfl
theorem Bm.init (ws : List Int) (bal : Bool) (pos : ∀ y ∈ ws, 1 ≤ y) (hb : bal = true → ∀ y ∈ ws, y = 1) : Bm bal ws.length ws.sum (Ax ws) (T0 ws.length) := by
 have mem : ∀ t ∈ T0 ws.length, ∃ i, i < ws.length ∧ t = (i, [(i, 0)]) := fun t ht => by
  obtain ⟨i, hi, rfl⟩ := U9.1 ht
  exact ⟨i, Vs.1 hi, rfl⟩
 have gw : ∀ i, i < ws.length → ws.getD i 0 ∈ ws := fun i hi => by
  rw [UM, UP hi]; exact Vb hi
 constructor
 · simp [Ax]
 · simp [Ax]
 · intro t ht
   obtain ⟨i, hi, rfl⟩ := mem t ht
   exact ⟨Bg hi, by show (List.replicate ws.length (-1 : Int))[i]? = _; rw [List.getElem?_replicate, if_pos hi]⟩
 · intro i hi
   have : i < ws.length := by
    apply Vd
    intro c
    have e : (Ax ws).F.getD i false = false := by
     show (List.replicate ws.length true).getD i false = false
     rw [UM, U8 (by simp; omega)]; rfl
    rw [e] at hi; cases hi
   exact ⟨(i, [(i, 0)]), U9.2 ⟨i, Vs.2 this, rfl⟩, rfl⟩
 · unfold T0
   rw [List.map_map]
   have : ((fun t : Tr => t.1) ∘ fun i => ((i, [(i, 0)]) : Tr)) = id := rfl
   rw [this, List.map_id]; exact List.nodup_range
 · intro t ht q hq
   obtain ⟨i, hi, rfl⟩ := mem t ht
   simp at hq
   subst hq
   exact rfl
 · have : (T0 ws.length).flatMap (fun t => t.2.map (·.1)) = List.range ws.length := by
    unfold T0
    rw [List.flatMap_map]
    have : ∀ l : List Nat, (l.flatMap fun i => ([(i, 0)] : List (Nat × Nat)).map (·.1)) = l := by
     intro l
     induction l with
     | nil => rfl
     | cons x l ih => rw [UU, ih]; rfl
    exact this _
   rw [this]
 · intro t ht D _
   obtain ⟨i, hi, rfl⟩ := mem t ht
   simp [kr]
 · intro t ht
   obtain ⟨i, hi, rfl⟩ := mem t ht
   simp
 · intro t ht
   obtain ⟨i, hi, rfl⟩ := mem t ht
   exact pos _ (gw i hi)
 · intro j hj
   have : j < ws.length := by simpa [Ax] using hj
   exact .inl (Bg this)
 · unfold T0
   rw [List.map_map]
   exact EG ws
 · intro h t ht u hu
   obtain ⟨i, hi, rfl⟩ := mem t ht
   obtain ⟨j, hj, rfl⟩ := mem u hu
   have a := hb h _ (gw i hi)
   have b := hb h _ (gw j hj)
   show ws.getD i 0 ≤ 2 * ws.getD j 0
   omega
 · intro h t ht q hq
   obtain ⟨i, hi, rfl⟩ := mem t ht
   simp at hq
   subst hq
   have a := hb h _ (gw i hi)
   show (3 : Int) ^ 0 ≤ ws.getD i 0 * 2 ^ 0
   rw [a]; simp
theorem Bm.run {bal : Bool} {n : Nat} {tot : Int} (ht : tot < 1000000000000000) : ∀ (m : Nat) (s : FS) (T : List Tr), Bm bal n tot s T → T.length = m + 1 → (∀ k, k < m → (FS.y6 k s).ok) ∧ ∃ t, Bm bal n tot (FS.y6 m s) [t]
 | 0, s, T, v, h => by
   refine ⟨fun k hk => by omega, ?_⟩
   match T, h with
   | [t], _ => exact ⟨t, v⟩
 | m + 1, s, T, v, h => by
   obtain ⟨ok, T', hl, v'⟩ := v.step (by omega) ht
   obtain ⟨h1, t, h2⟩ := Bm.run ht m s.Ij T' v' (by omega)
   refine ⟨fun k hk => ?_, t, h2⟩
   cases k with
   | zero => exact ok
   | succ k => exact h1 k (by omega)
theorem PZ (ws : List Int) (bal : Bool) (h1 : 1 ≤ ws.length) (pos : ∀ y ∈ ws, 1 ≤ y) (hs : ws.sum < 1000000000000000) (hb : bal = true → ∀ y ∈ ws, y = 1) :
 (∀ k, k < ws.length - 1 → (FS.y6 k (Ax ws)).ok) ∧ EV (FS.y6 (ws.length - 1) (Ax ws)).U ∧ (FS.y6 (ws.length - 1) (Ax ws)).U.length = (FS.y6 (ws.length - 1) (Ax ws)).W.length ∧
 (∀ D : Nat, (∀ d ∈ wQ ws, d ≤ (D : Int)) → ((wQ ws).map fun d => 2 ^ (D - d.toNat)).sum = 2 ^ D) ∧
 (bal = true → ∀ d ∈ wQ ws, (3 : Int) ^ d.toNat ≤ ws.sum * 2 ^ d.toNat) ∧ (2 ≤ ws.length → ∀ d ∈ wQ ws, 1 ≤ d) := by
 obtain ⟨ok, t, v⟩ := Bm.run hs (ws.length - 1) (Ax ws) (T0 ws.length) (Bm.init ws bal pos hb) (by simp [T0]; omega)
 obtain ⟨S, hS⟩ : ∃ S, S = FS.y6 (ws.length - 1) (Ax ws) := ⟨_, rfl⟩
 have eD : wQ ws = CV S.U ws.length := by rw [hS]; rfl
 rw [← hS] at v ⊢
 have up := v.up
 have rt := (v.root t (by simp)).2
 have rtD : S.U.getD t.1 (-1) = -1 := by rw [UM, rt]; rfl
 have rl := (vN.1 rt).1
 have lv := v.leaves
 simp only [UU, List.flatMap_nil, U7] at lv
 have dep : ∀ q ∈ t.2, Af S.U S.U.length (S.U.getD q.1 (-1)) = q.2 := fun q hq => by
  have := v.pt t (by simp) q hq
  have l := IH up this
  exact Jv up this rtD _ (by omega)
 have pm : (wQ ws).Perm (t.2.map fun q => ((q.2 : Nat) : Int)) := by
  rw [eD]
  unfold CV
  have := lv.symm.map (fun i => ((Af S.U S.U.length (S.U.getD i (-1)) : Nat) : Int))
  refine this.trans ?_
  rw [List.map_map]
  have e : t.2.map ((fun i => ((Af S.U S.U.length (S.U.getD i (-1)) : Nat) : Int)) ∘ fun x => x.1) = t.2.map fun q => ((q.2 : Nat) : Int) := Vi fun q hq => by
   show ((Af S.U S.U.length (S.U.getD q.1 (-1)) : Nat) : Int) = _
   rw [dep q hq]
  rw [e]
 have mem : ∀ d ∈ wQ ws, ∃ q ∈ t.2, d = ((q.2 : Nat) : Int) := fun d hd => by
  obtain ⟨q, hq, rfl⟩ := U9.1 (pm.mem_iff.1 hd)
  exact ⟨q, hq, rfl⟩
 refine ⟨ok, up, v.lu, fun D hD => ?_, fun hbt d hd => ?_, fun h2 d hd => ?_⟩
 · have := FG (pm.map fun d => 2 ^ (D - d.toNat))
   rw [this, List.map_map]
   have kk := v.Ea t (by simp) D fun q hq => by
    have := hD ((q.2 : Nat) : Int) (pm.mem_iff.2 (U9.2 ⟨q, hq, rfl⟩))
    omega
   rw [← kk]
   unfold kr
   congr 1
 · obtain ⟨q, hq, rfl⟩ := mem d hd
   have := v.JO hbt t (by simp) q hq
   have sm := v.sum
   rw [UW, Vn, Vh, List.sum_nil, Int.add_zero] at sm
   rw [← sm]
   exact this
 · obtain ⟨q, hq, rfl⟩ := mem d hd
   have pq := v.pt t (by simp) q hq
   apply Vd
   intro c
   have z : q.2 = 0 := by omega
   rw [z] at pq
   have e : q.1 = t.1 := pq
   have ql : q.1 < ws.length := Vs.1 (lv.mem_iff.1 (U9.2 ⟨q, hq, rfl⟩))
   have rr : S.W.length = ws.length + (ws.length - 1) := by rw [hS, FS.AN]; rfl
   have kk : ∀ D, (∀ p ∈ t.2, p.2 ≤ D) → kr D t.2 = 2 ^ D := v.Ea t (by simp)
   obtain ⟨D, hDD⟩ : ∃ D, ∀ p ∈ t.2, p.2 ≤ D := ⟨t.1, fun p hp => by have := IH up (v.pt t (by simp) p hp); omega⟩
   have k := kk D hDD
   have l2 : t.2.length = ws.length := by
    have := lv.length_eq
    simpa using this
   have pe := List.perm_cons_erase hq
   have : kr D t.2 = kr D (q :: t.2.erase q) := FG (pe.map _)
   rw [this] at k
   have : kr D (q :: t.2.erase q) = 2 ^ (D - q.2) + kr D (t.2.erase q) := by simp [kr]
   rw [this, z, Nat.sub_zero] at k
   have le := pe.length_eq
   rw [UO] at le
   cases hE : t.2.erase q with
   | nil => rw [hE] at le; simp at le; omega
   | cons y r =>
     rw [hE] at k
     have : kr D (y :: r) = 2 ^ (D - y.2) + kr D r := by simp [kr]
     have := Nat.pow_pos (n := D - y.2) (show 0 < 2 by omega)
     omega
def yI (l : List Int) (i : Nat) : List Int := l.set i (l.getD i 0 + 1)
theorem zk (l : List Int) (i : Nat) : (yI l i).length = l.length := by simp [yI]
theorem CD {l : List Int} {i : Nat} {n : Int} (h : ∀ y ∈ l, 0 ≤ y ∧ y ≤ n) (hn : 0 ≤ n) : ∀ y ∈ yI l i, 0 ≤ y ∧ y ≤ n + 1 := by
 intro y hy
 rcases Vj hy with q | q
 · have := h y q; omega
 · subst q
   rw [UM]
   cases e : l[i]? with
   | none => simp; omega
   | some z => have := h z (vV e); simp; omega
def AW (t : Tok) : Prop := (t.len = 0 ∧ 0 ≤ t.lit ∧ t.lit ≤ 255) ∨ (3 ≤ t.len ∧ t.len ≤ 258 ∧ 1 ≤ t.xb ∧ t.xb ≤ 32768)
def Am : List Tok → List Int → List Int
 | [], A => A
 | t :: r, A => Am r (if t.len = 0 then yI A t.lit.toNat else yI A (xL t.len.toNat))
def AD : List Tok → List Int → List Int
 | [], B => B
 | t :: r, B => AD r (if t.len = 0 then B else yI B (ya t.xb.toNat))
structure Mi (h h' : H) (a b : Nat) : Prop where
 floor : h'.floor = h.floor
 next : h.next ≤ h'.next
 xX : ∀ i, i < h.next → i ≠ a → i ≠ b → h'.get i = h.get i
theorem Mi.refl (h : H) (a b : Nat) : Mi h h a b := ⟨rfl, vR _, fun _ _ _ _ => rfl⟩
theorem Mi.trans {x y z : H} {a b : Nat} (p : Mi x y a b) (q : Mi y z a b) : Mi x z a b := ⟨q.floor.trans p.floor, wk p.next q.next, fun i h1 h2 h3 => (q.xX i (Nat.lt_of_lt_of_le h1 p.next) h2 h3).trans (p.xX i h1 h2 h3)⟩
theorem CA {l : List Int} {i : Nat} (h : i < l.length) : (ints l)[i]? = some (.int .i64 (l.getD i 0)) := tU (by rw [UM, UP h]; rfl)
theorem He {v : AV} {ts : List Tok} (hn : ts.length < 1000000) (h0 : H) (rd : zE 3 h0 v ts.length (xu ts)) (ia ib i : Nat) (t : Tok) (ht : ts[i]? = some t) (o : AW t) (hab : ia ≠ ib) (hia : h0.next ≤ ia) (hib : h0.next ≤ ib) {A B : List Int} {h : H} (hx : Ext h0 h) (ga : h.get ia = some (ints A)) (gb : h.get ib = some (ints B)) (hA : A.length = 286) (hB : B.length = 30) (rA : ∀ y ∈ A, 0 ≤ y ∧ y ≤ (i : Int) + 1) (rB : ∀ y ∈ B, 0 ≤ y ∧ y ≤ (i : Int) + 1) (fa : h.floor ≤ ia) (fb : h.floor ≤ ib) (hfl : h.floor ≤ h.next) :
 ∃ h', aM (aS AP.A) bG AP.f13L4 (ay [(0, v), (4, .aF ia 0 286 1), (5, .aF ib 0 30 1), (6, .int .i64 i)] [0, 4, 5, 6]) h = some (.normal, [(0, v), (4, .aF ia 0 286 1), (5, .aF ib 0 30 1), (6, .int .i64 (i + 1 : Nat))], h') ∧ h'.get ia = some (ints (Am [t] A)) ∧ h'.get ib = some (ints (AD [t] B)) ∧ Mi h h' ia ib := by
 have ln := rd.len
 obtain ⟨ad, a1, a2, a3⟩ := rd.Kk
 have hi : i < ts.length := (vN.1 ht).1
 have hI : (0 : Int) ≤ (i : Int) ∧ (i : Int) < ts.length := ⟨by omega, by omega⟩
 have b1 := a1 _ hI
 have b2 := a2 i 0 1 hI
 have b20 := a2 i 0 0 hI
 have b22 := a2 i 0 2 hI
 obtain ⟨b3, b4, b5, _⟩ := a3 h hx _ _ ht
 have n1 : ((i + 1 : Nat) : Int) = (i : Int) + 1 := by omega
 have la : (ints A).length = 286 := by rw [qy, hA]
 have lb : (ints B).length = 30 := by rw [qy, hB]
 have hian := h.lt _ _ ga
 have hibn := h.lt _ _ gb
 rcases o with ⟨c0, h2, h3⟩ | ⟨h1, h2, h3, h4⟩
 · obtain ⟨y, hy⟩ : ∃ y : Nat, t.lit = y := UT h2
   have yt : t.lit.toNat = y := by omega
   have gx := CA (l := A) (i := y) (by omega)
   have xr : 0 ≤ A.getD y 0 ∧ A.getD y 0 ≤ (i : Int) + 1 := by
    rw [UM, UP (by omega)]
    exact rA _ (Vb _)
   have es := xW A y (A.getD y 0 + 1)
   change _ = ints (yI A y) at es
   rw [hy] at b3
   rw [c0] at b4
   have yb : y ≤ 255 := by omega
   have eA : Am [t] A = yI A y := by rw [Am, if_pos c0, yt]; rfl
   have eB : AD [t] B = B := by rw [AD, if_pos c0]; rfl
   rw [eA, eB]
   refine ⟨h.set ia (ints (yI A y)), ?_, by rw [wS rfl, ga]; rfl, by rw [wL hab.symm, gb], ⟨by simp, by simp, fun j _ h2 _ => wL h2⟩⟩
   rw [n1]
   clear rd a1 a2 a3 hx rA rB ht b5 h2 h3 eA eB
   generalize A.getD y 0 = z at *
   generalize ints (yI A y) = A2 at *
   generalize ints A = A0 at *
   generalize ints B = B0 at *
   simp (disch := omega) only [go_sem, wy, wz, Nat.reduceEqDiff, reduceIte, Nat.reduceAdd, Nat.reduceMul, Nat.reduceLT, Nat.reduceLeDiff, Int.reduceBEq, Int.reduceBNe, Int.reduceLT, Int.reduceLE, Int.reduceEq, wI, cf.aP, cf.aJ, Int.reduceAdd, Int.reduceSub, Int.reduceMul, Int.reduceNeg, Int.reduceToNat, AP.f13L4, ln, b1, b2, b20, b3, b4, ga, la, gx, es]
 · obtain ⟨L, hL⟩ : ∃ y : Nat, t.len = y := UT (by omega)
   obtain ⟨K, hK⟩ : ∃ y : Nat, t.xb = y := UT (by omega)
   have Lt : t.len.toNat = L := by omega
   have Kt : t.xb.toNat = K := by omega
   have kl : ∀ g : H, aS AP.A 28 [.int .i64 L] g = _ := fun g => HB g L (by omega) (by omega)
   have kd : ∀ g : H, aS AP.A 29 [.int .i64 K] g = _ := fun g => KT g K (by omega) (by omega)
   have sl := z9 (k := L) (by omega) (by omega)
   have sd := zW (k := K) (by omega) (by omega)
   have slt : xL L < 286 := by omega
   have sdt : ya K < 30 := by omega
   obtain ⟨h1', eh1⟩ : ∃ g, g = (h.alloc [.int .i64 0, .int .i64 0, .int .i64 0]).set h.next [.int .i64 (xL L : Nat), .int .i64 (zZ L : Nat), .int .i64 (AF L : Nat)] := ⟨_, rfl⟩
   have kp1 : ∀ j, j < h.next → h1'.get j = h.get j := fun j hj => by rw [eh1, wL (by omega), wY (by omega)]
   have x1 : Ext h0 h1' := fun j c hj => by
    have hj2 := h.lt _ _ (hx j c hj)
    rw [kp1 j hj2, hx j c hj]
   have g1 : h1'.get h.next = some [.int .i64 (xL L : Nat), .int .i64 (zZ L : Nat), .int .i64 (AF L : Nat)] := by rw [eh1, wS rfl, wO rfl]; rfl
   have nx1 : h1'.next = h.next + 1 := by rw [eh1]; simp
   have fx1 : h1'.floor = h.floor := by rw [eh1]; simp
   obtain ⟨_, _, b5', _⟩ := a3 h1' x1 _ _ ht
   obtain ⟨h2', eh2⟩ : ∃ g, g = (h1'.alloc [.int .i64 0, .int .i64 0, .int .i64 0]).set h1'.next [.int .i64 (ya K : Nat), .int .i64 (zV K : Nat), .int .i64 (AE K : Nat)] := ⟨_, rfl⟩
   have kp2 : ∀ j, j < h1'.next → h2'.get j = h1'.get j := fun j hj => by rw [eh2, wL (by omega), wY (by omega)]
   have g2 : h2'.get h1'.next = some [.int .i64 (ya K : Nat), .int .i64 (zV K : Nat), .int .i64 (AE K : Nat)] := by rw [eh2, wS rfl, wO rfl]; rfl
   have g21 : h2'.get h.next = some [.int .i64 (xL L : Nat), .int .i64 (zZ L : Nat), .int .i64 (AF L : Nat)] := by rw [kp2 _ (by omega), g1]
   have ga2 : h2'.get ia = some (ints A) := by rw [kp2 ia (by omega), kp1 ia hian, ga]
   have gb2 : h2'.get ib = some (ints B) := by rw [kp2 ib (by omega), kp1 ib hibn, gb]
   have fx2 : h2'.floor = h.floor := by rw [eh2]; simp [fx1]
   have nx2 : h2'.next = h.next + 2 := by rw [eh2]; simp [nx1]
   have gx := CA (l := A) (i := xL L) (by omega)
   have gy := CA (l := B) (i := ya K) (by omega)
   have xr : 0 ≤ A.getD (xL L) 0 ∧ A.getD (xL L) 0 ≤ (i : Int) + 1 := by
    rw [UM, UP (by omega)]
    exact rA _ (Vb _)
   have yr : 0 ≤ B.getD (ya K) 0 ∧ B.getD (ya K) 0 ≤ (i : Int) + 1 := by
    rw [UM, UP (by omega)]
    exact rB _ (Vb _)
   have es := xW A (xL L) (A.getD (xL L) 0 + 1)
   change _ = ints (yI A (xL L)) at es
   have et := xW B (ya K) (B.getD (ya K) 0 + 1)
   change _ = ints (yI B (ya K)) at et
   rw [hL] at b4
   rw [hK] at b5'
   have cL : ¬ (L : Int) = 0 := by omega
   obtain ⟨h3', eh3⟩ : ∃ g, g = h2'.set ia (ints (yI A (xL L))) := ⟨_, rfl⟩
   have gb3 : h3'.get ib = some (ints B) := by rw [eh3, wL hab.symm, gb2]
   have g31 : h3'.get h1'.next = some [.int .i64 (ya K : Nat), .int .i64 (zV K : Nat), .int .i64 (AE K : Nat)] := by rw [eh3, wL (by omega), g2]
   have eA : Am [t] A = yI A (xL L) := by rw [Am, if_neg (by omega), Lt]; rfl
   have eB : AD [t] B = yI B (ya K) := by rw [AD, if_neg (by omega), Kt]; rfl
   have fx3 : h3'.floor = h.floor := by rw [eh3]; simp [fx2]
   rw [eA, eB]
   refine ⟨h3'.set ib (ints (yI B (ya K))), ?_, by rw [wL hab, eh3, wS rfl, ga2]; rfl, by rw [wS rfl, gb3]; rfl, ⟨by simp [fx3], by rw [eh3]; simp [nx2], fun j h1 h2 h3 => by rw [wL h3, eh3, wL h2, kp2 j (by omega), kp1 j h1]⟩⟩
   rw [n1]
   clear rd a1 a2 a3 hx x1 rA rB ht b5 h2 h3 eA eB b3 h1 h4 sl sd kp1 kp2
   generalize xL L = S at *
   generalize zZ L = B1 at *
   generalize AF L = V at *
   generalize ya K = S' at *
   generalize zV K = B' at *
   generalize AE K = V' at *
   generalize A.getD S 0 = z at *
   generalize B.getD S' 0 = z' at *
   generalize ints (yI A S) = A2 at *
   generalize ints (yI B S') = B2 at *
   generalize ints A = A0 at *
   generalize ints B = B0 at *
   simp (disch := omega) only [go_sem, wy, wz, Nat.reduceEqDiff, reduceIte, Nat.reduceAdd, Nat.reduceMul, Nat.reduceLT, Nat.reduceLeDiff, Int.reduceBEq, Int.reduceBNe, Int.reduceLT, Int.reduceLE, Int.reduceEq, wI, cf.aP, cf.aJ, Int.reduceAdd, Int.reduceSub, Int.reduceMul, Int.reduceNeg, Int.reduceToNat, AP.f13L4, ln, b1, b2, b22, b4, b5', kl, kd, cL, ← eh1, ← eh2, g1, g2, g21, ga2, gb2, la, lb, gx, gy, es, et, ← eh3, gb3, g31]
theorem Cg : ∀ (ts : List Tok) (A : List Int), (Am ts A).length = A.length
 | [], A => rfl
 | t :: r, A => by rw [Am, Cg r]; split <;> rw [zk]
theorem Cj : ∀ (ts : List Tok) (A : List Int), (AD ts A).length = A.length
 | [], A => rfl
 | t :: r, A => by
   rw [AD, Cj r]
   split
   · rfl
   · rw [zk]
theorem Ch : ∀ (ts : List Tok) (A : List Int) (n : Int), 0 ≤ n → (∀ y ∈ A, 0 ≤ y ∧ y ≤ n) → ∀ y ∈ Am ts A, 0 ≤ y ∧ y ≤ n + ts.length
 | [], A, n, hn, h => by simpa [Am] using h
 | t :: r, A, n, hn, h => by
   intro y hy
   rw [Am] at hy
   have := Ch r _ (n + 1) (by omega) (by split <;> exact CD h hn) y hy
   simp only [UO]; omega
theorem Cm : ∀ (ts : List Tok) (A : List Int) (n : Int), 0 ≤ n → (∀ y ∈ A, 0 ≤ y ∧ y ≤ n) → ∀ y ∈ AD ts A, 0 ≤ y ∧ y ≤ n + ts.length
 | [], A, n, hn, h => by simpa [AD] using h
 | t :: r, A, n, hn, h => by
   intro y hy
   rw [AD] at hy
   have := Cm r _ (n + 1) (by omega) (by
    split
    · intro z hz; have := h z hz; omega
    · exact CD h hn) y hy
   simp only [UO]; omega
theorem Dc {v : AV} {ts : List Tok} (hn : ts.length < 1000000) (h0 : H) (rd : zE 3 h0 v ts.length (xu ts)) (ia ib : Nat) (ok : ∀ t ∈ ts, AW t) (hab : ia ≠ ib) (hia : h0.next ≤ ia) (hib : h0.next ≤ ib) : ∀ (q p : List Tok) (A B : List Int) (h : H), ts = p ++ q → Ext h0 h → h0.next ≤ h.next → h.get ia = some (ints A) → h.get ib = some (ints B) → A.length = 286 → B.length = 30 → (∀ y ∈ A, 0 ≤ y ∧ y ≤ (p.length : Int) + 1) → (∀ y ∈ B, 0 ≤ y ∧ y ≤ (p.length : Int) + 1) → h.floor ≤ ia → h.floor ≤ ib → h.floor ≤ h.next →
 ∃ h', Lp AP.A [0, 4, 5, 6] AP.f13L4 [(0, v), (4, .aF ia 0 286 1), (5, .aF ib 0 30 1), (6, .int .i64 p.length)] h = some (.exit 0, [(0, v), (4, .aF ia 0 286 1), (5, .aF ib 0 30 1), (6, .int .i64 ts.length), (43, .bool false)], h') ∧ h'.get ia = some (ints (Am q A)) ∧ h'.get ib = some (ints (AD q B)) ∧ Mi h h' ia ib
 | [], p, A, B, h, hp, hx, hnx, ga, gb, hA, hB, rA, rB, fa, fb, hfl => by
   rw [U7] at hp; subst hp
   have ln := rd.len
   refine ⟨h, ux ?_, ga, gb, Mi.refl h ia ib⟩
   simp (disch := omega) only [go_sem, wy, wz, Nat.reduceEqDiff, reduceIte, Nat.reduceAdd, Nat.reduceMul, Nat.reduceLT, Nat.reduceLeDiff, Int.reduceBEq, Int.reduceBNe, Int.reduceLT, Int.reduceLE, Int.reduceEq, wI, cf.aP, cf.aJ, Int.reduceAdd, Int.reduceSub, Int.reduceMul, Int.reduceNeg, Int.reduceToNat, AP.f13L4, ln]
 | t :: q, p, A, B, h, hp, hx, hnx, ga, gb, hA, hB, rA, rB, fa, fb, hfl => by
   have ht : ts[p.length]? = some t := by rw [hp]; simp
   have o := ok t (vV ht)
   obtain ⟨h1, s1, ga1, gb1, f1⟩ := He hn h0 rd ia ib p.length t ht o hab hia hib hx ga gb hA hB rA rB fa fb hfl
   have n1 : (((p ++ [t]).length : Nat) : Int) = ((p.length + 1 : Nat) : Int) := by simp
   have hx1 : Ext h0 h1 := fun j c hj => by
    have := h0.lt _ _ hj
    rw [f1.xX j (by omega) (by omega) (by omega), hx j c hj]
   obtain ⟨h', k, g1, g2, f2⟩ := Dc hn h0 rd ia ib ok hab hia hib q (p ++ [t]) (Am [t] A) (AD [t] B) h1 (by rw [hp]; simp) hx1 (wk hnx f1.next) ga1 gb1 (by rw [Cg, hA]) (by rw [Cj, hB]) (fun y hy => by have := Ch [t] A _ (by omega) rA y hy; simp at this ⊢; omega) (fun y hy => by have := Cm [t] B _ (by omega) rB y hy; simp at this ⊢; omega) (by rw [f1.floor]; exact fa) (by rw [f1.floor]; exact fb) (by rw [f1.floor]; exact wk hfl f1.next)
   rw [n1] at k
   exact ⟨h', uy s1 k, g1, g2, f1.trans f2⟩
def yo : List Int → List Int → List Int
 | [], C => C
 | d :: r, C => yo r (yI C d.toNat)
theorem Co : ∀ (ds C : List Int), (yo ds C).length = C.length
 | [], C => rfl
 | d :: r, C => by rw [yo, Co r, zk]
theorem Cp : ∀ (ds A : List Int) (n : Int), 0 ≤ n → (∀ y ∈ A, 0 ≤ y ∧ y ≤ n) → ∀ y ∈ yo ds A, 0 ≤ y ∧ y ≤ n + ds.length
 | [], A, n, hn, h => by simpa [yo] using h
 | t :: r, A, n, hn, h => by
   intro y hy
   rw [yo] at hy
   have := Cp r _ (n + 1) (by omega) (CD h hn) y hy
   simp only [UO]; omega
theorem Db {lv dv mv av : AV} {D : List Int} (hD : D.length < 1000) (hr : ∀ d ∈ D, 0 ≤ d ∧ d < 19) (ic : Nat) (hb : H) (rd : Rd hb av (ints D)) (hno : hb.get ic = none) : ∀ (q p C : List Int) (h : H), D = p ++ q → Ext hb h → h.get ic = some (ints C) → C.length = 19 → (∀ y ∈ C, 0 ≤ y ∧ y ≤ (p.length : Int)) → h.floor ≤ ic →
 ∃ h', Lp AP.A [0, 11, 13, 15, 16, 17] AP.f13L3 [(0, lv), (11, dv), (13, mv), (15, av), (16, .aF ic 0 19 1), (17, .int .i64 p.length)] h = some (.exit 2, [(0, lv), (11, dv), (13, mv), (15, av), (16, .aF ic 0 19 1), (17, .int .i64 D.length), (122, .bool false)], h') ∧ h'.get ic = some (ints (yo q C)) ∧ h'.floor = h.floor ∧ h'.next = h.next ∧ (∀ i, i ≠ ic → h'.get i = h.get i)
 | [], p, C, h, hp, hx, gc, hC, rC, fc => by
   rw [U7] at hp; subst hp
   have ln := rd.len
   rw [qy] at ln
   simp only [I] at ln
   refine ⟨h, ux ?_, gc, rfl, rfl, fun _ _ => rfl⟩
   simp (disch := omega) only [go_sem, wy, wz, Nat.reduceEqDiff, reduceIte, Nat.reduceAdd, Nat.reduceMul, Nat.reduceLT, Nat.reduceLeDiff, Int.reduceBEq, Int.reduceBNe, Int.reduceLT, Int.reduceLE, Int.reduceEq, wI, cf.aP, cf.aJ, Int.reduceAdd, Int.reduceSub, Int.reduceMul, Int.reduceNeg, Int.reduceToNat, AP.f13L3, ln]
 | d :: q, p, C, h, hp, hx, gc, hC, rC, fc => by
   have ln := rd.len
   rw [qy] at ln
   simp only [I] at ln
   have hl : D.length = p.length + (q.length + 1) := by rw [hp]; simp
   obtain ⟨ad, a1, a2⟩ := rd.xQ
   have b1 := a1 p.length ⟨by omega, by omega⟩
   have hd : D[p.length]? = some d := by rw [hp]; simp
   have dr := hr d (vV hd)
   obtain ⟨y, rfl⟩ := UT dr.1
   have b2 := a2 h hx p.length _ hd
   have lc : (ints C).length = 19 := by rw [qy, hC]
   have gx := CA (l := C) (i := y) (by omega)
   have xr : 0 ≤ C.getD y 0 ∧ C.getD y 0 ≤ (p.length : Int) := by
    rw [UM, UP (by omega)]
    exact rC _ (Vb _)
   have es := xW C y (C.getD y 0 + 1)
   change _ = ints (yI C y) at es
   have ty : ((y : Nat) : Int).toNat = y := by omega
   have g2 : (h.set ic (ints (yI C y))).get ic = some (ints (yI C y)) := by rw [wS rfl, gc]; rfl
   obtain ⟨h', k, g, f, n, t⟩ := Db (lv := lv) (dv := dv) (mv := mv) hD hr ic hb rd hno q (p ++ [(y : Int)]) (yI C y) (h.set ic (ints (yI C y))) (by rw [hp]; simp) (hx.GI hno _) g2 (by rw [zk, hC]) (fun z hz => by have := CD rC (by omega) z hz; simp; omega) (by simpa using fc)
   have n1 : (((p ++ [(y : Int)]).length : Nat) : Int) = (p.length : Int) + 1 := by simp
   rw [yo, ty]
   refine ⟨h', uy ?_ k, g, by rw [f]; simp, by rw [n]; simp, fun i hi => by rw [t i hi, wL hi]⟩
   rw [n1]
   clear k g f n t g2 rd a1 a2 hr hp hd hx rC
   generalize C.getD y 0 = z at *
   generalize ints (yI C y) = C2 at *
   generalize ints C = C0 at *
   simp (disch := omega) only [go_sem, wy, wz, Nat.reduceEqDiff, reduceIte, Nat.reduceAdd, Nat.reduceMul, Nat.reduceLT, Nat.reduceLeDiff, Int.reduceBEq, Int.reduceBNe, Int.reduceLT, Int.reduceLE, Int.reduceEq, wI, cf.aP, cf.aJ, Int.reduceAdd, Int.reduceSub, Int.reduceMul, Int.reduceNeg, Int.reduceToNat, AP.f13L3, ln, b1, b2, gc, lc, gx, es]
theorem HU {a0 a1 a2 a3 lv ov : AV} {L : List Int} (hL : L.length = 19) (ir : Nat) (hb : H) (rl : Rd hb lv (ints L)) (ro : Rd hb ov (ints wM)) (hno : hb.get ir = none) : ∀ (m i : Nat) (h : H), i + m = 19 → Ext hb h → h.get ir = some (ints ((wM.take i).map (fun o => L.getD o.toNat 0) ++ List.replicate m 0)) → h.floor ≤ ir →
 ∃ h', Lp AP.A [0, 11, 13, 15, 18, 20, 21, 22] AP.f13L2 [(0, a0), (11, a1), (13, a2), (15, a3), (18, lv), (20, ov), (21, .aF ir 0 19 1), (22, .int .i64 i)] h = some (.exit 4, [(0, a0), (11, a1), (13, a2), (15, a3), (18, lv), (20, ov), (21, .aF ir 0 19 1), (22, .int .i64 19), (142, .bool false)], h') ∧ h'.get ir = some (ints (wM.map (fun o => L.getD o.toNat 0))) ∧ h'.floor = h.floor ∧ h'.next = h.next ∧ (∀ i, i ≠ ir → h'.get i = h.get i)
 | 0, i, h, hi, hx, gr, fr => by
   obtain rfl : i = 19 := by omega
   have e : wM.take 19 = wM := rfl
   rw [e, List.replicate_zero, U7] at gr
   refine ⟨h, ux ?_, gr, rfl, rfl, fun _ _ => rfl⟩
   simp (disch := omega) only [go_sem, wy, wz, Nat.reduceEqDiff, reduceIte, Nat.reduceAdd, Nat.reduceMul, Nat.reduceLT, Nat.reduceLeDiff, Int.reduceBEq, Int.reduceBNe, Int.reduceLT, Int.reduceLE, Int.reduceEq, wI, cf.aP, cf.aJ, Int.reduceAdd, Int.reduceSub, Int.reduceMul, Int.reduceNeg, Int.reduceToNat, AP.f13L2]
 | m + 1, i, h, hi, hx, gr, fr => by
   have hi19 : i < wM.length := by show i < 19; omega
   obtain ⟨ad, d1, d2⟩ := rl.xQ
   obtain ⟨ao, o1, o2⟩ := ro.xQ
   have b1 := o1 i ⟨by omega, by omega⟩
   have ho : wM[i]? = some (wM[i]) := UP hi19
   have orr : 0 ≤ wM[i] ∧ wM[i] < 19 := A9 _ (Vb hi19)
   have tk : wM.take (i + 1) = wM.take i ++ [wM[i]] := by rw [List.take_add_one, ho]; rfl
   obtain ⟨y, hy⟩ := UT orr.1
   have ho2 : wM[i]? = some (y : Int) := by rw [ho, hy]
   have b2 := o2 h hx i _ ho2
   have c1 := d1 y ⟨by omega, by omega⟩
   have lgy : L[y]? = some (L.getD y 0) := by rw [UM, UP (by omega)]; rfl
   have c2 := d2 h hx y _ lgy
   have ty : ((y : Nat) : Int).toNat = y := by omega
   have lr : (ints ((wM.take i).map (fun o => L.getD o.toNat 0) ++ List.replicate (m + 1) 0)).length = 19 := by
    rw [qy, wo, List.length_map, Vm, UZ]; show min i 19 + (m + 1) = 19; omega
   have il : ((wM.take i).map (fun o => L.getD o.toNat 0)).length = i := by rw [List.length_map, Vm]; show min i 19 = i; omega
   have es : (ints ((wM.take i).map (fun o => L.getD o.toNat 0) ++ List.replicate (m + 1) 0)).set i (.int .i64 (L.getD y 0)) = ints ((wM.take (i + 1)).map (fun o => L.getD o.toNat 0) ++ List.replicate m 0) := by
    rw [xW, List.set_append_right _ _ (by omega), il, Nat.sub_self, tk, List.map_append, UY, hy]
    rfl
   have g2 : (h.set ir (ints ((wM.take (i + 1)).map (fun o => L.getD o.toNat 0) ++ List.replicate m 0))).get ir = some (ints ((wM.take (i + 1)).map (fun o => L.getD o.toNat 0) ++ List.replicate m 0)) := by rw [wS rfl, gr]; rfl
   obtain ⟨h', k, g, f, n, t⟩ := HU (a0 := a0) (a1 := a1) (a2 := a2) (a3 := a3) hL ir hb rl ro hno m (i + 1) _ (by omega) (hx.GI hno _) g2 (by simpa using fr)
   have n1 : ((i + 1 : Nat) : Int) = (i : Int) + 1 := by omega
   refine ⟨h', uy ?_ k, g, by rw [f]; simp, by rw [n]; simp, fun i hi => by rw [t i hi, wL hi]⟩
   rw [n1]
   clear k g f n t g2 rl ro d1 d2 o1 o2 hx ho ho2 hy orr tk lgy il
   generalize L.getD y 0 = z at *
   generalize ints ((wM.take (i + 1)).map (fun o => L.getD o.toNat 0) ++ List.replicate m 0) = R2 at *
   generalize ints ((wM.take i).map (fun o => L.getD o.toNat 0) ++ List.replicate (m + 1) 0) = R0 at *
   simp (disch := omega) only [go_sem, wy, wz, Nat.reduceEqDiff, reduceIte, Nat.reduceAdd, Nat.reduceMul, Nat.reduceLT, Nat.reduceLeDiff, Int.reduceBEq, Int.reduceBNe, Int.reduceLT, Int.reduceLE, Int.reduceEq, wI, cf.aP, cf.aJ, Int.reduceAdd, Int.reduceSub, Int.reduceMul, Int.reduceNeg, Int.reduceToNat, AP.f13L2, b1, b2, c1, c2, gr, lr, es]
def AH (R : List Int) : List Nat := R.flatMap fun y => w8 y.toNat 3
theorem Ey : ∀ R : List Int, (AH R).length = 3 * R.length
 | [] => rfl
 | y :: R => by
   have := Ey R
   unfold AH at *
   rw [UU, wo, this]; simp [w8, xc]; omega
theorem FM {a0 a1 a2 a3 a4 rv : AV} {R : List Int} (h0 : H) (rr : Rd h0 rv (ints R)) (k : Nat) (hk : k ≤ R.length) (hR : R.length = 19) (w : Nat) (hr : ∀ y ∈ R, 0 ≤ y ∧ y < 8) : ∀ (m i : Nat) (bs : List Nat) (h : H) (ov : AV), i + m = k → WX h0 h w bs ov → bs.length + 3 * m ≤ 65000 →
 ∃ e' h' ov', Lp AP.A [0, 11, 13, 15, 18, 21, 23, 24, 25] AP.f13L1 [(0, a0), (11, a1), (13, a2), (15, a3), (18, a4), (21, rv), (23, .int .i64 k), (24, .aE w 0), (25, .int .i64 i)] h = some (.exit 6, e', h') ∧ look e' 0 = a0 ∧ look e' 11 = a1 ∧ look e' 13 = a2 ∧ look e' 15 = a3 ∧ look e' 18 = a4 ∧ look e' 24 = .aE w 0 ∧ WX h0 h' w (bs ++ AH ((R.drop i).take m)) ov'
 | 0, i, bs, h, ov, hi, x, hb => by
   obtain rfl : i = k := by omega
   refine ⟨[(0, a0), (11, a1), (13, a2), (15, a3), (18, a4), (21, rv), (23, .int .i64 i), (24, .aE w 0), (25, .int .i64 i), (177, .bool false)], h, ov, ux ?_, rfl, rfl, rfl, rfl, rfl, rfl, by simpa [AH] using x⟩
   simp (disch := omega) only [go_sem, wy, wz, Nat.reduceEqDiff, reduceIte, Nat.reduceAdd, Nat.reduceMul, Nat.reduceLT, Nat.reduceLeDiff, Int.reduceBEq, Int.reduceBNe, Int.reduceLT, Int.reduceLE, Int.reduceEq, wI, cf.aP, cf.aJ, Int.reduceAdd, Int.reduceSub, Int.reduceMul, Int.reduceNeg, Int.reduceToNat, AP.f13L1]
 | m + 1, i, bs, h, ov, hi, x, hb => by
   obtain ⟨ad, d1, d2⟩ := rr.xQ
   have b1 := d1 i ⟨by omega, by omega⟩
   have hg : R[i]? = some (R.getD i 0) := by rw [UM, UP (by omega)]; rfl
   have yr := hr _ (vV hg)
   obtain ⟨y, hy⟩ := UT yr.1
   rw [hy] at hg yr
   have b2 := d2 h x.ext i _ hg
   have dr : R.drop i = (y : Int) :: R.drop (i + 1) := by
    rw [List.drop_eq_getElem_cons (by omega)]
    rw [UP (by omega)] at hg
    rw [vG hg]
   obtain ⟨h1, o1, k1, w1, f1⟩ := zy x.wr y 3 (by omega) (by omega) (by omega)
   have k1' : aS AP.A 33 [.aE w 0, .int .i64 y, .int .i64 3] h = _ := k1
   have x1 := x.step w1 f1
   have hl1 : (bs ++ w8 y 3).length = bs.length + 3 := by simp [w8, xc]
   obtain ⟨e', h', ov', r1, r2, r3, r4, r5, r6, r7, x2⟩ := FM (a0 := a0) (a1 := a1) (a2 := a2) (a3 := a3) (a4 := a4) h0 rr k hk hR w hr m (i + 1) _ h1 o1 (by omega) x1 (by rw [hl1]; omega)
   have n1 : ((i + 1 : Nat) : Int) = (i : Int) + 1 := by omega
   refine ⟨e', h', ov', uy ?_ r1, r2, r3, r4, r5, r6, r7, ?_⟩
   · rw [n1]
     clear r1 r2 r3 r4 r5 r6 r7 x2 x1 w1 f1 x rr d1 d2 hr dr hy hg
     simp (disch := omega) only [go_sem, wy, wz, Nat.reduceEqDiff, reduceIte, Nat.reduceAdd, Nat.reduceMul, Nat.reduceLT, Nat.reduceLeDiff, Int.reduceBEq, Int.reduceBNe, Int.reduceLT, Int.reduceLE, Int.reduceEq, wI, cf.aP, cf.aJ, Int.reduceAdd, Int.reduceSub, Int.reduceMul, Int.reduceNeg, Int.reduceToNat, AP.f13L1, b1, b2, k1']
   · rw [dr, vY]
     have : AH ((y : Int) :: (R.drop (i + 1)).take m) = w8 y 3 ++ AH ((R.drop (i + 1)).take m) := by unfold AH; rw [UU]; rfl
     rw [this, ← UY]
     exact x2
def zQ (E : List (Int × Int)) (D : List Int) : List Nat := D.flatMap fun y => wP E y.toNat
theorem GR {E : List (Int × Int)} : ∀ {D : List Int}, (∀ y ∈ D, Dz E y.toNat) → (zQ E D).length ≤ 15 * D.length
 | [], _ => by simp [zQ]
 | y :: D, h => by
   have := GR (E := E) (D := D) fun z hz => h z (by simp [hz])
   obtain ⟨n, v, _, q1, q2, q3, q4⟩ := (h y (by simp)).bits
   unfold zQ at *
   rw [UU, wo, q4, xk, UO]; omega
theorem Ep {a0 a1 a2 av ev : AV} {D : List Int} {E : List (Int × Int)} (h0 : H) (ra : Rd h0 av (ints D)) (re : zE 2 h0 ev E.length (E.flatMap xM)) (hD : D.length < 1000) (hE : E.length = 19) (w : Nat) (hr : ∀ y ∈ D, 0 ≤ y ∧ y < 19) (ok : ∀ y ∈ D, Dz E y.toNat) : ∀ (q p : List Int) (bs : List Nat) (h : H) (ov : AV), D = p ++ q → WX h0 h w bs ov → bs.length + 15 * q.length ≤ 65000 →
 ∃ e' h' ov', Lp AP.A [0, 11, 13, 15, 24, 26, 28] AP.f13L0 [(0, a0), (11, a1), (13, a2), (15, av), (24, .aE w 0), (26, ev), (28, .int .i64 p.length)] h = some (.exit 8, e', h') ∧ look e' 0 = a0 ∧ look e' 11 = a1 ∧ look e' 13 = a2 ∧ look e' 24 = .aE w 0 ∧ WX h0 h' w (bs ++ zQ E q) ov'
 | [], p, bs, h, ov, hp, x, hb => by
   rw [U7] at hp; subst hp
   have ln := ra.len
   rw [qy] at ln
   simp only [I] at ln
   refine ⟨[(0, a0), (11, a1), (13, a2), (15, av), (24, .aE w 0), (26, ev), (28, .int .i64 D.length), (194, .bool false)], h, ov, ux ?_, rfl, rfl, rfl, rfl, by simpa [zQ] using x⟩
   simp (disch := omega) only [go_sem, wy, wz, Nat.reduceEqDiff, reduceIte, Nat.reduceAdd, Nat.reduceMul, Nat.reduceLT, Nat.reduceLeDiff, Int.reduceBEq, Int.reduceBNe, Int.reduceLT, Int.reduceLE, Int.reduceEq, wI, cf.aP, cf.aJ, Int.reduceAdd, Int.reduceSub, Int.reduceMul, Int.reduceNeg, Int.reduceToNat, AP.f13L0, ln]
 | d :: q, p, bs, h, ov, hp, x, hb => by
   have ln := ra.len
   rw [qy] at ln
   simp only [I] at ln
   have hl : D.length = p.length + (q.length + 1) := by rw [hp]; simp
   obtain ⟨ad, d1, d2⟩ := ra.xQ
   obtain ⟨ae, e1, e2⟩ := re.Ju
   have b1 := d1 p.length ⟨by omega, by omega⟩
   have hd : D[p.length]? = some d := by rw [hp]; simp
   have dr := hr d (vV hd)
   have oc := ok d (vV hd)
   obtain ⟨y, rfl⟩ := UT dr.1
   have b2 := d2 h x.ext p.length _ hd
   have ty : ((y : Nat) : Int).toNat = y := by omega
   rw [ty] at oc
   obtain ⟨n, c, q0, q1, q2, q3, q4⟩ := oc.bits
   have yl := oc.lt
   have c1 := e1 y ⟨by omega, by omega⟩
   have c2 := e2 h x.ext _ _ q0
   simp only [UO] at hb
   obtain ⟨h1, o1, k1, w1, f1⟩ := CN x.wr c n q1 q2 q3 (by omega)
   have x1 := x.step w1 f1
   have hl1 : (bs ++ zh c n).length = bs.length + n := by simp [xk]
   obtain ⟨e', h', ov', r1, r2, r3, r4, r5, x2⟩ := Ep (a0 := a0) (a1 := a1) (a2 := a2) h0 ra re hD hE w hr ok q (p ++ [(y : Int)]) _ h1 o1 (by rw [hp]; simp) x1 (by rw [hl1]; omega)
   have n1 : (((p ++ [(y : Int)]).length : Nat) : Int) = (p.length : Int) + 1 := by simp
   refine ⟨e', h', ov', uy ?_ r1, r2, r3, r4, r5, ?_⟩
   · rw [n1]
     clear r1 r2 r3 r4 r5 x2 x1 w1 f1 x ra re d1 d2 e1 e2 hr hp hd ok oc q4 q0 q3
     simp (disch := omega) only [go_sem, wy, wz, Nat.reduceEqDiff, reduceIte, Nat.reduceAdd, Nat.reduceMul, Nat.reduceLT, Nat.reduceLeDiff, Int.reduceBEq, Int.reduceBNe, Int.reduceLT, Int.reduceLE, Int.reduceEq, wI, cf.aP, cf.aJ, Int.reduceAdd, Int.reduceSub, Int.reduceMul, Int.reduceNeg, Int.reduceToNat, AP.f13L0, ln, b1, b2, c1, c2, k1]
   · have : zQ E ((y : Int) :: q) = zh c n ++ zQ E q := by unfold zQ; rw [UU, ty, q4]
     rw [this, ← UY]
     exact x2
theorem Up {v0 : AV} {g : H} : aM (aS AP.A) bG (at_ 0 AP.f13.body) (params 0 [v0]) g = some (.normal, [(0, v0)], g) := by
 simp (disch := omega) only [go_sem, wy, wz, Nat.reduceEqDiff, reduceIte, Nat.reduceAdd, Nat.reduceMul, Nat.reduceLT, Nat.reduceLeDiff, Int.reduceBEq, Int.reduceBNe, Int.reduceLT, Int.reduceLE, Int.reduceEq, wI, cf.aP, cf.aJ, Int.reduceAdd, Int.reduceSub, Int.reduceMul, Int.reduceNeg, Int.reduceToNat, AP.f13, xV, xY]
theorem Uq {v0 : AV} {g : H} (k : aS AP.A 27 [v0] g = some (.bool true, g)) : aM (aS AP.A) bG (at_ 1 AP.f13.body) [(0, v0)] g = some (.normal, [(0, v0)], g) := by
 simp (disch := omega) only [go_sem, wy, wz, Nat.reduceEqDiff, reduceIte, Nat.reduceAdd, Nat.reduceMul, Nat.reduceLT, Nat.reduceLeDiff, Int.reduceBEq, Int.reduceBNe, Int.reduceLT, Int.reduceLE, Int.reduceEq, wI, cf.aP, cf.aJ, Int.reduceAdd, Int.reduceSub, Int.reduceMul, Int.reduceNeg, Int.reduceToNat, AP.f13, xV, xY, k]
theorem Uu {v0 v4 v5 v11 : AV} {g : H} (k : aS AP.A 30 [v4, .int .i64 15] g = some (.bU [v11, .int .i64 0], g)) : aM (aS AP.A) bG (at_ 5 AP.f13.body) [(0, v0), (4, v4), (5, v5)] g = some (.normal, [(0, v0), (5, v5), (11, v11)], g) := by
 simp (disch := omega) only [go_sem, wy, wz, Nat.reduceEqDiff, reduceIte, Nat.reduceAdd, Nat.reduceMul, Nat.reduceLT, Nat.reduceLeDiff, Int.reduceBEq, Int.reduceBNe, Int.reduceLT, Int.reduceLE, Int.reduceEq, wI, cf.aP, cf.aJ, Int.reduceAdd, Int.reduceSub, Int.reduceMul, Int.reduceNeg, Int.reduceToNat, AP.f13, xV, xY, k]
theorem Uv {v0 v5 v11 v13 : AV} {g : H} (k : aS AP.A 30 [v5, .int .i64 15] g = some (.bU [v13, .int .i64 0], g)) : aM (aS AP.A) bG (at_ 6 AP.f13.body) [(0, v0), (5, v5), (11, v11)] g = some (.normal, [(0, v0), (11, v11), (13, v13)], g) := by
 simp (disch := omega) only [go_sem, wy, wz, Nat.reduceEqDiff, reduceIte, Nat.reduceAdd, Nat.reduceMul, Nat.reduceLT, Nat.reduceLeDiff, Int.reduceBEq, Int.reduceBNe, Int.reduceLT, Int.reduceLE, Int.reduceEq, wI, cf.aP, cf.aJ, Int.reduceAdd, Int.reduceSub, Int.reduceMul, Int.reduceNeg, Int.reduceToNat, AP.f13, xV, xY, k]
theorem TD {v0 v11 v13 v15 v16 v18 : AV} {g : H} (k : aS AP.A 30 [v16, .int .i64 7] g = some (.bU [v18, .int .i64 0], g)) : aM (aS AP.A) bG (at_ 13 AP.f13.body) [(0, v0), (11, v11), (13, v13), (15, v15), (16, v16)] g = some (.normal, [(0, v0), (11, v11), (13, v13), (15, v15), (18, v18)], g) := by
 simp (disch := omega) only [go_sem, wy, wz, Nat.reduceEqDiff, reduceIte, Nat.reduceAdd, Nat.reduceMul, Nat.reduceLT, Nat.reduceLeDiff, Int.reduceBEq, Int.reduceBNe, Int.reduceLT, Int.reduceLE, Int.reduceEq, wI, cf.aP, cf.aJ, Int.reduceAdd, Int.reduceSub, Int.reduceMul, Int.reduceNeg, Int.reduceToNat, AP.f13, xV, xY, k]
theorem TE {v0 v11 v13 v15 v18 v20 : AV} {g : H} (k : aS AP.A 32 [] g = some (v20, g)) : aM (aS AP.A) bG (at_ 14 AP.f13.body) [(0, v0), (11, v11), (13, v13), (15, v15), (18, v18)] g = some (.normal, [(0, v0), (11, v11), (13, v13), (15, v15), (18, v18), (20, v20)], g) := by
 simp (disch := omega) only [go_sem, wy, wz, Nat.reduceEqDiff, reduceIte, Nat.reduceAdd, Nat.reduceMul, Nat.reduceLT, Nat.reduceLeDiff, Int.reduceBEq, Int.reduceBNe, Int.reduceLT, Int.reduceLE, Int.reduceEq, wI, cf.aP, cf.aJ, Int.reduceAdd, Int.reduceSub, Int.reduceMul, Int.reduceNeg, Int.reduceToNat, AP.f13, xV, xY, k]
theorem TH {v0 v11 v13 v15 v18 v21 v23 : AV} {g : H} (k : aS AP.A 31 [v21, .int .i64 4] g = some (v23, g)) : aM (aS AP.A) bG (at_ 17 AP.f13.body) [(0, v0), (11, v11), (13, v13), (15, v15), (18, v18), (21, v21)] g = some (.normal, [(0, v0), (11, v11), (13, v13), (15, v15), (18, v18), (21, v21), (23, v23)], g) := by
 simp (disch := omega) only [go_sem, wy, wz, Nat.reduceEqDiff, reduceIte, Nat.reduceAdd, Nat.reduceMul, Nat.reduceLT, Nat.reduceLeDiff, Int.reduceBEq, Int.reduceBNe, Int.reduceLT, Int.reduceLE, Int.reduceEq, wI, cf.aP, cf.aJ, Int.reduceAdd, Int.reduceSub, Int.reduceMul, Int.reduceNeg, Int.reduceToNat, AP.f13, xV, xY, k]
theorem TI {v0 v11 v13 v15 v18 v21 v23 : AV} {g : H}  : aM (aS AP.A) bG (at_ 18 AP.f13.body) [(0, v0), (11, v11), (13, v13), (15, v15), (18, v18), (21, v21), (23, v23)] g = some (.normal, [(0, v0), (11, v11), (13, v13), (15, v15), (18, v18), (21, v21), (23, v23), (24, .aE g.next 0)], (g.alloc [.aQ, .int .i64 0])) := by
 simp (disch := omega) only [go_sem, wy, wz, Nat.reduceEqDiff, reduceIte, Nat.reduceAdd, Nat.reduceMul, Nat.reduceLT, Nat.reduceLeDiff, Int.reduceBEq, Int.reduceBNe, Int.reduceLT, Int.reduceLE, Int.reduceEq, wI, cf.aP, cf.aJ, Int.reduceAdd, Int.reduceSub, Int.reduceMul, Int.reduceNeg, Int.reduceToNat, AP.f13, xV, xY]
theorem TJ {v0 v11 v13 v15 v18 v21 v23 v24 : AV} {g g2 : H} (k : aS AP.A 33 [v24, .int .i64 5, .int .i64 3] g = some (.int .i64 0, g2)) : aM (aS AP.A) bG (at_ 19 AP.f13.body) [(0, v0), (11, v11), (13, v13), (15, v15), (18, v18), (21, v21), (23, v23), (24, v24)] g = some (.normal, [(0, v0), (11, v11), (13, v13), (15, v15), (18, v18), (21, v21), (23, v23), (24, v24)], g2) := by
 simp (disch := omega) only [go_sem, wy, wz, Nat.reduceEqDiff, reduceIte, Nat.reduceAdd, Nat.reduceMul, Nat.reduceLT, Nat.reduceLeDiff, Int.reduceBEq, Int.reduceBNe, Int.reduceLT, Int.reduceLE, Int.reduceEq, wI, cf.aP, cf.aJ, Int.reduceAdd, Int.reduceSub, Int.reduceMul, Int.reduceNeg, Int.reduceToNat, AP.f13, xV, xY, k]
theorem TL {v0 v11 v13 v15 v18 v21 v23 v24 : AV} {g g2 : H} {n : Nat} (ln : jy false v11 = some (.int .i64 n)) (hn : n < 1000) (k : aS AP.A 33 [v24, .int .i64 ((n : Int) - 257), .int .i64 5] g = some (.int .i64 0, g2)) : aM (aS AP.A) bG (at_ 20 AP.f13.body) [(0, v0), (11, v11), (13, v13), (15, v15), (18, v18), (21, v21), (23, v23), (24, v24)] g = some (.normal, [(0, v0), (11, v11), (13, v13), (15, v15), (18, v18), (21, v21), (23, v23), (24, v24)], g2) := by
 simp (disch := omega) only [go_sem, wy, wz, Nat.reduceEqDiff, reduceIte, Nat.reduceAdd, Nat.reduceMul, Nat.reduceLT, Nat.reduceLeDiff, Int.reduceBEq, Int.reduceBNe, Int.reduceLT, Int.reduceLE, Int.reduceEq, wI, cf.aP, cf.aJ, Int.reduceAdd, Int.reduceSub, Int.reduceMul, Int.reduceNeg, Int.reduceToNat, AP.f13, xV, xY, ln, k]
theorem TM {v0 v11 v13 v15 v18 v21 v23 v24 : AV} {g g2 : H} {n : Nat} (ln : jy false v13 = some (.int .i64 n)) (hn : n < 1000) (k : aS AP.A 33 [v24, .int .i64 ((n : Int) - 1), .int .i64 5] g = some (.int .i64 0, g2)) : aM (aS AP.A) bG (at_ 21 AP.f13.body) [(0, v0), (11, v11), (13, v13), (15, v15), (18, v18), (21, v21), (23, v23), (24, v24)] g = some (.normal, [(0, v0), (11, v11), (13, v13), (15, v15), (18, v18), (21, v21), (23, v23), (24, v24)], g2) := by
 simp (disch := omega) only [go_sem, wy, wz, Nat.reduceEqDiff, reduceIte, Nat.reduceAdd, Nat.reduceMul, Nat.reduceLT, Nat.reduceLeDiff, Int.reduceBEq, Int.reduceBNe, Int.reduceLT, Int.reduceLE, Int.reduceEq, wI, cf.aP, cf.aJ, Int.reduceAdd, Int.reduceSub, Int.reduceMul, Int.reduceNeg, Int.reduceToNat, AP.f13, xV, xY, ln, k]
theorem TN {v0 v11 v13 v15 v18 v21 v24 : AV} {g g2 : H} {n : Nat} (hn : n < 1000) (k : aS AP.A 33 [v24, .int .i64 ((n : Int) - 4), .int .i64 4] g = some (.int .i64 0, g2)) : aM (aS AP.A) bG (at_ 22 AP.f13.body) [(0, v0), (11, v11), (13, v13), (15, v15), (18, v18), (21, v21), (23, .int .i64 n), (24, v24)] g = some (.normal, [(0, v0), (11, v11), (13, v13), (15, v15), (18, v18), (21, v21), (23, .int .i64 n), (24, v24)], g2) := by
 simp (disch := omega) only [go_sem, wy, wz, Nat.reduceEqDiff, reduceIte, Nat.reduceAdd, Nat.reduceMul, Nat.reduceLT, Nat.reduceLeDiff, Int.reduceBEq, Int.reduceBNe, Int.reduceLT, Int.reduceLE, Int.reduceEq, wI, cf.aP, cf.aJ, Int.reduceAdd, Int.reduceSub, Int.reduceMul, Int.reduceNeg, Int.reduceToNat, AP.f13, xV, xY, k]
theorem TO {v0 v11 v13 v15 v18 v21 v23 v24 : AV} {g g2 : H} {e : Env} (L : Lp AP.A [0, 11, 13, 15, 18, 21, 23, 24, 25] AP.f13L1 [(0, v0), (11, v11), (13, v13), (15, v15), (18, v18), (21, v21), (23, v23), (24, v24), (25, .int .i64 0)] g = some (.exit 6, e, g2)) (q0 : look e 0 = v0) (q11 : look e 11 = v11) (q13 : look e 13 = v13) (q15 : look e 15 = v15) (q18 : look e 18 = v18) (q24 : look e 24 = v24) : aM (aS AP.A) bG (at_ 23 AP.f13.body) [(0, v0), (11, v11), (13, v13), (15, v15), (18, v18), (21, v21), (23, v23), (24, v24)] g = some (.normal, [(0, v0), (11, v11), (13, v13), (15, v15), (18, v18), (24, v24)], g2) := by
 simp (disch := omega) only [go_sem, wy, wz, Nat.reduceEqDiff, reduceIte, Nat.reduceAdd, Nat.reduceMul, Nat.reduceLT, Nat.reduceLeDiff, Int.reduceBEq, Int.reduceBNe, Int.reduceLT, Int.reduceLE, Int.reduceEq, wI, cf.aP, cf.aJ, Int.reduceAdd, Int.reduceSub, Int.reduceMul, Int.reduceNeg, Int.reduceToNat, AP.f13, xV, xY, th, L, q0, q11, q13, q15, q18, q24]
theorem TP {v0 v11 v13 v15 v18 v24 v26 : AV} {g : H} (k : aS AP.A 34 [v18] g = some (.bU [v26, .int .i64 0], g)) : aM (aS AP.A) bG (at_ 24 AP.f13.body) [(0, v0), (11, v11), (13, v13), (15, v15), (18, v18), (24, v24)] g = some (.normal, [(0, v0), (11, v11), (13, v13), (15, v15), (24, v24), (26, v26)], g) := by
 simp (disch := omega) only [go_sem, wy, wz, Nat.reduceEqDiff, reduceIte, Nat.reduceAdd, Nat.reduceMul, Nat.reduceLT, Nat.reduceLeDiff, Int.reduceBEq, Int.reduceBNe, Int.reduceLT, Int.reduceLE, Int.reduceEq, wI, cf.aP, cf.aJ, Int.reduceAdd, Int.reduceSub, Int.reduceMul, Int.reduceNeg, Int.reduceToNat, AP.f13, xV, xY, k]
theorem TQ {v0 v11 v13 v15 v24 v26 : AV} {g g2 : H} {e : Env} (L : Lp AP.A [0, 11, 13, 15, 24, 26, 28] AP.f13L0 [(0, v0), (11, v11), (13, v13), (15, v15), (24, v24), (26, v26), (28, .int .i64 0)] g = some (.exit 8, e, g2)) (q0 : look e 0 = v0) (q11 : look e 11 = v11) (q13 : look e 13 = v13) (q24 : look e 24 = v24) : aM (aS AP.A) bG (at_ 25 AP.f13.body) [(0, v0), (11, v11), (13, v13), (15, v15), (24, v24), (26, v26)] g = some (.normal, [(0, v0), (11, v11), (13, v13), (24, v24)], g2) := by
 simp (disch := omega) only [go_sem, wy, wz, Nat.reduceEqDiff, reduceIte, Nat.reduceAdd, Nat.reduceMul, Nat.reduceLT, Nat.reduceLeDiff, Int.reduceBEq, Int.reduceBNe, Int.reduceLT, Int.reduceLE, Int.reduceEq, wI, cf.aP, cf.aJ, Int.reduceAdd, Int.reduceSub, Int.reduceMul, Int.reduceNeg, Int.reduceToNat, AP.f13, xV, xY, th, L, q0, q11, q13, q24]
theorem TR {v0 v11 v13 v24 v29 : AV} {g : H} (k : aS AP.A 34 [v11] g = some (.bU [v29, .int .i64 0], g)) : aM (aS AP.A) bG (at_ 26 AP.f13.body) [(0, v0), (11, v11), (13, v13), (24, v24)] g = some (.normal, [(0, v0), (13, v13), (24, v24), (29, v29)], g) := by
 simp (disch := omega) only [go_sem, wy, wz, Nat.reduceEqDiff, reduceIte, Nat.reduceAdd, Nat.reduceMul, Nat.reduceLT, Nat.reduceLeDiff, Int.reduceBEq, Int.reduceBNe, Int.reduceLT, Int.reduceLE, Int.reduceEq, wI, cf.aP, cf.aJ, Int.reduceAdd, Int.reduceSub, Int.reduceMul, Int.reduceNeg, Int.reduceToNat, AP.f13, xV, xY, k]
theorem TT {v0 v13 v24 v29 v31 : AV} {g : H} (k : aS AP.A 34 [v13] g = some (.bU [v31, .int .i64 0], g)) : aM (aS AP.A) bG (at_ 27 AP.f13.body) [(0, v0), (13, v13), (24, v24), (29, v29)] g = some (.normal, [(0, v0), (24, v24), (29, v29), (31, v31)], g) := by
 simp (disch := omega) only [go_sem, wy, wz, Nat.reduceEqDiff, reduceIte, Nat.reduceAdd, Nat.reduceMul, Nat.reduceLT, Nat.reduceLeDiff, Int.reduceBEq, Int.reduceBNe, Int.reduceLT, Int.reduceLE, Int.reduceEq, wI, cf.aP, cf.aJ, Int.reduceAdd, Int.reduceSub, Int.reduceMul, Int.reduceNeg, Int.reduceToNat, AP.f13, xV, xY, k]
theorem TU {v0 v24 v29 v31 : AV} {g g2 : H} (k : aS AP.A 36 [v24, v0, v29, v31] g = some (.bU [], g2)) : aM (aS AP.A) bG (at_ 28 AP.f13.body) [(0, v0), (24, v24), (29, v29), (31, v31)] g = some (.normal, [(24, v24)], g2) := by
 simp (disch := omega) only [go_sem, wy, wz, Nat.reduceEqDiff, reduceIte, Nat.reduceAdd, Nat.reduceMul, Nat.reduceLT, Nat.reduceLeDiff, Int.reduceBEq, Int.reduceBNe, Int.reduceLT, Int.reduceLE, Int.reduceEq, wI, cf.aP, cf.aJ, Int.reduceAdd, Int.reduceSub, Int.reduceMul, Int.reduceNeg, Int.reduceToNat, AP.f13, xV, xY, k]
theorem TV {v24 : AV} {g : H} {t : ByteArray} (k : aS AP.A 37 [v24] g = some (.str t, g)) : aM (aS AP.A) bG (Mh 29 AP.f13.body) [(24, v24)] g = some (.ret, [(2, .str t), (3, .int .i64 0)], g) := by
 simp (disch := omega) only [go_sem, wy, wz, Nat.reduceEqDiff, reduceIte, Nat.reduceAdd, Nat.reduceMul, Nat.reduceLT, Nat.reduceLeDiff, Int.reduceBEq, Int.reduceBNe, Int.reduceLT, Int.reduceLE, Int.reduceEq, wI, cf.aP, cf.aJ, Int.reduceAdd, Int.reduceSub, Int.reduceMul, Int.reduceNeg, Int.reduceToNat, AP.f13, Nd, Nc, k]
theorem KF {h : H} {cs : List AV} {N k : Nat} (hN : cs.length = N) (h0 : 0 < N) (hk : k ≤ N) : sZ h 1 (zO 1 N cs) none (some (.int .i64 k)) none = some (.aV false cs 0 k 1) := by
 unfold zO
 rw [if_neg (by omega)]
 exact DK hN hk
theorem Uw {v0 v11 v13 : AV} {g : H} {cs : List AV} {N k : Nat} (hN : cs.length = N) (h0 : 0 < N) (hk : k ≤ N) (e : v11 = zO 1 N cs) (u : aS AP.A 31 [zO 1 N cs, .int .i64 257] g = some (.int .i64 k, g)) : aM (aS AP.A) bG (at_ 7 AP.f13.body) [(0, v0), (11, v11), (13, v13)] g = some (.normal, [(0, v0), (11, .aV false cs 0 k 1), (13, v13)], g) := by
 subst e
 have s := KF (h := g) hN h0 hk
 generalize zO 1 N cs = S at *
 simp (disch := omega) only [go_sem, wy, wz, Nat.reduceEqDiff, reduceIte, Nat.reduceAdd, Nat.reduceMul, Nat.reduceLT, Nat.reduceLeDiff, Int.reduceBEq, Int.reduceBNe, Int.reduceLT, Int.reduceLE, Int.reduceEq, wI, cf.aP, cf.aJ, Int.reduceAdd, Int.reduceSub, Int.reduceMul, Int.reduceNeg, Int.reduceToNat, AP.f13, xV, xY, u, s]
theorem Ux {v0 v11 v13 : AV} {g : H} {cs : List AV} {N k : Nat} (hN : cs.length = N) (h0 : 0 < N) (hk : k ≤ N) (e : v13 = zO 1 N cs) (u : aS AP.A 31 [zO 1 N cs, .int .i64 1] g = some (.int .i64 k, g)) : aM (aS AP.A) bG (at_ 8 AP.f13.body) [(0, v0), (11, v11), (13, v13)] g = some (.normal, [(0, v0), (11, v11), (13, .aV false cs 0 k 1)], g) := by
 subst e
 have s := KF (h := g) hN h0 hk
 generalize zO 1 N cs = S at *
 simp (disch := omega) only [go_sem, wy, wz, Nat.reduceEqDiff, reduceIte, Nat.reduceAdd, Nat.reduceMul, Nat.reduceLT, Nat.reduceLeDiff, Int.reduceBEq, Int.reduceBNe, Int.reduceLT, Int.reduceLE, Int.reduceEq, wI, cf.aP, cf.aJ, Int.reduceAdd, Int.reduceSub, Int.reduceMul, Int.reduceNeg, Int.reduceToNat, AP.f13, xV, xY, u, s]
theorem Uy {v0 v11 v13 v15 : AV} {g g2 : H} (p : lL (g.alloc []) 1 8 (.aF g.next 0 0 1) v11 = some (v15, g2)) : aM (aS AP.A) bG (at_ 9 AP.f13.body) [(0, v0), (11, v11), (13, v13)] g = some (.normal, [(0, v0), (11, v11), (13, v13), (15, v15)], g2) := by
 simp (disch := omega) only [go_sem, wy, wz, Nat.reduceEqDiff, reduceIte, Nat.reduceAdd, Nat.reduceMul, Nat.reduceLT, Nat.reduceLeDiff, Int.reduceBEq, Int.reduceBNe, Int.reduceLT, Int.reduceLE, Int.reduceEq, wI, cf.aP, cf.aJ, Int.reduceAdd, Int.reduceSub, Int.reduceMul, Int.reduceNeg, Int.reduceToNat, AP.f13, xV, xY, p]
theorem TA {v0 v11 v13 v15 v16 : AV} {g g2 : H} (p : lL g 1 8 v15 v13 = some (v16, g2)) : aM (aS AP.A) bG (at_ 10 AP.f13.body) [(0, v0), (11, v11), (13, v13), (15, v15)] g = some (.normal, [(0, v0), (11, v11), (13, v13), (15, v16)], g2) := by
 simp (disch := omega) only [go_sem, wy, wz, Nat.reduceEqDiff, reduceIte, Nat.reduceAdd, Nat.reduceMul, Nat.reduceLT, Nat.reduceLeDiff, Int.reduceBEq, Int.reduceBNe, Int.reduceLT, Int.reduceLE, Int.reduceEq, wI, cf.aP, cf.aJ, Int.reduceAdd, Int.reduceSub, Int.reduceMul, Int.reduceNeg, Int.reduceToNat, AP.f13, xV, xY, p]
theorem TB {v0 v11 v13 v15 : AV} {g : H}  : aM (aS AP.A) bG (at_ 11 AP.f13.body) [(0, v0), (11, v11), (13, v13), (15, v15)] g = some (.normal, [(0, v0), (11, v11), (13, v13), (15, v15), (16, .aF g.next 0 19 1)], (g.alloc (yX 19 [.int .i64 0]))) := by
 simp (disch := omega) only [go_sem, wy, wz, Nat.reduceEqDiff, reduceIte, Nat.reduceAdd, Nat.reduceMul, Nat.reduceLT, Nat.reduceLeDiff, Int.reduceBEq, Int.reduceBNe, Int.reduceLT, Int.reduceLE, Int.reduceEq, wI, cf.aP, cf.aJ, Int.reduceAdd, Int.reduceSub, Int.reduceMul, Int.reduceNeg, Int.reduceToNat, AP.f13, xV, xY]
theorem TF {v0 v11 v13 v15 v18 v20 : AV} {g : H}  : aM (aS AP.A) bG (at_ 15 AP.f13.body) [(0, v0), (11, v11), (13, v13), (15, v15), (18, v18), (20, v20)] g = some (.normal, [(0, v0), (11, v11), (13, v13), (15, v15), (18, v18), (20, v20), (21, .aF g.next 0 19 1)], (g.alloc (yX 19 [.int .i64 0]))) := by
 simp (disch := omega) only [go_sem, wy, wz, Nat.reduceEqDiff, reduceIte, Nat.reduceAdd, Nat.reduceMul, Nat.reduceLT, Nat.reduceLeDiff, Int.reduceBEq, Int.reduceBNe, Int.reduceLT, Int.reduceLE, Int.reduceEq, wI, cf.aP, cf.aJ, Int.reduceAdd, Int.reduceSub, Int.reduceMul, Int.reduceNeg, Int.reduceToNat, AP.f13, xV, xY]
theorem TC {v0 v11 v13 v15 v16 x17 x122 : AV} {g g2 : H} (L : Lp AP.A [0, 11, 13, 15, 16, 17] AP.f13L3 [(0, v0), (11, v11), (13, v13), (15, v15), (16, v16), (17, .int .i64 0)] g = some (.exit 2, [(0, v0), (11, v11), (13, v13), (15, v15), (16, v16), (17, x17), (122, x122)], g2)) : aM (aS AP.A) bG (at_ 12 AP.f13.body) [(0, v0), (11, v11), (13, v13), (15, v15), (16, v16)] g = some (.normal, [(0, v0), (11, v11), (13, v13), (15, v15), (16, v16)], g2) := by
 simp (disch := omega) only [go_sem, wy, wz, Nat.reduceEqDiff, reduceIte, Nat.reduceAdd, Nat.reduceMul, Nat.reduceLT, Nat.reduceLeDiff, Int.reduceBEq, Int.reduceBNe, Int.reduceLT, Int.reduceLE, Int.reduceEq, wI, cf.aP, cf.aJ, Int.reduceAdd, Int.reduceSub, Int.reduceMul, Int.reduceNeg, Int.reduceToNat, AP.f13, xV, xY, th, L]
theorem TG {v0 v11 v13 v15 v18 v20 v21 x22 x142 : AV} {g g2 : H} (L : Lp AP.A [0, 11, 13, 15, 18, 20, 21, 22] AP.f13L2 [(0, v0), (11, v11), (13, v13), (15, v15), (18, v18), (20, v20), (21, v21), (22, .int .i64 0)] g = some (.exit 4, [(0, v0), (11, v11), (13, v13), (15, v15), (18, v18), (20, v20), (21, v21), (22, x22), (142, x142)], g2)) : aM (aS AP.A) bG (at_ 16 AP.f13.body) [(0, v0), (11, v11), (13, v13), (15, v15), (18, v18), (20, v20), (21, v21)] g = some (.normal, [(0, v0), (11, v11), (13, v13), (15, v15), (18, v18), (21, v21)], g2) := by
 simp (disch := omega) only [go_sem, wy, wz, Nat.reduceEqDiff, reduceIte, Nat.reduceAdd, Nat.reduceMul, Nat.reduceLT, Nat.reduceLeDiff, Int.reduceBEq, Int.reduceBNe, Int.reduceLT, Int.reduceLE, Int.reduceEq, wI, cf.aP, cf.aJ, Int.reduceAdd, Int.reduceSub, Int.reduceMul, Int.reduceNeg, Int.reduceToNat, AP.f13, xV, xY, th, L]
theorem Ut {v0 v4 v5 x6 x43 : AV} {g g2 : H} (L : Lp AP.A [0, 4, 5, 6] AP.f13L4 [(0, v0), (4, v4), (5, v5), (6, .int .i64 0)] g = some (.exit 0, [(0, v0), (4, v4), (5, v5), (6, x6), (43, x43)], g2)) : aM (aS AP.A) bG (at_ 4 AP.f13.body) [(0, v0), (4, v4), (5, v5)] g = some (.normal, [(0, v0), (4, v4), (5, v5)], g2) := by
 simp (disch := omega) only [go_sem, wy, wz, Nat.reduceEqDiff, reduceIte, Nat.reduceAdd, Nat.reduceMul, Nat.reduceLT, Nat.reduceLeDiff, Int.reduceBEq, Int.reduceBNe, Int.reduceLT, Int.reduceLE, Int.reduceEq, wI, cf.aP, cf.aJ, Int.reduceAdd, Int.reduceSub, Int.reduceMul, Int.reduceNeg, Int.reduceToNat, AP.f13, xV, xY, th, L]
theorem Ur {v0 : AV} {g : H} : aM (aS AP.A) bG (at_ 2 AP.f13.body) [(0, v0)] g = some (.normal, [(0, v0), (4, .aF g.next 0 286 1), (5, .aF (g.next + 1) 0 30 1)], (g.alloc (yX 286 [.int .i64 0])).alloc (yX 30 [.int .i64 0])) := by
 simp (disch := first | omega | (simp only [yx, UO, UR, vW, Nat.reduceAdd]; first | done | omega | fail) | (simp (disch := first | omega | (simp only [yx, UO, UR, vW, Nat.reduceAdd]; first | done | omega | fail) | fail) only [yx, ER, US, UO, UR, vW, Nat.reduceAdd]; done) | fail) only [go_sem, wy, wz, Nat.reduceEqDiff, reduceIte, Nat.reduceAdd, Nat.reduceMul, Nat.reduceLT, Nat.reduceLeDiff, Int.reduceBEq, Int.reduceBNe, Int.reduceLT, Int.reduceLE, Int.reduceEq, wI, FJ, cf.aP, cf.aJ, Int.reduceAdd, Int.reduceSub, Int.reduceMul, Int.reduceNeg, Int.reduceToNat, AP.f13, xV, xY]
theorem Us {v0 v5 : AV} {g : H} {ia : Nat} {A : List AV} (ga : g.get ia = some A) (hA : A.length = 286) (fa : g.floor ≤ ia) : aM (aS AP.A) bG (at_ 3 AP.f13.body) [(0, v0), (4, .aF ia 0 286 1), (5, v5)] g = some (.normal, [(0, v0), (4, .aF ia 0 286 1), (5, v5)], g.set ia (A.set 256 (.int .i64 1))) := by
 simp (disch := omega) only [go_sem, wy, wz, Nat.reduceEqDiff, reduceIte, Nat.reduceAdd, Nat.reduceMul, Nat.reduceLT, Nat.reduceLeDiff, Int.reduceBEq, Int.reduceBNe, Int.reduceLT, Int.reduceLE, Int.reduceEq, wI, cf.aP, cf.aJ, Int.reduceAdd, Int.reduceSub, Int.reduceMul, Int.reduceNeg, Int.reduceToNat, AP.f13, xV, xY, ga, hA]
theorem Mz : AP.f13.body = .seq (at_ 0 AP.f13.body) (.seq (at_ 1 AP.f13.body) (.seq (at_ 2 AP.f13.body) (.seq (at_ 3 AP.f13.body) (.seq (at_ 4 AP.f13.body) (.seq (at_ 5 AP.f13.body) (.seq (at_ 6 AP.f13.body) (.seq (at_ 7 AP.f13.body) (.seq (at_ 8 AP.f13.body) (.seq (at_ 9 AP.f13.body) (.seq (at_ 10 AP.f13.body) (.seq (at_ 11 AP.f13.body) (.seq (at_ 12 AP.f13.body) (.seq (at_ 13 AP.f13.body) (.seq (at_ 14 AP.f13.body) (.seq (at_ 15 AP.f13.body) (.seq (at_ 16 AP.f13.body) (.seq (at_ 17 AP.f13.body) (.seq (at_ 18 AP.f13.body) (.seq (at_ 19 AP.f13.body) (.seq (at_ 20 AP.f13.body) (.seq (at_ 21 AP.f13.body) (.seq (at_ 22 AP.f13.body) (.seq (at_ 23 AP.f13.body) (.seq (at_ 24 AP.f13.body) (.seq (at_ 25 AP.f13.body) (.seq (at_ 26 AP.f13.body) (.seq (at_ 27 AP.f13.body) (.seq (at_ 28 AP.f13.body) ((Mh 29 AP.f13.body)))))))))))))))))))))))))))))) := rfl
theorem yU (l : List Int) (k : Nat) : ∀ n, k ≤ xi l k n ∧ xi l k n ≤ max k n
 | 0 => ⟨vR _, by rw [xi]; omega⟩
 | n + 1 => by
   rw [xi]
   have := yU l k n
   split
   · omega
   · split
     · omega
     · omega
theorem Fq : ∀ (K : Nat) (S W O : List Int), (Bv S K W O).length = O.length
 | 0, S, W, O => by rw [Bv, xS]
 | K + 1, S, W, O => by rw [Bv, Fq K, xS]
theorem A7 (C : List Int) (K : Nat) : (xA C K).length = C.length := by unfold xA; rw [Fq]; simp
theorem Jw (h : H) (l : List Int) {k : Nat} (hk : k ≤ l.length) : Rd h (.aV false (ints l) 0 k 1) (ints (l.take k)) := by
 refine ⟨?_, by intro s e; cases e⟩
 have : (ints (l.take k)).length = k := by rw [qy, Vm]; omega
 rw [this]
 simp [aT, ints, hk, List.map_take]
def dA (ts : List Tok) : List Int := Am ts ((List.replicate 286 0).set 256 1)
def dB (ts : List Tok) : List Int := AD ts (List.replicate 30 0)
def Cx (l : List Int) (k : Nat) : List Int := l.take (xi l k l.length)
theorem DX (l : List Int) {k : Nat} (h : k ≤ l.length) : (Cx l k).length = xi l k l.length := by
 have := yU l k l.length
 unfold Cx; rw [Vm]; omega
def xE (ts : List Tok) (la lb Lc : List Int) : List Nat :=
 let all := la ++ lb
 let row := wM.map (fun o => Lc.getD o.toNat 0)
 let k := xi row 4 19
 w8 5 3 ++ (w8 (la.length - 257) 5 ++ (w8 (lb.length - 1) 5 ++ (w8 (k - 4) 4 ++ (AH (row.take k) ++ (zQ (wD Lc) all ++ (xO (wD la) (wD lb) ts ++ wP (wD la) 256))))))
structure GN (ts : List Tok) (KA KB KC : Nat) (la lb Lc : List Int) : Prop where
 OW : JZ ts = true
 n : ts.length ≤ 300
 tok : ∀ t ∈ ts, AW t
 ra : yJ 15 KA (xK (dA ts))
 rb : yJ 15 KB (xK (dB ts))
 ea : la = Cx (xA (dA ts) KA) 257
 eb : lb = Cx (xA (dB ts) KB) 1
 all : ∀ y ∈ la ++ lb, 0 ≤ y ∧ y < 19
 rc : yJ 7 KC (xK (yo (la ++ lb) (List.replicate 19 0)))
 ec : Lc = xA (yo (la ++ lb) (List.replicate 19 0)) KC
 row : ∀ y ∈ Lc, 0 ≤ y ∧ y < 8
 ca : wT la = 0 ∨ wT la = 302
 cb : wT lb = 0 ∨ wT lb = 302
 cc : wT Lc = 0 ∨ wT Lc = 302
 FD : ∀ y ∈ la ++ lb, Dz (wD Lc) y.toNat
 ND : ∀ t ∈ ts, Ku (wD la) (wD lb) t
 HF : Dz (wD la) 256
theorem Ap (l : List Int) : (wD l).length = l.length := by simp [wD]
theorem AR (h : H) (l : List Int) : zE 2 h (DT l) (wD l).length ((wD l).flatMap xM) := by
 have := GG (n := 2) (k := l.length) (h := h) (cs := (wD l).flatMap xM) (by rw [CX Aa, Ap])
 rw [Ap]; exact this
theorem GF (h : H) (l : List Int) : Rd h (zO 1 l.length (ints l)) (ints l) := by
 have := GG (n := 1) (k := l.length) (h := h) (cs := ints l) (by rw [qy]; omega)
 exact ⟨by have := this.1; rw [qy]; exact this, this.2.2⟩
theorem z8 {C : List Int} (h : 2 ≤ C.length) : (xh C).length ≤ C.length := Dn h (zP 0 C)
theorem Iy (h : H) (v : AV) (ts : List Tok) (KA KB KC : Nat) (la lb Lc : List Int) (ok : GN ts KA KB KC la lb Lc) (rd : zE 3 h v ts.length (xu ts)) :
 aS AP.A 13 [v] h = some (.bU [.str (bytesOf (xm (xE ts la lb Lc))), .int .i64 0], h) := by
 obtain ⟨OW, hn, tok, ra, rb, ea, eb, hall, rc, ec, hrow, ca, cb, cc, FD, ND, HF⟩ := ok
 have rd0 : zE 3 h.ez v ts.length (xu ts) := rd.mono fun i c q => q
 obtain ⟨h2', eh2⟩ : ∃ g, g = (h.ez.alloc (yX 286 [.int .i64 0])).alloc (yX 30 [.int .i64 0]) := ⟨_, rfl⟩
 have d2 := Ur (v0 := v) (g := h.ez)
 rw [← eh2] at d2
 change aM (aS AP.A) bG (at_ 2 AP.f13.body) [(0, v)] h.ez = some (.normal, [(0, v), (4, .aF h.next 0 286 1), (5, .aF (h.next + 1) 0 30 1)], h2') at d2
 have gA2 : h2'.get h.next = some (ints (List.replicate 286 0)) := by rw [eh2, wY (by simp), wO (by simp), zq]
 have gB2 : h2'.get (h.next + 1) = some (ints (List.replicate 30 0)) := by rw [eh2, wO (by simp), zq]
 have fl2 : h2'.floor = h.next := by rw [eh2]; simp
 have nx2 : h2'.next = h.next + 2 := by rw [eh2]; simp
 have x2 : Ext h.ez h2' := by rw [eh2]; exact ((Ext.refl _).alloc _).alloc _
 have d3 := Us (v0 := v) (v5 := .aF (h.next + 1) 0 30 1) gA2 (by rw [qy]; simp) (by omega)
 rw [show (ints (List.replicate 286 0)).set 256 (.int .i64 1) = ints ((List.replicate 286 0).set 256 1) from xW _ _ _] at d3
 obtain ⟨h3', eh3⟩ : ∃ g, g = h2'.set h.next (ints ((List.replicate 286 0).set 256 1)) := ⟨_, rfl⟩
 rw [← eh3] at d3
 have gA3 : h3'.get h.next = some (ints ((List.replicate 286 0).set 256 1)) := by rw [eh3, wS rfl, gA2]; rfl
 have gB3 : h3'.get (h.next + 1) = some (ints (List.replicate 30 0)) := by rw [eh3, wL (by omega), gB2]
 have fl3 : h3'.floor = h.next := by rw [eh3]; simp [fl2]
 have nx3 : h3'.next = h.next + 2 := by rw [eh3]; simp [nx2]
 have x3 : Ext h.ez h3' := by rw [eh3]; exact x2.set (by simp) _
 obtain ⟨h4, L4, gA4, gB4, f4⟩ := Dc (by omega) h.ez rd0 h.next (h.next + 1) tok (by omega) (by simp) (by simp) ts [] _ _ h3' rfl x3 (by simp; omega) gA3 gB3 (by simp) (by simp) (fun y hy => by
  rcases Vj hy with q | q
  · have := Va q; omega
  · omega) (fun y hy => by have := Va hy; omega) (by omega) (by omega) (by omega)
 change h4.get h.next = some (ints (dA ts)) at gA4
 change h4.get (h.next + 1) = some (ints (dB ts)) at gB4
 have d4 := Ut L4
 have fl4 : h4.floor = h.next := by rw [f4.floor, fl3]
 have nx4 : h.next + 2 ≤ h4.next := by have := f4.next; omega
 have x4 : Ext h.ez h4 := fun i c q => by
  have := h.ez.lt _ _ q
  simp at this
  rw [f4.xX i (by omega) (by omega) (by omega), x3 i c q]
 have lA : (dA ts).length = 286 := by unfold dA; rw [Cg]; simp
 have lB : (dB ts).length = 30 := by unfold dB; rw [Cj]; simp
 have rgA : ∀ y ∈ dA ts, 0 ≤ y ∧ y ≤ 2147483647 := fun y hy => by
  have := Ch ts ((List.replicate 286 0).set 256 1) 1 (by omega) (fun y hy => by
   rcases Vj hy with q | q
   · have := Va q; omega
   · omega) y hy
  omega
 have rgB : ∀ y ∈ dB ts, 0 ≤ y ∧ y ≤ 2147483647 := fun y hy => by
  have := Cm ts (List.replicate 30 0) 0 (by omega) (fun y hy => by have := Va hy; omega) y hy
  omega
 have rdA : Rd h4 (.aF h.next 0 286 1) (ints (dA ts)) := by
  have : wW 1 h4 (.aF h.next 0 286 1) (dA ts).length (ints (dA ts)) := by rw [lA]; exact ⟨by rw [qy, lA], .inr ⟨h.next, rfl, gA4, by omega, by omega⟩⟩
  exact this.NG
 have rdB : Rd h4 (.aF (h.next + 1) 0 30 1) (ints (dB ts)) := by
  have : wW 1 h4 (.aF (h.next + 1) 0 30 1) (dB ts).length (ints (dB ts)) := by rw [lB]; exact ⟨by rw [qy, lB], .inr ⟨h.next + 1, rfl, gB4, by omega, by omega⟩⟩
  exact this.NG
 have sA := z8 (C := dA ts) (by omega)
 have sB := z8 (C := dB ts) (by omega)
 have kA := BR h4 _ (dA ts) 15 KA (by omega) (by omega) rdA (by omega) rgA (by omega) ra
 have kB := BR h4 _ (dB ts) 15 KB (by omega) (by omega) rdB (by omega) rgB (by omega) rb
 have lLA := A7 (dA ts) KA
 have lLB := A7 (dB ts) KB
 generalize xA (dA ts) KA = LA at *
 generalize xA (dB ts) KB = LB at *
 rw [lA] at lLA
 rw [lB] at lLB
 have kA' : aS AP.A 30 [.aF h.next 0 286 1, .int .i64 15] h4 = some (.bU [zO 1 LA.length (ints LA), .int .i64 0], h4) := by rw [lLA]; rw [lA] at kA; exact kA
 have kB' : aS AP.A 30 [.aF (h.next + 1) 0 30 1, .int .i64 15] h4 = some (.bU [zO 1 LB.length (ints LB), .int .i64 0], h4) := by rw [lLB]; rw [lB] at kB; exact kB
 have d5 := Uu (v0 := v) (v5 := .aF (h.next + 1) 0 30 1) kA'
 have d6 := Uv (v0 := v) (v11 := zO 1 LA.length (ints LA)) kB'
 have uA := IP h4 _ LA (by omega) (GF h4 LA) 257 (by omega)
 have uB := IP h4 _ LB (by omega) (GF h4 LB) 1 (by omega)
 have ugA := yU LA 257 LA.length
 have ugB := yU LB 1 LB.length
 have d7 := Uw (v0 := v) (v13 := zO 1 LB.length (ints LB)) (qy LA) (by omega) (by omega) rfl uA
 have d8 := Ux (v0 := v) (v11 := .aV false (ints LA) 0 (xi LA 257 LA.length) 1) (qy LB) (by omega) (by omega) rfl uB
 have r11 : ∀ g : H, Rd g (.aV false (ints LA) 0 (xi LA 257 LA.length) 1) (ints la) := fun g => by rw [ea]; exact Jw g LA (by omega)
 have r13 : ∀ g : H, Rd g (.aV false (ints LB) 0 (xi LB 1 LB.length) 1) (ints lb) := fun g => by rw [eb]; exact Jw g LB (by omega)
 have lla : la.length = xi LA 257 LA.length := by rw [ea]; exact DX LA (by omega)
 have llb : lb.length = xi LB 1 LB.length := by rw [eb]; exact DX LB (by omega)
 generalize hv11 : AV.aV false (ints LA) 0 (xi LA 257 LA.length) 1 = v11 at *
 generalize hv13 : AV.aV false (ints LB) 0 (xi LB 1 LB.length) 1 = v13 at *
 have la1 : 257 ≤ la.length ∧ la.length ≤ 286 := by omega
 have lb1 : 1 ≤ lb.length ∧ lb.length ≤ 30 := by omega
 clear uA uB kA kB kA' kB' ugA ugB rdA rdB rgA rgB sA sB
 have a1 := EW (z := 8) (r11 h4).Ub (by omega) (by omega) (by rw [qy]; omega) (yi (by rw [qy]; omega)) (j5 la)
 obtain ⟨h5, eh5⟩ : ∃ g, g = ((h4.alloc []).del h4.next).alloc (ints la) := ⟨_, rfl⟩
 rw [← eh5] at a1
 rw [qy] at a1
 have d9 := Uy (v0 := v) (v13 := v13) a1
 have ow5 : wW 1 h5 (.aF (h4.next + 1) 0 la.length 1) la.length (ints la) := ⟨by rw [qy]; omega, .inr ⟨h4.next + 1, rfl, by rw [eh5, wO (by simp)], by rw [eh5]; simp; omega, by omega⟩⟩
 have fl5 : h5.floor = h.next := by rw [eh5]; simp [fl4]
 have nx5 : h4.next ≤ h5.next := by rw [eh5]; simp; omega
 have k5 : ∀ i, i < h4.next → h5.get i = h4.get i := fun i hi => by rw [eh5, wY (by simp; omega), AJ (by omega), wY (by omega)]
 obtain ⟨v15, h6, p1, ow6, fl6, nx6, k6, id6⟩ := ow5.app (by omega) (z := 8) (m := lb.length) (by omega) (by omega) (ints lb) (by rw [qy]; omega) (j5 lb) (yi (by omega))
 have a2 : lL h5 1 8 (.aF (h4.next + 1) 0 la.length 1) v13 = some (v15, h6) := by
  unfold lL
  rw [(r13 h5).1, vO, qy]
  exact p1
 have d10 := TA (v0 := v) (v11 := v11) a2
 rw [← qx, ← wo] at ow6
 have k6' : ∀ i, i < h4.next → h6.get i = h4.get i := fun i hi => by
  rw [k6 i (fun e => by have := vG e; omega) (by omega), k5 i hi]
 have id6' : v15.id? = some h5.next := id6
 generalize hal : la ++ lb = all at *
 have lal : all.length ≤ 316 ∧ 0 < all.length := by rw [← hal, wo]; omega
 have d11 := TB (v0 := v) (v11 := v11) (v13 := v13) (v15 := v15) (g := h6)
 obtain ⟨h7, eh7⟩ : ∃ g, g = h6.alloc (yX 19 [.int .i64 0]) := ⟨_, rfl⟩
 rw [← eh7] at d11
 have gC7 : h7.get h6.next = some (ints (List.replicate 19 0)) := by rw [eh7, wO rfl, zq]
 have h6n : h6.get h6.next = none := by
  cases e : h6.get h6.next with
  | none => rfl
  | some c => have := h6.lt _ _ e; omega
 have x7 : Ext h6 h7 := by rw [eh7]; exact (Ext.refl _).alloc _
 obtain ⟨h8, L8, gC8, fl8, nx8, k8⟩ := Db (lv := v) (dv := v11) (mv := v13) (by omega) hall h6.next h6 ow6.NG h6n all [] _ h7 rfl x7 gC7 (by simp) (fun y hy => by have := Va hy; simp; omega) (by rw [eh7]; simp; have := (ow6.lt id6').2; omega)
 have d12 := TC L8
 have lC : (yo all (List.replicate 19 0)).length = 19 := by rw [Co]; simp
 have rgC : ∀ y ∈ yo all (List.replicate 19 0), 0 ≤ y ∧ y ≤ 2147483647 := fun y hy => by
  have := Cp all (List.replicate 19 0) 0 (by omega) (fun y hy => by have := Va hy; omega) y hy
  omega
 have fl7 : h7.floor = h.next := by rw [eh7]; simp; omega
 have rdC : Rd h8 (.aF h6.next 0 19 1) (ints (yo all (List.replicate 19 0))) := by
  have : wW 1 h8 (.aF h6.next 0 19 1) (yo all (List.replicate 19 0)).length (ints (yo all (List.replicate 19 0))) := by
   rw [lC]; exact ⟨by rw [qy, lC], .inr ⟨h6.next, rfl, gC8, by rw [fl8, fl7]; have := (ow6.lt id6'); omega, by omega⟩⟩
  exact this.NG
 have sC := z8 (C := yo all (List.replicate 19 0)) (by omega)
 have kC := BR h8 _ (yo all (List.replicate 19 0)) 7 KC (by omega) (by omega) rdC (by omega) rgC (by omega) rc
 have lLc : Lc.length = 19 := by rw [ec, A7, lC]
 have kC' : aS AP.A 30 [.aF h6.next 0 19 1, .int .i64 7] h8 = some (.bU [zO 1 Lc.length (ints Lc), .int .i64 0], h8) := by rw [lLc]; rw [← ec, lC] at kC; exact kC
 have d13 := TD (v0 := v) (v11 := v11) (v13 := v13) (v15 := v15) kC'
 have d14 := TE (v0 := v) (v11 := v11) (v13 := v13) (v15 := v15) (v18 := zO 1 Lc.length (ints Lc)) (Lv h8)
 have d15 := TF (v0 := v) (v11 := v11) (v13 := v13) (v15 := v15) (v18 := zO 1 Lc.length (ints Lc)) (v20 := yN wM) (g := h8)
 obtain ⟨h9, eh9⟩ : ∃ g, g = h8.alloc (yX 19 [.int .i64 0]) := ⟨_, rfl⟩
 rw [← eh9] at d15
 have gR9 : h9.get h8.next = some (ints (List.replicate 19 0)) := by rw [eh9, wO rfl, zq]
 have h8n : h8.get h8.next = none := by
  cases e : h8.get h8.next with
  | none => rfl
  | some c => have := h8.lt _ _ e; omega
 have x9 : Ext h8 h9 := by rw [eh9]; exact (Ext.refl _).alloc _
 have fl8' : h8.floor = h.next := by rw [fl8, fl7]
 have nx8' : h6.next + 1 = h8.next := by rw [nx8, eh7]; simp
 have nx6' : h.next + 2 ≤ h6.next := by omega
 obtain ⟨h10, L10, gR10, fl10, nx10, k10⟩ := HU (a0 := v) (a1 := v11) (a2 := v13) (a3 := v15) lLc h8.next h8 (GF h8 Lc) (zo h8 wM) h8n 19 0 h9 (by omega) x9 gR9 (by rw [eh9]; simp; omega)
 have d16 := TG L10
 obtain ⟨R, hR⟩ : ∃ R, R = wM.map (fun o => Lc.getD o.toNat 0) := ⟨_, rfl⟩
 rw [← hR] at gR10
 have lR : R.length = 19 := by rw [hR]; rfl
 have rR : ∀ y ∈ R, 0 ≤ y ∧ y < 8 := by
  intro y hy
  rw [hR] at hy
  obtain ⟨o, ho, rfl⟩ := U9.1 hy
  have := A9 o ho
  have hol : o.toNat < Lc.length := by omega
  rw [UM, UP hol]
  exact hrow _ (Vb hol)
 have fl10' : h10.floor = h.next := by rw [fl10, eh9]; simp [fl8']
 have nx10' : h8.next + 1 = h10.next := by rw [nx10, eh9]; simp
 have rdR : Rd h10 (.aF h8.next 0 19 1) (ints R) := by
  have : wW 1 h10 (.aF h8.next 0 19 1) R.length (ints R) := by
   rw [lR]; exact ⟨by rw [qy, lR], .inr ⟨h8.next, rfl, gR10, by omega, by omega⟩⟩
  exact this.NG
 have kU := IP h10 _ R (by omega) rdR 4 (by omega)
 have uk := yU R 4 R.length
 rw [lR] at uk
 have d17 := TH (v0 := v) (v11 := v11) (v13 := v13) (v15 := v15) (v18 := zO 1 Lc.length (ints Lc)) kU
 rw [lR] at d17
 obtain ⟨k, hk⟩ : ∃ k, k = xi R 4 19 := ⟨_, rfl⟩
 rw [← hk] at d17 uk
 have b10 : ∀ i, i < h6.next → h10.get i = h6.get i := fun i hi => by
  rw [k10 i (by omega), eh9, wY (by omega), k8 i (by omega), eh7, wY (by omega)]
 have x10 : Ext h.ez h10 := fun i c q => by
  have hi := h.ez.lt _ _ q
  simp at hi
  rw [b10 i (by omega), k6' i (by omega), x4 i c q]
 have rdv : zE 3 h10 v ts.length (xu ts) := rd0.mono x10
 have rda : Rd h10 v15 (ints all) := (ow6.mono (by omega) fun i hi => b10 i (ow6.lt hi).2).NG
 have d18 := TI (v0 := v) (v11 := v11) (v13 := v13) (v15 := v15) (v18 := zO 1 Lc.length (ints Lc)) (v21 := .aF h8.next 0 19 1) (v23 := .int .i64 (k : Nat)) (g := h10)
 obtain ⟨h11, eh11⟩ : ∃ g, g = h10.alloc [.aQ, .int .i64 0] := ⟨_, rfl⟩
 rw [← eh11] at d18
 have wx0 : WX h10 h11 h10.next [] .aQ := by
  refine ⟨⟨by rw [eh11, wO rfl]; rfl, wW.nil, by rw [eh11]; simp; omega, by rw [eh11]; simp; omega, by simp [AV.id?], fun b hb => by simp [xm, yA] at hb⟩, by rw [eh11]; exact (Ext.refl _).alloc _, vR _, by rw [eh11]; simp, fun j hj => by simp [AV.id?] at hj⟩
 obtain ⟨h12, o12, p12, w12, f12⟩ := zy wx0.wr 5 3 (by omega) (by omega) (by simp)
 have wx1 := wx0.step w12 f12
 have l1 : ([] ++ w8 5 3).length = 3 := by simp [w8, xc]
 obtain ⟨h13, o13, p13, w13, f13⟩ := zy wx1.wr (la.length - 257) 5 (by omega) (by omega) (by omega)
 have wx2 := wx1.step w13 f13
 have l2 : ([] ++ w8 5 3 ++ w8 (la.length - 257) 5).length = 8 := by simp [w8, xc]
 obtain ⟨h14, o14, p14, w14, f14⟩ := zy wx2.wr (lb.length - 1) 5 (by omega) (by omega) (by omega)
 have wx3 := wx2.step w14 f14
 have l3 : ([] ++ w8 5 3 ++ w8 (la.length - 257) 5 ++ w8 (lb.length - 1) 5).length = 13 := by simp [w8, xc]
 obtain ⟨h15, o15, p15, w15, f15⟩ := zy wx3.wr (k - 4) 4 (by omega) (by omega) (by omega)
 have wx4 := wx3.step w15 f15
 have l4 : ([] ++ w8 5 3 ++ w8 (la.length - 257) 5 ++ w8 (lb.length - 1) 5 ++ w8 (k - 4) 4).length = 17 := by simp [w8, xc]
 have p12' : aS AP.A 33 [.aE h10.next 0, .int .i64 5, .int .i64 3] h11 = some (.int .i64 0, h12) := p12
 have p13' : aS AP.A 33 [.aE h10.next 0, .int .i64 ((la.length : Int) - 257), .int .i64 5] h12 = some (.int .i64 0, h13) := by
  have e : ((la.length - 257 : Nat) : Int) = (la.length : Int) - 257 := by omega
  rw [e] at p13; exact p13
 have p14' : aS AP.A 33 [.aE h10.next 0, .int .i64 ((lb.length : Int) - 1), .int .i64 5] h13 = some (.int .i64 0, h14) := by
  have e : ((lb.length - 1 : Nat) : Int) = (lb.length : Int) - 1 := by omega
  rw [e] at p14; exact p14
 have p15' : aS AP.A 33 [.aE h10.next 0, .int .i64 ((k : Int) - 4), .int .i64 4] h14 = some (.int .i64 0, h15) := by
  have e : ((k - 4 : Nat) : Int) = (k : Int) - 4 := by omega
  rw [e] at p15; exact p15
 have ln11 : jy false v11 = some (.int .i64 la.length) := by have := (r11 h10).len; rw [qy] at this; exact this
 have ln13 : jy false v13 = some (.int .i64 lb.length) := by have := (r13 h10).len; rw [qy] at this; exact this
 have d19 := TJ (v0 := v) (v11 := v11) (v13 := v13) (v15 := v15) (v18 := zO 1 Lc.length (ints Lc)) (v21 := .aF h8.next 0 19 1) (v23 := .int .i64 (k : Nat)) p12'
 have d20 := TL (v0 := v) (v13 := v13) (v15 := v15) (v18 := zO 1 Lc.length (ints Lc)) (v21 := .aF h8.next 0 19 1) (v23 := .int .i64 (k : Nat)) ln11 (by omega) p13'
 have d21 := TM (v0 := v) (v11 := v11) (v15 := v15) (v18 := zO 1 Lc.length (ints Lc)) (v21 := .aF h8.next 0 19 1) (v23 := .int .i64 (k : Nat)) ln13 (by omega) p14'
 have d22 := TN (v0 := v) (v11 := v11) (v13 := v13) (v15 := v15) (v18 := zO 1 Lc.length (ints Lc)) (v21 := .aF h8.next 0 19 1) (n := k) (by omega) p15'
 obtain ⟨e16, h16, o16, L16, q0, q11, q13, q15, q18, q24, wx5⟩ := FM (a0 := v) (a1 := v11) (a2 := v13) (a3 := v15) (a4 := zO 1 Lc.length (ints Lc)) h10 rdR k (by omega) lR h10.next rR k 0 _ h15 o15 (by omega) wx4 (by omega)
 have d23 := TO L16 q0 q11 q13 q15 q18 q24
 have k24 := Cs h16 _ Lc (by omega) (by omega) (GF h16 Lc) cc
 have d24 := TP (v0 := v) (v11 := v11) (v13 := v13) (v15 := v15) (v24 := .aE h10.next 0) k24
 have l5 : ([] ++ w8 5 3 ++ w8 (la.length - 257) 5 ++ w8 (lb.length - 1) 5 ++ w8 (k - 4) 4 ++ AH ((R.drop 0).take k)).length ≤ 17 + 57 := by
  rw [wo, l4, Ey, Vm]; omega
 obtain ⟨e17, h17, o17, L17, q0', q11', q13', q24', wx6⟩ := Ep (a0 := v) (a1 := v11) (a2 := v13) h10 rda (AR h10 Lc) (by omega) (by rw [Ap]; exact lLc) h10.next hall FD all [] _ h16 o16 rfl wx5 (by omega)
 have d25 := TQ L17 q0' q11' q13' q24'
 have k26 := Cs h17 v11 la (by omega) (by omega) (r11 h17) ca
 have k27 := Cs h17 v13 lb (by omega) (by omega) (r13 h17) cb
 have d26 := TR (v0 := v) (v13 := v13) (v24 := .aE h10.next 0) k26
 have d27 := TT (v0 := v) (v24 := .aE h10.next 0) (v29 := DT la) k27
 have l6 := GR FD
 obtain ⟨h18, o18, k28, wx7⟩ := L7 (by omega) h10 rdv (AR h10 la) (AR h10 lb) ND HF h10.next _ h17 o17 wx6 (by rw [wo]; omega)
 have d28 := TU k28
 have k29 := GM wx7.wr
 have d29 := TV k29
 have eB : [] ++ w8 5 3 ++ w8 (la.length - 257) 5 ++ w8 (lb.length - 1) 5 ++ w8 (k - 4) 4 ++ AH ((R.drop 0).take k) ++ zQ (wD Lc) all ++ (xO (wD la) (wD lb) ts ++ wP (wD la) 256) = xE ts la lb Lc := by
  unfold xE
  simp only [List.nil_append, UY, Vg, hk, hR, hal]
 rw [eB] at d29
 have k1 := Nt h.ez v ts (by omega) rd0
 rw [OW] at k1
 have d0 := Up (v0 := v) (g := h.ez)
 have d1 := Uq k1
 refine u7 (fn := AP.f13) (h2 := h18) (e := [(2, .str (bytesOf (xm (xE ts la lb Lc)))), (3, .int .i64 0)]) rfl rfl rfl ?_ rfl rfl
 rw [Mz, sS, d0, tP, sS, d1, tP, sS, d2, tP, sS, d3, tP, sS, d4, tP, sS, d5, tP, sS, d6, tP, sS, d7, tP]
 rw [sS, d8, tP, sS, d9, tP, sS, d10, tP, sS, d11, tP, sS, d12, tP, sS, d13, tP, sS, d14, tP, sS, d15, tP, sS, d16, tP]
 rw [sS, d17, tP, sS, d18, tP, sS, d19, tP, sS, d20, tP, sS, d21, tP, sS, d22, tP, sS, d23, tP, sS, d24, tP, sS, d25, tP]
 rw [sS, d26, tP, sS, d27, tP, sS, d28, tP, d29]
theorem NF (c : Int) : ∀ k : Nat, c * 2 ^ k < 3 ^ k → 0 ≤ c → ∀ m : Nat, c * 2 ^ (k + m) < 3 ^ (k + m)
 | k, h, hc, 0 => h
 | k, h, hc, m + 1 => by
   have ih := NF c k h hc m
   rw [← vQ, Int.pow_succ, Int.pow_succ, ← Int.mul_assoc]
   have p : (0 : Int) ≤ c * 2 ^ (k + m) := Int.mul_nonneg hc (Int.pow_nonneg (by omega))
   omega
theorem Gn : ∀ (ds : List Int) (a m : Int), (∀ d ∈ ds, d ≤ m) → a ≤ m → AG ds a ≤ m
 | [], a, m, _, h => h
 | d :: ds, a, m, hd, h => by
   rw [AG]
   refine Gn ds _ m (fun x hx => hd x (by simp [hx])) ?_
   have := hd d (by simp)
   unfold xC; split <;> omega
theorem Jo : ∀ (ds : List Int) (a : Int), a ≤ AG ds a ∧ ∀ d ∈ ds, d ≤ AG ds a
 | [], a => ⟨Int.le_refl _, by simp⟩
 | d :: ds, a => by
   have ⟨h1, h2⟩ := Jo ds (xC a d)
   have : a ≤ xC a d ∧ d ≤ xC a d := by unfold xC; split <;> omega
   rw [AG]
   refine ⟨by omega, fun x hx => ?_⟩
   rcases wj.1 hx with q | q
   · subst q; omega
   · exact h2 x q
theorem HH : ∀ ws : List Int, (∀ y ∈ ws, y = 1) → ws.sum = ws.length
 | [], _ => rfl
 | y :: ws, h => by
   have := HH ws fun z hz => h z (by simp [hz])
   have := h y (by simp)
   rw [Vh, UO]; omega
theorem GA : ∀ ws : List Int, (∀ y ∈ ws, 1 ≤ y) → (ws.length : Int) ≤ ws.sum
 | [], _ => by simp
 | y :: ws, h => by
   have := GA ws fun z hz => h z (by simp [hz])
   have := h y (by simp)
   rw [Vh, UO]; omega
theorem CY : ∀ ws : List Int, (∀ y ∈ ws, 1 ≤ y) → (xy ws).sum ≤ ws.sum ∧ ((∃ y ∈ ws, y ≠ 1) → (xy ws).sum < ws.sum)
 | [], _ => ⟨Int.le_refl _, by simp⟩
 | y :: ws, h => by
   obtain ⟨h1, h2⟩ := CY ws fun z hz => h z (by simp [hz])
   have hy := h y (by simp)
   have e : (xy (y :: ws)).sum = Bu y + (xy ws).sum := by simp [xy]
   rw [e, Vh]
   have a : Bu y ≤ y := by unfold Bu; omega
   refine ⟨by omega, fun ⟨z, hz, hz1⟩ => ?_⟩
   rcases wj.1 hz with q | q
   · subst q
     have : Bu z < z := by unfold Bu; omega
     omega
   · have := h2 ⟨z, q, hz1⟩; omega
theorem Ff {ws : List Int} (h : ∀ y ∈ ws, 1 ≤ y) : ∀ y ∈ xy ws, 1 ≤ y := by
 intro y hy
 obtain ⟨z, hz, rfl⟩ := U9.1 hy
 have := h z hz
 unfold Bu; omega
theorem Ek {ws : List Int} (h1 : 1 ≤ ws.length) (ho : ∀ y ∈ ws, y = 1) {c : Int} {k : Nat} (hc : (ws.length : Int) ≤ c) (hk : c * 2 ^ (k + 1) < 3 ^ (k + 1)) (hs : ws.length ≤ 288) : ∀ d ∈ wQ ws, d ≤ k := by
 intro d hd
 have sm := HH ws ho
 obtain ⟨_, _, _, _, hb, _⟩ := PZ ws true h1 (fun y hy => by have := ho y hy; omega) (by omega) (fun _ => ho)
 have b := hb rfl d hd
 apply Vd
 intro q
 obtain ⟨m, hm⟩ : ∃ m : Nat, d.toNat = k + 1 + m := ⟨d.toNat - (k + 1), by omega⟩
 rw [hm] at b
 have := NF c (k + 1) hk (by omega) m
 have p : (0 : Int) < 2 ^ (k + 1 + m) := Int.pow_pos (by omega)
 have : ws.sum * 2 ^ (k + 1 + m) ≤ c * 2 ^ (k + 1 + m) := Int.mul_le_mul_of_nonneg_right (by omega) (by omega)
 omega
theorem HG {ws : List Int} (hl : ws.length ≤ 288) (pos : ∀ y ∈ ws, 1 ≤ y) (hs : ws.sum < 1000000000000000) : FB ws := by
 by_cases e : ws = []
 · exact .inl e
 · have h1 : 1 ≤ ws.length := List.length_pos_iff.2 e
   obtain ⟨a, b, c, _⟩ := PZ ws false h1 pos hs (fun h => by cases h)
   exact .inr ⟨h1, hl, a, b, c⟩
theorem Kh {most : Int} (hm : 0 ≤ most) : ∀ (f : Nat) (ws : List Int), ws.sum ≤ f → (∀ y ∈ ws, 1 ≤ y) → ws.sum < 1000000000000000 → ((13 ≤ most ∧ ws.length ≤ 288) ∨ (7 ≤ most ∧ ws.length ≤ 19)) → ∃ K, yJ most K ws := by
 intro f
 induction f with
 | zero =>
   intro ws hf pos hs hl
   have := GA ws pos
   have : ws = [] := List.length_eq_zero_iff.1 (by omega)
   subst this
   exact ⟨0, .last (.inl rfl) hm⟩
 | succ f ih =>
   intro ws hf pos hs hl
   have o := HG (by omega) pos hs
   by_cases c : AG (wQ ws) 0 ≤ most
   · exact ⟨0, .last o c⟩
   · have hne : ws ≠ [] := fun e => by subst e; exact c hm
     have h1 : 1 ≤ ws.length := List.length_pos_iff.2 hne
     have ho : ∃ y ∈ ws, y ≠ 1 := by
      apply Vd
      intro q
      have all1 : ∀ y ∈ ws, y = 1 := fun y hy => Vd fun r => q ⟨y, hy, r⟩
      rcases hl with ⟨a, b⟩ | ⟨a, b⟩
      · have := Ek (c := 288) (k := 13) h1 all1 (by omega) (by decide) (by omega)
        exact c (Gn _ _ _ (fun d hd => by have := this d hd; omega) hm)
      · have := Ek (c := 19) (k := 7) h1 all1 (by omega) (by decide) (by omega)
        exact c (Gn _ _ _ (fun d hd => by have := this d hd; omega) hm)
     have hh := (CY ws pos).2 ho
     obtain ⟨K, r⟩ := ih (xy ws) (by omega) (Ff pos) (by omega) (by rw [ze]; exact hl)
     exact ⟨K + 1, .more o (by omega) hne r⟩
theorem yS : ∀ (S D O : List Int) (p : Nat), (∀ s ∈ S, s.toNat ≠ p) → (xg S D O)[p]? = O[p]?
 | [], D, O, p, h => by simp [xg]
 | s :: S, [], O, p, h => by simp [xg]
 | s :: S, d :: D, O, p, h => by
   rw [xg, yS S D _ p fun t ht => h t (by simp [ht]), U4, if_neg (h s (by simp))]
theorem Bh : ∀ (S D O : List Int) (j : Nat) (s d : Int), (S.map Int.toNat).Nodup → S[j]? = some s → D[j]? = some d → s.toNat < O.length → (xg S D O)[s.toNat]? = some d
 | [], D, O, j, s, d, nd, h1, h2, h3 => by simp at h1
 | t :: S, [], O, j, s, d, nd, h1, h2, h3 => by simp at h2
 | t :: S, e :: D, O, 0, s, d, nd, h1, h2, h3 => by
   simp at h1 h2
   subst h1; subst h2
   rw [UW, List.nodup_cons] at nd
   rw [xg, yS S D _ _ fun u hu q => nd.1 (U9.2 ⟨u, hu, q⟩), U4, if_pos rfl, if_pos h3]
 | t :: S, e :: D, O, j + 1, s, d, nd, h1, h2, h3 => by
   rw [UW, List.nodup_cons] at nd
   rw [xg]
   exact Bh S D _ j s d nd.2 (by simpa using h1) (by simpa using h2) (by rw [U5]; exact h3)
theorem HY {S D O : List Int} {n : Nat} (hl : D.length = S.length) (nd : (S.map Int.toNat).Nodup) (hO : O.length = n) (hr : ∀ s ∈ S, s.toNat < n) (hz : ∀ p, p < n → (∀ s ∈ S, s.toNat ≠ p) → O[p]? = some 0) : xg S D O = xg S D (List.replicate n 0) := by
 apply List.ext_getElem?
 intro p
 by_cases hp : p < n
 · by_cases c : ∃ s ∈ S, s.toNat = p
   · obtain ⟨s, hs, rfl⟩ := c
     obtain ⟨j, hj, ej⟩ := List.mem_iff_getElem.1 hs
     have h1 : S[j]? = some s := by rw [UP hj, ej]
     have h2 : D[j]? = some (D[j]'(by omega)) := UP (by omega)
     rw [Bh S D O j s _ nd h1 h2 (by omega), Bh S D _ j s _ nd h1 h2 (by simpa using hp)]
   · have c' : ∀ s ∈ S, s.toNat ≠ p := fun s hs q => c ⟨s, hs, q⟩
     rw [yS _ _ _ _ c', yS _ _ _ _ c', hz p hp c', List.getElem?_replicate, if_pos hp]
 · rw [U8 (by rw [xS]; omega), U8 (by rw [xS]; simp; omega)]
theorem Ef {most : Int} {S : List Int} {n : Nat} (nd : (S.map Int.toNat).Nodup) (hr : ∀ s ∈ S, s.toNat < n) : ∀ (K : Nat) (W O : List Int), yJ most K W → W.length = S.length → (∀ y ∈ W, 1 ≤ y) → W.sum < 1000000000000000 → O.length = n → (∀ p, p < n → (∀ s ∈ S, s.toNat ≠ p) → O[p]? = some 0) →
 ∃ W', W'.length = S.length ∧ (∀ y ∈ W', 1 ≤ y) ∧ W'.sum < 1000000000000000 ∧ AG (wQ W') 0 ≤ most ∧ Bv S K W O = xg S (wQ W') (List.replicate n 0)
 | 0, W, O, r, hl, pos, hs, hO, hz => by
   cases r with
   | last o c => exact ⟨W, hl, pos, hs, c, HY (by rw [AK, hl]) nd hO hr hz⟩
 | K + 1, W, O, r, hl, pos, hs, hO, hz => by
   cases r with
   | more o c hne r =>
     have := (CY W pos).1
     exact Ef nd hr K (xy W) _ r (by rw [ze, hl]) (Ff pos) (by omega) (by rw [xS, hO]) (fun p hp hq => by rw [yS _ _ _ _ hq]; exact hz p hp hq)
theorem JC (f : Int → Nat) : ∀ (O : List Int) (i : Nat) (d : Int), i < O.length → ((O.set i d).map f).sum + f (O.getD i 0) = (O.map f).sum + f d
 | [], i, d, h => by simp at h
 | x :: O, 0, d, h => by simp; omega
 | x :: O, i + 1, d, h => by
   have := JC f O i d (by simpa using h)
   simp only [List.set_cons_succ, UW, Vh, List.getD_cons_succ]; omega
theorem EA (f : Int → Nat) : ∀ (S D O : List Int), D.length = S.length → (S.map Int.toNat).Nodup → (∀ s ∈ S, s.toNat < O.length) → ((xg S D O).map f).sum + (S.map fun s => f (O.getD s.toNat 0)).sum = (O.map f).sum + (D.map f).sum
 | [], D, O, hl, nd, hr => by
   have : D = [] := List.length_eq_zero_iff.1 (by simpa using hl)
   subst this
   simp [xg]
 | s :: S, [], O, hl, nd, hr => by simp at hl
 | s :: S, d :: D, O, hl, nd, hr => by
   rw [UW, List.nodup_cons] at nd
   have ih := EA f S D (O.set s.toNat d) (by simpa using hl) nd.2 (fun t ht => by rw [U5]; exact hr t (by simp [ht]))
   have e : (S.map fun t => f ((O.set s.toNat d).getD t.toNat 0)) = S.map fun t => f (O.getD t.toNat 0) := Vi fun t ht => by
    rw [getD_set_ne (fun q => nd.1 (U9.2 ⟨t, ht, q.symm⟩))]
   rw [e] at ih
   have ss := JC f O s.toNat d (hr s (by simp))
   simp only [xg, UW, Vh]
   omega
def f15 (n : Nat) (x : Int) : Nat := if 1 ≤ x ∧ x ≤ n then 2 ^ (n - x.toNat) else 0
theorem Fo : ∀ n, wN [] n = 2 ^ n
 | 0 => rfl
 | n + 1 => by
   have c : yy [] (n + 1) = 0 := I0 _
   rw [wN, Fo n, c, Int.pow_succ]; omega
theorem Fl (n : Nat) : ∀ (q p : List Int), wN (p ++ q) n = wN p n - ((q.map (f15 n)).sum : Nat)
 | [], p => by simp
 | x :: q, p => by
   have e : p ++ x :: q = (p ++ [x]) ++ q := by simp
   rw [e, Fl n q (p ++ [x]), BN, UW, Vh]
   unfold f15
   split
   · push_cast; omega
   · push_cast; omega
theorem A6 (l : List Int) (n : Nat) : wN l n = 2 ^ n - ((l.map (f15 n)).sum : Nat) := by
 have := Fl n l []
 rwa [List.nil_append, Fo] at this
theorem Fm (l : List Int) : ∀ n, wK l n + yy l n + wN l n = 2 ^ n
 | 0 => by simp [wK, wN, yy]
 | n + 1 => by
   have := Fm l n
   rw [wK, wN, Int.pow_succ]; omega
theorem IB {l : List Int} {n : Nat} (h : 0 ≤ wN l n) : ∀ m, m ≤ n → 0 ≤ wN l m := by
 have : ∀ k m, m + k = n → 0 ≤ wN l m := by
  intro k
  induction k with
  | zero => intro m hm; have : m = n := by omega
            subst this; exact h
  | succ k ih =>
    intro m hm
    have := ih (m + 1) (by omega)
    rw [wN] at this
    omega
 exact fun m hm => this (n - m) m (by omega)
theorem Ha {l : List Int} {s : Nat} (hs : s < l.length) {n : Nat} (hn : 1 ≤ n) (e : l.getD s 0 = (n : Int)) : yy (l.take s) n < yy l n := by
 have a := Bp hs n hn
 rw [if_pos e] at a
 have : ∀ (p q : List Int), yy p n ≤ yy (p ++ q) n := fun p q => by
  unfold yy; split
  · exact vR _
  · rw [List.countP_append]; omega
 have b := this (l.take (s + 1)) (l.drop (s + 1))
 rw [List.take_append_drop] at b
 omega
theorem Gv {l : List Int} (hl : 0 ≤ wN l 15) (hr : ∀ y ∈ l, 0 ≤ y ∧ y < 16) {s : Nat} (hs : s < l.length) (h1 : 1 ≤ l.getD s 0) : Dz (wD l) s := by
 have hm : l.getD s 0 ∈ l := by rw [UM, UP hs]; exact Vb hs
 have r := hr _ hm
 obtain ⟨n, hn⟩ := UT r.1
 have n1 : 1 ≤ n := by omega
 have lt := Ha hs n1 hn
 have f := Fm l n
 have m := IB hl n (by omega)
 have fb := (show 0 ≤ wK l n from by
  have : ∀ n, 0 ≤ wK l n := by
   intro n
   induction n with
   | zero => simp [wK]
   | succ n ih => rw [wK]; omega
  exact this n)
 have tn : ((n : Nat) : Int).toNat = n := by omega
 refine ⟨n, (wK l n + yy (l.take s) n).toNat, ?_, n1, by omega, ?_⟩
 · unfold wD
   rw [v7, Vp hs, US]
   unfold Bq
   rw [if_pos h1, hn, tn]
   congr 2
   omega
 · have e2 : ((2 ^ n : Nat) : Int) = (2 : Int) ^ n := by push_cast; rfl
   omega
theorem FR : ∀ (C : List Int) (i : Nat), ((xp i C).map Int.toNat).Nodup
 | [], i => by simp [xp]
 | c :: r, i => by
   have ih := FR r (i + 1)
   rw [xp]
   split
   · rw [UW, List.nodup_cons]
     refine ⟨fun h => ?_, ih⟩
     obtain ⟨s, hs, e⟩ := U9.1 h
     have := yT (i + 1) r s hs
     omega
   · exact ih
theorem BX : ∀ (C : List Int) (i p : Nat), 0 < C.getD p 0 → ((i + p : Nat) : Int) ∈ xp i C
 | [], i, p, h => by simp at h
 | c :: r, i, 0, h => by
   rw [xp, if_pos (by simpa using h)]
   simp
 | c :: r, i, p + 1, h => by
   have ih := BX r (i + 1) p (by simpa using h)
   have e : i + 1 + p = i + (p + 1) := by omega
   rw [e] at ih
   rw [xp]
   split
   · exact List.mem_cons_of_mem _ ih
   · exact ih
theorem EI : ∀ (C : List Int) (i : Nat), (∀ y ∈ C, ¬ 0 < y) → xp i C = []
 | [], i, h => rfl
 | c :: r, i, h => by
   rw [xp, if_neg (h c (by simp))]
   exact EI r (i + 1) fun y hy => h y (by simp [hy])
theorem HP {S : List Int} {s : Int} (h : s ∈ S) : s ∈ zN S := by
 unfold zN
 split
 · rename_i h1
   match S, h1 with
   | [t], _ =>
     simp at h; subst h
     split <;> simp
 · exact h
theorem MU {S : List Int} (h : (S.map Int.toNat).Nodup) (hp : ∀ s ∈ S, 0 ≤ s) : ((zN S).map Int.toNat).Nodup := by
 unfold zN
 split
 · rename_i h1
   match S, h1 with
   | [t], _ =>
     have := hp t (by simp)
     split
     · rename_i c
       simp at c ⊢
       omega
     · rename_i c
       simp at c ⊢
       omega
 · exact h
theorem Ly {S : List Int} (h : S ≠ []) : 2 ≤ (zN S).length := by
 unfold zN
 split
 · rename_i h1
   split
   · simp
   · simp [h1]
 · rename_i h1
   have := List.length_pos_iff.2 h
   omega
theorem Lz {S W : List Int} (hl : W.length = S.length) (h : ∀ y ∈ W, 1 ≤ y) : ∀ y ∈ Bn S W, 1 ≤ y := by
 intro s hs
 unfold Bn at hs
 split at hs
 · rename_i h1
   rw [← hl] at h1
   match W, h1 with
   | [t], _ =>
     have := h t (by simp)
     split at hs
     · simp at hs; omega
     · simp at hs; omega
 · exact h s hs
theorem H4 {α : Type} : ∀ l : List α, (l.map fun _ => (0 : Nat)).sum = 0
 | [] => rfl
 | x :: l => by rw [UW, Vh, H4 l]
theorem J8 {C : List Int} (h : ∀ y ∈ C, ¬ 0 < y) : xh C = [] := by
 unfold xh; rw [EI C 0 h]; rfl
theorem EF : ∀ (l : List Int) (b : Int), (∀ y ∈ l, y ≤ b) → l.sum ≤ b * l.length
 | [], b, _ => by simp
 | y :: l, b, h => by
   have := EF l b fun z hz => h z (by simp [hz])
   have hy := h y (by simp)
   rw [Vh, UO]
   have e : b * ((l.length + 1 : Nat) : Int) = b * l.length + b := by rw [Int.natCast_add, Int.mul_add]; simp
   omega
theorem HC {C : List Int} (hC : ∀ y ∈ C, 0 ≤ y ∧ y ≤ 2147483647) (h2 : 2 ≤ C.length) (hl : C.length ≤ 288) : (∀ y ∈ xK C, 1 ≤ y) ∧ (xK C).sum < 1000000000000000 := by
 have pos : ∀ y ∈ xK C, 1 ≤ y := Lz (yC 0 C).symm fun y hy => by have := (Ah C y hy).2; omega
 refine ⟨pos, ?_⟩
 have up : ∀ y ∈ xK C, y ≤ 2147483647 := by
  intro y hy
  have w : ∀ z ∈ zC C, z ≤ 2147483647 := fun z hz => (hC z (Ah C z hz).1).2
  unfold xK Bn at hy
  split at hy
  · rename_i h1
    rw [yC] at h1
    match hW : zC C, h1 with
    | [t], _ =>
      rw [hW] at w hy
      have := w t (by simp)
      split at hy
      · simp at hy; omega
      · simp at hy; omega
  · exact w y hy
 have := EF (xK C) 2147483647 up
 have l1 : (xK C).length = (xh C).length := Gm C
 have l2 := z8 h2
 omega
theorem AM {C : List Int} {most : Int} (hC : ∀ y ∈ C, 0 ≤ y ∧ y ≤ 2147483647) (h2 : 2 ≤ C.length) (hm : 0 ≤ most) (hl : (13 ≤ most ∧ C.length ≤ 288) ∨ (7 ≤ most ∧ C.length ≤ 19)) : ∃ K, yJ most K (xK C) := by
 obtain ⟨a, b⟩ := HC hC h2 (by omega)
 have l1 : (xK C).length = (xh C).length := Gm C
 have l2 := z8 h2
 exact Kh hm (xK C).sum.toNat (xK C) (by have := GA _ a; omega) a b (by omega)
theorem A8 {C : List Int} {most : Int} {K : Nat} (hC : ∀ y ∈ C, 0 ≤ y ∧ y ≤ 2147483647) (h2 : 2 ≤ C.length) (hl : C.length ≤ 288) (hm : 0 ≤ most ∧ most ≤ 15) (r : yJ most K (xK C)) :
 (xA C K).length = C.length ∧ (∀ y ∈ xA C K, 0 ≤ y ∧ y ≤ most) ∧ (∀ p, 0 < C.getD p 0 → 1 ≤ (xA C K).getD p 0) ∧ ((∃ y ∈ C, 0 < y) → wN (xA C K) 15 = 0) ∧ ((∀ y ∈ C, ¬ 0 < y) → xA C K = List.replicate C.length 0) := by
 obtain ⟨a, b⟩ := HC hC h2 hl
 have nd : ((xh C).map Int.toNat).Nodup := MU (FR C 0) fun s hs => by have := yT 0 C s hs; omega
 have rg : ∀ s ∈ xh C, 0 ≤ s ∧ s < C.length := HQ h2 fun s hs => by have := yT 0 C s hs; omega
 have rg' : ∀ s ∈ xh C, s.toNat < C.length := fun s hs => by have := rg s hs; omega
 obtain ⟨W', w1, w2, w3, w4, w5⟩ := Ef nd rg' K (xK C) (List.replicate C.length 0) r (Gm C) a b (by simp) (fun p hp _ => by rw [List.getElem?_replicate, if_pos hp])
 have e : xA C K = xg (xh C) (wQ W') (List.replicate C.length 0) := w5
 have dl : (wQ W').length = (xh C).length := by rw [AK, w1]
 have dm : ∀ d ∈ wQ W', d ≤ most := fun d hd => by have := (Jo (wQ W') 0).2 d hd; omega
 have o := HG (ws := W') (by have := z8 h2; omega) w2 w3
 have d0 := Dd o
 have gin : ∀ (j : Nat) (s d : Int), (xh C)[j]? = some s → (wQ W')[j]? = some d → (xA C K)[s.toNat]? = some d := fun j s d h1 h2 => by
  rw [e]; exact Bh _ _ _ j s d nd h1 h2 (by simpa using rg' s (vV h1))
 have gout : ∀ p : Nat, (∀ s ∈ xh C, s.toNat ≠ p) → (xA C K)[p]? = (List.replicate C.length (0 : Int))[p]? := fun p hp => by rw [e, yS _ _ _ _ hp]
 have hu : xh C ≠ [] → 2 ≤ (xh C).length := fun hne => by
  refine Ly fun q => hne ?_
  unfold xh; rw [q]; rfl
 have h1w : xh C ≠ [] → _ := fun hne => PZ W' false (by have := hu hne; omega) w2 w3 (fun h => by cases h)
 refine ⟨A7 C K, ?_, ?_, ?_, ?_⟩
 · intro y hy
   obtain ⟨p, hp⟩ := wc.1 hy
   by_cases c : ∃ s ∈ xh C, s.toNat = p
   · obtain ⟨s, hs, rfl⟩ := c
     obtain ⟨j, hj⟩ := wc.1 hs
     have jl := (vN.1 hj).1
     have hd : (wQ W')[j]? = some ((wQ W')[j]'(by omega)) := UP (by omega)
     rw [gin j s _ hj hd] at hp
     obtain rfl := vG hp
     have m := Vb (l := wQ W') (n := j) (by omega)
     exact ⟨(d0 _ m).1, dm _ m⟩
   · rw [gout p fun s hs q => c ⟨s, hs, q⟩, List.getElem?_replicate] at hp
     split at hp
     · obtain rfl := vG hp; omega
     · cases hp
 · intro p hp
   have sm := BX C 0 p hp
   rw [vW] at sm
   have hs : (p : Int) ∈ xh C := HP sm
   obtain ⟨j, hj⟩ := wc.1 hs
   have jl := (vN.1 hj).1
   have hd : (wQ W')[j]? = some ((wQ W')[j]'(by omega)) := UP (by omega)
   have g := gin j _ _ hj hd
   have tp : ((p : Nat) : Int).toNat = p := by omega
   rw [tp] at g
   rw [UM, g]
   have hne : xh C ≠ [] := fun q => by rw [q] at hs; simp at hs
   exact (h1w hne).2.2.2.2.2 (by have := hu hne; omega) _ (Vb _)
 · rintro ⟨y, hy, hpos⟩
   obtain ⟨p, hp⟩ := wc.1 hy
   have sm := BX C 0 p (by rw [UM, hp]; exact hpos)
   have hs : ((0 + p : Nat) : Int) ∈ xh C := HP sm
   have hne : xh C ≠ [] := fun q => by rw [q] at hs; simp at hs
   have H := h1w hne
   have kr := H.2.2.2.1 15 (fun d hd => by have := dm d hd; omega)
   have one := H.2.2.2.2.2 (by have := hu hne; omega)
   have ss := EA (f15 15) (xh C) (wQ W') (List.replicate C.length 0) dl nd (fun s hs => by simpa using rg' s hs)
   rw [← e] at ss
   have z1 : ((xh C).map fun s => f15 15 ((List.replicate C.length (0 : Int)).getD s.toNat 0)).sum = 0 := by
    have : (xh C).map (fun s => f15 15 ((List.replicate C.length (0 : Int)).getD s.toNat 0)) = (xh C).map fun _ => 0 := Vi fun s hs => by
     rw [Bg (rg' s hs)]; rfl
    rw [this, H4]
   have z2 : ((List.replicate C.length (0 : Int)).map (f15 15)).sum = 0 := by
    rw [List.map_replicate]
    have : f15 15 0 = 0 := rfl
    rw [this]; simp
   have z3 : (wQ W').map (f15 15) = (wQ W').map fun d => 2 ^ (15 - d.toNat) := Vi fun d hd => by
    unfold f15
    rw [if_pos ⟨one d hd, by have := dm d hd; omega⟩]
   rw [z1, z2, z3, kr] at ss
   rw [A6, show ((xA C K).map (f15 15)).sum = 2 ^ 15 by omega]
   rfl
 · intro h
   rw [e, J8 h]
   simp [xg]
theorem Av (l : List Int) (k : Nat) : ∀ n p, xi l k n ≤ p → p < n → ¬ 0 < l.getD p 0
 | 0, p, h1, h2 => by omega
 | n + 1, p, h1, h2 => by
   rw [xi] at h1
   split at h1
   · omega
   · split at h1
     · omega
     · by_cases e : p = n
       · subst e; assumption
       · exact Av l k n p h1 (by omega)
theorem Je {l : List Int} (hr : ∀ y ∈ l, 0 ≤ y) (k n : Nat) : wN (Cx l k) n = wN l n := by
 have e : l = Cx l k ++ l.drop (xi l k l.length) := (List.take_append_drop _ _).symm
 have z : ((l.drop (xi l k l.length)).map (f15 n)).sum = 0 := by
  have : ∀ q : List Int, (∀ y ∈ q, y = 0) → (q.map (f15 n)).sum = 0 := by
   intro q
   induction q with
   | nil => intro _; rfl
   | cons x q ih =>
     intro h
     rw [UW, Vh, ih fun y hy => h y (by simp [hy]), h x (by simp)]
     unfold f15; simp
  refine this _ fun y hy => ?_
  obtain ⟨j, hj⟩ := wc.1 hy
  rw [v9] at hj
  have hl := (vN.1 hj).1
  have := Av l k l.length (xi l k l.length + j) (by omega) hl
  rw [UM, hj] at this
  have := hr y (List.mem_of_mem_drop hy)
  simp at *
  omega
 rw [A6, A6]
 have : (l.map (f15 n)).sum = ((Cx l k).map (f15 n)).sum := by
  conv => lhs; rw [e]
  rw [List.map_append, List.sum_append, z, Nat.add_zero]
 rw [this]
theorem My {l : List Int} (k : Nat) {p : Nat} (h : 0 < l.getD p 0) : p < (Cx l k).length ∧ (Cx l k).getD p 0 = l.getD p 0 := by
 have hp : p < l.length := by
  apply Vd
  intro c
  rw [UM, U8 (by omega)] at h
  simp at h
 have : p < xi l k l.length := by
  apply Vd
  intro c
  exact Av l k l.length p (by omega) hp h
 unfold Cx
 refine ⟨by rw [Vm]; omega, ?_⟩
 rw [UM, wm, if_pos this, ← UM]
theorem zS {l : List Int} (h1 : 1 ≤ l.length) (h2 : l.length ≤ 288) (hr : ∀ y ∈ l, 0 ≤ y ∧ y < 16) (h : 0 ≤ wN l 15) : wT l = if wN l 15 = 0 then 0 else 302 := by
 have hm : BT l = true := by
  unfold BT
  have : (ints l).any AA = false := by
   rw [List.any_eq_false]
   intro x hx
   obtain ⟨y, hy, rfl⟩ := U9.1 hx
   have := hr y hy
   simp [AA, I]; omega
  rw [this]; simp; omega
 unfold wT
 rw [if_neg (by rw [hm]; simp), if_neg (by omega)]
 split
 · rw [if_neg (by omega)]
 · rw [if_pos (by omega)]
theorem HV (s : ByteArray) (i j : Nat) : ∀ f k, (∀ m, m < k → yE s (i + m) = yE s (j + m)) → ∀ m, m < zr s i j f k → yE s (i + m) = yE s (j + m)
 | 0, k, h => by simpa [zr] using h
 | f + 1, k, h => by
   unfold zr
   split
   · rename_i q
     refine HV s i j f (k + 1) fun m hm => ?_
     by_cases e : m = k
     · subst e; exact q.2.2
     · exact h m (by omega)
   · exact h
theorem DM (s : ByteArray) (i : Nat) (hi : i ≤ s.size) : ∀ (n : Nat) (b : Nat × Nat), n ≤ i → (b.1 = 0 ∨ (b.1 ≤ 258 ∧ 1 ≤ b.2 ∧ b.2 ≤ i ∧ i + b.1 ≤ s.size ∧ ∀ m, m < b.1 → yE s (i + m) = yE s (i - b.2 + m))) →
 ((yc s i n b).1 = 0 ∨ ((yc s i n b).1 ≤ 258 ∧ 1 ≤ (yc s i n b).2 ∧ (yc s i n b).2 ≤ i ∧ i + (yc s i n b).1 ≤ s.size ∧ ∀ m, m < (yc s i n b).1 → yE s (i + m) = yE s (i - (yc s i n b).2 + m)))
 | 0, b, hn, h => h
 | n + 1, b, hn, h => by
   unfold yc
   refine DM s i hi n _ (by omega) ?_
   split
   · right
     refine ⟨Jx s i n, by show 1 ≤ i - n; omega, by show i - n ≤ i; omega, FO s i n hi, fun m hm => ?_⟩
     have := HV s i n 258 0 (fun m hm => by omega) m hm
     have e : i - (i - n) = n := by omega
     show yE s (i + m) = yE s (i - (i - n) + m)
     rw [e]; exact this
   · exact h
def preB (s : ByteArray) (i : Nat) : List Nat := (List.range i).map (yE s)
theorem yW (s : ByteArray) (i : Nat) : (preB s i).length = i := by simp [preB]
theorem FH (s : ByteArray) (i : Nat) : preB s (i + 1) = preB s i ++ [yE s i] := by simp [preB, List.range_succ]
theorem HR (s : ByteArray) {i j : Nat} (h : j < i) : (preB s i).getD j 0 = yE s j := by
 rw [UM, preB, v7, Vp h]; rfl
theorem I7 (s : ByteArray) {d : Nat} (hd : 1 ≤ d) : ∀ (n i : Nat), d ≤ i → (∀ m, m < n → yE s (i + m) = yE s (i - d + m)) → Ii d n (preB s i) = preB s (i + n)
 | 0, i, h, _ => rfl
 | n + 1, i, h, hm => by
   have e0 := hm 0 (by omega)
   simp only [Nat.add_zero] at e0
   rw [Ii, yW, HR s (by omega), ← e0, ← FH, I7 s hd n (i + 1) (by omega) fun m h2 => by
    have := hm (m + 1) (by omega)
    have a1 : i + (m + 1) = i + 1 + m := by omega
    have a2 : i - d + (m + 1) = i + 1 - d + m := by omega
    rw [a1, a2] at this; exact this]
   congr 1; omega
theorem IK (s : ByteArray) {i : Nat} (hi : i < s.size) : ((xN s i).1.len = 0 ∧ (xN s i).1.lit = yE s i ∧ (xN s i).1.xb = 0 ∧ (xN s i).2 = i + 1) ∨
 (∃ L D : Nat, (xN s i).1.len = L ∧ (xN s i).1.xb = D ∧ (xN s i).1.lit = 0 ∧ 3 ≤ L ∧ L ≤ 258 ∧ 1 ≤ D ∧ D ≤ i ∧ (xN s i).2 = i + L ∧ i + L ≤ s.size ∧ ∀ m, m < L → yE s (i + m) = yE s (i - D + m)) := by
 unfold xN
 split
 · exact .inl ⟨rfl, rfl, rfl, rfl⟩
 · rename_i c
   right
   rcases DM s i (by omega) i (0, 0) (vR _) (.inl rfl) with h | ⟨h1, h2, h3, h4, h5⟩
   · omega
   · exact ⟨_, _, rfl, rfl, rfl, by omega, h1, h2, h3, rfl, h4, h5⟩
theorem Ae (s : ByteArray) (hs : s.size ≤ 300) : ∀ (f i : Nat), s.size - i ≤ f → i ≤ s.size → (B5 s f i).length ≤ s.size - i ∧ (∀ t ∈ B5 s f i, AW t) ∧ xa i (B5 s f i) = true ∧ y8 (B5 s f i) (preB s i) = preB s s.size
 | 0, i, hf, hi => by
   have : i = s.size := by omega
   subst this
   simp [B5, xa, y8]
 | f + 1, i, hf, hi => by
   rw [B5]
   split
   · rename_i c
     have lt := Ib s i
     have le := Ia s i c
     obtain ⟨i1, i2, i3, i4⟩ := Ae s hs f (xN s i).2 (by omega) le
     have sp := IK s c
     refine ⟨by rw [UO]; omega, ?_, ?_, ?_⟩
     · intro t ht
       rcases wj.1 ht with q | q
       · subst q
         rcases sp with ⟨a, b, _, _⟩ | ⟨L, D, a, b, _, c1, c2, c3, c4, _, _, _⟩
         · have := zK s i
           exact .inl ⟨a, by omega, by omega⟩
         · exact .inr ⟨by omega, by omega, by omega, by omega⟩
       · exact i2 t q
     · rw [xa]
       rcases sp with ⟨a, b, c0, d⟩ | ⟨L, D, a, b, c0, c1, c2, c3, c4, d, e, _⟩
       · have hb := zK s i
         have st : xU (i : Int) (xN s i).1 = some ((i : Int) + 1) := by
          unfold xU
          rw [if_pos a, if_neg (by omega)]
         rw [st]
         simp only
         rw [if_neg (by omega)]
         have e : (((xN s i).2 : Nat) : Int) = (i : Int) + 1 := by omega
         rw [← e]; exact i3
       · have st : xU (i : Int) (xN s i).1 = some ((i : Int) + L) := by
          unfold xU
          rw [if_neg (by omega), if_neg (by omega), a]
         rw [st]
         simp only
         rw [if_neg (by omega)]
         have e' : (((xN s i).2 : Nat) : Int) = (i : Int) + L := by omega
         rw [← e']; exact i3
     · rw [y8]
       rcases sp with ⟨a, b, c0, d⟩ | ⟨L, D, a, b, c0, c1, c2, c3, c4, d, e, g⟩
       · have : xj (preB s i) (xN s i).1 = preB s (xN s i).2 := by
          unfold xj
          rw [if_pos a, b, d, FH]; rfl
         rw [this]; exact i4
       · have : xj (preB s i) (xN s i).1 = preB s (xN s i).2 := by
          unfold xj
          rw [if_neg (by omega), a, b, d]
          exact I7 s c3 L i c4 g
         rw [this]; exact i4
   · have : i = s.size := by omega
     subst this
     simp [xa, y8]
theorem D3 (s : ByteArray) (hs : s.size ≤ 300) : JZ (tokens s) = true := by
 obtain ⟨_, _, h3, h4⟩ := Ae s hs s.size 0 (by omega) (by omega)
 unfold JZ AZ tokens
 have h3' : xa 0 (B5 s s.size 0) = true := h3
 rw [if_pos h3']
 have : y8 (B5 s s.size 0) [] = preB s s.size := h4
 rw [this]
 simp only [xD, yW]
 simpa using hs
theorem D7 (l : List Int) (i p : Nat) : l.getD p 0 ≤ (yI l i).getD p 0 := by
 unfold yI
 by_cases e : i = p
 · subst e
   by_cases h : i < l.length
   · rw [UM (l := l.set i _), U4, if_pos rfl, if_pos h]
     show l.getD i 0 ≤ l.getD i 0 + 1
     omega
   · rw [List.set_eq_of_length_le (by omega)]; exact Int.le_refl _
 · rw [getD_set_ne e]; exact Int.le_refl _
theorem CC {l : List Int} {i : Nat} (h : i < l.length) : (yI l i).getD i 0 = l.getD i 0 + 1 := by
 unfold yI
 rw [UM (l := l.set i _), U4, if_pos rfl, if_pos h]; rfl
theorem Cc : ∀ (ts : List Tok) (A : List Int) (p : Nat), A.getD p 0 ≤ (Am ts A).getD p 0
 | [], A, p => Int.le_refl _
 | t :: r, A, p => by
   rw [Am]
   refine Int.le_trans ?_ (Cc r _ p)
   split <;> exact D7 _ _ _
theorem G7 : ∀ (ts : List Tok) (A : List Int) (p : Nat), A.getD p 0 ≤ (AD ts A).getD p 0
 | [], A, p => Int.le_refl _
 | t :: r, A, p => by
   rw [AD]
   refine Int.le_trans ?_ (G7 r _ p)
   split
   · exact Int.le_refl _
   · exact D7 _ _ _
theorem G9 : ∀ (ts : List Int) (A : List Int) (p : Nat), A.getD p 0 ≤ (yo ts A).getD p 0
 | [], A, p => Int.le_refl _
 | t :: r, A, p => by
   rw [yo]
   exact Int.le_trans (D7 _ _ _) (G9 r _ p)
theorem CG {A : List Int} (h : ∀ y ∈ A, 0 ≤ y) (p : Nat) : 0 ≤ A.getD p 0 := by
 rw [UM]
 cases e : A[p]? with
 | none => simp
 | some y => exact h y (vV e)
theorem IE {A : List Int} (h : ∀ y ∈ A, 0 ≤ y) (i : Nat) : ∀ y ∈ yI A i, 0 ≤ y := by
 intro y hy
 rcases Vj hy with q | q
 · exact h y q
 · have := CG h i; omega
theorem G6 : ∀ (ts : List Tok) (A : List Int), (∀ y ∈ A, 0 ≤ y) → A.length = 286 → ∀ t ∈ ts, AW t → (t.len = 0 → 1 ≤ (Am ts A).getD t.lit.toNat 0) ∧ (t.len ≠ 0 → 1 ≤ (Am ts A).getD (xL t.len.toNat) 0)
 | [], A, _, _, t, h, _ => by simp at h
 | u :: r, A, hA, hl, t, h, o => by
   rw [Am]
   rcases wj.1 h with q | q
   · subst q
     refine ⟨fun h0 => ?_, fun h0 => ?_⟩
     · rw [if_pos h0]
       refine Int.le_trans ?_ (Cc r _ _)
       rcases o with ⟨_, b, c⟩ | ⟨a, _⟩
       · rw [CC (by omega)]
         have := CG hA t.lit.toNat; omega
       · omega
     · rw [if_neg h0]
       refine Int.le_trans ?_ (Cc r _ _)
       rcases o with ⟨a, _⟩ | ⟨a, b, _⟩
       · exact absurd a h0
       · have := z9 (k := t.len.toNat) (by omega) (by omega)
         rw [CC (by omega)]
         have := CG hA (xL t.len.toNat); omega
   · exact G6 r _ (by split <;> exact IE hA _) (by split <;> rw [zk, hl]) t q o
theorem G8 : ∀ (ts : List Tok) (A : List Int), (∀ y ∈ A, 0 ≤ y) → A.length = 30 → ∀ t ∈ ts, AW t → t.len ≠ 0 → 1 ≤ (AD ts A).getD (ya t.xb.toNat) 0
 | [], A, _, _, t, h, _, _ => by simp at h
 | u :: r, A, hA, hl, t, h, o, h0 => by
   rw [AD]
   rcases wj.1 h with q | q
   · subst q
     rw [if_neg h0]
     refine Int.le_trans ?_ (G7 r _ _)
     rcases o with ⟨a, _⟩ | ⟨a, b, c, d⟩
     · exact absurd a h0
     · have := zW (k := t.xb.toNat) (by omega) (by omega)
       rw [CC (by omega)]
       have := CG hA (ya t.xb.toNat); omega
   · refine G8 r _ ?_ ?_ t q o h0
     · split
       · exact hA
       · exact IE hA _
     · split
       · exact hl
       · rw [zk, hl]
theorem DR : ∀ (ds : List Int) (A : List Int), (∀ y ∈ A, 0 ≤ y) → A.length = 19 → ∀ y ∈ ds, 0 ≤ y ∧ y < 19 → 1 ≤ (yo ds A).getD y.toNat 0
 | [], A, _, _, t, h, _ => by simp at h
 | u :: r, A, hA, hl, t, h, o => by
   rw [yo]
   rcases wj.1 h with q | q
   · subst q
     refine Int.le_trans ?_ (G9 r _ _)
     rw [CC (by omega)]
     have := CG hA t.toNat; omega
   · exact DR r _ (IE hA _) (by rw [zk, hl]) t q o
theorem Bf (n : Nat) : ∀ y ∈ List.replicate n (0 : Int), 0 ≤ y ∧ y ≤ 0 := fun y hy => by have := Va hy; omega
theorem Nr (ts : List Tok) (hn : ts.length ≤ 300) : (dA ts).length = 286 ∧ (∀ y ∈ dA ts, 0 ≤ y ∧ y ≤ 2147483647) ∧ 1 ≤ (dA ts).getD 256 0 := by
 have z : ∀ y ∈ (List.replicate 286 (0 : Int)).set 256 1, 0 ≤ y ∧ y ≤ 1 := fun y hy => by
  rcases Vj hy with q | q
  · have := Va q; omega
  · omega
 refine ⟨by unfold dA; rw [Cg, U5, UZ], fun y hy => ?_, ?_⟩
 · have := Ch ts _ 1 (by omega) z y hy; omega
 · have h : ((List.replicate 286 (0 : Int)).set 256 1).getD 256 0 = 1 := by decide
   have := Cc ts ((List.replicate 286 0).set 256 1) 256
   rw [h] at this
   exact this
theorem Ns (ts : List Tok) (hn : ts.length ≤ 300) : (dB ts).length = 30 ∧ (∀ y ∈ dB ts, 0 ≤ y ∧ y ≤ 2147483647) := by
 refine ⟨by unfold dB; rw [Cj, UZ], fun y hy => ?_⟩
 have := Cm ts _ 0 (by omega) (Bf 30) y hy; omega
theorem Ll {ts : List Tok} {la lb : List Int} {t : Tok} (o : AW t) (hA : t.len = 0 → Dz (wD la) t.lit.toNat) (hL : t.len ≠ 0 → Dz (wD la) (xL t.len.toNat)) (hB : t.len ≠ 0 → Dz (wD lb) (ya t.xb.toNat)) : Ku (wD la) (wD lb) t := by
 rcases o with ⟨a, b, c⟩ | ⟨a, b, c, d⟩
 · exact .inl ⟨a, b, hA a⟩
 · exact .inr ⟨a, b, c, d, hL (by omega), hB (by omega)⟩
theorem DY {C l : List Int} {K k m : Nat} (hC : ∀ y ∈ C, 0 ≤ y ∧ y ≤ 2147483647) (h2 : 2 ≤ C.length) (hl : C.length ≤ 288) (hk : k ≤ C.length) (hk1 : 1 ≤ k) (r : yJ 15 K (xK C)) (e : l = Cx (xA C K) k) :
 (k ≤ l.length ∧ l.length ≤ C.length) ∧ (∀ y ∈ l, 0 ≤ y ∧ y < 16) ∧ (wT l = 0 ∨ wT l = 302) ∧ (∀ p, 0 < C.getD p 0 → Dz (wD l) p) ∧ 0 ≤ wN l 15 := by
 obtain ⟨f1, f2, f3, f4, f5⟩ := A8 hC h2 hl (by omega) r
 have ug := yU (xA C K) k (xA C K).length
 have ll : l.length = xi (xA C K) k (xA C K).length := by rw [e]; exact DX _ (by omega)
 have hr : ∀ y ∈ l, 0 ≤ y ∧ y < 16 := fun y hy => by
  rw [e] at hy
  have := f2 y (List.mem_of_mem_take hy)
  omega
 have lc : wN l 15 = wN (xA C K) 15 := by rw [e]; exact Je (fun y hy => (f2 y hy).1) k 15
 have l0 : 0 ≤ wN l 15 := by
  rw [lc]
  by_cases c : ∃ y ∈ C, 0 < y
  · rw [f4 c]; omega
  · rw [f5 fun y hy q => c ⟨y, hy, q⟩]
    rw [A6, List.map_replicate]
    have : f15 15 0 = 0 := rfl
    rw [this]; simp
 have ck := zS (l := l) (by omega) (by omega) hr l0
 refine ⟨by omega, hr, ?_, fun p hp => ?_, l0⟩
 · rw [ck]; split
   · exact .inl rfl
   · exact .inr rfl
 · have g := f3 p hp
   obtain ⟨c1, c2⟩ := My k (show 0 < (xA C K).getD p 0 by omega)
   rw [← e] at c1 c2
   exact Gv l0 hr c1 (by omega)
theorem OS (s : ByteArray) (hs : s.size ≤ 300) : ∃ KA KB KC la lb Lc, GN (tokens s) KA KB KC la lb Lc := by
 obtain ⟨t1, t2, t3, t4⟩ := Ae s hs s.size 0 (by omega) (by omega)
 change (tokens s).length ≤ s.size - 0 at t1
 change ∀ t ∈ tokens s, AW t at t2
 have hn : (tokens s).length ≤ 300 := by omega
 have OW := D3 s hs
 generalize tokens s = ts at *
 obtain ⟨a1, a2, a3⟩ := Nr ts hn
 obtain ⟨b1, b2⟩ := Ns ts hn
 obtain ⟨KA, rA⟩ := AM (most := 15) a2 (by omega) (by omega) (.inl (by omega))
 obtain ⟨KB, rB⟩ := AM (most := 15) b2 (by omega) (by omega) (.inl (by omega))
 obtain ⟨la, ea⟩ : ∃ l, l = Cx (xA (dA ts) KA) 257 := ⟨_, rfl⟩
 obtain ⟨lb, eb⟩ : ∃ l, l = Cx (xA (dB ts) KB) 1 := ⟨_, rfl⟩
 obtain ⟨x1, x2, x3, x4, x5⟩ := DY (m := 0) a2 (by omega) (by omega) (by omega) (by omega) rA ea
 obtain ⟨y1, y2, y3, y4, y5⟩ := DY (m := 0) b2 (by omega) (by omega) (by omega) (by omega) rB eb
 have hall : ∀ y ∈ la ++ lb, 0 ≤ y ∧ y < 19 := fun y hy => by
  rcases Vf.1 hy with q | q
  · have := x2 y q; omega
  · have := y2 y q; omega
 have c1 : (yo (la ++ lb) (List.replicate 19 0)).length = 19 := by rw [Co, UZ]
 have c2 : ∀ y ∈ yo (la ++ lb) (List.replicate 19 0), 0 ≤ y ∧ y ≤ 2147483647 := fun y hy => by
  have := Cp (la ++ lb) _ 0 (by omega) (Bf 19) y hy
  rw [wo] at this
  omega
 obtain ⟨KC, rC⟩ := AM (most := 7) c2 (by omega) (by omega) (.inr (by omega))
 obtain ⟨f1, f2, f3, f4, f5⟩ := A8 c2 (by omega) (by omega) (by omega) rC
 have hit := DR (la ++ lb) (List.replicate 19 0) (fun y hy => (Bf 19 y hy).1) (by rw [UZ])
 have ex : ∃ y ∈ yo (la ++ lb) (List.replicate 19 0), 0 < y := by
  obtain ⟨z, hz⟩ := List.exists_mem_of_ne_nil (la ++ lb) (fun q => by
   have := Vt List.length q
   rw [wo, UR] at this
   omega)
  have h := hit z hz (hall z hz)
  refine ⟨_, ?_, show 0 < (yo (la ++ lb) (List.replicate 19 0)).getD z.toNat 0 by omega⟩
  have zl : z.toNat < (yo (la ++ lb) (List.replicate 19 0)).length := by have := hall z hz; omega
  rw [UM, UP zl]
  exact Vb zl
 have l0 := f4 ex
 have r16 : ∀ y ∈ xA (yo (la ++ lb) (List.replicate 19 0)) KC, 0 ≤ y ∧ y < 16 := fun y hy => by have := f2 y hy; omega
 refine ⟨KA, KB, KC, la, lb, _, ⟨OW, hn, t2, rA, rB, ea, eb, hall, rC, rfl, fun y hy => by have := f2 y hy; omega, x3, y3, ?_, ?_, ?_, ?_⟩⟩
 · have := zS (by omega) (by omega) r16 (by omega)
   rw [this, if_pos l0]; exact .inl rfl
 · intro y hy
   have h := hit y hy (hall y hy)
   have g := f3 y.toNat (by omega)
   exact Gv (by omega) r16 (by have := hall y hy; omega) g
 · intro t ht
   have o := t2 t ht
   have zA : ∀ y ∈ (List.replicate 286 (0 : Int)).set 256 1, 0 ≤ y := fun y hy => by
    rcases Vj hy with q | q
    · have := Va q; omega
    · omega
   have hA := G6 ts _ zA (by rw [U5, UZ]) t ht o
   have hB := G8 ts (List.replicate 30 0) (fun y hy => (Bf 30 y hy).1) (by rw [UZ]) t ht o
   exact Ll (ts := ts) o (fun h0 => x4 _ (by have := hA.1 h0; unfold dA; omega)) (fun h0 => x4 _ (by have := hA.2 h0; unfold dA; omega)) (fun h0 => y4 _ (by have := hB h0; unfold dB; omega))
 · exact x4 256 (by omega)
theorem Kd : ∀ bs : List Nat, (∀ b ∈ bs, b ≤ 1) → IQ (xm bs) := by
 have : ∀ (l : List Nat) (i : Nat) (out : List Nat), (∀ b ∈ l, b ≤ 1) → IQ out → IQ (yA l i out) := by
  intro l
  induction l with
  | nil => intro i out _ h; exact h
  | cons x l ih => intro i out hl h; exact ih (i + 1) _ (fun b hb => hl b (by simp [hb])) (Dl (hl x (by simp)) h)
 exact fun bs h => this bs 0 [] h fun _ q => by simp at q
theorem yQ (v : Nat) : ∀ m, ∀ b ∈ zh v m, b ≤ 1
 | 0, b, h => by simp [zh] at h
 | m + 1, b, h => by
   rw [zh] at h
   rcases wj.1 h with q | q
   · omega
   · exact yQ v m b q
theorem yK (v : Nat) : ∀ m i, ∀ b ∈ En v i m, b ≤ 1
 | 0, i, b, h => by simp [En] at h
 | m + 1, i, b, h => by
   rw [En] at h
   rcases wj.1 h with q | q
   · omega
   · exact yK v m (i + 1) b q
theorem Dv (E D : List (Int × Int)) (t : Tok) : ∀ b ∈ xe E D t, b ≤ 1 := by
 intro b h
 unfold xe wP w8 at h
 split at h
 · exact yQ _ _ b h
 · simp only [Vf] at h
   rcases h with h | h | h | h
   · exact yQ _ _ b h
   · exact yK _ _ _ b h
   · exact yQ _ _ b h
   · exact yK _ _ _ b h
theorem MB (ts : List Tok) (la lb Lc : List Int) : ∀ b ∈ xE ts la lb Lc, b ≤ 1 := by
 intro b h
 unfold xE at h
 simp only [Vf] at h
 rcases h with h | h | h | h | h | h | h | h
 · exact yK _ _ _ b h
 · exact yK _ _ _ b h
 · exact yK _ _ _ b h
 · exact yK _ _ _ b h
 · obtain ⟨y, _, hy⟩ := List.mem_flatMap.1 h
   exact yK _ _ _ b hy
 · obtain ⟨y, _, hy⟩ := List.mem_flatMap.1 h
   exact yQ _ _ b hy
 · obtain ⟨y, _, hy⟩ := List.mem_flatMap.1 h
   exact Dv _ _ y b hy
 · exact yQ _ _ b h
def Az (t : ByteArray) (p : Nat) (bs : List Nat) : Prop := p + bs.length ≤ 8 * t.size ∧ ∀ i, i < bs.length → yk t (p + i) = bs.getD i 0
theorem Az.app {t : ByteArray} {p : Nat} {a b : List Nat} (h : Az t p (a ++ b)) : Az t p a ∧ Az t (p + a.length) b := by
 obtain ⟨h1, h2⟩ := h
 rw [wo] at h1 h2
 refine ⟨⟨by omega, fun i hi => ?_⟩, ⟨by omega, fun i hi => ?_⟩⟩
 · have := h2 i (by omega)
   rw [this, UM, UM, Ve hi]
 · have := h2 (a.length + i) (by omega)
   rw [vQ, this, UM, UM, U6 (by omega), Nat.add_sub_cancel_left]
theorem E3 (l : List Nat) (h : IQ l) (i : Nat) : (((bytesOf l)[i]?).map (·.toNat)).getD 0 = l.getD i 0 := by
 have e : (bytesOf l)[i]? = (l.map UInt8.ofNat)[i]? := by
  show (l.map UInt8.ofNat).toArray[i]? = _
  simp
 rw [e, v7, UM]
 cases hx : l[i]? with
 | none => rfl
 | some x =>
   have := h x (vV hx)
   simp [UInt8.toNat_ofNat_of_lt' this]
theorem KJ {x b k j : Nat} (hb : b ≤ 1) (hx : x < 2 ^ k) : (x ||| b * 2 ^ k) / 2 ^ j % 2 = if j = k then b else x / 2 ^ j % 2 := by
 rw [← Nat.toNat_testBit, ← Nat.toNat_testBit, Nat.testBit_or]
 have hb' : b = 0 ∨ b = 1 := by omega
 rcases hb' with rfl | rfl
 · rw [Nat.zero_mul, Nat.zero_testBit, Bool.or_false]
   split
   · rename_i e; subst e
     rw [Nat.testBit_lt_two_pow hx]; rfl
   · rfl
 · rw [Nat.one_mul, Nat.testBit_two_pow]
   split
   · rename_i e; subst e; simp
   · rename_i e
     have : decide (k = j) = false := by simp; omega
     rw [this, Bool.or_false]
structure JJ (out : List Nat) (bs : List Nat) : Prop where
 len : out.length = (bs.length + 7) / 8
 bit : ∀ j, j < bs.length → out.getD (j / 8) 0 / 2 ^ (j % 8) % 2 = bs.getD j 0
 top : bs.length % 8 ≠ 0 → out.getD (bs.length / 8) 0 < 2 ^ (bs.length % 8)
theorem JJ.step {out bs : List Nat} {b : Nat} (hb : b ≤ 1) (v : JJ out bs) : JJ (xR out bs.length b) (bs ++ [b]) := by
 obtain ⟨len, bit, top⟩ := v
 obtain ⟨n, hn⟩ : ∃ n, n = bs.length := ⟨_, rfl⟩
 rw [← hn] at len bit top ⊢
 obtain ⟨o, ho⟩ : ∃ o, o = if n % 8 = 0 then out ++ [0] else out := ⟨_, rfl⟩
 have es : xR out n b = o.set (n / 8) (o.getD (n / 8) 0 ||| b * 2 ^ (n % 8)) := by rw [ho]; rfl
 have ol : n / 8 < o.length := by
  rw [ho]; split
  · rw [wo, len]; simp; omega
  · rw [len]; omega
 have og : ∀ j, j < n → o.getD (j / 8) 0 = out.getD (j / 8) 0 := fun j hj => by
  rw [ho]; split
  · rw [UM, Ve (by omega), ← UM]
  · rfl
 have ox : o.getD (n / 8) 0 < 2 ^ (n % 8) := by
  by_cases c : n % 8 = 0
  · rw [ho, if_pos c, UM, U6 (by omega), c]
    have : n / 8 - out.length = 0 := by omega
    rw [this]; simp
  · rw [ho, if_neg c]; exact top c
 have gn : ∀ m, (xR out n b).getD m 0 = if m = n / 8 then o.getD (n / 8) 0 ||| b * 2 ^ (n % 8) else o.getD m 0 := fun m => by
  rw [es]
  by_cases e : m = n / 8
  · subst e
    rw [if_pos rfl, UM, U4, if_pos rfl, if_pos ol]; rfl
  · rw [if_neg e, getD_set_ne (fun q => e q.symm)]
 have bl : (bs ++ [b]).length = n + 1 := by simp [hn]
 refine ⟨by rw [bl, Dm len], fun j hj => ?_, fun hc => ?_⟩
 · rw [bl] at hj
   rw [gn]
   by_cases e : j = n
   · subst e
     rw [if_pos rfl, KJ hb ox, if_pos rfl, UM, hn, U6 (vR _)]; simp
   · have hjn : j < n := by omega
     have gb : (bs ++ [b]).getD j 0 = bs.getD j 0 := by rw [UM, Ve (by omega), ← UM]
     rw [gb, ← bit j hjn, ← og j hjn]
     split
     · rename_i e2
       rw [KJ hb ox, if_neg (by omega), e2]
     · rfl
 · rw [bl] at hc ⊢
   have e8 : (n + 1) / 8 = n / 8 := by omega
   have m8 : (n + 1) % 8 = n % 8 + 1 := by omega
   rw [gn, e8, if_pos rfl, m8, Lu ox, Nat.pow_succ]
   have : b * 2 ^ (n % 8) ≤ 1 * 2 ^ (n % 8) := vU _ hb
   omega
theorem Ke : ∀ bs : List Nat, (∀ b ∈ bs, b ≤ 1) → JJ (xm bs) bs := by
 have key : ∀ (q p : List Nat) (out : List Nat), (∀ b ∈ q, b ≤ 1) → JJ out p → JJ (yA q p.length out) (p ++ q) := by
  intro q
  induction q with
  | nil => intro p out _ h; simpa [yA] using h
  | cons x q ih =>
    intro p out hb h
    have := ih (p ++ [x]) (xR out p.length x) (fun b q => hb b (by simp [q])) (h.step (hb x (by simp)))
    rw [wo, UY] at this
    exact this
 intro bs hb
 exact key bs [] [] hb ⟨rfl, fun j hj => by simp at hj, fun h => by simp at h⟩
theorem EZ (bs : List Nat) (hb : ∀ b ∈ bs, b ≤ 1) : Az (bytesOf (xm bs)) 0 bs := by
 have v := Ke bs hb
 have y := Kd bs hb
 refine ⟨by rw [xD, v.len]; omega, fun i hi => ?_⟩
 rw [vW]
 unfold yk
 rw [E3 _ y]
 exact v.bit i hi
theorem JG {t : ByteArray} {p : Nat} {v : Nat} : ∀ (n : Nat), (∀ i, i < n → yk t (p + i) = v / 2 ^ i % 2) → wH t p n = v % 2 ^ n
 | 0, h => by simp [wH, Nat.mod_one]
 | n + 1, h => by
   rw [wH, JG n fun i hi => h i (by omega), h n (by omega), Nat.pow_succ, Nat.mod_mul, Nat.mul_comm]
theorem HS (v : Nat) : ∀ m i j, j < m → (En v i m).getD j 0 = v / 2 ^ (i + j) % 2
 | 0, i, j, h => by omega
 | m + 1, i, 0, h => rfl
 | m + 1, i, j + 1, h => by
   show (En v (i + 1) m).getD j 0 = _
   rw [HS v m (i + 1) j (by omega)]
   congr 3; omega
theorem Az.put {t : ByteArray} {p v n : Nat} (h : Az t p (w8 v n)) (hv : v < 2 ^ n) : wH t p n = v ∧ p + n ≤ 8 * t.size := by
 obtain ⟨h1, h2⟩ := h
 unfold w8 at h1 h2
 rw [xc] at h1 h2
 refine ⟨?_, h1⟩
 rw [JG n fun i hi => by rw [h2 i hi, HS v n 0 i hi, vW], Nat.mod_eq_of_lt hv]
theorem H9 (n : Nat) : ∀ (q p : List Int), ∃ r, syms (p ++ q) n = syms p n ++ r
 | [], p => ⟨[], by simp⟩
 | x :: q, p => by
   obtain ⟨r, hr⟩ := H9 n q (p ++ [x])
   rw [UY, Bl] at hr
   exact ⟨_, by rw [show p ++ x :: q = p ++ ([x] ++ q) by simp, hr, UY]⟩
theorem M9 {l : List Int} {s n : Nat} (hs : s < l.length) (hn : 1 ≤ n) (e : l.getD s 0 = (n : Int)) : (syms l n)[yy (l.take s) n]? = some (s : Int) := by
 have e2 : l.take (s + 1) = l.take s ++ [l.getD s 0] := by
  rw [List.take_add_one, UP hs, UM, UP hs]; rfl
 obtain ⟨r, hr⟩ := H9 n (l.drop (s + 1)) (l.take (s + 1))
 rw [List.take_append_drop, e2, Bl, if_pos ⟨by omega, e⟩] at hr
 have ls := EJ (l.take s) n
 have lt : (l.take s).length = s := by rw [Vm]; omega
 rw [hr, UY, U6 (by omega), ls, Nat.sub_self, lt]; rfl
theorem Df (l : List Int) (n : Nat) : ∀ m, (wK l n + yy l n) * 2 ^ (m + 1) ≤ wK l (n + m + 1)
 | 0 => by rw [wK]; simp
 | m + 1 => by
   have ih := Df l n m
   rw [show n + (m + 1) + 1 = (n + m + 1) + 1 by omega, wK, Int.pow_succ, ← Int.mul_assoc]
   omega
theorem ME {l : List Int} {n m : Nat} {c : Nat} (hc : wK l (n + m + 1) ≤ (c : Int)) : yP l n ((c / 2 ^ (m + 1) : Nat) : Int) = none := by
 have g := Df l n m
 have h1 : wK l n + yy l n ≤ ((c / 2 ^ (m + 1) : Nat) : Int) := by
  have p2 : ((2 ^ (m + 1) : Nat) : Int) = (2 : Int) ^ (m + 1) := by push_cast; rfl
  have : (wK l n + yy l n) * ((2 ^ (m + 1) : Nat) : Int) ≤ (c : Int) := by rw [p2]; omega
  rw [Int.natCast_ediv]
  exact (Int.le_ediv_iff_mul_le (by have := Nat.pow_pos (n := m + 1) (show 0 < 2 by omega); omega)).2 this
 unfold yP
 split
 · rw [U8]
   rw [EJ]; omega
 · rfl
theorem H5 {t : ByteArray} {l : List Int} {s N c : Nat} (hs : s < l.length) (hN : 1 ≤ N) (e : l.getD s 0 = (N : Int)) (hc : (c : Int) = wK l N + yy (l.take s) N) : ∀ (m n k p : Nat), n + m = N → m + 1 ≤ k → Az t p (zh c (m + 1)) → Ad t l k n (c / 2 ^ (m + 1)) p = some ((s : Int), p + (m + 1))
 | m, n, 0, p, hn, hk, hb => by omega
 | m, n, k + 1, p, hn, hk, hb => by
   have hb1 : Az t p ([c / 2 ^ m % 2] ++ zh c m) := hb
   obtain ⟨b1, b2⟩ := hb1.app
   have v1 : wH t p 1 = c / 2 ^ m % 2 := by
    have := b1.2 0 (by simp)
    simp only [Nat.add_zero, List.getD_cons_zero] at this
    simp [wH, this]
   have pl : p + 1 ≤ 8 * t.size := b1.1
   have vv : c / 2 ^ (m + 1) * 2 + c / 2 ^ m % 2 = c / 2 ^ m := by
    rw [Nat.pow_succ, ← Nat.div_div_eq_div_mul]; omega
   rw [Ad, if_pos pl, v1, vv]
   cases m with
   | zero =>
     have : yP l n ((c / 2 ^ 0 : Nat) : Int) = some (s : Int) := by
      have hn' : n = N := by omega
      subst hn'
      unfold yP
      rw [Nat.pow_zero, Nat.div_one, if_pos (by omega)]
      have : ((c : Int) - wK l n).toNat = yy (l.take s) n := by omega
      rw [this]
      exact M9 hs hN e
     rw [this]
   | succ m =>
     have : yP l n ((c / 2 ^ (m + 1) : Nat) : Int) = none := ME (by rw [show n + m + 1 = N by omega]; omega)
     rw [this]
     have r := H5 hs hN e hc m (n + 1) k (p + 1) (by omega) (by omega) b2
     rw [r]
     simp only [vK, vM, true_and]; omega
theorem LU {t : ByteArray} {l : List Int} (hl : 0 ≤ wN l 15) (hr : ∀ y ∈ l, 0 ≤ y ∧ y < 16) {s p : Nat} (hs : s < l.length) (h1 : 1 ≤ l.getD s 0) (hb : Az t p (wP (wD l) s)) : Ad t l 15 1 0 p = some ((s : Int), p + (wP (wD l) s).length) := by
 obtain ⟨n, v, g, n1, n2, n3, n4⟩ := (Gv hl hr hs h1).bits
 have g2 : (wD l)[s]? = some (Bq l s) := by
  unfold wD
  rw [v7, Vp hs]; rfl
 rw [g2] at g
 have g3 := vG g
 unfold Bq at g3
 rw [if_pos h1] at g3
 have e1 : l.getD s 0 = (n : Int) := Vt Prod.fst g3
 have e2 : wK l (l.getD s 0).toNat + yy (l.take s) (l.getD s 0).toNat = (v : Int) := Vt Prod.snd g3
 have tn : ((n : Nat) : Int).toNat = n := by omega
 rw [e1, tn] at e2
 rw [n4] at hb ⊢
 rw [xk]
 obtain ⟨m, rfl⟩ : ∃ m, n = m + 1 := ⟨n - 1, by omega⟩
 have := H5 hs n1 e1 e2.symm m 1 15 p (by omega) (by omega) hb
 rw [Nat.div_eq_of_lt n3] at this
 exact this
theorem Gu {l : List Int} {s : Nat} (o : Dz (wD l) s) : s < l.length ∧ 1 ≤ l.getD s 0 := by
 have hs : s < l.length := by have := o.lt; rwa [Ap] at this
 obtain ⟨n, v, g, n1, _⟩ := o
 have g2 : (wD l)[s]? = some (Bq l s) := by
  unfold wD
  rw [v7, Vp hs]; rfl
 rw [g2] at g
 have g3 := vG g
 unfold Bq at g3
 refine ⟨hs, ?_⟩
 apply Vd
 intro c
 rw [if_neg c] at g3
 have := Vt Prod.fst g3
 simp at this
 omega
theorem E4 {most : Int} (d : Nat) : ∀ (n : Nat) (out : List Nat), (out.length : Int) + n ≤ most → Bs most d n out = .ok (Ii d n out)
 | 0, out, h => rfl
 | n + 1, out, h => by
   rw [Bs, if_neg (by omega), Ii]
   exact E4 d n _ (by simp; omega)
structure CO (l : List Int) : Prop where
 left : 0 ≤ wN l 15
 Tq : ∀ y ∈ l, 0 ≤ y ∧ y < 16
theorem CO.sym {l : List Int} (b : CO l) {t : ByteArray} {s p : Nat} (o : Dz (wD l) s) (hb : Az t p (wP (wD l) s)) : Ad t l 15 1 0 p = some ((s : Int), p + (wP (wD l) s).length) :=
 LU b.left b.Tq (Gu o).1 (Gu o).2 hb
theorem Hn (o : List Nat) (t : Tok) : o.length ≤ (xj o t).length := by
 unfold xj
 split
 · simp
 · rw [DC]; omega
theorem Ho : ∀ (ts : List Tok) (o : List Nat), o.length ≤ (y8 ts o).length
 | [], o => vR _
 | t :: r, o => wk (Hn o t) (Ho r _)
theorem BD {t : ByteArray} {la lb : List Int} (bA : CO la) (bB : CO lb) (o256 : Dz (wD la) 256) {most : Int} : ∀ (ts : List Tok) (k p : Nat) (out : List Nat), Az t p (xO (wD la) (wD lb) ts ++ wP (wD la) 256) → (∀ x ∈ ts, Ku (wD la) (wD lb) x) → xa out.length ts = true → ((y8 ts out).length : Int) ≤ most → ts.length < k →
 yf t most la lb k p out = .ok (p + (xO (wD la) (wD lb) ts ++ wP (wD la) 256).length, y8 ts out)
 | ts, 0, p, out, hb, ok, hm, hl, hk => by omega
 | [], k + 1, p, out, hb, ok, hm, hl, hk => by
   have hb' : Az t p (wP (wD la) 256) := hb
   have s := bA.sym o256 hb'
   rw [yf, s]
   simp only
   rw [if_neg (by omega), if_pos (by omega)]
   rfl
 | x :: r, k + 1, p, out, hb, ok, hm, hl, hk => by
   have ox := ok x (by simp)
   have e : xO (wD la) (wD lb) (x :: r) ++ wP (wD la) 256 = xe (wD la) (wD lb) x ++ (xO (wD la) (wD lb) r ++ wP (wD la) 256) := by
    unfold xO; rw [UU, UY]
   rw [e] at hb ⊢
   obtain ⟨h1, h2⟩ := hb.app
   have gl := Ho r (xj out x)
   have hl' : ((y8 r (xj out x)).length : Int) ≤ most := hl
   rw [xa] at hm
   cases hst : xU out.length x with
   | none => rw [hst] at hm; cases hm
   | some s' =>
     rw [hst] at hm
     simp only at hm
     by_cases k8 : 8192 < s'
     · rw [if_pos k8] at hm; cases hm
     rw [if_neg k8] at hm
     unfold xU at hst
     have rec_ : s' = ((xj out x).length : Nat) → yf t most la lb k (p + (xe (wD la) (wD lb) x).length) (xj out x) = .ok (p + (xe (wD la) (wD lb) x ++ (xO (wD la) (wD lb) r ++ wP (wD la) 256)).length, y8 r (xj out x)) := fun es => by
      have := BD bA bB o256 r k _ (xj out x) h2 (fun y hy => ok y (by simp [hy])) (by rw [← es]; exact hm) hl' (by simp at hk; omega)
      rw [this, wo (as := xe _ _ _), vQ]
     rw [y8]
     by_cases c0 : x.len = 0
     · rw [if_pos c0] at hst
       by_cases c : x.lit < 0 ∨ 255 < x.lit ∨ x.xb ≠ 0
       · rw [if_pos c] at hst; cases hst
       rw [if_neg c] at hst
       obtain rfl := vG hst
       have tb : xe (wD la) (wD lb) x = wP (wD la) x.lit.toNat := by rw [xe, if_pos c0]
       rcases ox with ⟨_, q2, q3⟩ | ⟨q, _⟩
       · have es : xj out x = out ++ [x.lit.toNat] := by unfold xj; rw [if_pos c0]
         rw [es] at gl hl' rec_ ⊢
         rw [wo, List.length_singleton] at gl rec_
         rw [tb] at h1 rec_ ⊢
         have s := bA.sym q3 h1
         rw [yf, s]
         simp only
         have tl : ((x.lit.toNat : Nat) : Int) < 256 := by omega
         rw [if_pos tl, if_neg (by omega)]
         have tn : (((x.lit.toNat : Nat) : Int)).toNat = x.lit.toNat := by omega
         rw [tn]
         exact rec_ (by push_cast; rfl)
       · omega
     · rw [if_neg c0] at hst
       by_cases c : x.len < 3 ∨ 258 < x.len ∨ x.xb < 1 ∨ 32768 < x.xb ∨ (out.length : Int) < x.xb ∨ x.lit ≠ 0
       · rw [if_pos c] at hst; cases hst
       rw [if_neg c] at hst
       obtain rfl := vG hst
       obtain ⟨L, hL⟩ : ∃ y : Nat, x.len = y := UT (by omega)
       obtain ⟨D, hD⟩ : ∃ y : Nat, x.xb = y := UT (by omega)
       have Lt : x.len.toNat = L := by omega
       have Dt : x.xb.toNat = D := by omega
       rcases ox with ⟨q, _⟩ | ⟨_, _, _, _, q5, q6⟩
       · exact absurd q c0
       rw [Lt] at q5
       rw [Dt] at q6
       have es : xj out x = Ii D L out := by unfold xj; rw [if_neg c0, Lt, Dt]
       have cl := DC D L out
       have tb : xe (wD la) (wD lb) x = wP (wD la) (xL L) ++ (w8 (AF L) (zZ L) ++ (wP (wD lb) (ya D) ++ w8 (AE D) (zV D))) := by rw [xe, if_neg c0, Lt, Dt]
       rw [es] at gl hl' rec_ ⊢
       rw [tb] at h1 rec_ ⊢
       obtain ⟨i1, i2⟩ := h1.app
       obtain ⟨i3, i4⟩ := i2.app
       obtain ⟨i5, i6⟩ := i4.app
       have s1 := bA.sym q5 i1
       have lb_ := Gl (k := L) (by omega) (by omega)
       have db_ := Gb (k := D) (by omega) (by omega)
       have ls := z9 (k := L) (by omega) (by omega)
       have ds := zW (k := D) (by omega) (by omega)
       obtain ⟨a, b, hab⟩ := BQ ls.1 ls.2.1
       obtain ⟨a', b', hab'⟩ := AL ds.1
       have ea : wU (lenOf (xL L)) = a := by rw [hab]; rfl
       have eb : zZ L = b := by unfold zZ; rw [hab]; rfl
       have ea' : wU (wR (ya D)) = a' := by rw [hab']; rfl
       have eb' : zV D = b' := by unfold zV; rw [hab']; rfl
       have v1 := i3.put lb_.2
       have v2 := i6.put db_.2
       have pl : ∀ v n, (w8 v n).length = n := fun v n => by unfold w8; exact xc v n 0
       rw [pl] at i5 v2
       have s2 := bB.sym q6 i5
       have eL : a + AF L = L := by unfold AF; rw [ea]; omega
       have eD : a' + AE D = D := by unfold AE; rw [ea']; omega
       rw [yf, s1]
       simp only
       rw [if_neg (by omega), if_neg (by omega)]
       have tn : (((xL L : Nat) : Int)).toNat = xL L := by omega
       have tn2 : (((ya D : Nat) : Int)).toNat = ya D := by omega
       have cp : Br t most lb (xL L) (p + (wP (wD la) (xL L)).length) out = .ok (p + (wP (wD la) (xL L) ++ (w8 (AF L) (zZ L) ++ (wP (wD lb) (ya D) ++ w8 (AE D) (zV D)))).length, Ii D L out) := by
        unfold Br
        rw [hab]
        simp only
        rw [← eb, if_pos v1.2, s2]
        simp only
        rw [tn2, hab']
        simp only
        rw [← eb', v2.1, v1.1, eL, eD, if_pos ⟨v2.2, by omega⟩, E4 D L out (by omega)]
        simp only [wo, pl, Except.ok.injEq, vM, and_true]
        omega
       rw [tn, cp]
       simp only
       exact rec_ (by rw [cl, hL]; push_cast; rfl)
end Ab
