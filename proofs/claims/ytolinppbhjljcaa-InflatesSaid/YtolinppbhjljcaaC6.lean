/- Part C6. -/
import Derived.Test.YtolinppbhjljcaaC5
import Derived.Test.YtolinppbhjljcaaC3
/- The document's own: order, Fixed, fives, lengthsMay, room, Check, sparse. -/
set_option linter.unusedSimpArgs false
set_option linter.unusedVariables false
namespace Ab
open Go

theorem order2_c (h : H) : callW AP.A 32 [] h = some (immI orderL, h) := by
  have b : birth [] (.bslice 1 19 [.int .i64 0] [(0, (.c (.int .i64 16))), (1, (.c (.int .i64 17))), (2, (.c (.int .i64 18))), (3, (.c (.int .i64 0))), (4, (.c (.int .i64 8))), (5, (.c (.int .i64 7))), (6, (.c (.int .i64 9))), (7, (.c (.int .i64 6))), (8, (.c (.int .i64 10))), (9, (.c (.int .i64 5))), (10, (.c (.int .i64 11))), (11, (.c (.int .i64 4))), (12, (.c (.int .i64 12))), (13, (.c (.int .i64 3))), (14, (.c (.int .i64 13))), (15, (.c (.int .i64 2))), (16, (.c (.int .i64 14))), (17, (.c (.int .i64 1))), (18, (.c (.int .i64 15)))]) = some (ints orderL, fun i => .sobj i 0 19 1) := rfl
  refine pure_c (fn := AP.f32) (h2 := h.fence.alloc (ints orderL)) (e := [(0, .sobj h.next 0 19 1)]) (vs := [.sobj h.next 0 19 1]) rfl rfl rfl ?_ rfl ?_
  · have hn : h.fence.next = h.next := rfl
    simp only [AP.f32, go_sem, abin_shl, abin_shr, Nat.reduceEqDiff, reduceIte, Nat.reduceAdd, Nat.reduceMul, Nat.reduceLT, Nat.reduceLeDiff, Int.reduceBEq, Int.reduceBNe, Int.reduceLT, Int.reduceLE, Int.reduceEq, b, hn]
  · show snap (h.fence.alloc (ints orderL)).get h.next 16 true (.sobj h.next 0 19 1) = _
    unfold snap
    rw [if_neg (by omega), H.get_alloc, if_pos (show h.next = h.fence.next from rfl), Option.bind_some, if_pos (by decide)]
    rw [show ((ints orderL).drop 0).take (19 * 1) = ints orderL from rfl, mapO_ints]; rfl

/-- A slice of whole numbers of one's own that is given back never changes again. -/
theorem snap_ints {h : H} {v : AV} {l : List Int} {fl : Nat} (o : Own h v (ints l)) (hf : fl ≤ h.floor) (hl : l ≠ []) : snap h.get fl 16 true v = some (immI l) := by
  rcases o with ⟨_, q⟩ | ⟨id, rfl, q, h2, _⟩
  · exact absurd (List.map_eq_nil_iff.1 q) hl
  · unfold snap
    rw [if_neg (by omega), q, Option.bind_some, if_pos (by omega)]
    rw [List.drop_zero, Nat.mul_one, List.take_length, mapO_ints]
    simp [immI]

def fixF (i : Nat) : Int := if 144 ≤ i ∧ i < 256 then 9 else if 256 ≤ i ∧ i < 280 then 7 else 8

theorem fixed2_loop : ∀ (m i : Nat) (h : H) (v : AV), i + m = 288 → Own h v (ints ((List.range i).map fixF)) → h.floor ≤ h.next →
    ∃ e' h' v', Lp AP.A [1, 2] AP.f22L0 [(1, v), (2, I i)] h = some (.exit 0, e', h') ∧ look e' 1 = v' ∧ Own h' v' (ints ((List.range 288).map fixF)) ∧ h'.floor = h.floor
  | 0, i, h, v, hm, o, hf => by
    obtain rfl : i = 288 := by omega
    refine ⟨[(1, v), (2, I 288), (5, .bool false)], h, v, Lp_exit ?_, rfl, o, rfl⟩
    have c1 : ¬ (((288 : Nat) : Int) < 288) := by omega
    simp only [I] at *
    simp only [AP.f22L0, go_sem, abin_shl, abin_shr, Nat.reduceEqDiff, reduceIte, Nat.reduceAdd, Nat.reduceMul, Nat.reduceLT, Nat.reduceLeDiff, Int.reduceBEq, Int.reduceBNe, Int.reduceLT, Int.reduceLE, Int.reduceEq, decide_eq_false c1]
    rfl
  | m + 1, i, h, v, hm, o, hf => by
    have c1 : (i : Int) < 288 := by omega
    have w1 : IntKind.wrap .i64 ((i : Int) + 1) = ((i + 1 : Nat) : Int) := wrap_nat64 (n := i + 1) (by omega)
    obtain ⟨g, hg⟩ : ∃ g, g = h.alloc [I (fixF i)] := ⟨_, rfl⟩
    have og : Own g v (ints ((List.range i).map fixF)) := o.mono (by rw [hg]; simp) fun j hj => by have := o.lt hj; rw [hg, H.get_alloc, if_neg (by omega)]
    have hgf : g.floor ≤ g.next := by rw [hg]; simp; omega
    obtain ⟨v', h2, r1, r2, r3, r4, r5, r6⟩ := og.app hgf (z := 8) (I (fixF i)) rfl (by simp [roomy]; omega)
    have src : srcCells g 1 (.sobj h.next 0 1 1) = some (1, [I (fixF i)]) := by simp [srcCells, hg, H.get_alloc]
    have ap : aapp g 1 8 v (.sobj h.next 0 1 1) = some (v', h2) := by unfold aapp; rw [src, Option.bind_some]; exact r1
    have bt : ∀ e : Env, look e 21 = .int .i64 (fixF i) → birth e (.bslice 1 1 [.int .i64 0] [(0, .t 21)]) = some ([.int .i64 (fixF i)], fun i => .sobj i 0 1 1) := by
      intro e q; simp only [birth, List.map_cons, List.map_nil, ev_t', q]; rfl
    have hr : ints ((List.range i).map fixF) ++ [I (fixF i)] = ints ((List.range (i + 1)).map fixF) := by
      rw [List.range_succ, List.map_append, ints_append]; rfl
    rw [hr] at r2
    have step : evC (callW AP.A) loopW AP.f22L0 (restr [(1, v), (2, I i)] [1, 2]) h = some (.normal, [(1, v'), (2, I (i + 1 : Nat))], h2) := by
      clear hr
      by_cases q1 : 144 ≤ i
      · have d1 : (144 : Int) ≤ i := by omega
        by_cases q2 : i < 256
        · have d2 : (i : Int) < 256 := by omega
          have hx : fixF i = 9 := by rw [fixF, if_pos ⟨q1, q2⟩]
          rw [hx] at hg bt
          simp only [I] at *
          simp only [AP.f22L0, go_sem, abin_shl, abin_shr, Nat.reduceEqDiff, reduceIte, Nat.reduceAdd, Nat.reduceMul, Nat.reduceLT, Nat.reduceLeDiff, Int.reduceBEq, Int.reduceBNe, Int.reduceLT, Int.reduceLE, Int.reduceEq, decide_eq_true c1, decide_eq_true d1, decide_eq_true d2]
          rw [bt _ rfl]
          simp only [go_sem, abin_shl, abin_shr, Nat.reduceEqDiff, reduceIte, Nat.reduceAdd, Nat.reduceMul, Nat.reduceLT, Nat.reduceLeDiff, Int.reduceBEq, Int.reduceBNe, Int.reduceLT, Int.reduceLE, Int.reduceEq, ← hg, ap, w1]
        · have d2 : ¬ (i : Int) < 256 := by omega
          have d3 : (256 : Int) ≤ i := by omega
          by_cases q3 : i < 280
          · have d4 : (i : Int) < 280 := by omega
            have hx : fixF i = 7 := by rw [fixF, if_neg (by omega), if_pos ⟨by omega, q3⟩]
            rw [hx] at hg bt
            simp only [I] at *
            simp only [AP.f22L0, go_sem, abin_shl, abin_shr, Nat.reduceEqDiff, reduceIte, Nat.reduceAdd, Nat.reduceMul, Nat.reduceLT, Nat.reduceLeDiff, Int.reduceBEq, Int.reduceBNe, Int.reduceLT, Int.reduceLE, Int.reduceEq, decide_eq_true c1, decide_eq_true d1, decide_eq_false d2, decide_eq_true d3, decide_eq_true d4]
            rw [bt _ rfl]
            simp only [go_sem, abin_shl, abin_shr, Nat.reduceEqDiff, reduceIte, Nat.reduceAdd, Nat.reduceMul, Nat.reduceLT, Nat.reduceLeDiff, Int.reduceBEq, Int.reduceBNe, Int.reduceLT, Int.reduceLE, Int.reduceEq, ← hg, ap, w1]
          · have d4 : ¬ (i : Int) < 280 := by omega
            have hx : fixF i = 8 := by rw [fixF, if_neg (by omega), if_neg (by omega)]
            rw [hx] at hg bt
            simp only [I] at *
            simp only [AP.f22L0, go_sem, abin_shl, abin_shr, Nat.reduceEqDiff, reduceIte, Nat.reduceAdd, Nat.reduceMul, Nat.reduceLT, Nat.reduceLeDiff, Int.reduceBEq, Int.reduceBNe, Int.reduceLT, Int.reduceLE, Int.reduceEq, decide_eq_true c1, decide_eq_true d1, decide_eq_false d2, decide_eq_true d3, decide_eq_false d4]
            rw [bt _ rfl]
            simp only [go_sem, abin_shl, abin_shr, Nat.reduceEqDiff, reduceIte, Nat.reduceAdd, Nat.reduceMul, Nat.reduceLT, Nat.reduceLeDiff, Int.reduceBEq, Int.reduceBNe, Int.reduceLT, Int.reduceLE, Int.reduceEq, ← hg, ap, w1]
      · have d1 : ¬ (144 : Int) ≤ i := by omega
        have d3 : ¬ (256 : Int) ≤ i := by omega
        have hx : fixF i = 8 := by rw [fixF, if_neg (by omega), if_neg (by omega)]
        rw [hx] at hg bt
        simp only [I] at *
        simp only [AP.f22L0, go_sem, abin_shl, abin_shr, Nat.reduceEqDiff, reduceIte, Nat.reduceAdd, Nat.reduceMul, Nat.reduceLT, Nat.reduceLeDiff, Int.reduceBEq, Int.reduceBNe, Int.reduceLT, Int.reduceLE, Int.reduceEq, decide_eq_true c1, decide_eq_false d1, decide_eq_false d3]
        rw [bt _ rfl]
        simp only [go_sem, abin_shl, abin_shr, Nat.reduceEqDiff, reduceIte, Nat.reduceAdd, Nat.reduceMul, Nat.reduceLT, Nat.reduceLeDiff, Int.reduceBEq, Int.reduceBNe, Int.reduceLT, Int.reduceLE, Int.reduceEq, ← hg, ap, w1]
    obtain ⟨e', h', v2, s1, s2, s3, s4⟩ := fixed2_loop m (i + 1) h2 v' (by omega) r2 (by rw [r3]; exact Nat.le_trans hgf r4)
    exact ⟨e', h', v2, Lp_next step s1, s2, s3, by rw [s4, r3, hg]; simp⟩

theorem fixF_list : (List.range 288).map fixF = fixedL := by decide +kernel

theorem fixed2_c (h : H) : callW AP.A 22 [] h = some (immI fixedL, h) := by
  obtain ⟨e', h', v', s1, s2, s3, s4⟩ := fixed2_loop 288 0 h.fence .nils rfl (.inl ⟨rfl, rfl⟩) (Nat.le_refl _)
  have s1' : Lp AP.A [1, 2] AP.f22L0 [(1, .nils), (2, I 0)] h.fence = some (.exit 0, e', h') := s1
  clear s1
  rw [fixF_list] at s3
  refine pure_c (fn := AP.f22) (h2 := h') (e := [(0, v')]) (vs := [v']) rfl rfl rfl ?_ rfl ?_
  · simp only [I] at *
    simp only [AP.f22, go_sem, abin_shl, abin_shr, Nat.reduceEqDiff, reduceIte, Nat.reduceAdd, Nat.reduceMul, Nat.reduceLT, Nat.reduceLeDiff, Int.reduceBEq, Int.reduceBNe, Int.reduceLT, Int.reduceLE, Int.reduceEq, evC_loop, s1', s2]
  · exact snap_ints s3 (by rw [s4]; exact Nat.le_refl _) (by intro e; have := congrArg List.length e; rw [fixedL_len] at this; simp at this)

theorem fives_loop (id : Nat) : ∀ (m i : Nat) (h : H), i + m = 30 → h.get id = some (ints (List.replicate i 5 ++ List.replicate m 0)) → h.floor ≤ id →
    ∃ e' h', Lp AP.A [1, 2] AP.f23L0 [(1, .sobj id 0 30 1), (2, I i)] h = some (.exit 0, e', h') ∧ look e' 1 = .sobj id 0 30 1 ∧ h'.get id = some (ints (List.replicate 30 5)) ∧ h'.floor = h.floor
  | 0, i, h, hm, hg, hf => by
    obtain rfl : i = 30 := by omega
    refine ⟨[(1, .sobj id 0 30 1), (2, I 30), (5, .bool false)], h, Lp_exit ?_, rfl, hg, rfl⟩
    have c1 : ¬ (((30 : Nat) : Int) < 30) := by omega
    simp only [I] at *
    simp only [AP.f23L0, go_sem, abin_shl, abin_shr, Nat.reduceEqDiff, reduceIte, Nat.reduceAdd, Nat.reduceMul, Nat.reduceLT, Nat.reduceLeDiff, Int.reduceBEq, Int.reduceBNe, Int.reduceLT, Int.reduceLE, Int.reduceEq, decide_eq_false c1]
    rfl
  | m + 1, i, h, hm, hg, hf => by
    have c1 : (i : Int) < 30 := by omega
    have w1 : IntKind.wrap .i64 ((i : Int) + 1) = ((i + 1 : Nat) : Int) := wrap_nat64 (n := i + 1) (by omega)
    have ia : aiadr 1 (.sobj id 0 30 1) (I i) = some (.pobj id i) := by simp [aiadr, aidx_of (show i < 30 by omega)]
    have hset : (ints (List.replicate i 5 ++ List.replicate (m + 1) 0)).set i (I 5) = ints (List.replicate (i + 1) 5 ++ List.replicate m 0) := by
      have h1 : (List.replicate i (5 : Int) ++ List.replicate (m + 1) 0).set i 5 = List.replicate (i + 1) 5 ++ List.replicate m 0 := by
        rw [List.set_append_right _ _ (by simp), List.length_replicate, Nat.sub_self, List.replicate_succ, List.set_cons_zero, List.replicate_succ', List.append_assoc]; rfl
      rw [← h1]; simp [ints, List.map_set]
    have hst : stO h id i 1 [I 5] (some (ints (List.replicate i 5 ++ List.replicate (m + 1) 0))) = some (h.set id (ints (List.replicate (i + 1) 5 ++ List.replicate m 0))) := by
      rw [stO_1 hf (by rw [ints_length]; simp) rfl, hset]
    have step : evC (callW AP.A) loopW AP.f23L0 (restr [(1, .sobj id 0 30 1), (2, I i)] [1, 2]) h = some (.normal, [(1, .sobj id 0 30 1), (2, I (i + 1 : Nat))], h.set id (ints (List.replicate (i + 1) 5 ++ List.replicate m 0))) := by
      clear hset
      generalize ints (List.replicate (i + 1) 5 ++ List.replicate m 0) = L1 at *
      generalize ints (List.replicate i 5 ++ List.replicate (m + 1) 0) = L0 at *
      simp only [I] at *
      simp only [AP.f23L0, go_sem, abin_shl, abin_shr, Nat.reduceEqDiff, reduceIte, Nat.reduceAdd, Nat.reduceMul, Nat.reduceLT, Nat.reduceLeDiff, Int.reduceBEq, Int.reduceBNe, Int.reduceLT, Int.reduceLE, Int.reduceEq, decide_eq_true c1, ia, hg, hst, w1]
    obtain ⟨e', h', s1, s2, s3, s4⟩ := fives_loop id m (i + 1) _ (by omega) (by rw [H.get_set, if_pos rfl, hg]; rfl) (by simpa using hf)
    exact ⟨e', h', Lp_next step s1, s2, s3, by rw [s4]; simp⟩

theorem fives_c (h : H) : callW AP.A 23 [] h = some (immI (List.replicate 30 5), h) := by
  obtain ⟨h1, hh1⟩ : ∃ g, g = h.fence.alloc (ints (List.replicate 30 0)) := ⟨_, rfl⟩
  have hg : h1.get h.next = some (ints (List.replicate 0 5 ++ List.replicate 30 0)) := by rw [hh1, H.get_alloc, if_pos (show h.next = h.fence.next from rfl)]; rfl
  obtain ⟨e', h', s1, s2, s3, s4⟩ := fives_loop h.next 30 0 h1 rfl hg (by rw [hh1]; simp)
  have s1' : Lp AP.A [1, 2] AP.f23L0 [(1, .sobj h.next 0 30 1), (2, I 0)] h1 = some (.exit 0, e', h') := s1
  clear s1
  have bt : ∀ e : Env, birth e (.mksl 1 8 [.int .i64 0] (.c (.int .i64 30)) (.c (.int .i64 30))) = some (ints (List.replicate 30 0), fun i => .sobj i 0 30 1) := fun _ => rfl
  have hn : h.fence.next = h.next := rfl
  refine pure_c (fn := AP.f23) (h2 := h') (e := [(0, .sobj h.next 0 30 1)]) (vs := [.sobj h.next 0 30 1]) rfl rfl rfl ?_ rfl ?_
  · simp only [I] at *
    simp only [AP.f23, go_sem, abin_shl, abin_shr, Nat.reduceEqDiff, reduceIte, Nat.reduceAdd, Nat.reduceMul, Nat.reduceLT, Nat.reduceLeDiff, Int.reduceBEq, Int.reduceBNe, Int.reduceLT, Int.reduceLE, Int.reduceEq, bt, ← hh1, hn, evC_loop, s1', s2]
  · exact snap_ints (l := List.replicate 30 5) (.inr ⟨h.next, rfl, s3, by rw [s4, hh1]; simp, by decide⟩) (by rw [s4, hh1]; simp) (by decide)

/-! ### Check -/
theorem lmay_loop {x : AV} {l : List Int} (hl : l.length < 100000) (h : H) (rd : Rd h x (ints l)) : ∀ (q p : List Int), l = p ++ q →
    (∃ e', Lp AP.A [0, 3] AP.f67L0 [(0, x), (3, I p.length)] h = some (.exit 0, e', h) ∧ (ints q).any badV = false) ∨ (∃ e', Lp AP.A [0, 3] AP.f67L0 [(0, x), (3, I p.length)] h = some (.ret, e', h) ∧ look e' 2 = .bool false ∧ (ints q).any badV = true)
  | [], p, hp => by
    have ln := rd.len
    rw [ints_length] at ln
    left
    refine ⟨[(0, x), (3, I p.length), (15, .bool false)], Lp_exit ?_, rfl⟩
    have c1 : ¬ (p.length : Int) < (l.length : Int) := by rw [hp]; simp
    simp only [I] at *
    simp only [AP.f67L0, go_sem, abin_shl, abin_shr, Nat.reduceEqDiff, reduceIte, Nat.reduceAdd, Nat.reduceMul, Nat.reduceLT, Nat.reduceLeDiff, Int.reduceBEq, Int.reduceBNe, Int.reduceLT, Int.reduceLE, Int.reduceEq, ln, decide_eq_false c1]
  | y :: q, p, hp => by
    have ln := rd.len
    rw [ints_length] at ln
    have hlen : l.length = p.length + (q.length + 1) := by rw [hp]; simp
    have c1 : (p.length : Int) < (l.length : Int) := by omega
    have hv : (ints l)[p.length]? = some (I y) := ints_get (by rw [hp]; simp)
    obtain ⟨ad, p1, p2⟩ := rd.elem hv
    have p3 := p2 h (fun _ _ q => q)
    have w1 : IntKind.wrap .i64 ((p.length : Int) + 1) = (((p ++ [y]).length : Nat) : Int) := by
      rw [List.length_append]; exact wrap_nat64 (n := p.length + 1) (by omega)
    have hany : (ints (y :: q)).any badV = (badV (I y) || (ints q).any badV) := rfl
    rw [hany]
    by_cases d1 : y < 0
    · right
      refine ⟨[(2, .bool false)], Lp_ret ?_, rfl, by simp [badV, I, d1]⟩
      simp only [I] at *
      simp only [AP.f67L0, go_sem, abin_shl, abin_shr, Nat.reduceEqDiff, reduceIte, Nat.reduceAdd, Nat.reduceMul, Nat.reduceLT, Nat.reduceLeDiff, Int.reduceBEq, Int.reduceBNe, Int.reduceLT, Int.reduceLE, Int.reduceEq, ln, decide_eq_true c1, p1, p3, decide_eq_true d1]
    by_cases d2 : 15 < y
    · right
      refine ⟨[(2, .bool false)], Lp_ret ?_, rfl, by simp [badV, I, d2]⟩
      simp only [I] at *
      simp only [AP.f67L0, go_sem, abin_shl, abin_shr, Nat.reduceEqDiff, reduceIte, Nat.reduceAdd, Nat.reduceMul, Nat.reduceLT, Nat.reduceLeDiff, Int.reduceBEq, Int.reduceBNe, Int.reduceLT, Int.reduceLE, Int.reduceEq, ln, decide_eq_true c1, p1, p3, decide_eq_false d1, decide_eq_true d2]
    have hb : badV (I y) = false := by simp [badV, I]; omega
    have step : evC (callW AP.A) loopW AP.f67L0 (restr [(0, x), (3, I p.length)] [0, 3]) h = some (.normal, [(0, x), (3, I (p ++ [y]).length)], h) := by
      clear hany hb
      generalize (p ++ [y]).length = B at *
      simp only [I] at *
      simp only [AP.f67L0, go_sem, abin_shl, abin_shr, Nat.reduceEqDiff, reduceIte, Nat.reduceAdd, Nat.reduceMul, Nat.reduceLT, Nat.reduceLeDiff, Int.reduceBEq, Int.reduceBNe, Int.reduceLT, Int.reduceLE, Int.reduceEq, ln, decide_eq_true c1, p1, p3, decide_eq_false d1, decide_eq_false d2, w1]
    rw [hb, Bool.false_or]
    rcases lmay_loop hl h rd q (p ++ [y]) (by rw [hp]; simp) with ⟨e', r1, r2⟩ | ⟨e', r1, r2, r3⟩
    · exact .inl ⟨e', Lp_next step r1, r2⟩
    · exact .inr ⟨e', Lp_next step r1, r2, r3⟩

theorem lmay_c (h : H) (x : AV) (l : List Int) (hl : l.length < 100000) (rd : Rd h x (ints l)) : callW AP.A 67 [x] h = some (.bool (mayS l), h) := by
  have rd' := rd.mono (get_fence_mono h)
  have ln := rd.len
  rw [ints_length] at ln
  unfold mayS
  by_cases c1 : l.length < 1
  · refine pure_c (fn := AP.f67) (h2 := h.fence) (e := [(2, .bool false)]) rfl rfl rfl ?_ rfl (by rw [decide_eq_false (show ¬ 1 ≤ l.length by omega)]; rfl)
    have c1' : (l.length : Int) < 1 := by omega
    simp only [I] at *
    simp only [AP.f67, go_sem, abin_shl, abin_shr, Nat.reduceEqDiff, reduceIte, Nat.reduceAdd, Nat.reduceMul, Nat.reduceLT, Nat.reduceLeDiff, Int.reduceBEq, Int.reduceBNe, Int.reduceLT, Int.reduceLE, Int.reduceEq, ln, decide_eq_true c1']
  have c1' : ¬ (l.length : Int) < 1 := by omega
  by_cases c2 : 288 < l.length
  · refine pure_c (fn := AP.f67) (h2 := h.fence) (e := [(2, .bool false)]) rfl rfl rfl ?_ rfl (by rw [decide_eq_false (show ¬ l.length ≤ 288 by omega), Bool.and_false]; rfl)
    have c2' : (288 : Int) < (l.length : Int) := by omega
    simp only [I] at *
    simp only [AP.f67, go_sem, abin_shl, abin_shr, Nat.reduceEqDiff, reduceIte, Nat.reduceAdd, Nat.reduceMul, Nat.reduceLT, Nat.reduceLeDiff, Int.reduceBEq, Int.reduceBNe, Int.reduceLT, Int.reduceLE, Int.reduceEq, ln, decide_eq_false c1', decide_eq_true c2']
  have c2' : ¬ (288 : Int) < (l.length : Int) := by omega
  rw [decide_eq_true (show 1 ≤ l.length by omega), decide_eq_true (show l.length ≤ 288 by omega)]
  rcases lmay_loop hl h.fence rd' l [] rfl with ⟨e', r1, r2⟩ | ⟨e', r1, r2, r3⟩
  · have r1' : Lp AP.A [0, 3] AP.f67L0 [(0, x), (3, I 0)] h.fence = some (.exit 0, e', h.fence) := r1
    clear r1
    rw [r2]
    refine pure_c (fn := AP.f67) (h2 := h.fence) (e := [(2, .bool true)]) rfl rfl rfl ?_ rfl rfl
    simp only [I] at *
    simp only [AP.f67, go_sem, abin_shl, abin_shr, Nat.reduceEqDiff, reduceIte, Nat.reduceAdd, Nat.reduceMul, Nat.reduceLT, Nat.reduceLeDiff, Int.reduceBEq, Int.reduceBNe, Int.reduceLT, Int.reduceLE, Int.reduceEq, ln, decide_eq_false c1', decide_eq_false c2', evC_loop, r1']
  · have r1' : Lp AP.A [0, 3] AP.f67L0 [(0, x), (3, I 0)] h.fence = some (.ret, e', h.fence) := r1
    clear r1
    rw [r3]
    refine pure_c (fn := AP.f67) (h2 := h.fence) (e := e') (vs := [.bool false]) rfl rfl rfl ?_ (by simp only [AP.f67, resAll, resOf, r2]; rfl) rfl
    simp only [I] at *
    simp only [AP.f67, go_sem, abin_shl, abin_shr, Nat.reduceEqDiff, reduceIte, Nat.reduceAdd, Nat.reduceMul, Nat.reduceLT, Nat.reduceLeDiff, Int.reduceBEq, Int.reduceBNe, Int.reduceLT, Int.reduceLE, Int.reduceEq, ln, decide_eq_false c1', decide_eq_false c2', evC_loop, r1']

theorem leftC_snoc (p : List Int) (x : Int) : ∀ n : Nat, leftC (p ++ [x]) n = leftC p n - (if 1 ≤ x ∧ x ≤ n then 2 ^ (n - x.toNat) else 0)
  | 0 => by
    rw [if_neg (by omega)]; simp [leftC]
  | n + 1 => by
    have e1 : leftC (p ++ [x]) (n + 1) = leftC (p ++ [x]) n * 2 - cnt (p ++ [x]) (n + 1) := rfl
    have e2 : leftC p (n + 1) = leftC p n * 2 - cnt p (n + 1) := rfl
    rw [e1, e2, leftC_snoc p x n, cnt_snoc]
    by_cases h1 : x = ((n + 1 : Nat) : Int)
    · rw [if_neg (by omega), if_pos ⟨by omega, h1⟩, if_pos (by omega)]
      rw [show n + 1 - x.toNat = 0 by omega]; simp; omega
    · rw [if_neg (show ¬ (n + 1 ≠ 0 ∧ x = ((n + 1 : Nat) : Int)) from fun q => h1 q.2)]
      by_cases h2 : 1 ≤ x ∧ x ≤ (n : Int)
      · rw [if_pos h2, if_pos (by omega), show n + 1 - x.toNat = (n - x.toNat) + 1 by omega, Int.pow_succ]; omega
      · rw [if_neg h2, if_neg (by omega)]; omega

theorem room_loop {x : AV} {l : List Int} (hl : l.length < 100000) (hr : okLens l) (h : H) (rd : Rd h x (ints l)) : ∀ (q p : List Int), l = p ++ q →
    ∃ e', Lp AP.A [0, 3, 4] AP.f68L0 [(0, x), (3, I (32768 - leftC p 15)), (4, I p.length)] h = some (.exit 0, e', h) ∧ look e' 3 = I (32768 - leftC l 15)
  | [], p, hp => by
    rw [List.append_nil] at hp; subst hp
    have ln := rd.len
    rw [ints_length] at ln
    refine ⟨[(0, x), (3, I (32768 - leftC l 15)), (4, I l.length), (8, .bool false)], Lp_exit ?_, rfl⟩
    have c1 : ¬ (l.length : Int) < (l.length : Int) := by omega
    simp only [I] at *
    simp only [AP.f68L0, go_sem, abin_shl, abin_shr, Nat.reduceEqDiff, reduceIte, Nat.reduceAdd, Nat.reduceMul, Nat.reduceLT, Nat.reduceLeDiff, Int.reduceBEq, Int.reduceBNe, Int.reduceLT, Int.reduceLE, Int.reduceEq, ln, decide_eq_false c1]
  | y :: q, p, hp => by
    have ln := rd.len
    rw [ints_length] at ln
    have hlen : l.length = p.length + (q.length + 1) := by rw [hp]; simp
    have c1 : (p.length : Int) < (l.length : Int) := by omega
    have hv : (ints l)[p.length]? = some (I y) := ints_get (by rw [hp]; simp)
    have hy := hr y (by rw [hp]; simp)
    obtain ⟨ad, p1, p2⟩ := rd.elem hv
    have p3 := p2 h (fun _ _ q => q)
    have w1 : IntKind.wrap .i64 ((p.length : Int) + 1) = (((p ++ [y]).length : Nat) : Int) := by
      rw [List.length_append]; exact wrap_nat64 (n := p.length + 1) (by omega)
    have hsn := leftC_snoc p y 15
    have hbd := leftC_bd (show p.length < 100000 by omega) 15
    have step : evC (callW AP.A) loopW AP.f68L0 (restr [(0, x), (3, I (32768 - leftC p 15)), (4, I p.length)] [0, 3, 4]) h = some (.normal, [(0, x), (3, I (32768 - leftC (p ++ [y]) 15)), (4, I (p ++ [y]).length)], h) := by
      by_cases d1 : 0 < y
      · obtain ⟨yn, hyn⟩ : ∃ n : Nat, y = n := Int.eq_ofNat_of_zero_le hy.1
        subst hyn
        rw [if_pos (by omega), Int.toNat_natCast] at hsn
        have w2 : IntKind.wrap .i64 (15 - (yn : Int)) = ((15 - yn : Nat) : Int) := by rw [show 15 - (yn : Int) = ((15 - yn : Nat) : Int) by omega]; exact wrap_nat64 (by omega)
        have hp15 : 2 ^ (15 - yn) ≤ 2 ^ 15 := Nat.pow_le_pow_right (by omega) (by omega)
        have s1 : shft .shl .i64 1 ((15 - yn : Nat) : Int) = some (.int .i64 ((2 ^ (15 - yn) : Nat) : Int)) := by
          have := shl_i64 (a := 1) (s := 15 - yn) (by omega) (by omega)
          rw [Nat.one_mul] at this; exact this
        have hpc : ((2 ^ (15 - yn) : Nat) : Int) = 2 ^ (15 - yn) := by simp
        have hpos : (0 : Int) ≤ 2 ^ (15 - yn) := Int.pow_nonneg (by omega)
        have w3 : IntKind.wrap .i64 (32768 - leftC p 15 + ((2 ^ (15 - yn) : Nat) : Int)) = 32768 - leftC (p ++ [(yn : Int)]) 15 := by
          rw [show 32768 - leftC p 15 + ((2 ^ (15 - yn) : Nat) : Int) = 32768 - leftC (p ++ [(yn : Int)]) 15 by rw [hsn, hpc]; omega]
          refine wrap_in ?_ ?_
          · rw [hsn]; rw [← hpc]; omega
          · rw [hsn]; rw [← hpc]; omega
        clear hsn hpc hbd hp15
        generalize (p ++ [(yn : Int)]).length = B at *
        generalize leftC (p ++ [(yn : Int)]) 15 = L2 at *
        generalize leftC p 15 = L1 at *
        generalize 2 ^ (15 - yn) = PW at *
        simp only [I] at *
        simp only [AP.f68L0, go_sem, abin_shl, abin_shr, Nat.reduceEqDiff, reduceIte, Nat.reduceAdd, Nat.reduceMul, Nat.reduceLT, Nat.reduceLeDiff, Int.reduceBEq, Int.reduceBNe, Int.reduceLT, Int.reduceLE, Int.reduceEq, ln, decide_eq_true c1, p1, p3, decide_eq_true d1, w2, s1, w3, w1]
      · rw [if_neg (by omega), Int.sub_zero] at hsn
        rw [hsn]
        clear hsn hbd
        generalize (p ++ [y]).length = B at *
        simp only [I] at *
        simp only [AP.f68L0, go_sem, abin_shl, abin_shr, Nat.reduceEqDiff, reduceIte, Nat.reduceAdd, Nat.reduceMul, Nat.reduceLT, Nat.reduceLeDiff, Int.reduceBEq, Int.reduceBNe, Int.reduceLT, Int.reduceLE, Int.reduceEq, ln, decide_eq_true c1, p1, p3, decide_eq_false d1, w1]
    obtain ⟨e', r1, r2⟩ := room_loop hl hr h rd q (p ++ [y]) (by rw [hp]; simp)
    exact ⟨e', Lp_next step r1, r2⟩

theorem room_c (h : H) (x : AV) (l : List Int) (hl : l.length < 100000) (hr : okLens l) (rd : Rd h x (ints l)) : callW AP.A 68 [x] h = some (I (32768 - leftC l 15), h) := by
  obtain ⟨e', r1, r2⟩ := room_loop hl hr h.fence (rd.mono (get_fence_mono h)) l [] rfl
  have r1' : Lp AP.A [0, 3, 4] AP.f68L0 [(0, x), (3, I 0), (4, I 0)] h.fence = some (.exit 0, e', h.fence) := r1
  clear r1
  refine pure_c (fn := AP.f68) (h2 := h.fence) (e := [(2, I (32768 - leftC l 15))]) rfl rfl rfl ?_ rfl rfl
  simp only [I] at *
  simp only [AP.f68, go_sem, abin_shl, abin_shr, Nat.reduceEqDiff, reduceIte, Nat.reduceAdd, Nat.reduceMul, Nat.reduceLT, Nat.reduceLeDiff, Int.reduceBEq, Int.reduceBNe, Int.reduceLT, Int.reduceLE, Int.reduceEq, evC_loop, r1', r2]

theorem check2_c (h : H) (x : AV) (l : List Int) (hl : l.length < 100000) (rd : Rd h x (ints l)) : callW AP.A 52 [x] h = some (I (checkS l), h) := by
  have rd' := rd.mono (get_fence_mono h)
  have k1 := lmay_c h.fence x l hl rd'
  unfold checkS
  by_cases hm : mayS l = true
  · have k2 := room_c h.fence x l hl (may_range hm) rd'
    rw [hm] at k1 ⊢
    rw [if_neg (by decide)]
    by_cases c1 : leftC l 15 < 0
    · rw [if_pos c1]
      have d1 : 32768 < 32768 - leftC l 15 := by omega
      refine pure_c (fn := AP.f52) (h2 := h.fence) (e := [(2, I 301)]) rfl rfl rfl ?_ rfl rfl
      simp only [I] at *
      simp only [AP.f52, go_sem, abin_shl, abin_shr, Nat.reduceEqDiff, reduceIte, Nat.reduceAdd, Nat.reduceMul, Nat.reduceLT, Nat.reduceLeDiff, Int.reduceBEq, Int.reduceBNe, Int.reduceLT, Int.reduceLE, Int.reduceEq, k1, k2, decide_eq_true d1]
    · rw [if_neg c1]
      have d1 : ¬ 32768 < 32768 - leftC l 15 := by omega
      by_cases c2 : 0 < leftC l 15
      · rw [if_pos c2]
        have d2 : 32768 - leftC l 15 < 32768 := by omega
        refine pure_c (fn := AP.f52) (h2 := h.fence) (e := [(2, I 302)]) rfl rfl rfl ?_ rfl rfl
        simp only [I] at *
        simp only [AP.f52, go_sem, abin_shl, abin_shr, Nat.reduceEqDiff, reduceIte, Nat.reduceAdd, Nat.reduceMul, Nat.reduceLT, Nat.reduceLeDiff, Int.reduceBEq, Int.reduceBNe, Int.reduceLT, Int.reduceLE, Int.reduceEq, k1, k2, decide_eq_false d1, decide_eq_true d2]
      · rw [if_neg c2]
        have d2 : ¬ 32768 - leftC l 15 < 32768 := by omega
        refine pure_c (fn := AP.f52) (h2 := h.fence) (e := [(2, I 0)]) rfl rfl rfl ?_ rfl rfl
        simp only [I] at *
        simp only [AP.f52, go_sem, abin_shl, abin_shr, Nat.reduceEqDiff, reduceIte, Nat.reduceAdd, Nat.reduceMul, Nat.reduceLT, Nat.reduceLeDiff, Int.reduceBEq, Int.reduceBNe, Int.reduceLT, Int.reduceLE, Int.reduceEq, k1, k2, decide_eq_false d1, decide_eq_false d2]
  · have hm' : mayS l = false := by simpa using hm
    rw [hm'] at k1 ⊢
    rw [if_pos rfl]
    refine pure_c (fn := AP.f52) (h2 := h.fence) (e := [(2, I 300)]) rfl rfl rfl ?_ rfl rfl
    simp only [I] at *
    simp only [AP.f52, go_sem, abin_shl, abin_shr, Nat.reduceEqDiff, reduceIte, Nat.reduceAdd, Nat.reduceMul, Nat.reduceLT, Nat.reduceLeDiff, Int.reduceBEq, Int.reduceBNe, Int.reduceLT, Int.reduceLE, Int.reduceEq, k1]

/-! ### sparse -/
theorem sparse_loop {x : AV} {l : List Int} (hl : l.length < 100000) (hr : okLens l) (h : H) (rd : Rd h x (ints l)) : ∀ (q p : List Int) (m b s : Int), l = p ++ q → 0 ≤ m → m ≤ p.length → m ≤ s → (m = 0 → s = 0) → (m = 1 → b = s) →
    ∃ e' m' b', Lp AP.A [0, 3, 4, 5] AP.f54L0 [(0, x), (3, I m), (4, I b), (5, I p.length)] h = some (.exit 0, e', h) ∧ look e' 3 = I m' ∧ look e' 4 = I b' ∧ 0 ≤ m' ∧ m' ≤ sumL q s ∧ (m' = 0 → sumL q s = 0) ∧ (m' = 1 → b' = sumL q s)
  | [], p, m, b, s, hp, h1, h2, h3, h4, h5 => by
    have ln := rd.len
    rw [ints_length] at ln
    refine ⟨[(0, x), (3, I m), (4, I b), (5, I p.length), (9, .bool false)], m, b, Lp_exit ?_, rfl, rfl, h1, h3, h4, h5⟩
    have c1 : ¬ (p.length : Int) < (l.length : Int) := by rw [hp]; simp
    simp only [I] at *
    simp only [AP.f54L0, go_sem, abin_shl, abin_shr, Nat.reduceEqDiff, reduceIte, Nat.reduceAdd, Nat.reduceMul, Nat.reduceLT, Nat.reduceLeDiff, Int.reduceBEq, Int.reduceBNe, Int.reduceLT, Int.reduceLE, Int.reduceEq, ln, decide_eq_false c1]
  | y :: q, p, m, b, s, hp, h1, h2, h3, h4, h5 => by
    have ln := rd.len
    rw [ints_length] at ln
    have hlen : l.length = p.length + (q.length + 1) := by rw [hp]; simp
    have c1 : (p.length : Int) < (l.length : Int) := by omega
    have hv : (ints l)[p.length]? = some (I y) := ints_get (by rw [hp]; simp)
    have hy := hr y (by rw [hp]; simp)
    obtain ⟨ad, p1, p2⟩ := rd.elem hv
    have p3 := p2 h (fun _ _ q => q)
    have w1 : IntKind.wrap .i64 ((p.length : Int) + 1) = (((p ++ [y]).length : Nat) : Int) := by
      rw [List.length_append]; exact wrap_nat64 (n := p.length + 1) (by omega)
    by_cases d1 : 0 < y
    · have w2 : IntKind.wrap .i64 (m + 1) = m + 1 := wrap_in (by omega) (by omega)
      have step : evC (callW AP.A) loopW AP.f54L0 (restr [(0, x), (3, I m), (4, I b), (5, I p.length)] [0, 3, 4, 5]) h = some (.normal, [(0, x), (3, I (m + 1)), (4, I y), (5, I (p ++ [y]).length)], h) := by
        generalize hB : (p ++ [y]).length = B at *
        simp only [I] at *
        simp only [AP.f54L0, go_sem, abin_shl, abin_shr, Nat.reduceEqDiff, reduceIte, Nat.reduceAdd, Nat.reduceMul, Nat.reduceLT, Nat.reduceLeDiff, Int.reduceBEq, Int.reduceBNe, Int.reduceLT, Int.reduceLE, Int.reduceEq, ln, decide_eq_true c1, p1, p3, decide_eq_true d1, w2, w1]
      obtain ⟨e', m', b', r1, r2⟩ := sparse_loop hl hr h rd q (p ++ [y]) (m + 1) y (s + y) (by rw [hp]; simp) (by omega) (by simp; omega) (by omega) (by omega) (by intro e; have := h4 (by omega); omega)
      exact ⟨e', m', b', Lp_next step r1, r2⟩
    · have hy0 : y = 0 := by omega
      have step : evC (callW AP.A) loopW AP.f54L0 (restr [(0, x), (3, I m), (4, I b), (5, I p.length)] [0, 3, 4, 5]) h = some (.normal, [(0, x), (3, I m), (4, I b), (5, I (p ++ [y]).length)], h) := by
        generalize hB : (p ++ [y]).length = B at *
        simp only [I] at *
        simp only [AP.f54L0, go_sem, abin_shl, abin_shr, Nat.reduceEqDiff, reduceIte, Nat.reduceAdd, Nat.reduceMul, Nat.reduceLT, Nat.reduceLeDiff, Int.reduceBEq, Int.reduceBNe, Int.reduceLT, Int.reduceLE, Int.reduceEq, ln, decide_eq_true c1, p1, p3, decide_eq_false d1, w1]
      obtain ⟨e', m', b', r1, r2⟩ := sparse_loop hl hr h rd q (p ++ [y]) m b (s + y) (by rw [hp]; simp) h1 (by simp; omega) (by omega) (by intro e; have := h4 e; omega) (by intro e; have := h5 e; omega)
      exact ⟨e', m', b', Lp_next step r1, r2⟩

theorem sparse_c (h : H) (x : AV) (l : List Int) (hl : l.length < 100000) (hr : okLens l) (rd : Rd h x (ints l)) : callW AP.A 54 [x] h = some (.bool (singleS l), h) := by
  obtain ⟨e', m', b', r1, r2, r3, r4, r5, r6, r7⟩ := sparse_loop hl hr h.fence (rd.mono (get_fence_mono h)) l [] 0 0 0 rfl (by omega) (by simp) (by omega) (by intro _; rfl) (by omega)
  have r1' : Lp AP.A [0, 3, 4, 5] AP.f54L0 [(0, x), (3, I 0), (4, I 0), (5, I 0)] h.fence = some (.exit 0, e', h.fence) := r1
  clear r1
  refine pure_c (fn := AP.f54) (h2 := h.fence) (e := [(2, .bool (singleS l))]) rfl rfl rfl ?_ rfl rfl
  unfold singleS
  generalize sumL l 0 = s at *
  by_cases c0 : m' = 0
  · have d0 := beq_t c0
    have hs : s ≤ 1 := by have := r6 c0; omega
    rw [decide_eq_true hs]
    simp only [I] at *
    simp only [AP.f54, go_sem, abin_shl, abin_shr, Nat.reduceEqDiff, reduceIte, Nat.reduceAdd, Nat.reduceMul, Nat.reduceLT, Nat.reduceLeDiff, Int.reduceBEq, Int.reduceBNe, Int.reduceLT, Int.reduceLE, Int.reduceEq, evC_loop, r1', r2, r3, d0]
  have d0 := beq_f c0
  by_cases c1 : m' = 1
  · have d1 := beq_t c1
    have hb := r7 c1
    by_cases c2 : b' = 1
    · have d2 := beq_t c2
      rw [decide_eq_true (show s ≤ 1 by omega)]
      simp only [I] at *
      simp only [AP.f54, go_sem, abin_shl, abin_shr, Nat.reduceEqDiff, reduceIte, Nat.reduceAdd, Nat.reduceMul, Nat.reduceLT, Nat.reduceLeDiff, Int.reduceBEq, Int.reduceBNe, Int.reduceLT, Int.reduceLE, Int.reduceEq, evC_loop, r1', r2, r3, d0, d1, d2]
    · have d2 := beq_f c2
      rw [decide_eq_false (show ¬ s ≤ 1 by omega)]
      simp only [I] at *
      simp only [AP.f54, go_sem, abin_shl, abin_shr, Nat.reduceEqDiff, reduceIte, Nat.reduceAdd, Nat.reduceMul, Nat.reduceLT, Nat.reduceLeDiff, Int.reduceBEq, Int.reduceBNe, Int.reduceLT, Int.reduceLE, Int.reduceEq, evC_loop, r1', r2, r3, d0, d1, d2]
  · have d1 := beq_f c1
    rw [decide_eq_false (show ¬ s ≤ 1 by omega)]
    simp only [I] at *
    simp only [AP.f54, go_sem, abin_shl, abin_shr, Nat.reduceEqDiff, reduceIte, Nat.reduceAdd, Nat.reduceMul, Nat.reduceLT, Nat.reduceLeDiff, Int.reduceBEq, Int.reduceBNe, Int.reduceLT, Int.reduceLE, Int.reduceEq, evC_loop, r1', r2, r3, d0, d1]
end Ab

/- The document's own stream: lengths. -/
set_option linter.unusedSimpArgs false
set_option linter.unusedVariables false
namespace Ab
open Go

theorem rep_stop {c : FC} {S : SS} {h : H} {ov : AV} (st : Ft c S h ov) (b : AV) (many times n : Int) (v : AV) (i : Int) (hs : times ≤ i ∨ (i < times ∧ S.e ≠ 0)) :
    ∃ e', Lp AP.A [0, 1, 2, 7, 9, 10, 11] AP.f53L0 [(0, .pobj c.f 0), (1, b), (2, I many), (7, v), (9, I times), (10, I n), (11, I i)] h = some (.exit 3, e', h) ∧ look e' 0 = .pobj c.f 0 ∧ look e' 1 = b ∧ look e' 2 = I many ∧ look e' 7 = v := by
  have gf := st.gf
  refine ⟨[(0, .pobj c.f 0), (1, b), (2, I many), (7, v), (9, I times), (10, I n), (11, I i), (83, .bool false)], Lp_exit ?_, rfl, rfl, rfl, rfl⟩
  rcases hs with hn | ⟨hn, he⟩
  · have c1 : ¬ i < times := by omega
    simp only [I] at *
    simp only [AP.f53L0, go_sem, abin_shl, abin_shr, Nat.reduceEqDiff, reduceIte, Nat.reduceAdd, Nat.reduceMul, Nat.reduceLT, Nat.reduceLeDiff, Int.reduceBEq, Int.reduceBNe, Int.reduceLT, Int.reduceLE, Int.reduceEq, decide_eq_false c1]
  · have c2 := beq_f he
    simp only [I] at *
    simp only [AP.f53L0, go_sem, abin_shl, abin_shr, Nat.reduceEqDiff, reduceIte, Nat.reduceAdd, Nat.reduceMul, Nat.reduceLT, Nat.reduceLeDiff, Int.reduceBEq, Int.reduceBNe, Int.reduceLT, Int.reduceLE, Int.reduceEq, decide_eq_true hn, gf, c2]

theorem rep_loop {c : FC} (h0 : H) {S : SS} {ov : AV} (he : S.e = 0) (b : AV) (many : Int) (n : Int) (times : Nat) (ht : times ≤ 1000) : ∀ (m i : Nat) (acc : List Int) (h : H) (v : AV), i + m = times → Ft c S h ov → FF c h0 ov h ov → Own h v (ints acc) → acc.length < 100000 + i → (∀ j, v.id? = some j → h0.next ≤ j) → (∀ j, (j = c.f ∨ ov.id? = some j) → j < h0.next) →
    ∃ e' h' v', Lp AP.A [0, 1, 2, 7, 9, 10, 11] AP.f53L0 [(0, .pobj c.f 0), (1, b), (2, I many), (7, v), (9, I times), (10, I n), (11, I i)] h = some (.exit 3, e', h') ∧ look e' 0 = .pobj c.f 0 ∧ look e' 1 = b ∧ look e' 2 = I many ∧ look e' 7 = v' ∧ Ft c S h' ov ∧ FF c h0 ov h' ov ∧ Own h' v' (ints (acc ++ List.replicate m n)) ∧ ∀ j, v'.id? = some j → h0.next ≤ j
  | 0, i, acc, h, v, hm, st, fr, o, hal, hid, hlo => by
    obtain ⟨e', q1, q2, q3, q4, q5⟩ := rep_stop st b many times n v i (.inl (by omega))
    exact ⟨e', h, v, q1, q2, q3, q4, q5, st, fr, by simpa using o, hid⟩
  | m + 1, i, acc, h, v, hm, st, fr, o, hal, hid, hlo => by
    have gf := st.gf
    rw [he] at gf
    have c1 : (i : Int) < times := by omega
    have w1 : IntKind.wrap .i64 ((i : Int) + 1) = ((i + 1 : Nat) : Int) := wrap_nat64 (n := i + 1) (by omega)
    obtain ⟨g, hg⟩ : ∃ g, g = h.alloc [I n] := ⟨_, rfl⟩
    have al := st.alloc [I n]
    rw [← hg] at al
    have og : Own g v (ints acc) := o.mono (by rw [hg]; simp) fun j hj => by have := o.lt hj; rw [hg, H.get_alloc, if_neg (by omega)]
    have hgf := al.1.nx
    obtain ⟨v', h2, r1, r2, r3, r4, r5, r6⟩ := og.app hgf (z := 8) (I n) rfl (by simp [roomy]; omega)
    have src : srcCells g 1 (.sobj h.next 0 1 1) = some (1, [I n]) := by simp [srcCells, hg, H.get_alloc]
    have ap : aapp g 1 8 v (.sobj h.next 0 1 1) = some (v', h2) := by unfold aapp; rw [src, Option.bind_some]; exact r1
    have bt : ∀ e : Env, look e 87 = .int .i64 n → birth e (.bslice 1 1 [.int .i64 0] [(0, .t 87)]) = some ([.int .i64 n], fun i => .sobj i 0 1 1) := by
      intro e q; simp only [birth, List.map_cons, List.map_nil, ev_t', q]; rfl
    have step : evC (callW AP.A) loopW AP.f53L0 (restr [(0, .pobj c.f 0), (1, b), (2, I many), (7, v), (9, I times), (10, I n), (11, I i)] [0, 1, 2, 7, 9, 10, 11]) h = some (.normal, [(0, .pobj c.f 0), (1, b), (2, I many), (7, v'), (9, I times), (10, I n), (11, I (i + 1 : Nat))], h2) := by
      simp only [I] at *
      simp only [AP.f53L0, go_sem, abin_shl, abin_shr, Nat.reduceEqDiff, reduceIte, Nat.reduceAdd, Nat.reduceMul, Nat.reduceLT, Nat.reduceLeDiff, Int.reduceBEq, Int.reduceBNe, Int.reduceLT, Int.reduceLE, Int.reduceEq, decide_eq_true c1, gf]
      rw [bt _ rfl]
      simp only [go_sem, abin_shl, abin_shr, Nat.reduceEqDiff, reduceIte, Nat.reduceAdd, Nat.reduceMul, Nat.reduceLT, Nat.reduceLeDiff, Int.reduceBEq, Int.reduceBNe, Int.reduceLT, Int.reduceLE, Int.reduceEq, ← hg, ap, w1]
    have frg := fr.trans al.2
    have st2 : Ft c S h2 ov := al.1.keep r3 r4 fun j hj => r5 j (fun e => by have := hid j e; have := hlo j hj; omega) (by have := hlo j hj; have := frg.nx; omega)
    have fr2 : FF c h0 ov h2 ov := ⟨r3.trans frg.fl, Nat.le_trans frg.nx r4, fun id i1 i2 i4 => by rw [r5 id (fun e => by have := hid id e; omega) (by have := frg.nx; omega)]; exact frg.oth id i1 i2 i4, fun j hj => .inl hj⟩
    have hr : ints acc ++ [I n] = ints (acc ++ [n]) := by rw [ints_append]; rfl
    rw [hr] at r2
    obtain ⟨e', h', v2, s1, s2, s3, s4, s5, s6, s7, s8, s9⟩ := rep_loop h0 he b many n times ht m (i + 1) (acc ++ [n]) h2 v' (by omega) st2 fr2 r2 (by simp; omega) (fun j hj => by rw [r6] at hj; cases hj; exact frg.nx) hlo
    refine ⟨e', h', v2, Lp_next step s1, s2, s3, s4, s5, s6, s7, ?_, s9⟩
    rw [List.replicate_succ, show acc ++ n :: List.replicate m n = acc ++ [n] ++ List.replicate m n by simp]
    exact s8

theorem flens_stop {c : FC} {S : SS} {h : H} {ov : AV} (st : Ft c S h ov) (b : AV) (many : Nat) {v : AV} {acc : List Int} (o : Own h v (ints acc)) (hs : many ≤ acc.length ∨ (acc.length < many ∧ S.e ≠ 0)) :
    ∃ e', Lp AP.A [0, 1, 2, 7] AP.f53L1 [(0, .pobj c.f 0), (1, b), (2, I many), (7, v)] h = some (.exit 0, e', h) ∧ look e' 7 = v := by
  have gf := st.gf
  have ln := o.len
  rw [ints_length] at ln
  refine ⟨[(0, .pobj c.f 0), (1, b), (2, I many), (7, v), (22, .bool false)], Lp_exit ?_, rfl⟩
  rcases hs with hs | ⟨hs, he⟩
  · have c1 : ¬ (acc.length : Int) < many := by omega
    simp only [I] at *
    simp only [AP.f53L1, go_sem, abin_shl, abin_shr, Nat.reduceEqDiff, reduceIte, Nat.reduceAdd, Nat.reduceMul, Nat.reduceLT, Nat.reduceLeDiff, Int.reduceBEq, Int.reduceBNe, Int.reduceLT, Int.reduceLE, Int.reduceEq, ln, decide_eq_false c1]
  · have c1 : (acc.length : Int) < many := by omega
    have c2 := beq_f he
    simp only [I] at *
    simp only [AP.f53L1, go_sem, abin_shl, abin_shr, Nat.reduceEqDiff, reduceIte, Nat.reduceAdd, Nat.reduceMul, Nat.reduceLT, Nat.reduceLeDiff, Int.reduceBEq, Int.reduceBNe, Int.reduceLT, Int.reduceLE, Int.reduceEq, ln, decide_eq_true c1, gf, c2]

/-- Where a round has come to when it knows how often and what. -/
theorem flens_tail {c : FC} {S2 : SS} {h2 : H} {ov : AV} (h0 : H) (cl : List Int) (many : Nat) (hm : many ≤ 400) {v : AV} {acc : List Int} (st : Ft c S2 h2 ov) (fr : FF c h0 ov h2 ov) (o : Own h2 v (ints acc)) (hal : acc.length < many) (hid : ∀ j, v.id? = some j → h0.next ≤ j) (hlo : ∀ j, (j = c.f ∨ ov.id? = some j) → j < h0.next) (n : Int) (times : Nat) (ht : times ≤ 1000) (he2 : S2.e = 0 ∨ S2.e = 700) (code : ACode)
    (hcode : code = (.seq (.seq (.reg [
    ⟨(some 59), .mv (.t 0), none⟩,
    ⟨(some 60), .nilc (.t 59), none⟩,
    ⟨(some 61), .fadr 4 (.t 60), none⟩,
    ⟨(some 62), .load false 1 (.t 61), none⟩,
    ⟨(some 63), .bin .eql (.t 62) (.c (.int .i64 0)), none⟩,
    ⟨(some 64), .mv (.t 63), none⟩,
    ⟨(some 65), .mv (.t 7), (some (64, true))⟩,
    ⟨(some 66), .len false (.t 65), (some (64, true))⟩,
    ⟨(some 67), .mv (.t 9), (some (64, true))⟩,
    ⟨(some 68), .bin .add (.t 66) (.t 67), (some (64, true))⟩,
    ⟨(some 69), .mv (.t 2), (some (64, true))⟩,
    ⟨(some 70), .bin .gtr (.t 68) (.t 69), (some (64, true))⟩,
    ⟨(some 71), .pick (.t 64) (.t 70) (.c (.bool false)), none⟩] [0, 1, 2, 7, 9, 10, 71])
      (.cond (.t 71) (.reg [
    ⟨(some 72), .mv (.t 0), none⟩,
    ⟨(some 73), .call (.c (.fn 25 [] [])) [(.t 72)], none⟩] [0, 1, 2, 7, 9, 10])
      (.skip) [0, 1, 2, 7, 9, 10]))
      (.seq (.reg [
    ⟨(some 11), .mv (.c (.int .i64 0)), none⟩] [0, 1, 2, 7, 9, 10, 11])
      (.block 3 (.loop [0, 1, 2, 7, 9, 10, 11] AP.f53L0) [0, 1, 2, 7])))) :
    ∃ h3 S3 v3, evC (callW AP.A) loopW code [(0, .pobj c.f 0), (1, rbook cl), (2, I many), (7, v), (9, I times), (10, I n)] h2 = some (.normal, [(0, .pobj c.f 0), (1, rbook cl), (2, I many), (7, v3)], h3) ∧ Ft c S3 h3 ov ∧ FF c h0 ov h3 ov ∧
      ((S2.e = 0 ∧ acc.length + times ≤ many ∧ S3 = S2 ∧ Own h3 v3 (ints (acc ++ List.replicate times n)) ∧ ∀ j, v3.id? = some j → h0.next ≤ j) ∨ ((S2.e ≠ 0 ∨ many < acc.length + times) ∧ S3.e = 700 ∧ v3 = v ∧ Own h3 v (ints acc))) := by
  have gf := st.gf
  have ln := o.len
  rw [ints_length] at ln
  subst hcode
  have w1 : IntKind.wrap .i64 ((acc.length : Int) + times) = ((acc.length + times : Nat) : Int) := by rw [show (acc.length : Int) + times = ((acc.length + times : Nat) : Int) by omega]; exact wrap_nat64 (by omega)
  by_cases he : S2.e = 0
  · have ce := beq_t he
    by_cases hgt : many < acc.length + times
    · have d1 : (many : Int) < ((acc.length + times : Nat) : Int) := by omega
      obtain ⟨h3, f1, f2, f3⟩ := wrong_c st
      have he3 : (failS 700 S2).e = 700 := by simp [failS, he]
      have hs : (times : Int) ≤ 0 ∨ ((0 : Int) < times ∧ (failS 700 S2).e ≠ 0) := by
        by_cases q : 0 < times
        · exact .inr ⟨by omega, by rw [he3]; decide⟩
        · exact .inl (by omega)
      obtain ⟨e', q1, q2, q3, q4, q5⟩ := rep_stop f2 (rbook cl) many times n v 0 hs
      have o3 : Own h3 v (ints acc) := o.mono f3.fl fun j hj => f3.oth j (o.lt hj) (fun e => by have := hid j hj; have := hlo j (.inl e); omega) (fun e => by have := hid j hj; have := hlo j (.inr e); omega)
      refine ⟨h3, failS 700 S2, v, ?_, f2, fr.trans f3, .inr ⟨.inr hgt, he3, rfl, o3⟩⟩
      simp only [I] at *
      simp only [go_sem, abin_shl, abin_shr, Nat.reduceEqDiff, reduceIte, Nat.reduceAdd, Nat.reduceMul, Nat.reduceLT, Nat.reduceLeDiff, Int.reduceBEq, Int.reduceBNe, Int.reduceLT, Int.reduceLE, Int.reduceEq, gf, ce, ln, w1, decide_eq_true d1, f1, evC_loop, q1, q2, q3, q4, q5]
    · have d1 : ¬ (many : Int) < ((acc.length + times : Nat) : Int) := by omega
      obtain ⟨e', h3, v3, q1, q2, q3, q4, q5, q6, q7, q8, q9⟩ := rep_loop h0 he (rbook cl) many n times ht times 0 acc h2 v (by omega) st fr o (by omega) hid hlo
      have q1' : Lp AP.A [0, 1, 2, 7, 9, 10, 11] AP.f53L0 [(0, .pobj c.f 0), (1, rbook cl), (2, I many), (7, v), (9, I times), (10, I n), (11, I 0)] h2 = some (.exit 3, e', h3) := q1
      clear q1
      refine ⟨h3, S2, v3, ?_, q6, q7, .inl ⟨he, by omega, rfl, q8, q9⟩⟩
      simp only [I] at *
      simp only [go_sem, abin_shl, abin_shr, Nat.reduceEqDiff, reduceIte, Nat.reduceAdd, Nat.reduceMul, Nat.reduceLT, Nat.reduceLeDiff, Int.reduceBEq, Int.reduceBNe, Int.reduceLT, Int.reduceLE, Int.reduceEq, gf, ce, ln, w1, decide_eq_false d1, evC_loop, q1', q2, q3, q4, q5]
  · have ce := beq_f he
    have he3 : S2.e = 700 := by rcases he2 with q | q; exact absurd q he; exact q
    have hs : (times : Int) ≤ 0 ∨ ((0 : Int) < times ∧ S2.e ≠ 0) := by
      by_cases q : 0 < times
      · exact .inr ⟨by omega, he⟩
      · exact .inl (by omega)
    obtain ⟨e', q1, q2, q3, q4, q5⟩ := rep_stop st (rbook cl) many times n v 0 hs
    refine ⟨h2, S2, v, ?_, st, fr, .inr ⟨.inl he, he3, rfl, o⟩⟩
    simp only [I] at *
    simp only [go_sem, abin_shl, abin_shr, Nat.reduceEqDiff, reduceIte, Nat.reduceAdd, Nat.reduceMul, Nat.reduceLT, Nat.reduceLeDiff, Int.reduceBEq, Int.reduceBNe, Int.reduceLT, Int.reduceLE, Int.reduceEq, gf, ce, ln, w1, evC_loop, q1, q2, q3, q4, q5]

theorem flens_loop {c : FC} (h0 : H) (cl : List Int) (hcl : cl.length < 1000) (many : Nat) (hm : many ≤ 400) : ∀ (f : Nat) (acc : List Int) (S : SS) (h : H) (ov v : AV), Ft c S h ov → S.e = 0 → 8 * c.text.size < S.at_ + f → FF c h0 ov h ov → Own h v (ints acc) → acc.length ≤ many → (∀ j, v.id? = some j → h0.next ≤ j) → (∀ j, (j = c.f ∨ ov.id? = some j) → j < h0.next) →
    ∃ h' S', Ft c S' h' ov ∧ FF c h0 ov h' ov ∧ match lensLoop c.text cl many f acc S.at_ with
      | some (L, p) => S' = { S with at_ := p } ∧ L.length = many ∧ ∃ e' v', Lp AP.A [0, 1, 2, 7] AP.f53L1 [(0, .pobj c.f 0), (1, rbook cl), (2, I many), (7, v)] h = some (.exit 0, e', h') ∧ look e' 7 = v' ∧ Own h' v' (ints L) ∧ ∀ j, v'.id? = some j → h0.next ≤ j
      | none => S'.e = 700 ∧ ((∃ e' v', Lp AP.A [0, 1, 2, 7] AP.f53L1 [(0, .pobj c.f 0), (1, rbook cl), (2, I many), (7, v)] h = some (.exit 0, e', h') ∧ look e' 7 = v') ∨ ∃ e', Lp AP.A [0, 1, 2, 7] AP.f53L1 [(0, .pobj c.f 0), (1, rbook cl), (2, I many), (7, v)] h = some (.ret, e', h') ∧ look e' 6 = .nils)
  | 0, acc, S, h, ov, v, st, he, hk, fr, oa, hal, hid, hlo => by have := st.at_le; omega
  | f + 1, acc, S, h, ov, v, st, he, hk, fr, oa, hal, hid, hlo => by
    by_cases hlt : acc.length < many
    · rw [lensLoop, if_pos hlt]
      have gf := st.gf
      rw [he] at gf
      have ln := oa.len
      rw [ints_length] at ln
      have c1 : (acc.length : Int) < many := by omega
      obtain ⟨h1, S1, y, s1, s2, s3, s4⟩ := fsymbol_c cl hcl st he
      have gf1 := s2.gf
      cases hz : symA c.text cl 15 1 0 S.at_ with
      | none =>
        rw [hz] at s4
        obtain ⟨s4, s5⟩ := s4
        have ce : (S1.e != 0) = true := bne_t (by rw [s4]; decide)
        refine ⟨h1, S1, s2, fr.trans s3, s4, .inr ⟨[(6, .nils)], Lp_ret ?_, rfl⟩⟩
        simp only [I] at *
        simp only [AP.f53L1, go_sem, abin_shl, abin_shr, Nat.reduceEqDiff, reduceIte, Nat.reduceAdd, Nat.reduceMul, Nat.reduceLT, Nat.reduceLeDiff, Int.reduceBEq, Int.reduceBNe, Int.reduceLT, Int.reduceLE, Int.reduceEq, ln, decide_eq_true c1, gf, s1, gf1, ce]
      | some yp =>
        obtain ⟨z, p1⟩ := yp
        rw [hz] at s4
        obtain ⟨s4, s5⟩ := s4
        subst s5 s4
        have zb := symA_bd hz
        dsimp only at gf1 ⊢
        rw [he] at gf1
        have fr1 := fr.trans s3
        have hneq : ∀ i, v.id? = some i → i ≠ c.f ∧ ov.id? ≠ some i := fun i hi => by
          have := hid i hi
          exact ⟨fun e => by have := hlo i (.inl e); omega, fun e => by have := hlo i (.inr e); omega⟩
        have oa1 : Own h1 v (ints acc) := oa.mono s3.fl fun i hi => s3.oth i (oa.lt hi) (hneq i hi).1 (hneq i hi).2
        have ln1 := oa1.len
        rw [ints_length] at ln1
        -- what stands at the tail
        have fin : ∀ (n : Int) (times : Nat) (h2 : H) (S2 : SS), times ≤ 1000 → Ft c S2 h2 ov → FF c h0 ov h2 ov → Own h2 v (ints acc) → (S2.e = 0 ∨ S2.e = 700) → (∀ code h3 v3, code = (ACode.seq (.seq (.reg [
    ⟨(some 59), .mv (.t 0), none⟩,
    ⟨(some 60), .nilc (.t 59), none⟩,
    ⟨(some 61), .fadr 4 (.t 60), none⟩,
    ⟨(some 62), .load false 1 (.t 61), none⟩,
    ⟨(some 63), .bin .eql (.t 62) (.c (.int .i64 0)), none⟩,
    ⟨(some 64), .mv (.t 63), none⟩,
    ⟨(some 65), .mv (.t 7), (some (64, true))⟩,
    ⟨(some 66), .len false (.t 65), (some (64, true))⟩,
    ⟨(some 67), .mv (.t 9), (some (64, true))⟩,
    ⟨(some 68), .bin .add (.t 66) (.t 67), (some (64, true))⟩,
    ⟨(some 69), .mv (.t 2), (some (64, true))⟩,
    ⟨(some 70), .bin .gtr (.t 68) (.t 69), (some (64, true))⟩,
    ⟨(some 71), .pick (.t 64) (.t 70) (.c (.bool false)), none⟩] [0, 1, 2, 7, 9, 10, 71])
      (.cond (.t 71) (.reg [
    ⟨(some 72), .mv (.t 0), none⟩,
    ⟨(some 73), .call (.c (.fn 25 [] [])) [(.t 72)], none⟩] [0, 1, 2, 7, 9, 10])
      (.skip) [0, 1, 2, 7, 9, 10]))
      (.seq (.reg [
    ⟨(some 11), .mv (.c (.int .i64 0)), none⟩] [0, 1, 2, 7, 9, 10, 11])
      (.block 3 (.loop [0, 1, 2, 7, 9, 10, 11] AP.f53L0) [0, 1, 2, 7]))) → evC (callW AP.A) loopW code [(0, .pobj c.f 0), (1, rbook cl), (2, I many), (7, v), (9, I times), (10, I n)] h2 = some (.normal, [(0, .pobj c.f 0), (1, rbook cl), (2, I many), (7, v3)], h3) →
            evC (callW AP.A) loopW AP.f53L1 (restr [(0, .pobj c.f 0), (1, rbook cl), (2, I many), (7, v)] [0, 1, 2, 7]) h = some (.normal, [(0, .pobj c.f 0), (1, rbook cl), (2, I many), (7, v3)], h3)) →
            (match againA c.text y acc p1 with | some q => S2 = { S with at_ := q.2.2 } ∧ n = q.1 ∧ times = q.2.1 ∧ p1 ≤ q.2.2 | none => S2.e = 700) →
            ∃ h' S', Ft c S' h' ov ∧ FF c h0 ov h' ov ∧ match (match againA c.text y acc p1 with | none => none | some (n, times, p2) => lensLoop c.text cl many f (acc ++ List.replicate times n) p2) with
              | some (L, p) => S' = { S with at_ := p } ∧ L.length = many ∧ ∃ e' v', Lp AP.A [0, 1, 2, 7] AP.f53L1 [(0, .pobj c.f 0), (1, rbook cl), (2, I many), (7, v)] h = some (.exit 0, e', h') ∧ look e' 7 = v' ∧ Own h' v' (ints L) ∧ ∀ j, v'.id? = some j → h0.next ≤ j
              | none => S'.e = 700 ∧ ((∃ e' v', Lp AP.A [0, 1, 2, 7] AP.f53L1 [(0, .pobj c.f 0), (1, rbook cl), (2, I many), (7, v)] h = some (.exit 0, e', h') ∧ look e' 7 = v') ∨ ∃ e', Lp AP.A [0, 1, 2, 7] AP.f53L1 [(0, .pobj c.f 0), (1, rbook cl), (2, I many), (7, v)] h = some (.ret, e', h') ∧ look e' 6 = .nils) := by
          intro n times h2 S2 ht st2 fr2 o2 he2 hstep hag
          obtain ⟨h3, S3, v3, t1, t2, t3, t4⟩ := flens_tail h0 cl many hm st2 fr2 o2 hlt hid hlo n times ht he2 _ rfl
          have step := hstep _ h3 v3 rfl t1
          cases ha : againA c.text y acc p1 with
          | none =>
            rw [ha] at hag
            dsimp only at hag ⊢
            rcases t4 with ⟨t5, _⟩ | ⟨_, t6, t7, t8⟩
            · rw [hag] at t5; exact absurd t5 (by decide)
            · subst t7
              obtain ⟨e', q1, q2⟩ := flens_stop t2 (rbook cl) many t8 (.inr ⟨hlt, by rw [t6]; decide⟩)
              exact ⟨h3, S3, t2, t3, t6, .inl ⟨e', v3, Lp_next step q1, q2⟩⟩
          | some q =>
            obtain ⟨n2, t2', p2⟩ := q
            rw [ha] at hag
            obtain ⟨g1, g2, g3, g4⟩ := hag
            dsimp only at g1 g2 g3 g4 ⊢
            subst g1 g2 g3
            have hle2 := st2.at_le
            dsimp only at hle2
            rcases t4 with ⟨t5, t6, t7, t8, t9⟩ | ⟨t5, t6, t7, t8⟩
            · subst t7
              obtain ⟨h', S', r1, r2, r3⟩ := flens_loop h0 cl hcl many hm f (acc ++ List.replicate times n) _ h3 ov v3 t2 he (by dsimp only; omega) t3 t8 (by simp; omega) t9 hlo
              refine ⟨h', S', r1, r2, ?_⟩
              dsimp only at r3
              cases hL : lensLoop c.text cl many f (acc ++ List.replicate times n) p2 with
              | some q =>
                rw [hL] at r3
                obtain ⟨r4, r5, e', v', r6, r7⟩ := r3
                exact ⟨r4, r5, e', v', Lp_next step r6, r7⟩
              | none =>
                rw [hL] at r3
                obtain ⟨r4, r5⟩ := r3
                refine ⟨r4, ?_⟩
                rcases r5 with ⟨e', v', r6, r7⟩ | ⟨e', r6, r7⟩
                · exact .inl ⟨e', v', Lp_next step r6, r7⟩
                · exact .inr ⟨e', Lp_next step r6, r7⟩
            · have hgt : many < acc.length + times := by
                rcases t5 with q | q
                · exact absurd he q
                · exact q
              have hnone : lensLoop c.text cl many f (acc ++ List.replicate times n) p2 = none := by
                obtain ⟨f', rfl⟩ : ∃ f', f = f' + 1 := ⟨f - 1, by omega⟩
                rw [lensLoop, if_neg (by simp; omega), if_pos (by simp; omega)]
              rw [hnone]
              dsimp only
              subst t7
              obtain ⟨e', q1, q2⟩ := flens_stop t2 (rbook cl) many t8 (.inr ⟨hlt, by rw [t6]; decide⟩)
              exact ⟨h3, S3, t2, t3, t6, .inl ⟨e', v3, Lp_next step q1, q2⟩⟩
        have ne0 : ((0 : Int) != 0) = false := rfl
        by_cases h16 : y = 16
        · have d16 := beq_t h16
          by_cases hn : acc = []
          · obtain ⟨h2, f1, f2, f3⟩ := wrong_c s2
            have hag : againA c.text y acc p1 = none := by unfold againA; rw [if_pos h16, if_pos hn]
            rw [hag]
            have hz0 : ((acc.length : Int) == 0) = true := by rw [hn]; rfl
            refine ⟨h2, _, f2, fr1.trans f3, by simp [failS, he], .inr ⟨[(6, .nils)], Lp_ret ?_, rfl⟩⟩
            simp only [I] at *
            simp only [AP.f53L1, go_sem, abin_shl, abin_shr, Nat.reduceEqDiff, reduceIte, Nat.reduceAdd, Nat.reduceMul, Nat.reduceLT, Nat.reduceLeDiff, Int.reduceBEq, Int.reduceBNe, Int.reduceLT, Int.reduceLE, Int.reduceEq, ln, decide_eq_true c1, gf, s1, gf1, ne0, d16, ln1, hz0, f1]
          · have hpos : 0 < acc.length := List.length_pos_iff.2 hn
            have hz0 : ((acc.length : Int) == 0) = false := beq_f (by omega)
            have w2 : IntKind.wrap .i64 ((acc.length : Int) - 1) = ((acc.length - 1 : Nat) : Int) := by
              rw [show (acc.length : Int) - 1 = ((acc.length - 1 : Nat) : Int) by omega]; exact wrap_nat64 (by omega)
            have hel := ints_getD (l := acc) (i := acc.length - 1) (by omega)
            obtain ⟨id, i1, i2, i3⟩ := oa1.elem hel
            obtain ⟨h2, k1, k2, k3⟩ := fget_c s2 2 2 rfl (by omega)
            have hgl : (getF c 2 { S with at_ := p1 }).1 < 4 := by
              unfold getF; split
              · simpa using valAt_lt c.text p1 2
              · simp
            have w3 : IntKind.wrap .i64 (3 + ((getF c 2 { S with at_ := p1 }).1 : Int)) = ((3 + (getF c 2 { S with at_ := p1 }).1 : Nat) : Int) := wrap_nat64 (n := 3 + _) (by omega)
            have o2 : Own h2 v (ints acc) := oa1.mono k3.fl fun i hi => k3.oth i (oa1.lt hi) (hneq i hi).1 (hneq i hi).2
            refine fin (acc.getD (acc.length - 1) 0) (3 + (getF c 2 { S with at_ := p1 }).1) h2 _ (by omega) k2 (fr1.trans k3) o2 (getF_e c 2 _ (.inl he)) ?_ ?_
            · intro code h3 v3 hc hev
              clear fin i1
              generalize (getF c 2 { S with at_ := p1 }).1 = G at *
              unfold AP.f53L1
              rw [hc] at hev
              simp only [I] at *
              simp only [C_seq, C_block, C_cond, goS_n, go_sem, abin_shl, abin_shr, Nat.reduceEqDiff, reduceIte, Nat.reduceAdd, Nat.reduceMul, Nat.reduceLT, Nat.reduceLeDiff, Int.reduceBEq, Int.reduceBNe, Int.reduceLT, Int.reduceLE, Int.reduceEq, ln, decide_eq_true c1, gf, s1, gf1, ne0, d16, ln1, hz0, w2, i2, i3, hel, k1, w3]
              simp only [C_seq, C_block, C_cond, goS_n, go_sem, abin_shl, abin_shr, Nat.reduceEqDiff, reduceIte, Nat.reduceAdd, Nat.reduceMul, Nat.reduceLT, Nat.reduceLeDiff, Int.reduceBEq, Int.reduceBNe, Int.reduceLT, Int.reduceLE, Int.reduceEq] at hev
              simp only [hev, go_sem, abin_shl, abin_shr, Nat.reduceEqDiff, reduceIte, Nat.reduceAdd, Nat.reduceMul, Nat.reduceLT, Nat.reduceLeDiff, Int.reduceBEq, Int.reduceBNe, Int.reduceLT, Int.reduceLE, Int.reduceEq]
            · by_cases hp : p1 + 2 ≤ 8 * c.text.size
              · have hag : againA c.text y acc p1 = some (acc.getD (acc.length - 1) 0, 3 + valAt c.text p1 2, p1 + 2) := by unfold againA; rw [if_pos h16, if_neg hn, if_pos hp]
                rw [hag]
                have eg : getF c 2 { S with at_ := p1 } = (valAt c.text p1 2, { S with at_ := p1 + 2 }) := by rw [getF, if_pos hp]
                rw [eg]
                exact ⟨rfl, rfl, rfl, by show p1 ≤ p1 + 2; omega⟩
              · have hag : againA c.text y acc p1 = none := by unfold againA; rw [if_pos h16, if_neg hn, if_neg hp]
                rw [hag]
                have eg : getF c 2 { S with at_ := p1 } = (0, { S with at_ := p1, e := 700 }) := by rw [getF, if_neg hp, failS, if_pos he]
                rw [eg]
        · have d16 := beq_f h16
          by_cases h17 : y = 17
          · have d17 := beq_t h17
            obtain ⟨h2, k1, k2, k3⟩ := fget_c s2 3 3 rfl (by omega)
            have hgl : (getF c 3 { S with at_ := p1 }).1 < 8 := by
              unfold getF; split
              · simpa using valAt_lt c.text p1 3
              · simp
            have w3 : IntKind.wrap .i64 (3 + ((getF c 3 { S with at_ := p1 }).1 : Int)) = ((3 + (getF c 3 { S with at_ := p1 }).1 : Nat) : Int) := wrap_nat64 (n := 3 + _) (by omega)
            have o2 : Own h2 v (ints acc) := oa1.mono k3.fl fun i hi => k3.oth i (oa1.lt hi) (hneq i hi).1 (hneq i hi).2
            refine fin 0 (3 + (getF c 3 { S with at_ := p1 }).1) h2 _ (by omega) k2 (fr1.trans k3) o2 (getF_e c 3 _ (.inl he)) ?_ ?_
            · intro code h3 v3 hc hev
              clear fin
              generalize (getF c 3 { S with at_ := p1 }).1 = G at *
              unfold AP.f53L1
              rw [hc] at hev
              simp only [I] at *
              simp only [C_seq, C_block, C_cond, goS_n, go_sem, abin_shl, abin_shr, Nat.reduceEqDiff, reduceIte, Nat.reduceAdd, Nat.reduceMul, Nat.reduceLT, Nat.reduceLeDiff, Int.reduceBEq, Int.reduceBNe, Int.reduceLT, Int.reduceLE, Int.reduceEq, ln, decide_eq_true c1, gf, s1, gf1, ne0, d16, d17, k1, w3]
              simp only [C_seq, C_block, C_cond, goS_n, go_sem, abin_shl, abin_shr, Nat.reduceEqDiff, reduceIte, Nat.reduceAdd, Nat.reduceMul, Nat.reduceLT, Nat.reduceLeDiff, Int.reduceBEq, Int.reduceBNe, Int.reduceLT, Int.reduceLE, Int.reduceEq] at hev
              simp only [hev, go_sem, abin_shl, abin_shr, Nat.reduceEqDiff, reduceIte, Nat.reduceAdd, Nat.reduceMul, Nat.reduceLT, Nat.reduceLeDiff, Int.reduceBEq, Int.reduceBNe, Int.reduceLT, Int.reduceLE, Int.reduceEq]
            · by_cases hp : p1 + 3 ≤ 8 * c.text.size
              · have hag : againA c.text y acc p1 = some (0, 3 + valAt c.text p1 3, p1 + 3) := by unfold againA; rw [if_neg h16, if_pos h17, if_pos hp]
                rw [hag]
                have eg : getF c 3 { S with at_ := p1 } = (valAt c.text p1 3, { S with at_ := p1 + 3 }) := by rw [getF, if_pos hp]
                rw [eg]
                exact ⟨rfl, rfl, rfl, by show p1 ≤ p1 + 3; omega⟩
              · have hag : againA c.text y acc p1 = none := by unfold againA; rw [if_neg h16, if_pos h17, if_neg hp]
                rw [hag]
                have eg : getF c 3 { S with at_ := p1 } = (0, { S with at_ := p1, e := 700 }) := by rw [getF, if_neg hp, failS, if_pos he]
                rw [eg]
          · have d17 := beq_f h17
            by_cases h18 : y = 18
            · have d18 := beq_t h18
              obtain ⟨h2, k1, k2, k3⟩ := fget_c s2 7 7 rfl (by omega)
              have hgl : (getF c 7 { S with at_ := p1 }).1 < 128 := by
                unfold getF; split
                · simpa using valAt_lt c.text p1 7
                · simp
              have w3 : IntKind.wrap .i64 (11 + ((getF c 7 { S with at_ := p1 }).1 : Int)) = ((11 + (getF c 7 { S with at_ := p1 }).1 : Nat) : Int) := wrap_nat64 (n := 11 + _) (by omega)
              have o2 : Own h2 v (ints acc) := oa1.mono k3.fl fun i hi => k3.oth i (oa1.lt hi) (hneq i hi).1 (hneq i hi).2
              refine fin 0 (11 + (getF c 7 { S with at_ := p1 }).1) h2 _ (by omega) k2 (fr1.trans k3) o2 (getF_e c 7 _ (.inl he)) ?_ ?_
              · intro code h3 v3 hc hev
                clear fin
                generalize (getF c 7 { S with at_ := p1 }).1 = G at *
                unfold AP.f53L1
                rw [hc] at hev
                simp only [I] at *
                simp only [C_seq, C_block, C_cond, goS_n, go_sem, abin_shl, abin_shr, Nat.reduceEqDiff, reduceIte, Nat.reduceAdd, Nat.reduceMul, Nat.reduceLT, Nat.reduceLeDiff, Int.reduceBEq, Int.reduceBNe, Int.reduceLT, Int.reduceLE, Int.reduceEq, ln, decide_eq_true c1, gf, s1, gf1, ne0, d16, d17, d18, k1, w3]
                simp only [C_seq, C_block, C_cond, goS_n, go_sem, abin_shl, abin_shr, Nat.reduceEqDiff, reduceIte, Nat.reduceAdd, Nat.reduceMul, Nat.reduceLT, Nat.reduceLeDiff, Int.reduceBEq, Int.reduceBNe, Int.reduceLT, Int.reduceLE, Int.reduceEq] at hev
                simp only [hev, go_sem, abin_shl, abin_shr, Nat.reduceEqDiff, reduceIte, Nat.reduceAdd, Nat.reduceMul, Nat.reduceLT, Nat.reduceLeDiff, Int.reduceBEq, Int.reduceBNe, Int.reduceLT, Int.reduceLE, Int.reduceEq]
              · by_cases hp : p1 + 7 ≤ 8 * c.text.size
                · have hag : againA c.text y acc p1 = some (0, 11 + valAt c.text p1 7, p1 + 7) := by unfold againA; rw [if_neg h16, if_neg h17, if_pos h18, if_pos hp]
                  rw [hag]
                  have eg : getF c 7 { S with at_ := p1 } = (valAt c.text p1 7, { S with at_ := p1 + 7 }) := by rw [getF, if_pos hp]
                  rw [eg]
                  exact ⟨rfl, rfl, rfl, by show p1 ≤ p1 + 7; omega⟩
                · have hag : againA c.text y acc p1 = none := by unfold againA; rw [if_neg h16, if_neg h17, if_pos h18, if_neg hp]
                  rw [hag]
                  have eg : getF c 7 { S with at_ := p1 } = (0, { S with at_ := p1, e := 700 }) := by rw [getF, if_neg hp, failS, if_pos he]
                  rw [eg]
            · have d18 := beq_f h18
              have hag : againA c.text y acc p1 = some (y, 1, p1) := by unfold againA; rw [if_neg h16, if_neg h17, if_neg h18]
              refine fin y 1 h1 _ (by omega) s2 fr1 oa1 (.inl he) ?_ (by rw [hag]; exact ⟨rfl, rfl, rfl, Nat.le_refl _⟩)
              intro code h3 v3 hc hev
              clear fin hag
              unfold AP.f53L1
              rw [hc] at hev
              have hev' : evC (callW AP.A) loopW _ [(0, .pobj c.f 0), (1, rbook cl), (2, I many), (7, v), (9, I 1), (10, I y)] h1 = _ := hev
              clear hev
              simp only [I] at *
              simp only [C_seq, C_block, C_cond, goS_n, go_sem, abin_shl, abin_shr, Nat.reduceEqDiff, reduceIte, Nat.reduceAdd, Nat.reduceMul, Nat.reduceLT, Nat.reduceLeDiff, Int.reduceBEq, Int.reduceBNe, Int.reduceLT, Int.reduceLE, Int.reduceEq, ln, decide_eq_true c1, gf, s1, gf1, ne0, d16, d17, d18]
              simp only [C_seq, C_block, C_cond, goS_n, go_sem, abin_shl, abin_shr, Nat.reduceEqDiff, reduceIte, Nat.reduceAdd, Nat.reduceMul, Nat.reduceLT, Nat.reduceLeDiff, Int.reduceBEq, Int.reduceBNe, Int.reduceLT, Int.reduceLE, Int.reduceEq, ln, decide_eq_true c1, gf, s1, gf1, ne0, d16, d17, d18] at hev'
              simp only [hev', go_sem, abin_shl, abin_shr, Nat.reduceEqDiff, reduceIte, Nat.reduceAdd, Nat.reduceMul, Nat.reduceLT, Nat.reduceLeDiff, Int.reduceBEq, Int.reduceBNe, Int.reduceLT, Int.reduceLE, Int.reduceEq]
    · have heq : acc.length = many := by omega
      obtain ⟨e', q1, q2⟩ := flens_stop st (rbook cl) many oa (.inl (by omega))
      refine ⟨h, S, st, fr, ?_⟩
      rw [lensLoop, if_neg hlt, if_neg (by omega)]
      exact ⟨rfl, heq, e', v, q1, q2, oa, hid⟩
end Ab

/- The document's own stream: dynamic, Inflate. -/
set_option linter.unusedSimpArgs false
set_option linter.unusedVariables false
namespace Ab
open Go

def scF (c : FC) : SC := ⟨0, 0, c.text, c.most⟩
theorem getF_sc (c : FC) (n : Nat) (S : SS) : getF c n S = getS (scF c) n S := (getF_eq (scF c) c rfl n S).symm

theorem fown_loop {c : FC} (a : Nat) (many : Nat) (hmany : many ≤ 19) (m2 m3 : AV) : ∀ (q p o : List Int) (S : SS) (h : H) (ov : AV), orderL.take many = p ++ q → Ft c S h ov → ov.id? ≠ some a → a ≠ c.f → h.get a = some (ints o) → o.length = 19 → h.floor ≤ a →
    ∃ e' h', Lp AP.A [0, 2, 3, 4, 5, 6, 7] AP.f24L0 [(0, .pobj c.f 0), (2, m2), (3, m3), (4, I many), (5, .sobj a 0 19 1), (6, immI orderL), (7, I p.length)] h = some (.exit 0, e', h') ∧ look e' 0 = .pobj c.f 0 ∧ look e' 2 = m2 ∧ look e' 3 = m3 ∧ look e' 5 = .sobj a 0 19 1 ∧
      Ft c (ownS (scF c) q o S).2 h' ov ∧ h'.get a = some (ints (ownS (scF c) q o S).1) ∧ h'.floor = h.floor ∧ h.next ≤ h'.next ∧ ∀ i, i < h.next → i ≠ c.f → ov.id? ≠ some i → i ≠ a → h'.get i = h.get i
  | [], p, o, S, h, ov, hp, st, hoa, hac, hg, ho, hf => by
    have hlen : p.length = many := by
      have := congrArg List.length hp
      rw [List.length_take, List.append_nil] at this
      have h2 : orderL.length = 19 := rfl
      omega
    refine ⟨[(0, .pobj c.f 0), (2, m2), (3, m3), (4, I many), (5, .sobj a 0 19 1), (6, immI orderL), (7, I p.length), (37, .bool false)], h, Lp_exit ?_, rfl, rfl, rfl, rfl, st, hg, rfl, Nat.le_refl _, fun _ _ _ _ _ => rfl⟩
    have c1 : ¬ (p.length : Int) < (many : Int) := by omega
    simp only [I] at *
    simp only [AP.f24L0, go_sem, abin_shl, abin_shr, Nat.reduceEqDiff, reduceIte, Nat.reduceAdd, Nat.reduceMul, Nat.reduceLT, Nat.reduceLeDiff, Int.reduceBEq, Int.reduceBNe, Int.reduceLT, Int.reduceLE, Int.reduceEq, decide_eq_false c1]
  | s :: q, p, o, S, h, ov, hp, st, hoa, hac, hg, ho, hf => by
    have h2l : orderL.length = 19 := rfl
    have hlen : p.length + (q.length + 1) = many := by
      have := congrArg List.length hp
      rw [List.length_take, List.length_append, List.length_cons] at this
      omega
    have c1 : (p.length : Int) < (many : Int) := by omega
    have hsm : s ∈ orderL := List.mem_of_mem_take (i := many) (by rw [hp]; simp)
    have hs := order_mem s hsm
    obtain ⟨sn, hsn⟩ : ∃ n : Nat, s = n := Int.eq_ofNat_of_zero_le hs.1
    subst hsn
    have hv0 : orderL[p.length]? = some (sn : Int) := by
      have : (orderL.take many)[p.length]? = some (sn : Int) := by rw [hp]; simp
      rw [List.getElem?_take] at this
      split at this
      · exact this
      · cases this
    have hv : (ints orderL)[p.length]? = some (I sn) := ints_get hv0
    have ia : aiadr 1 (immI orderL) (I p.length) = some (.pimm (ints orderL) p.length) := by
      have := aidx_of (show p.length < orderL.length by omega)
      simp only [aiadr, immI, if_true, this, Option.bind_some, Nat.zero_add, Nat.mul_one]
    obtain ⟨h1, k1, k2, k3⟩ := fget_c st 3 3 rfl (by omega)
    rw [getF_sc] at k1 k2
    have hal : a < h.next := h.lt _ _ hg
    have hg1 : h1.get a = some (ints o) := by rw [k3.oth a hal hac hoa]; exact hg
    have a1 : aiadr 1 (.sobj a 0 19 1) (I sn) = some (.pobj a sn) := by simp [aiadr, aidx_of (show sn < 19 by omega)]
    have hset : (ints o).set sn (I ((getS (scF c) 3 S).1 : Nat)) = ints (o.set sn ((getS (scF c) 3 S).1 : Nat)) := by simp [ints, List.map_set]
    have hst : stO h1 a sn 1 [I ((getS (scF c) 3 S).1 : Nat)] (some (ints o)) = some (h1.set a (ints (o.set sn ((getS (scF c) 3 S).1 : Nat)))) := by
      rw [stO_1 (by rw [k3.fl]; exact hf) (by rw [ints_length]; omega) rfl, hset]
    have w2 : IntKind.wrap .i64 ((p.length : Int) + 1) = (((p ++ [(sn : Int)]).length : Nat) : Int) := by
      rw [List.length_append]; exact wrap_nat64 (n := p.length + 1) (by omega)
    have step : evC (callW AP.A) loopW AP.f24L0 (restr [(0, .pobj c.f 0), (2, m2), (3, m3), (4, I many), (5, .sobj a 0 19 1), (6, immI orderL), (7, I p.length)] [0, 2, 3, 4, 5, 6, 7]) h = some (.normal, [(0, .pobj c.f 0), (2, m2), (3, m3), (4, I many), (5, .sobj a 0 19 1), (6, immI orderL), (7, I (p ++ [(sn : Int)]).length)], h1.set a (ints (o.set sn ((getS (scF c) 3 S).1 : Nat)))) := by
      clear hset
      generalize ints (o.set sn ((getS (scF c) 3 S).1 : Nat)) = W at *
      generalize (p ++ [(sn : Int)]).length = B at *
      generalize (getS (scF c) 3 S).1 = G at *
      generalize ints o = OO at *
      generalize immI orderL = RO at *
      unfold AP.f24L0
      refine seq_n (e1 := [(0, .pobj c.f 0), (2, m2), (3, m3), (4, I many), (5, .sobj a 0 19 1), (6, RO), (7, I p.length)]) (h1 := h) ?_ ?_
      · simp only [I] at *
        simp only [go_sem, abin_shl, abin_shr, Nat.reduceEqDiff, reduceIte, Nat.reduceAdd, Nat.reduceMul, Nat.reduceLT, Nat.reduceLeDiff, Int.reduceBEq, Int.reduceBNe, Int.reduceLT, Int.reduceLE, Int.reduceEq, decide_eq_true c1]
      refine seq_n (e1 := [(0, .pobj c.f 0), (2, m2), (3, m3), (4, I many), (5, .sobj a 0 19 1), (6, RO), (7, I p.length)]) (h1 := h1.set a W) ?_ ?_
      · rw [C_block, C_dreg (e' := [(47, .pobj a sn), (46, I G), (45, .pobj c.f 0), (44, I sn), (43, .pimm (ints orderL) p.length), (42, I p.length), (41, RO), (40, .sobj a 0 19 1), (0, .pobj c.f 0), (2, m2), (3, m3), (4, I many), (5, .sobj a 0 19 1), (6, RO), (7, I p.length)]) (h' := h1.set a W) (gs := [h, h1, h1.set a W])]
        · simp only [go_sem, abin_shl, abin_shr, Nat.reduceEqDiff, reduceIte, Nat.reduceAdd, Nat.reduceMul, Nat.reduceLT, Nat.reduceLeDiff, Int.reduceBEq, Int.reduceBNe, Int.reduceLT, Int.reduceLE, Int.reduceEq]
        · simp only [I] at *
          simp only [opsD_nil, opsD_u, goOD_s, preD_t, preD_f, AOp.loud, go_sem, abin_shl, abin_shr, Nat.reduceEqDiff, reduceIte, Nat.reduceAdd, Nat.reduceMul, Nat.reduceLT, Nat.reduceLeDiff, Int.reduceBEq, Int.reduceBNe, Int.reduceLT, Int.reduceLE, Int.reduceEq, ia, hv, k1, a1, hg1, hst]
        · refine stables_c (fun k hk => ?_) rfl
          obtain rfl : k = 1 := by simpa using hk
          refine stable_of (o := ⟨some 44, .load false 1 (.t 43), none⟩) (g := h1) (h' := h1) (d := 44) (u := I sn) rfl rfl rfl rfl ?_ ?_
          · simp only [evOper, go_sem, abin_shl, abin_shr, Nat.reduceEqDiff, reduceIte, Nat.reduceAdd, Nat.reduceMul, Nat.reduceLT, Nat.reduceLeDiff, Int.reduceBEq, Int.reduceBNe, Int.reduceLT, Int.reduceLE, Int.reduceEq, hv]
          · simp only [go_sem, abin_shl, abin_shr, Nat.reduceEqDiff, reduceIte, Nat.reduceAdd, Nat.reduceMul, Nat.reduceLT, Nat.reduceLeDiff, Int.reduceBEq, Int.reduceBNe, Int.reduceLT, Int.reduceLE, Int.reduceEq, I, beq_int]
      · simp only [I] at *
        simp only [go_sem, abin_shl, abin_shr, Nat.reduceEqDiff, reduceIte, Nat.reduceAdd, Nat.reduceMul, Nat.reduceLT, Nat.reduceLeDiff, Int.reduceBEq, Int.reduceBNe, Int.reduceLT, Int.reduceLE, Int.reduceEq, w2]
    have st2 : Ft c (getS (scF c) 3 S).2 (h1.set a (ints (o.set sn ((getS (scF c) 3 S).1 : Nat)))) ov := k2.keep (by simp) (by simp) fun i hi => by
      rw [H.get_set, if_neg]
      rintro rfl
      rcases hi with hi | hi
      · exact hac hi
      · exact hoa hi
    obtain ⟨e', h', q1, q2, q3, q4, q5, q6, q7, q8, q9, q10⟩ := fown_loop a many hmany m2 m3 q (p ++ [(sn : Int)]) (o.set sn ((getS (scF c) 3 S).1 : Nat)) _ _ ov (by rw [hp]; simp) st2 hoa hac (by rw [H.get_set, if_pos rfl, hg1]; rfl) (by simpa using ho) (by simp [k3.fl]; exact hf)
    refine ⟨e', h', Lp_next step q1, q2, q3, q4, q5, ?_, ?_, by rw [q8]; simp [k3.fl], by have := k3.nx; simp at q9; omega, fun i i1 i2 i4 i5 => ?_⟩
    · rw [ownS]; exact q6
    · rw [ownS]; exact q7
    · rw [q10 i (by have := k3.nx; simp; omega) i2 i4 i5, H.get_set, if_neg i5, k3.oth i i1 i2 i4]

theorem flengths_c {c : FC} {S : SS} {h : H} {ov : AV} (cl : List Int) (hcl : cl.length < 1000) (st : Ft c S h ov) (he : S.e = 0) (many : Nat) (hm : many ≤ 400) :
    ∃ h' S' v, callW AP.A 53 [.pobj c.f 0, rbook cl, I many] h = some (v, h') ∧ Ft c S' h' ov ∧ FF c h ov h' ov ∧ match lensLoop c.text cl many (8 * c.text.size + 1) [] S.at_ with
      | some (L, p) => S' = { S with at_ := p } ∧ L.length = many ∧ Own h' v (ints L) ∧ ∀ j, v.id? = some j → h.next ≤ j
      | none => S'.e = 700 := by
  obtain ⟨h', S', q1, q2, q3⟩ := flens_loop h cl hcl many hm (8 * c.text.size + 1) [] S h ov .nils st he (by omega) (FF.refl _ _ _) (.inl ⟨rfl, rfl⟩) (by simp) (fun j q => by cases q) (fun j hj => st.lt hj)
  have close : ∀ e' v, Lp AP.A [0, 1, 2, 7] AP.f53L1 [(0, .pobj c.f 0), (1, rbook cl), (2, I many), (7, .nils)] h = some (.exit 0, e', h') → look e' 7 = v → callW AP.A 53 [.pobj c.f 0, rbook cl, I many] h = some (v, h') := by
    intro e' v r1 r2
    refine plain_c (fn := AP.f53) (e := [(6, v)]) (vs := [v]) rfl rfl rfl ?_ rfl
    simp only [I] at *
    simp only [AP.f53, go_sem, abin_shl, abin_shr, Nat.reduceEqDiff, reduceIte, Nat.reduceAdd, Nat.reduceMul, Nat.reduceLT, Nat.reduceLeDiff, Int.reduceBEq, Int.reduceBNe, Int.reduceLT, Int.reduceLE, Int.reduceEq, evC_loop, r1, r2]
  cases hL : lensLoop c.text cl many (8 * c.text.size + 1) [] S.at_ with
  | some q =>
    rw [hL] at q3
    obtain ⟨r1, r2, e', v', r3, r4, r5, r6⟩ := q3
    exact ⟨h', S', v', close e' v' r3 r4, q1, q2, r1, r2, r5, r6⟩
  | none =>
    rw [hL] at q3
    obtain ⟨r1, ⟨e', v', r3, r4⟩ | ⟨e', r3, r4⟩⟩ := q3
    · exact ⟨h', S', v', close e' v' r3 r4, q1, q2, r1⟩
    · refine ⟨h', S', .nils, ?_, q1, q2, r1⟩
      refine plain_c (fn := AP.f53) (e := e') (vs := [.nils]) rfl rfl rfl ?_ (by simp only [AP.f53, resAll, resOf, r4]; rfl)
      simp only [I] at *
      simp only [AP.f53, go_sem, abin_shl, abin_shr, Nat.reduceEqDiff, reduceIte, Nat.reduceAdd, Nat.reduceMul, Nat.reduceLT, Nat.reduceLeDiff, Int.reduceBEq, Int.reduceBNe, Int.reduceLT, Int.reduceLE, Int.reduceEq, evC_loop, r3]

theorem dynA_short (t : ByteArray) (most : Int) (out : List Nat) {p : Nat} (hp : ¬ p + 14 ≤ 8 * t.size) : dynA t most p out = .error 700 := by
  unfold dynA
  split
  · dsimp only
    split
    · rfl
    · have : ∀ m, lensA t m (p + 10) = none := fun m => by rw [lensA, if_neg (by omega)]
      rw [this]
  · rfl

theorem fdynamic_c {c : FC} {S : SS} {h : H} {ov : AV} (st : Ft c S h ov) (he : S.e = 0) :
    ∃ h' ov' S', callW AP.A 24 [.pobj c.f 0] h = some (.tup [], h') ∧ Ft c S' h' ov' ∧ FF c h ov h' ov' ∧ Fin (dynA c.text c.most S.at_ S.out) S' := by
  obtain ⟨h1, a1, a2, a3⟩ := fget_c st 5 5 rfl (by omega)
  obtain ⟨h2, b1, b2, b3⟩ := fget_c a2 5 5 rfl (by omega)
  obtain ⟨h3, d1, d2, d3⟩ := fget_c b2 4 4 rfl (by omega)
  obtain ⟨A, hA⟩ : ∃ n, n = (getF c 5 S).1 := ⟨_, rfl⟩
  obtain ⟨S1, hS1⟩ : ∃ n, n = (getF c 5 S).2 := ⟨_, rfl⟩
  rw [← hA] at a1; rw [← hS1] at a2 b1 b2 d1 d2
  obtain ⟨B, hB⟩ : ∃ n, n = (getF c 5 S1).1 := ⟨_, rfl⟩
  obtain ⟨S2, hS2⟩ : ∃ n, n = (getF c 5 S1).2 := ⟨_, rfl⟩
  rw [← hB] at b1; rw [← hS2] at b2 d1 d2
  obtain ⟨C, hC⟩ : ∃ n, n = (getF c 4 S2).1 := ⟨_, rfl⟩
  obtain ⟨S3, hS3⟩ : ∃ n, n = (getF c 4 S2).2 := ⟨_, rfl⟩
  rw [← hC] at d1; rw [← hS3] at d2
  have g5 : ∀ S, (getF c 5 S).1 < 32 := fun S => by
    unfold getF; split
    · simpa using valAt_lt c.text S.at_ 5
    · simp
  have hA32 : A < 32 := hA ▸ g5 S
  have hB32 : B < 32 := hB ▸ g5 S1
  have hC16 : C < 16 := by
    rw [hC]; unfold getF; split
    · simpa using valAt_lt c.text S2.at_ 4
    · simp
  have w1 : IntKind.wrap .i64 (257 + (A : Int)) = ((A + 257 : Nat) : Int) := by rw [show 257 + (A : Int) = ((A + 257 : Nat) : Int) by omega]; exact wrap_nat64 (by omega)
  have w2 : IntKind.wrap .i64 (1 + (B : Int)) = ((B + 1 : Nat) : Int) := by rw [show 1 + (B : Int) = ((B + 1 : Nat) : Int) by omega]; exact wrap_nat64 (by omega)
  have w3 : IntKind.wrap .i64 (4 + (C : Int)) = ((C + 4 : Nat) : Int) := by rw [show 4 + (C : Int) = ((C + 4 : Nat) : Int) by omega]; exact wrap_nat64 (by omega)
  have gf3 := d2.gf
  have he3 : S3.e = 0 ∨ S3.e = 700 := by rw [hS3]; exact getF_e c 4 _ (by rw [hS2]; exact getF_e c 5 _ (by rw [hS1]; exact getF_e c 5 S (.inl he)))
  have fr3 := (a3.trans b3).trans d3
  have bad : (S3.e ≠ 0 ∨ 286 < A + 257 ∨ 30 < B + 1) → ∃ h' ov' S', callW AP.A 24 [.pobj c.f 0] h = some (.tup [], h') ∧ Ft c S' h' ov' ∧ FF c h ov h' ov' ∧ S'.e = 700 ∧ (700 : Int) ≠ 0 := by
    intro hb
    obtain ⟨h4, f1, f2, f3⟩ := wrong_c d2
    refine ⟨h4, ov, failS 700 S3, ?_, f2, fr3.trans f3, by rcases he3 with q | q <;> simp [failS, q], by decide⟩
    refine plain_c (fn := AP.f24) (e := []) (vs := []) rfl rfl rfl ?_ rfl
    by_cases c1 : S3.e = 0
    · have c1' := bne_f c1
      by_cases c2 : 286 < A + 257
      · have c2' : (286 : Int) < ((A + 257 : Nat) : Int) := by omega
        simp only [I] at *
        simp only [AP.f24, go_sem, abin_shl, abin_shr, Nat.reduceEqDiff, reduceIte, Nat.reduceAdd, Nat.reduceMul, Nat.reduceLT, Nat.reduceLeDiff, Int.reduceBEq, Int.reduceBNe, Int.reduceLT, Int.reduceLE, Int.reduceEq, a1, b1, d1, w1, w2, w3, gf3, c1', decide_eq_true c2', f1]
      · have c2' : ¬ (286 : Int) < ((A + 257 : Nat) : Int) := by omega
        have c3' : (30 : Int) < ((B + 1 : Nat) : Int) := by
          rcases hb with q | q | q
          · exact absurd c1 q
          · exact absurd q c2
          · omega
        simp only [I] at *
        simp only [AP.f24, go_sem, abin_shl, abin_shr, Nat.reduceEqDiff, reduceIte, Nat.reduceAdd, Nat.reduceMul, Nat.reduceLT, Nat.reduceLeDiff, Int.reduceBEq, Int.reduceBNe, Int.reduceLT, Int.reduceLE, Int.reduceEq, a1, b1, d1, w1, w2, w3, gf3, c1', decide_eq_false c2', decide_eq_true c3', f1]
    · have c1' := bne_t c1
      simp only [I] at *
      simp only [AP.f24, go_sem, abin_shl, abin_shr, Nat.reduceEqDiff, reduceIte, Nat.reduceAdd, Nat.reduceMul, Nat.reduceLT, Nat.reduceLeDiff, Int.reduceBEq, Int.reduceBNe, Int.reduceLT, Int.reduceLE, Int.reduceEq, a1, b1, d1, w1, w2, w3, gf3, c1', f1]
  by_cases hp : S.at_ + 14 ≤ 8 * c.text.size
  · unfold dynA
    have e1 : getF c 5 S = (valAt c.text S.at_ 5, { S with at_ := S.at_ + 5 }) := by rw [getF, if_pos (by omega)]
    rw [e1] at hA hS1; dsimp only at hA hS1
    have e2 : getF c 5 { S with at_ := S.at_ + 5 } = (valAt c.text (S.at_ + 5) 5, { S with at_ := S.at_ + 5 + 5 }) := by rw [getF, if_pos (by show S.at_ + 5 + 5 ≤ _; omega)]
    rw [hS1, e2] at hB hS2; dsimp only at hB hS2
    have e3 : getF c 4 { S with at_ := S.at_ + 5 + 5 } = (valAt c.text (S.at_ + 5 + 5) 4, { S with at_ := S.at_ + 5 + 5 + 4 }) := by rw [getF, if_pos (by show S.at_ + 5 + 5 + 4 ≤ _; omega)]
    rw [hS2, e3] at hC hS3; dsimp only at hC hS3
    rw [if_pos (show S.at_ + 10 ≤ 8 * c.text.size by omega)]
    dsimp only
    rw [← hA, ← hB]
    by_cases hbig : 286 < A + 257 ∨ 30 < B + 1
    · rw [if_pos hbig]; exact bad (.inr hbig)
    rw [if_neg hbig]
    have he30 : S3.e = 0 := by rw [hS3]; exact he
    have hat3 : S3.at_ = S.at_ + 14 := by rw [hS3]
    have c1' : (S3.e != 0) = false := bne_f he30
    have c2' : ¬ (286 : Int) < ((A + 257 : Nat) : Int) := by omega
    have c3' : ¬ (30 : Int) < ((B + 1 : Nat) : Int) := by omega
    have w4 : IntKind.wrap .i64 (((A + 257 : Nat) : Int) + ((B + 1 : Nat) : Int)) = ((A + 257 + (B + 1) : Nat) : Int) := by
      rw [show ((A + 257 : Nat) : Int) + ((B + 1 : Nat) : Int) = ((A + 257 + (B + 1) : Nat) : Int) by omega]; exact wrap_nat64 (by omega)
    -- the lengths' lengths
    obtain ⟨a, ha⟩ : ∃ a, a = h3.next := ⟨_, rfl⟩
    obtain ⟨g0, hg0⟩ : ∃ g, g = h3.alloc (ints (List.replicate 19 0)) := ⟨_, rfl⟩
    have al := d2.alloc (ints (List.replicate 19 0))
    rw [← hg0] at al
    have hga : g0.get a = some (ints (List.replicate 19 0)) := by rw [hg0, H.get_alloc, if_pos ha]
    have oc := order2_c g0
    have bt : ∀ e : Env, birth e (.mksl 1 8 [.int .i64 0] (.c (.int .i64 19)) (.c (.int .i64 19))) = some (ints (List.replicate 19 0), fun i => .sobj i 0 19 1) := fun _ => rfl
    have hac : a ≠ c.f := fun e => by have := d2.lt (.inl e); omega
    have hoa : ov.id? ≠ some a := fun e => by have := d2.lt (.inr e); omega
    obtain ⟨e4, h4, l1, l2, l3, l4, l5, l6, l7, l8, l9, l10⟩ := fown_loop (c := c) a (C + 4) (by omega) (I (A + 257 : Nat)) (I (B + 1 : Nat)) (orderL.take (C + 4)) [] (List.replicate 19 0) S3 g0 ov rfl al.1 hoa hac hga (by simp) (by rw [hg0, ha]; simp; exact d2.nx)
    have l1' : Lp AP.A [0, 2, 3, 4, 5, 6, 7] AP.f24L0 [(0, .pobj c.f 0), (2, I (A + 257 : Nat)), (3, I (B + 1 : Nat)), (4, I (C + 4 : Nat)), (5, .sobj a 0 19 1), (6, immI orderL), (7, I 0)] g0 = some (.exit 0, e4, h4) := l1
    clear l1
    have hn0 : g0.next = h3.next + 1 := by rw [hg0]; simp
    have fr4 : FF c h ov h4 ov := by
      refine ⟨by rw [l8, al.2.fl, fr3.fl], ?_, fun id i1 i2 i4 => ?_, fun i hi => .inl hi⟩
      · have := fr3.nx; omega
      · have := fr3.nx
        rw [l10 id (by omega) i2 i4 (by omega), al.2.oth id (by omega) i2 i4, fr3.oth id i1 i2 i4]
    obtain ⟨cl, hcl⟩ : ∃ cl, cl = (ownS (scF c) (orderL.take (C + 4)) (List.replicate 19 0) S3).1 := ⟨_, rfl⟩
    obtain ⟨S4, hS4⟩ : ∃ cl, cl = (ownS (scF c) (orderL.take (C + 4)) (List.replicate 19 0) S3).2 := ⟨_, rfl⟩
    rw [← hS4] at l6; rw [← hcl] at l7
    have hcll : cl.length = 19 := by rw [hcl, ownS_len]; simp
    have hol : (orderL.take (C + 4)).length = C + 4 := by rw [List.length_take]; show min (C + 4) 19 = C + 4; omega
    have rdc : Rd h4 (.sobj a 0 19 1) (ints cl) := by
      refine ⟨?_, by intro s e; cases e⟩
      simp [srcCells, l7, hcll, List.take_of_length_le]
    have ck := check2_c h4 (.sobj a 0 19 1) cl (by omega) rdc
    have bk := bookOf_c h4 (.sobj a 0 19 1) cl (by omega) rdc
    have gf4 := l6.gf
    have he4 : S4.e = 0 ∨ S4.e = 700 := by rw [hS4]; exact ownS_e _ _ _ _ (.inl he30)
    -- told wrong behind the lengths' lengths
    have bad2 : (S4.e ≠ 0 ∨ checkS cl ≠ 0) → ∃ h' ov' S', callW AP.A 24 [.pobj c.f 0] h = some (.tup [], h') ∧ Ft c S' h' ov' ∧ FF c h ov h' ov' ∧ S'.e = 700 ∧ (700 : Int) ≠ 0 := by
      intro hb
      obtain ⟨h5, f1, f2, f3⟩ := wrong_c l6
      refine ⟨h5, ov, failS 700 S4, ?_, f2, fr4.trans f3, by rcases he4 with q | q <;> simp [failS, q], by decide⟩
      refine plain_c (fn := AP.f24) (e := []) (vs := []) rfl rfl rfl ?_ rfl
      by_cases q1 : S4.e = 0
      · have q1' := bne_f q1
        have q2' : (checkS cl != 0) = true := bne_t (by rcases hb with q | q; exact absurd q1 q; exact q)
        simp only [I] at *
        simp only [AP.f24, go_sem, abin_shl, abin_shr, Nat.reduceEqDiff, reduceIte, Nat.reduceAdd, Nat.reduceMul, Nat.reduceLT, Nat.reduceLeDiff, Int.reduceBEq, Int.reduceBNe, Int.reduceLT, Int.reduceLE, Int.reduceEq, a1, b1, d1, w1, w2, w3, gf3, c1', decide_eq_false c2', decide_eq_false c3', bt, ← hg0, ← ha, oc, evC_loop, l1', l2, l3, l4, l5, gf4, q1', ck, q2', f1]
      · have q1' := bne_t q1
        simp only [I] at *
        simp only [AP.f24, go_sem, abin_shl, abin_shr, Nat.reduceEqDiff, reduceIte, Nat.reduceAdd, Nat.reduceMul, Nat.reduceLT, Nat.reduceLeDiff, Int.reduceBEq, Int.reduceBNe, Int.reduceLT, Int.reduceLE, Int.reduceEq, a1, b1, d1, w1, w2, w3, gf3, c1', decide_eq_false c2', decide_eq_false c3', bt, ← hg0, ← ha, oc, evC_loop, l1', l2, l3, l4, l5, gf4, q1', f1]
    have hlens : lensA c.text (A + 257 + (B + 1)) (S.at_ + 10) = if S.at_ + 14 + 3 * (C + 4) ≤ 8 * c.text.size then (if checkS (ownL c.text (orderL.take (C + 4)) (S.at_ + 14) (List.replicate 19 0)) = 0 then lensLoop c.text (ownL c.text (orderL.take (C + 4)) (S.at_ + 14) (List.replicate 19 0)) (A + 257 + (B + 1)) (8 * c.text.size + 1) [] (S.at_ + 14 + 3 * (C + 4)) else none) else none := by
      have hC' : valAt c.text (S.at_ + 10) 4 = C := hC.symm
      unfold lensA
      rw [if_pos (show S.at_ + 10 + 4 ≤ 8 * c.text.size by omega)]
      dsimp only
      rw [hC', show S.at_ + 10 + 4 = S.at_ + 14 by omega]
    by_cases hp2 : S.at_ + 14 + 3 * (C + 4) ≤ 8 * c.text.size
    · have ok := ownS_ok (scF c) (orderL.take (C + 4)) (List.replicate 19 0) S3 he30 (by rw [hol, hat3]; exact hp2)
      rw [ok] at hcl hS4
      dsimp only at hcl hS4
      rw [hol] at hS4
      rw [hat3] at hcl
      have hcl' : cl = ownL c.text (orderL.take (C + 4)) (S.at_ + 14) (List.replicate 19 0) := hcl
      rw [if_pos hp2, ← hcl'] at hlens
      by_cases hck : checkS cl = 0
      · rw [if_pos hck] at hlens
        have he40 : S4.e = 0 := by rw [hS4]; exact he30
        have hat4 : S4.at_ = S.at_ + 14 + 3 * (C + 4) := by rw [hS4]; show S3.at_ + 3 * (C + 4) = _; rw [hat3]
        have q1' := bne_f he40
        have q2' := bne_f hck
        obtain ⟨h5, S5, av, m1, m2, m3, m4⟩ := flengths_c cl (by omega) l6 he40 (A + 257 + (B + 1)) (by omega)
        have gf5 := m2.gf
        rw [hat4] at m4
        rw [hlens]
        cases hL : lensLoop c.text cl (A + 257 + (B + 1)) (8 * c.text.size + 1) [] (S.at_ + 14 + 3 * (C + 4)) with
        | none =>
          rw [hL] at m4
          have q3' : (S5.e != 0) = true := bne_t (by rw [m4]; decide)
          refine ⟨h5, ov, S5, ?_, m2, fr4.trans m3, m4, by decide⟩
          refine plain_c (fn := AP.f24) (e := [(0, .pobj c.f 0), (2, I (A + 257 : Nat)), (8, av), (71, .bool true)]) (vs := []) rfl rfl rfl ?_ rfl
          simp only [I] at *
          simp only [AP.f24, go_sem, abin_shl, abin_shr, Nat.reduceEqDiff, reduceIte, Nat.reduceAdd, Nat.reduceMul, Nat.reduceLT, Nat.reduceLeDiff, Int.reduceBEq, Int.reduceBNe, Int.reduceLT, Int.reduceLE, Int.reduceEq, a1, b1, d1, w1, w2, w3, gf3, c1', decide_eq_false c2', decide_eq_false c3', bt, ← hg0, ← ha, oc, evC_loop, l1', l2, l3, l4, l5, gf4, q1', ck, q2', bk, w4, m1, gf5, q3']
        | some q =>
          obtain ⟨L, p2⟩ := q
          rw [hL] at m4
          obtain ⟨m4, m5, m6, m7⟩ := m4
          have he5 : S5.e = 0 := by rw [m4]; exact he40
          have q3' := bne_f he5
          have hrng : okLens L := lensA_rng (t := c.text) (many := A + 257 + (B + 1)) (p := S.at_ + 10) (p2 := p2) (by rw [hlens, hL])
          dsimp only
          obtain ⟨id, hav, hgid⟩ : ∃ id, av = .sobj id 0 (A + 257 + (B + 1)) 1 ∧ h5.get id = some (ints L) := by
            rcases m6 with ⟨_, q⟩ | ⟨id, q1, q2, _⟩
            · have := congrArg List.length q; rw [ints_length, m5, List.length_nil] at this; omega
            · exact ⟨id, by rw [q1, ints_length, m5], q2⟩
          have hil : (ints L).length = A + 257 + (B + 1) := by rw [ints_length, m5]
          have s1 := asl_hi (h := h5) (k := A + 257) hgid hil (Nat.le_refl _) (by omega)
          have s2 := asl_lo (h := h5) (k := A + 257) hgid hil (by omega)
          rw [show A + 257 + (B + 1) - (A + 257) = B + 1 by omega] at s2
          rw [← hav] at s1 s2
          obtain ⟨la, hla⟩ : ∃ x, x = L.take (A + 257) := ⟨_, rfl⟩
          obtain ⟨lb, hlb⟩ : ∃ x, x = L.drop (A + 257) := ⟨_, rfl⟩
          have hlal : la.length = A + 257 := by rw [hla, List.length_take]; omega
          have hlbl : lb.length = B + 1 := by rw [hlb, List.length_drop]; omega
          have ra : Rd h5 (.sobj id 0 (A + 257) 1) (ints la) := by
            refine ⟨?_, by intro s e; cases e⟩
            simp only [srcCells, if_true, hgid, Option.bind_some]
            rw [if_pos (by rw [hil]; omega), hla]; simp [ints, List.map_take]; omega
          have rb : Rd h5 (.sobj id (A + 257) (B + 1) 1) (ints lb) := by
            refine ⟨?_, by intro s e; cases e⟩
            simp only [srcCells, if_true, hgid, Option.bind_some]
            rw [if_pos (by rw [hil]; omega), hlb]
            have : (ints (L.drop (A + 257))).length = B + 1 := by rw [ints_length, ← hlb, hlbl]
            rw [this, ints, ints, ← List.map_drop, Nat.mul_one, List.take_of_length_le (by rw [List.length_map, ← hlb, hlbl]; omega)]
          rw [← hla, ← hlb]
          have cka := check2_c h5 _ la (by omega) ra
          have ckb := check2_c h5 _ lb (by omega) rb
          have hra : okLens la := fun y hy => hrng y (List.mem_of_mem_take (hla ▸ hy))
          have hrb : okLens lb := fun y hy => hrng y (List.mem_of_mem_drop (hlb ▸ hy))
          have sgb := sparse_c h5 _ lb (by omega) hrb rb
          have mka := bookOf_c h5 _ la (by omega) ra
          have mkb := bookOf_c h5 _ lb (by omega) rb
          have hel0 : la.getD 256 0 = L.getD 256 0 := by
            rw [hla, List.getD_eq_getElem?_getD, List.getD_eq_getElem?_getD, List.getElem?_take, if_pos (by omega)]
          have hel := ints_getD (l := L) (i := 256) (by omega)
          rw [← hel0] at hel
          obtain ⟨id2, i1, i2, i3⟩ := m6.elem hel
          have i2' : aiadr 1 av (I 256) = some (.pobj id2 256) := i2
          clear i2
          by_cases hbad : checkS la ≠ 0 ∨ la.getD 256 0 = 0 ∨ (checkS lb ≠ 0 ∧ singleS lb = false)
          · rw [if_pos hbad]
            obtain ⟨h6, f1, f2, f3⟩ := wrong_c m2
            refine ⟨h6, ov, failS 700 S5, ?_, f2, (fr4.trans m3).trans f3, by simp [failS, he5], by decide⟩
            refine plain_c (fn := AP.f24) (e := []) (vs := []) rfl rfl rfl ?_ rfl
            by_cases x1 : checkS la = 0
            · have x1' := bne_f x1
              by_cases x2 : la.getD 256 0 = 0
              · have x2' := beq_t x2
                simp only [I] at *
                simp only [AP.f24, go_sem, abin_shl, abin_shr, Nat.reduceEqDiff, reduceIte, Nat.reduceAdd, Nat.reduceMul, Nat.reduceLT, Nat.reduceLeDiff, Int.reduceBEq, Int.reduceBNe, Int.reduceLT, Int.reduceLE, Int.reduceEq, a1, b1, d1, w1, w2, w3, gf3, c1', decide_eq_false c2', decide_eq_false c3', bt, ← hg0, ← ha, oc, evC_loop, l1', l2, l3, l4, l5, gf4, q1', ck, q2', bk, w4, m1, gf5, q3', Option.map_some, Option.map_none, s1, s2, cka, x1', i2', i3, hel, x2', f1]
              · have x2' := beq_f x2
                obtain ⟨x3, x4⟩ : checkS lb ≠ 0 ∧ singleS lb = false := by
                  rcases hbad with q | q | q
                  · exact absurd x1 q
                  · exact absurd q x2
                  · exact q
                have x3' := bne_t x3
                rw [x4] at sgb
                simp only [I] at *
                simp only [AP.f24, go_sem, abin_shl, abin_shr, Nat.reduceEqDiff, reduceIte, Nat.reduceAdd, Nat.reduceMul, Nat.reduceLT, Nat.reduceLeDiff, Int.reduceBEq, Int.reduceBNe, Int.reduceLT, Int.reduceLE, Int.reduceEq, a1, b1, d1, w1, w2, w3, gf3, c1', decide_eq_false c2', decide_eq_false c3', bt, ← hg0, ← ha, oc, evC_loop, l1', l2, l3, l4, l5, gf4, q1', ck, q2', bk, w4, m1, gf5, q3', Option.map_some, Option.map_none, s1, s2, cka, x1', i2', i3, hel, x2', ckb, x3', sgb, f1]
            · have x1' := bne_t x1
              simp only [I] at *
              simp only [AP.f24, go_sem, abin_shl, abin_shr, Nat.reduceEqDiff, reduceIte, Nat.reduceAdd, Nat.reduceMul, Nat.reduceLT, Nat.reduceLeDiff, Int.reduceBEq, Int.reduceBNe, Int.reduceLT, Int.reduceLE, Int.reduceEq, a1, b1, d1, w1, w2, w3, gf3, c1', decide_eq_false c2', decide_eq_false c3', bt, ← hg0, ← ha, oc, evC_loop, l1', l2, l3, l4, l5, gf4, q1', ck, q2', bk, w4, m1, gf5, q3', Option.map_some, Option.map_none, s1, s2, cka, x1', f1]
          · rw [if_neg hbad]
            have x1 : checkS la = 0 := Decidable.byContradiction fun q => hbad (.inl q)
            have x2 : la.getD 256 0 ≠ 0 := fun q => hbad (.inr (.inl q))
            have x1' := bne_f x1
            have x2' := beq_f x2
            obtain ⟨h6, ov6, S6, r1, r2, r3, r4⟩ := fcoded_c la lb (by omega) (by omega) m2 he5
            have last : evC (callW AP.A) loopW (.dreg [0, 1, 2, 3, 4, 5, 6, 7, 8, 9] [
    ⟨(some 99), .mv (.t 0), none⟩,
    ⟨(some 100), .mv (.t 8), none⟩,
    ⟨(some 101), .mv (.t 2), none⟩,
    ⟨(some 102), .sl 1 (.t 100) none (some (.t 101)) none, none⟩,
    ⟨(some 103), .call (.c (.fn 21 [] [])) [(.t 102)], none⟩,
    ⟨(some 104), .mv (.t 8), none⟩,
    ⟨(some 105), .mv (.t 2), none⟩,
    ⟨(some 106), .sl 1 (.t 104) (some (.t 105)) none none, none⟩,
    ⟨(some 107), .call (.c (.fn 21 [] [])) [(.t 106)], none⟩,
    ⟨(some 108), .call (.c (.fn 20 [] [])) [(.t 99), (.t 103), (.t 107)], none⟩] [(7, [0])] []) [(0, .pobj c.f 0), (2, I (A + 257 : Nat)), (8, av)] h5 = some (.normal, [], h6) := by
              rw [C_dreg (e' := [(108, .tup []), (107, rbook lb), (106, .sobj id (A + 257) (B + 1) 1), (105, I (A + 257 : Nat)), (104, av), (103, rbook la), (102, .sobj id 0 (A + 257) 1), (101, I (A + 257 : Nat)), (100, av), (99, .pobj c.f 0), (0, .pobj c.f 0), (2, I (A + 257 : Nat)), (8, av)]) (h' := h6) (gs := [h5, h5, h5, h6])]
              · simp only [go_sem, abin_shl, abin_shr, Nat.reduceEqDiff, reduceIte, Nat.reduceAdd, Nat.reduceMul, Nat.reduceLT, Nat.reduceLeDiff, Int.reduceBEq, Int.reduceBNe, Int.reduceLT, Int.reduceLE, Int.reduceEq]
              · simp only [opsD_nil, opsD_u, goOD_s, preD_t, preD_f, AOp.loud, go_sem, abin_shl, abin_shr, Nat.reduceEqDiff, reduceIte, Nat.reduceAdd, Nat.reduceMul, Nat.reduceLT, Nat.reduceLeDiff, Int.reduceBEq, Int.reduceBNe, Int.reduceLT, Int.reduceLE, Int.reduceEq, Option.map_some, Option.map_none, s1, s2, mka, mkb, r1]
              · refine stables_c (fun k hk => ?_) rfl
                obtain rfl : k = 0 := by simpa using hk
                refine stable_of (o := ⟨some 106, .sl 1 (.t 104) (some (.t 105)) none none, none⟩) (g := h5) (h' := h5) (d := 106) (u := .sobj id (A + 257) (B + 1) 1) rfl rfl rfl rfl ?_ ?_
                · simp only [evOper, go_sem, abin_shl, abin_shr, Nat.reduceEqDiff, reduceIte, Nat.reduceAdd, Nat.reduceMul, Nat.reduceLT, Nat.reduceLeDiff, Int.reduceBEq, Int.reduceBNe, Int.reduceLT, Int.reduceLE, Int.reduceEq, Option.map_some, Option.map_none, s2]
                · simp only [go_sem, abin_shl, abin_shr, Nat.reduceEqDiff, reduceIte, Nat.reduceAdd, Nat.reduceMul, Nat.reduceLT, Nat.reduceLeDiff, Int.reduceBEq, Int.reduceBNe, Int.reduceLT, Int.reduceLE, Int.reduceEq, beq_sobj]
            refine ⟨h6, ov6, S6, ?_, r2, (fr4.trans m3).trans r3, ?_⟩
            · refine plain_n (fn := AP.f24) (e := []) (vs := []) rfl rfl rfl ?_ rfl
              by_cases x3 : checkS lb = 0
              · have x3' := bne_f x3
                simp only [I] at *
                simp only [AP.f24, go_sem, abin_shl, abin_shr, Nat.reduceEqDiff, reduceIte, Nat.reduceAdd, Nat.reduceMul, Nat.reduceLT, Nat.reduceLeDiff, Int.reduceBEq, Int.reduceBNe, Int.reduceLT, Int.reduceLE, Int.reduceEq, a1, b1, d1, w1, w2, w3, gf3, c1', decide_eq_false c2', decide_eq_false c3', bt, ← hg0, ← ha, oc, evC_loop, l1', l2, l3, l4, l5, gf4, q1', ck, q2', bk, w4, m1, gf5, q3', Option.map_some, Option.map_none, s1, s2, cka, x1', i2', i3, hel, x2', ckb, x3', last]
              · have x3' := bne_t x3
                have x4 : singleS lb = true := by
                  cases hs : singleS lb with
                  | true => rfl
                  | false => exact absurd (.inr (.inr ⟨x3, hs⟩)) hbad
                rw [x4] at sgb
                simp only [I] at *
                simp only [AP.f24, go_sem, abin_shl, abin_shr, Nat.reduceEqDiff, reduceIte, Nat.reduceAdd, Nat.reduceMul, Nat.reduceLT, Nat.reduceLeDiff, Int.reduceBEq, Int.reduceBNe, Int.reduceLT, Int.reduceLE, Int.reduceEq, a1, b1, d1, w1, w2, w3, gf3, c1', decide_eq_false c2', decide_eq_false c3', bt, ← hg0, ← ha, oc, evC_loop, l1', l2, l3, l4, l5, gf4, q1', ck, q2', bk, w4, m1, gf5, q3', Option.map_some, Option.map_none, s1, s2, cka, x1', i2', i3, hel, x2', ckb, x3', sgb, last]
            · have h1 : S5.at_ = p2 := by rw [m4]
              have h2 : S5.out = S.out := by rw [m4, hS4, hS3]
              rw [h1, h2] at r4; exact r4
      · rw [if_neg hck] at hlens
        rw [hlens]
        exact bad2 (.inr hck)
    · rw [if_neg hp2] at hlens
      rw [hlens]
      refine bad2 (.inl ?_)
      rw [hS4, ownS_bad (scF c) _ _ S3 he30 (by rw [hat3]; exact hp) (by rw [hol, hat3]; show 8 * c.text.size < _; omega)]; decide
  · rw [dynA_short c.text c.most S.out hp]
    refine bad (.inl ?_)
    rw [hS3, hS2, hS1]
    unfold getF
    by_cases q1 : S.at_ + 5 ≤ 8 * c.text.size
    · simp only [if_pos q1]
      by_cases q2 : S.at_ + 5 + 5 ≤ 8 * c.text.size
      · simp only [if_pos q2]; rw [if_neg (by omega)]; simp [failS, he]
      · simp only [if_neg q2, failS, he, if_true]; split <;> simp
    · simp only [if_neg q1, failS, he, if_true]
      split
      · split <;> simp
      · simp; split <;> simp
end Ab

/- The document's own Inflate, and portagelaw7.Inflates. -/
set_option linter.unusedSimpArgs false
set_option linter.unusedVariables false
namespace Ab
open Go

theorem finf_stop {c : FC} {S : SS} {h : H} {ov : AV} (st : Ft c S h ov) (b : Int) (hs : b ≠ 0 ∨ (b = 0 ∧ S.e ≠ 0)) :
    ∃ e', Lp AP.A [7, 8] AP.f8L0 [(7, .pobj c.f 0), (8, I b)] h = some (.exit 0, e', h) ∧ look e' 7 = .pobj c.f 0 := by
  have gf := st.gf
  refine ⟨[(7, .pobj c.f 0), (29, .bool false)], Lp_exit ?_, rfl⟩
  rcases hs with hb | ⟨hb, he⟩
  · have c1 := beq_f hb
    simp only [I] at *
    simp only [AP.f8L0, go_sem, abin_shl, abin_shr, Nat.reduceEqDiff, reduceIte, Nat.reduceAdd, Nat.reduceMul, Nat.reduceLT, Nat.reduceLeDiff, Int.reduceBEq, Int.reduceBNe, Int.reduceLT, Int.reduceLE, Int.reduceEq, c1]
  · have c1 := beq_t hb
    have c2 := beq_f he
    simp only [I] at *
    simp only [AP.f8L0, go_sem, abin_shl, abin_shr, Nat.reduceEqDiff, reduceIte, Nat.reduceAdd, Nat.reduceMul, Nat.reduceLT, Nat.reduceLeDiff, Int.reduceBEq, Int.reduceBNe, Int.reduceLT, Int.reduceLE, Int.reduceEq, c1, gf, c2]

theorem finf_loop {c : FC} : ∀ (f : Nat) (S : SS) (h : H) (ov : AV), Ft c S h ov → S.e = 0 → 8 * c.text.size < S.at_ + f →
    ∃ e' h' ov' S', Lp AP.A [7, 8] AP.f8L0 [(7, .pobj c.f 0), (8, I 0)] h = some (.exit 0, e', h') ∧ look e' 7 = .pobj c.f 0 ∧ Ft c S' h' ov' ∧ FF c h ov h' ov' ∧ Fin (infLoop c.text c.most f S.at_ S.out) S'
  | 0, S, h, ov, st, he, hk => by have := st.at_le; omega
  | f + 1, S, h, ov, st, he, hk => by
    have gf := st.gf
    rw [he] at gf
    obtain ⟨h1, a1, a2, a3⟩ := fget_c st 1 1 rfl (by omega)
    obtain ⟨h2, b1, b2, b3⟩ := fget_c a2 2 2 rfl (by omega)
    obtain ⟨A, hA⟩ : ∃ n, n = (getF c 1 S).1 := ⟨_, rfl⟩
    obtain ⟨S1, hS1⟩ : ∃ n, n = (getF c 1 S).2 := ⟨_, rfl⟩
    rw [← hA] at a1; rw [← hS1] at a2 b1 b2
    obtain ⟨B, hB⟩ : ∃ n, n = (getF c 2 S1).1 := ⟨_, rfl⟩
    obtain ⟨S2, hS2⟩ : ∃ n, n = (getF c 2 S1).2 := ⟨_, rfl⟩
    rw [← hB] at b1; rw [← hS2] at b2
    have gf2 := b2.gf
    have fr2 := a3.trans b3
    rw [infLoop]
    unfold blockA
    by_cases hp : S.at_ + 3 ≤ 8 * c.text.size
    · rw [if_pos hp]
      have e1 : getF c 1 S = (valAt c.text S.at_ 1, { S with at_ := S.at_ + 1 }) := by rw [getF, if_pos (by omega)]
      rw [e1] at hA hS1; dsimp only at hA hS1
      have e2 : getF c 2 { S with at_ := S.at_ + 1 } = (valAt c.text (S.at_ + 1) 2, { S with at_ := S.at_ + 1 + 2 }) := by rw [getF, if_pos (by show S.at_ + 1 + 2 ≤ _; omega)]
      rw [hS1, e2] at hB hS2; dsimp only at hB hS2
      have he2 : S2.e = 0 := by rw [hS2]; exact he
      have hat : S2.at_ = S.at_ + 3 := by rw [hS2]
      have hout : S2.out = S.out := by rw [hS2]
      have hA2 : A < 2 := by rw [hA]; simpa using valAt_lt c.text S.at_ 1
      dsimp only
      rw [← hA, ← hB]
      have ce := bne_f he2
      have n0 : ((0 : Int) == 0) = true := rfl
      have z0 : ((0 : Int) == 0) = true := rfl
      have close : ∀ (r : Rs) (h' : H) (ov' : AV) (S' : SS), evC (callW AP.A) loopW AP.f8L0 (restr [(7, .pobj c.f 0), (8, I 0)] [7, 8]) h = some (.normal, [(7, .pobj c.f 0), (8, I A)], h') → Ft c S' h' ov' → FF c h2 ov h' ov' → Fin r S' → (∀ q, r = .ok q → S.at_ < q.1) →
          ∃ e' h' ov' S', Lp AP.A [7, 8] AP.f8L0 [(7, .pobj c.f 0), (8, I 0)] h = some (.exit 0, e', h') ∧ look e' 7 = .pobj c.f 0 ∧ Ft c S' h' ov' ∧ FF c h ov h' ov' ∧ Fin (match (match r with | .ok q => (.ok (A == 1, q.1, q.2) : Except Int (Bool × Nat × List Nat)) | .error k => .error k) with | .error k => .error k | .ok (last, p2, o) => if last then .ok (p2, o) else infLoop c.text c.most f p2 o) S' := by
        intro r h' ov' S' step q2 q3 q4 q5
        cases r with
        | error k =>
          have hs : (A : Int) ≠ 0 ∨ ((A : Int) = 0 ∧ S'.e ≠ 0) := by
            by_cases q : (A : Int) = 0
            · exact .inr ⟨q, by rw [q4.1]; exact q4.2⟩
            · exact .inl q
          obtain ⟨e', r1, r2⟩ := finf_stop q2 A hs
          exact ⟨e', h', ov', S', Lp_next step r1, r2, q2, fr2.trans q3, q4⟩
        | ok q =>
          obtain ⟨p2, o⟩ := q
          simp only [Fin] at q4
          dsimp only
          by_cases hA1 : A = 1
          · have hb : (A == 1) = true := by rw [hA1]; rfl
            rw [hb]
            simp only [if_true]
            obtain ⟨e', r1, r2⟩ := finf_stop q2 A (.inl (by omega))
            exact ⟨e', h', ov', S', Lp_next step r1, r2, q2, fr2.trans q3, q4⟩
          · have hA0 : A = 0 := by omega
            have hb : (A == 1) = false := by rw [hA0]; rfl
            rw [hb]
            simp only [Bool.false_eq_true, if_false]
            rw [hA0] at step
            subst q4
            have h5 := q5 (p2, o) rfl
            dsimp only at h5
            obtain ⟨e', h'', ov'', S'', r1, r2, r3, r4, r5⟩ := finf_loop f _ h' ov' q2 rfl (by dsimp only; omega)
            exact ⟨e', h'', ov'', S'', Lp_next step r1, r2, r3, (fr2.trans q3).trans r4, r5⟩
      by_cases d0 : B = 0
      · rw [if_pos d0]
        obtain ⟨h', ov', S', q1, q2, q3, q4⟩ := fstored_c b2 he2
        rw [hat, hout] at q4
        have d0' : ((B : Int) == 0) = true := beq_t (by omega)
        refine close _ h' ov' S' ?_ q2 q3 q4 (fun q hq => ?_)
        · simp only [I] at *
          simp only [AP.f8L0, go_sem, abin_shl, abin_shr, Nat.reduceEqDiff, reduceIte, Nat.reduceAdd, Nat.reduceMul, Nat.reduceLT, Nat.reduceLeDiff, Int.reduceBEq, Int.reduceBNe, Int.reduceLT, Int.reduceLE, Int.reduceEq, gf, a1, b1, gf2, ce, d0', q1]
        · unfold storedA at hq
          dsimp only at hq
          split at hq
          · split at hq
            · obtain ⟨p2, o⟩ := q
              have := storeA_ge hq; dsimp only; omega
            · cases hq
          · cases hq
      · rw [if_neg d0]
        have d0' : ((B : Int) == 0) = false := beq_f (by omega)
        by_cases d1 : B = 1
        · rw [if_pos d1]
          have d1' : ((B : Int) == 1) = true := beq_t (by omega)
          have f1 := fixed2_c h2
          have m1 := bookOf_c h2 (immI fixedL) fixedL (by rw [fixedL_len]; omega) (rd_imm _ _)
          have f2 := fives_c h2
          have m2 := bookOf_c h2 (immI (List.replicate 30 5)) (List.replicate 30 5) (by rw [List.length_replicate]; omega) (rd_imm _ _)
          obtain ⟨h', ov', S', q1, q2, q3, q4⟩ := fcoded_c fixedL (List.replicate 30 5) (by rw [fixedL_len]; omega) (by rw [List.length_replicate]; omega) b2 he2
          rw [hat, hout] at q4
          refine close _ h' ov' S' ?_ q2 q3 q4 (fun q hq => by obtain ⟨p2, o⟩ := q; have := codedA_ge hq; dsimp only; omega)
          generalize rbook fixedL = bf at *
          generalize rbook (List.replicate 30 5) = bd at *
          generalize immI fixedL = vf at *
          generalize immI (List.replicate 30 5) = vd at *
          simp only [I] at *
          simp only [AP.f8L0, go_sem, abin_shl, abin_shr, Nat.reduceEqDiff, reduceIte, Nat.reduceAdd, Nat.reduceMul, Nat.reduceLT, Nat.reduceLeDiff, Int.reduceBEq, Int.reduceBNe, Int.reduceLT, Int.reduceLE, Int.reduceEq, gf, a1, b1, gf2, ce, d0', d1', f1, m1, f2, m2, q1]
        · rw [if_neg d1]
          have d1' : ((B : Int) == 1) = false := beq_f (by omega)
          by_cases d2 : B = 2
          · rw [if_pos d2]
            have d2' : ((B : Int) == 2) = true := beq_t (by omega)
            obtain ⟨h', ov', S', q1, q2, q3, q4⟩ := fdynamic_c b2 he2
            rw [hat, hout] at q4
            refine close _ h' ov' S' ?_ q2 q3 q4 (fun q hq => ?_)
            · simp only [I] at *
              simp only [AP.f8L0, go_sem, abin_shl, abin_shr, Nat.reduceEqDiff, reduceIte, Nat.reduceAdd, Nat.reduceMul, Nat.reduceLT, Nat.reduceLeDiff, Int.reduceBEq, Int.reduceBNe, Int.reduceLT, Int.reduceLE, Int.reduceEq, gf, a1, b1, gf2, ce, d0', d1', d2', q1]
            · have hb : blockA c.text c.most S.at_ S.out = .ok (valAt c.text S.at_ 1 == 1, q.1, q.2) := by
                unfold blockA
                rw [if_pos hp]
                dsimp only
                rw [← hB, if_neg d0, if_neg d1, if_pos d2, hq]
              have := blockA_ge hb
              exact this
          · rw [if_neg d2]
            have d2' : ((B : Int) == 2) = false := beq_f (by omega)
            obtain ⟨h', q1, q2, q3⟩ := wrong_c b2
            refine close (.error 700) h' ov _ ?_ q2 q3 ⟨by simp [failS, he2], by decide⟩ (fun q hq => by cases hq)
            simp only [I] at *
            simp only [AP.f8L0, go_sem, abin_shl, abin_shr, Nat.reduceEqDiff, reduceIte, Nat.reduceAdd, Nat.reduceMul, Nat.reduceLT, Nat.reduceLeDiff, Int.reduceBEq, Int.reduceBNe, Int.reduceLT, Int.reduceLE, Int.reduceEq, gf, a1, b1, gf2, ce, d0', d1', d2', q1]
    · rw [if_neg hp]
      have he2 : S2.e = 700 := by
        by_cases q1 : S.at_ + 1 ≤ 8 * c.text.size
        · have e1 : getF c 1 S = (valAt c.text S.at_ 1, { S with at_ := S.at_ + 1 }) := by rw [getF, if_pos q1]
          rw [e1] at hS1; dsimp only at hS1
          have e2 : getF c 2 S1 = (0, { S1 with e := 700 }) := by rw [getF, if_neg (by rw [hS1]; show ¬ S.at_ + 1 + 2 ≤ _; omega), failS, if_pos (by rw [hS1]; exact he)]
          rw [e2] at hS2
          rw [hS2]
        · have e1 : getF c 1 S = (0, { S with e := 700 }) := by rw [getF, if_neg q1, failS, if_pos he]
          rw [e1] at hS1; dsimp only at hS1
          have e2 : getF c 2 S1 = (0, S1) := by rw [getF, if_neg (by rw [hS1]; show ¬ S.at_ + 2 ≤ _; omega), failS, if_neg (by rw [hS1]; simp)]
          rw [e2] at hS2
          rw [hS2, hS1]
      have ce : (S2.e != 0) = true := bne_t (by rw [he2]; decide)
      refine ⟨[(7, .pobj c.f 0), (8, I A), (9, I B), (38, .bool true)], h2, ov, S2, Lp_exit ?_, rfl, b2, fr2, he2, by decide⟩
      simp only [I] at *
      simp only [AP.f8L0, go_sem, abin_shl, abin_shr, Nat.reduceEqDiff, reduceIte, Nat.reduceAdd, Nat.reduceMul, Nat.reduceLT, Nat.reduceLeDiff, Int.reduceBEq, Int.reduceBNe, Int.reduceLT, Int.reduceLE, Int.reduceEq, gf, a1, b1, gf2, ce]

theorem finflate_c (h : H) (t : ByteArray) (most : Int) (hs : t.size < 1125899906842624) : callW AP.A 8 [.str t, I most] h = some (infV (inflateA t most), h) := by
  unfold inflateA
  by_cases c1 : most < 0
  · rw [if_pos (.inl c1)]
    refine pure_c (fn := AP.f8) (h2 := h.fence) (e := [(4, .str ⟨#[]⟩), (5, I 0), (6, I 700)]) rfl rfl rfl ?_ rfl rfl
    simp only [I] at *
    simp only [AP.f8, go_sem, abin_shl, abin_shr, Nat.reduceEqDiff, reduceIte, Nat.reduceAdd, Nat.reduceMul, Nat.reduceLT, Nat.reduceLeDiff, Int.reduceBEq, Int.reduceBNe, Int.reduceLT, Int.reduceLE, Int.reduceEq, decide_eq_true c1]
  by_cases c2 : 8192 < most
  · rw [if_pos (.inr c2)]
    refine pure_c (fn := AP.f8) (h2 := h.fence) (e := [(4, .str ⟨#[]⟩), (5, I 0), (6, I 700)]) rfl rfl rfl ?_ rfl rfl
    simp only [I] at *
    simp only [AP.f8, go_sem, abin_shl, abin_shr, Nat.reduceEqDiff, reduceIte, Nat.reduceAdd, Nat.reduceMul, Nat.reduceLT, Nat.reduceLeDiff, Int.reduceBEq, Int.reduceBNe, Int.reduceLT, Int.reduceLE, Int.reduceEq, decide_eq_false c1, decide_eq_true c2]
  rw [if_neg (by omega)]
  obtain ⟨h1, hh1⟩ : ∃ g, g = h.fence.alloc [.str t, I 0, .nils, I most, I 0] := ⟨_, rfl⟩
  have st : Ft ⟨h.next, t, most⟩ ⟨0, [], 0⟩ h1 .nils := by
    refine ⟨?_, .inl ⟨rfl, rfl⟩, ?_, by simp [AV.id?], ?_, hs, by simp, by simp; omega, by show most ≤ 900000; omega⟩
    · rw [hh1, H.get_alloc, if_pos (show h.next = h.fence.next from rfl)]; rfl
    · rw [hh1]; simp
    · rw [hh1]; simp
  obtain ⟨e', h3, ov, S, q1, q2, q3, q4, q5⟩ := finf_loop (8 * t.size + 1) ⟨0, [], 0⟩ h1 .nils st rfl (by show 8 * t.size < 0 + (8 * t.size + 1); omega)
  have gf := q3.gf
  have bx : ∀ e : Env, look e 19 = .agg [.str t, .int .i64 0, .nils, .int .i64 most, .int .i64 0] → birth e (.box 5 (.t 19)) = some ([.str t, .int .i64 0, .nils, .int .i64 most, .int .i64 0], fun i => .pobj i 0) := by
    intro e q; simp only [birth, ev_t', q]; rfl
  have fl1 : fillA [.str ⟨#[]⟩, .int .i64 0] [(0, 1, .str t)] = some [.str t, .int .i64 0] := rfl
  have fl2 : fillA [.str ⟨#[]⟩, .int .i64 0, .nils, .int .i64 0, .int .i64 0] [(0, 2, .agg [.str t, .int .i64 0]), (3, 1, .int .i64 most)] = some [.str t, .int .i64 0, .nils, .int .i64 most, .int .i64 0] := rfl
  have hn : h.fence.next = h.next := rfl
  dsimp only at q5
  cases hi : infLoop t most (8 * t.size + 1) 0 [] with
  | error k =>
    rw [hi] at q5
    have c3 : (S.e != 0) = true := bne_t (by rw [q5.1]; exact q5.2)
    have hk : S.e = k := q5.1
    refine pure_c (fn := AP.f8) (h2 := h3) (e := [(4, .str ⟨#[]⟩), (5, I 0), (6, I k)]) rfl rfl rfl ?_ rfl rfl
    rw [hk] at gf c3
    simp only [I] at *
    simp only [AP.f8, go_sem, abin_shl, abin_shr, Nat.reduceEqDiff, reduceIte, Nat.reduceAdd, Nat.reduceMul, Nat.reduceLT, Nat.reduceLeDiff, Int.reduceBEq, Int.reduceBNe, Int.reduceLT, Int.reduceLE, Int.reduceEq, decide_eq_false c1, decide_eq_false c2, hn, List.map_cons, List.map_nil, fl1, fl2]
    rw [bx _ rfl]
    simp only [go_sem, abin_shl, abin_shr, Nat.reduceEqDiff, reduceIte, Nat.reduceAdd, Nat.reduceMul, Nat.reduceLT, Nat.reduceLeDiff, Int.reduceBEq, Int.reduceBNe, Int.reduceLT, Int.reduceLE, Int.reduceEq, ← hh1, hn, evC_loop, q1, q2, gf, c3]
  | ok z =>
    obtain ⟨p, o⟩ := z
    rw [hi] at q5
    simp only [Fin] at q5
    have c3 : (S.e != 0) = false := bne_f (by rw [q5])
    have hb := b2s_own q3.own
    subst q5
    dsimp only at gf hb c3
    have hle := q3.at_le
    dsimp only at hle
    have w2 : IntKind.wrap .i64 ((p : Int) + 7) = ((p + 7 : Nat) : Int) := wrap_nat64 (n := p + 7) (by omega)
    have qd : abin .quo (.int .i64 ((p + 7 : Nat) : Int)) (.int .i64 8) = some (.int .i64 (((p + 7) / 8 : Nat) : Int)) := by
      rw [abin_quo _ _ _ (by omega), show (8 : Int) = ((8 : Nat) : Int) from rfl, tdiv_nat, wrap_nat64 (by omega)]
    refine pure_c (fn := AP.f8) (h2 := h3) (e := [(4, .str (bytesOf o)), (5, I ((p + 7) / 8 : Nat)), (6, I 0)]) rfl rfl rfl ?_ rfl rfl
    generalize (p + 7) / 8 = P at *
    generalize p + 7 = P7 at *
    simp only [I] at *
    simp only [AP.f8, go_sem, abin_shl, abin_shr, Nat.reduceEqDiff, reduceIte, Nat.reduceAdd, Nat.reduceMul, Nat.reduceLT, Nat.reduceLeDiff, Int.reduceBEq, Int.reduceBNe, Int.reduceLT, Int.reduceLE, Int.reduceEq, decide_eq_false c1, decide_eq_false c2, hn, List.map_cons, List.map_nil, fl1, fl2]
    rw [bx _ rfl]
    simp only [go_sem, abin_shl, abin_shr, Nat.reduceEqDiff, reduceIte, Nat.reduceAdd, Nat.reduceMul, Nat.reduceLT, Nat.reduceLeDiff, Int.reduceBEq, Int.reduceBNe, Int.reduceLT, Int.reduceLE, Int.reduceEq, ← hh1, hn, evC_loop, q1, q2, gf, c3, w2, hb, qd]

theorem inflates_c (s : ByteArray) (most : Int) (hs : s.size < 140737488355328) (hm : -9223372036854775808 ≤ most ∧ most < 9223372036854775808) (h : H) : callW AP.A 0 [.str s, I most] h = some (.bool true, h) := by
  have aw := awake_c h.fence
  have k1 := inflate_c h.fence (Nat.le_refl _) s most (by omega)
  have k2 := finflate_c h.fence s most (by omega)
  cases hr : inflateA s most with
  | error k =>
    rw [hr] at k1 k2
    have n1 := num_c h.fence k
    have e1 : abin .eql (.str ⟨#[]⟩) (.str ⟨#[]⟩) = some (.bool true) := by rw [str_eql]; rfl
    have e2 : (k == k) = true := beq_t rfl
    refine pure_c (fn := AP.f0) (h2 := h.fence) (e := [(4, .bool true)]) rfl rfl rfl ?_ rfl rfl
    simp only [I, infV] at *
    simp only [AP.f0, go_sem, abin_shl, abin_shr, Nat.reduceEqDiff, reduceIte, Nat.reduceAdd, Nat.reduceMul, Nat.reduceLT, Nat.reduceLeDiff, Int.reduceBEq, Int.reduceBNe, Int.reduceLT, Int.reduceLE, Int.reduceEq, k1, k2, n1, e1, e2, aw]
  | ok q =>
    rw [hr] at k1 k2
    have n1 := num_c h.fence 0
    have e1 : abin .eql (.str (bytesOf q.1)) (.str (bytesOf q.1)) = some (.bool true) := by rw [str_eql]; simp
    have e2 : ((q.2 : Int) == (q.2 : Int)) = true := beq_t rfl
    refine pure_c (fn := AP.f0) (h2 := h.fence) (e := [(4, .bool true)]) rfl rfl rfl ?_ rfl rfl
    simp only [I, infV] at *
    simp only [AP.f0, go_sem, abin_shl, abin_shr, Nat.reduceEqDiff, reduceIte, Nat.reduceAdd, Nat.reduceMul, Nat.reduceLT, Nat.reduceLeDiff, Int.reduceBEq, Int.reduceBNe, Int.reduceLT, Int.reduceLE, Int.reduceEq, k1, k2, n1, e1, e2, aw]
end Ab
