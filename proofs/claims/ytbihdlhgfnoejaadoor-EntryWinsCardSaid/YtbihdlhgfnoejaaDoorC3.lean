/- Part C3. -/
import Derived.Test.YtbihdlhgfnoejaaDoorC2
set_option linter.unusedSimpArgs false
set_option linter.unusedVariables false
set_option maxRecDepth 100000
namespace Ab
open Go
def tLeft : ByteArray := ⟨#[108, 101, 102, 116]⟩
def tRight : ByteArray := ⟨#[114, 105, 103, 104, 116]⟩
theorem small_may (t : Bool) : ∀ p < 4, ∀ s < 8, mayE (smallE nA p ((1 + s : Nat) : Int) (if t then tLeft else tRight)) = true := by
  cases t <;> decide +kernel
theorem merge_o {g : H} (hg : g.floor ≤ g.next) (a b : Ent) (ha : a.vec.length = 4) (hb : b.vec.length = 4) (na : a.name.size < 1125899906842624) (nb : b.name.size < 1125899906842624) (pa : a.packed.size < 1125899906842624) (pb : b.packed.size < 1125899906842624) :
    callW AP.A 97 [.agg (entC a (vecV a.vec)), .agg (entC b (vecV b.vec))] g = some (mergeV (mergeE a b), g) := by
  have r : ∀ e : Ent, e.vec.length = 4 → Rd g (vecV e.vec) (ints e.vec) := fun e he => by
    rw [vecV_4 he]; have := rd_imm g e.vec; unfold immI at this; rw [he] at this; exact this
  exact merge_c g hg a b (vecV a.vec) (vecV b.vec) (vecV_sc _) (vecV_sc _) ⟨r a ha, by show a.vec.length < _; omega, na, pa⟩ ⟨r b hb, by show b.vec.length < _; omega, nb, pb⟩
theorem wins_loop (g : H) (p9 p10 p11 : Nat) (X Y M : List AV) (xs ys : List Int) (lx : xs.length = 4) (ly : ys.length = 4) (X2 : X[2]? = some (vecV xs)) (Y2 : Y[2]? = some (vecV ys)) (M2 : M[2]? = some (vecV (joinL xs ys)))
    (g9 : g.get p9 = some X) (g10 : g.get p10 = some Y) (g11 : g.get p11 = some M) (w : AV) : ∀ n i : Nat, i + n = 4 →
    ∃ e', Lp AP.A [9, 10, 11, 14, 15] AP.f88L0 [(9, .pobj p9 0), (10, .pobj p10 0), (11, .pobj p11 0), (14, w), (15, .int .i64 i)] g = some (.exit 0, e', g) ∧ look e' 9 = .pobj p9 0 ∧ look e' 10 = .pobj p10 0 ∧ look e' 11 = .pobj p11 0 ∧ look e' 14 = w
  | 0, i, hi => by
    refine ⟨[(9, .pobj p9 0), (10, .pobj p10 0), (11, .pobj p11 0), (14, w), (15, .int .i64 i), (66, .bool false)], Lp_exit ?_, rfl, rfl, rfl, rfl⟩
    simp (disch := first | omega | (simp only [H.next_alloc, H.next_set, nx_del, nx_fence, H.floor_alloc, H.floor_set, fl_del, fl_fence, List.length_cons, List.length_nil, Nat.zero_add, Nat.reduceAdd]; first | done | omega | fail) | (simp (disch := first | omega | (simp only [H.next_alloc, H.next_set, nx_del, nx_fence, H.floor_alloc, H.floor_set, fl_del, fl_fence, List.length_cons, List.length_nil, Nat.zero_add, Nat.reduceAdd]; first | done | omega | fail) | fail) only [H.next_alloc, H.next_set, nx_del, nx_fence, H.floor_alloc, H.floor_set, fl_del, fl_fence, List.length_cons, List.length_nil, Nat.zero_add, Nat.reduceAdd, get_hit, get_miss, set_hit, set_miss, del_miss, gt_fence, Option.map_some]; done) | fail) only [go_sem, abin_shl, abin_shr, Nat.reduceEqDiff, reduceIte, Nat.reduceAdd, Nat.reduceMul, Nat.reduceLT, Nat.reduceLeDiff, Int.reduceBEq, Int.reduceBNe, Int.reduceLT, Int.reduceLE, Int.reduceEq, dt, df, eqt, eqf, net, nef, wi, wb, alen_str, idxs_at, tn_add, tn_nat, aix, get_hit, get_miss, set_hit, set_miss, H.floor_alloc, H.next_alloc, H.floor_set, H.next_set, stO_d, condO_t, fill_n, fill_c, fillS_s, bir_bslice, bir_alloc, bir_box, birB_s, repl_s, repl_z, List.map_cons, List.map_nil, setFrom_nil, setFrom_cons, allsc_nil, allsc_cons, Bool.and_true, Bool.true_and, Bool.and_self, List.append_nil, Option.map_some, Option.map_none, iadr_s, iadr_m, idP_s, idQ_s, bir_mksl, mkslB_s, alen_s, alen_n, alen_m, Bool.and_false, Bool.false_and, Bool.or_false, Bool.or_true, Bool.true_or, Bool.false_or, Bool.or_self, C_dregF, goD_s, goD2_t, stb_n, stb_c, stK_n, stK_c, stV_s, stB_f, beq_int, beq_bool, beq_tup0, beq_nils, beq_simm0, beq_str, beq_sobj, beq_pobj, opsD_nil, opsD_u, opsD_g, goOD_s, preD_t, preD_f, AOp.loud, AOp.births, st1_u, st1_g, Int.reduceAdd, Int.reduceSub, Int.reduceMul, Int.reduceNeg, Int.reduceToNat, eqbB_s, beq_refl, beqs_refl, stB_t, beO_s, stBv_t, stBv_p, stBv_o, st1b_alloc, st1b_box, st1b_bslice, st1b_mksl, nx_fence, gt_fence, fl_fence, nx_del, fl_del, del_miss, rdT, List.take_succ_cons, List.take_zero, List.drop_zero, List.drop_succ_cons, selO_t, selO_f, srcO_s, src_o, src_m, src_n, src_s, appS_s, app_b, apO_s, apc_o, apc_n, roomy_t, Int.cast_ofNat_Int, Int.natCast_one, Int.natCast_zero, at_z, at_s, tl_z, tl_s, List.length_set, AP.f88L0]
  | n + 1, i, hi => by
    obtain ⟨e', r1, r2⟩ := wins_loop g p9 p10 p11 X Y M xs ys lx ly X2 Y2 M2 g9 g10 g11 w n (i + 1) (by omega)
    have n1 : ((i + 1 : Nat) : Int) = (i : Int) + 1 := by omega
    rw [n1] at r1
    have jl : (joinL xs ys).length = 4 := by simp [joinL, lx, ly]
    rw [vecV_4 lx] at X2
    rw [vecV_4 ly] at Y2
    rw [vecV_4 jl] at M2
    have i1 : (ints xs)[i]? = some (.int .i64 xs[i]) := ints_get (by simp)
    have i2 : (ints ys)[i]? = some (.int .i64 ys[i]) := ints_get (by simp)
    have i3 : (ints (joinL xs ys))[i]? = some (.int .i64 (maxI xs[i] ys[i])) := ints_get (by rw [List.getElem?_eq_getElem (by rw [jl]; omega)]; simp [joinL])
    refine ⟨e', Lp_next ?_ r1, r2⟩
    simp (disch := first | omega | (simp only [H.next_alloc, H.next_set, nx_del, nx_fence, H.floor_alloc, H.floor_set, fl_del, fl_fence, List.length_cons, List.length_nil, Nat.zero_add, Nat.reduceAdd]; first | done | omega | fail) | (simp (disch := first | omega | (simp only [H.next_alloc, H.next_set, nx_del, nx_fence, H.floor_alloc, H.floor_set, fl_del, fl_fence, List.length_cons, List.length_nil, Nat.zero_add, Nat.reduceAdd]; first | done | omega | fail) | fail) only [H.next_alloc, H.next_set, nx_del, nx_fence, H.floor_alloc, H.floor_set, fl_del, fl_fence, List.length_cons, List.length_nil, Nat.zero_add, Nat.reduceAdd, get_hit, get_miss, set_hit, set_miss, del_miss, gt_fence, Option.map_some]; done) | fail) only [go_sem, abin_shl, abin_shr, Nat.reduceEqDiff, reduceIte, Nat.reduceAdd, Nat.reduceMul, Nat.reduceLT, Nat.reduceLeDiff, Int.reduceBEq, Int.reduceBNe, Int.reduceLT, Int.reduceLE, Int.reduceEq, dt, df, eqt, eqf, net, nef, wi, wb, alen_str, idxs_at, tn_add, tn_nat, aix, get_hit, get_miss, set_hit, set_miss, H.floor_alloc, H.next_alloc, H.floor_set, H.next_set, stO_d, condO_t, fill_n, fill_c, fillS_s, bir_bslice, bir_alloc, bir_box, birB_s, repl_s, repl_z, List.map_cons, List.map_nil, setFrom_nil, setFrom_cons, allsc_nil, allsc_cons, Bool.and_true, Bool.true_and, Bool.and_self, List.append_nil, Option.map_some, Option.map_none, iadr_s, iadr_m, idP_s, idQ_s, bir_mksl, mkslB_s, alen_s, alen_n, alen_m, Bool.and_false, Bool.false_and, Bool.or_false, Bool.or_true, Bool.true_or, Bool.false_or, Bool.or_self, C_dregF, goD_s, goD2_t, stb_n, stb_c, stK_n, stK_c, stV_s, stB_f, beq_int, beq_bool, beq_tup0, beq_nils, beq_simm0, beq_str, beq_sobj, beq_pobj, opsD_nil, opsD_u, opsD_g, goOD_s, preD_t, preD_f, AOp.loud, AOp.births, st1_u, st1_g, Int.reduceAdd, Int.reduceSub, Int.reduceMul, Int.reduceNeg, Int.reduceToNat, eqbB_s, beq_refl, beqs_refl, stB_t, beO_s, stBv_t, stBv_p, stBv_o, st1b_alloc, st1b_box, st1b_bslice, st1b_mksl, nx_fence, gt_fence, fl_fence, nx_del, fl_del, del_miss, rdT, List.take_succ_cons, List.take_zero, List.drop_zero, List.drop_succ_cons, selO_t, selO_f, srcO_s, src_o, src_m, src_n, src_s, appS_s, app_b, apO_s, apc_o, apc_n, roomy_t, Int.cast_ofNat_Int, Int.natCast_one, Int.natCast_zero, at_z, at_s, tl_z, tl_s, List.length_set, AP.f88L0, g9, g10, g11, X2, Y2, M2, i1, i2, i3, op_mx2, amax2_s]
set_option maxHeartbeats 2000000 in
theorem wins_c (h : H) (a b p q : Int) : callW AP.A 88 [.int .i64 a, .int .i64 b, .int .i64 p, .int .i64 q] h = some (.bool true, h) := by
  obtain ⟨P, hP, hP2⟩ : ∃ P : Nat, P < 4 ∧ p % 4 = P := ⟨(p % 4).toNat, by omega, by omega⟩
  obtain ⟨Q, hQ, hQ2⟩ : ∃ P : Nat, P < 4 ∧ q % 4 = P := ⟨(q % 4).toNat, by omega, by omega⟩
  obtain ⟨S, hS, hS2⟩ : ∃ P : Nat, P < 8 ∧ a % 8 = P := ⟨(a % 8).toNat, by omega, by omega⟩
  obtain ⟨T, hT, hT2⟩ : ∃ P : Nat, P < 8 ∧ b % 8 = P := ⟨(b % 8).toNat, by omega, by omega⟩
  have b1 : bits .and .i64 p 3 = P := by rw [and3, hP2]
  have b2 : bits .and .i64 q 3 = Q := by rw [and3, hQ2]
  have b3 : bits .and .i64 a 7 = S := by rw [and7, hS2]
  have b4 : bits .and .i64 b 7 = T := by rw [and7, hT2]
  obtain ⟨x, hx⟩ : ∃ x, x = smallE nA P ((1 + S : Nat) : Int) tLeft := ⟨_, rfl⟩
  obtain ⟨y, hy⟩ : ∃ y, y = smallE nA Q ((1 + T : Nat) : Int) tRight := ⟨_, rfl⟩
  have mx : mayE x = true := by rw [hx]; exact small_may true P hP S hS
  have my : mayE y = true := by rw [hy]; exact small_may false Q hQ T hT
  have lx : x.vec.length = 4 := by rw [hx]; simp [smallE]
  have ly : y.vec.length = 4 := by rw [hy]; simp [smallE]
  obtain ⟨X, hX⟩ : ∃ X, X = entC x (vecV x.vec) := ⟨_, rfl⟩
  obtain ⟨Y, hY⟩ : ∃ X, X = entC y (vecV y.vec) := ⟨_, rfl⟩
  have k0 : ∀ g, callW AP.A 95 [] g = some (.bool true, g) := awake15_c
  have w1 : IntKind.wrap .i64 (1 + (S : Int)) = ((1 + S : Nat) : Int) := by rw [wi (by omega)]; omega
  have w2 : IntKind.wrap .i64 (1 + (T : Int)) = ((1 + T : Nat) : Int) := by rw [wi (by omega)]; omega
  obtain ⟨U, hU⟩ : ∃ U : Int, U = ((1 + S : Nat) : Int) := ⟨_, rfl⟩
  obtain ⟨Z, hZ⟩ : ∃ U : Int, U = ((1 + T : Nat) : Int) := ⟨_, rfl⟩
  rw [← hU] at w1 hx
  rw [← hZ] at w2 hy
  have k1 : ∀ g, callW AP.A 99 [.str ⟨#[97]⟩, .int .i64 P, .int .i64 U, .str ⟨#[108, 101, 102, 116]⟩] g = some (.agg X, g) := fun g => by
    rw [hX, hx]; exact small_c g nA tLeft P U hP (by decide)
  have k2 : ∀ g, callW AP.A 99 [.str ⟨#[97]⟩, .int .i64 Q, .int .i64 Z, .str ⟨#[114, 105, 103, 104, 116]⟩] g = some (.agg Y, g) := fun g => by
    rw [hY, hy]; exact small_c g nA tRight Q Z hQ (by decide)
  have hm : mergeE x y = some { (if winB x y then y else x) with vec := joinL x.vec y.vec } := by
    unfold mergeE
    rw [mx, my, show (x.name.data.toList == y.name.data.toList) = true by rw [hx, hy]; rfl]
    rfl
  obtain ⟨m, hmm⟩ : ∃ m : Ent, m = { (if winB x y then y else x) with vec := joinL x.vec y.vec } := ⟨_, rfl⟩
  rw [← hmm] at hm
  have jl : (joinL x.vec y.vec).length = 4 := by simp [joinL, lx, ly]
  obtain ⟨M, hM⟩ : ∃ X, X = entC m (vecV (joinL x.vec y.vec)) := ⟨_, rfl⟩
  have k3 : ∀ g : H, g.floor ≤ g.next → callW AP.A 97 [.agg X, .agg Y] g = some (.tup [.agg M, .int .i64 0], g) := fun g hg => by
    have := merge_o hg x y lx ly (by rw [hx]; exact (by decide : nA.size < 1125899906842624)) (by rw [hy]; exact (by decide : nA.size < 1125899906842624)) (by rw [hx]; exact (by decide : tLeft.size < 1125899906842624)) (by rw [hy]; exact (by decide : tRight.size < 1125899906842624))
    rw [hm] at this
    rw [hX, hY, hM, this, hmm]; rfl
  have lX : X.length = 9 := by rw [hX]; rfl
  have lY : Y.length = 9 := by rw [hY]; rfl
  have lM : M.length = 9 := by rw [hM]; rfl
  have cX : AV.allsc X = true := by rw [hX]; exact ent_sc (vecV_sc _)
  have cY : AV.allsc Y = true := by rw [hY]; exact ent_sc (vecV_sc _)
  have cM : AV.allsc M = true := by rw [hM]; exact ent_sc (vecV_sc _)
  have fX : setFrom Z9 0 X = X := by rw [hX]; rfl
  have fY : setFrom Z9 0 Y = Y := by rw [hY]; rfl
  have fM : setFrom Z9 0 M = M := by rw [hM]; rfl
  have tX : List.take 9 X = X := by rw [hX]; rfl
  have tY : List.take 9 Y = Y := by rw [hY]; rfl
  have X2 : X[2]? = some (vecV x.vec) := by rw [hX]; rfl
  have Y2 : Y[2]? = some (vecV y.vec) := by rw [hY]; rfl
  have M2 : M[2]? = some (vecV (joinL x.vec y.vec)) := by rw [hM]; rfl
  have X3 : X[3]? = some (.int .i64 U) := by rw [hX, hx]; rfl
  have Y3 : Y[3]? = some (.int .i64 Z) := by rw [hY, hy]; rfl
  have X4 : X[4]? = some (.int .i64 P) := by rw [hX, hx]; rfl
  have Y4 : Y[4]? = some (.int .i64 Q) := by rw [hY, hy]; rfl
  obtain ⟨G, hG⟩ : ∃ G, G = ((((((h.fence.alloc Z9).alloc Z9).set h.next X).set (h.next + 1) Y).alloc Z9).set (h.next + 1 + 1) M) := ⟨_, rfl⟩
  have g9 : G.get h.next = some X := by rw [hG]; simp (disch := first | omega | (simp only [H.next_alloc, H.next_set, nx_del, nx_fence, H.floor_alloc, H.floor_set, fl_del, fl_fence, List.length_cons, List.length_nil, Nat.zero_add, Nat.reduceAdd]; first | done | omega | fail) | (simp (disch := first | omega | (simp only [H.next_alloc, H.next_set, nx_del, nx_fence, H.floor_alloc, H.floor_set, fl_del, fl_fence, List.length_cons, List.length_nil, Nat.zero_add, Nat.reduceAdd]; first | done | omega | fail) | fail) only [H.next_alloc, H.next_set, nx_del, nx_fence, H.floor_alloc, H.floor_set, fl_del, fl_fence, List.length_cons, List.length_nil, Nat.zero_add, Nat.reduceAdd, get_hit, get_miss, set_hit, set_miss, del_miss, gt_fence, Option.map_some]; done) | fail) only [H.next_alloc, H.next_set, nx_del, nx_fence, H.floor_alloc, H.floor_set, fl_del, fl_fence, List.length_cons, List.length_nil, Nat.zero_add, Nat.reduceAdd, get_hit, get_miss, set_hit, set_miss, del_miss, gt_fence, Option.map_some]
  have g10 : G.get (h.next + 1) = some Y := by rw [hG]; simp (disch := first | omega | (simp only [H.next_alloc, H.next_set, nx_del, nx_fence, H.floor_alloc, H.floor_set, fl_del, fl_fence, List.length_cons, List.length_nil, Nat.zero_add, Nat.reduceAdd]; first | done | omega | fail) | (simp (disch := first | omega | (simp only [H.next_alloc, H.next_set, nx_del, nx_fence, H.floor_alloc, H.floor_set, fl_del, fl_fence, List.length_cons, List.length_nil, Nat.zero_add, Nat.reduceAdd]; first | done | omega | fail) | fail) only [H.next_alloc, H.next_set, nx_del, nx_fence, H.floor_alloc, H.floor_set, fl_del, fl_fence, List.length_cons, List.length_nil, Nat.zero_add, Nat.reduceAdd, get_hit, get_miss, set_hit, set_miss, del_miss, gt_fence, Option.map_some]; done) | fail) only [H.next_alloc, H.next_set, nx_del, nx_fence, H.floor_alloc, H.floor_set, fl_del, fl_fence, List.length_cons, List.length_nil, Nat.zero_add, Nat.reduceAdd, get_hit, get_miss, set_hit, set_miss, del_miss, gt_fence, Option.map_some]
  have g11 : G.get (h.next + 1 + 1) = some M := by rw [hG]; simp (disch := first | omega | (simp only [H.next_alloc, H.next_set, nx_del, nx_fence, H.floor_alloc, H.floor_set, fl_del, fl_fence, List.length_cons, List.length_nil, Nat.zero_add, Nat.reduceAdd]; first | done | omega | fail) | (simp (disch := first | omega | (simp only [H.next_alloc, H.next_set, nx_del, nx_fence, H.floor_alloc, H.floor_set, fl_del, fl_fence, List.length_cons, List.length_nil, Nat.zero_add, Nat.reduceAdd]; first | done | omega | fail) | fail) only [H.next_alloc, H.next_set, nx_del, nx_fence, H.floor_alloc, H.floor_set, fl_del, fl_fence, List.length_cons, List.length_nil, Nat.zero_add, Nat.reduceAdd, get_hit, get_miss, set_hit, set_miss, del_miss, gt_fence, Option.map_some]; done) | fail) only [H.next_alloc, H.next_set, nx_del, nx_fence, H.floor_alloc, H.floor_set, fl_del, fl_fence, List.length_cons, List.length_nil, Nat.zero_add, Nat.reduceAdd, get_hit, get_miss, set_hit, set_miss, del_miss, gt_fence, Option.map_some]
  have k9 := fun (g : H) n => num_c g n
  simp only [I] at k9
  have lv : alen false (vecV (joinL x.vec y.vec)) = some (.int .i64 4) := by rw [vecV_4 jl]; rfl
  have y1 : abin .eql (.str ⟨#[108, 101, 102, 116]⟩) (.str ⟨#[108, 101, 102, 116]⟩) = some (.bool true) := by rw [str_eql]; rfl
  have y2 : abin .eql (.str ⟨#[114, 105, 103, 104, 116]⟩) (.str ⟨#[114, 105, 103, 104, 116]⟩) = some (.bool true) := by rw [str_eql]; rfl
  have hU0 : 1 ≤ U := by omega
  have lp := fun w => wins_loop G h.next (h.next + 1) (h.next + 1 + 1) X Y M x.vec y.vec lx ly X2 Y2 M2 g9 g10 g11 w 4 0 rfl
  have gg := hG.symm
  have wb : winB x y = (decide (U < Z) || (decide (U = Z) && decide ((P : Int) < Q))) := by rw [hx, hy]; rfl
  by_cases c : (U < Z ∨ (U = Z ∧ P < Q))
  · have wn : winB x y = true := by rw [wb]; simp only [Bool.or_eq_true, Bool.and_eq_true, decide_eq_true_eq]; omega
    rw [wn, if_pos rfl] at hmm
    have M3 : M[3]? = some (.int .i64 Z) := by rw [hM, hmm, hy]; rfl
    have M6 : M[6]? = some (.str ⟨#[114, 105, 103, 104, 116]⟩) := by rw [hM, hmm, hy]; rfl
    have mz : maxI U Z = Z := by unfold maxI; split <;> omega
    obtain ⟨e', r1, r2, r3, r4, r5⟩ := lp (.str ⟨#[114, 105, 103, 104, 116]⟩)
    have r1' : Lp AP.A [9, 10, 11, 14, 15] AP.f88L0 [(9, .pobj h.next 0), (10, .pobj (h.next + 1) 0), (11, .pobj (h.next + 1 + 1) 0), (14, .str ⟨#[114, 105, 103, 104, 116]⟩), (15, .int .i64 0)] G = some (.exit 0, e', G) := r1
    clear r1 lp hm hmm hX hY hM hx hy mx my wn hG X2 Y2
    refine pure_c (fn := AP.f88) (h2 := G) (e := [(8, .bool true)]) rfl rfl rfl ?_ rfl rfl
    by_cases c2 : U < Z
    · simp (disch := first | omega | (simp only [H.next_alloc, H.next_set, nx_del, nx_fence, H.floor_alloc, H.floor_set, fl_del, fl_fence, List.length_cons, List.length_nil, Nat.zero_add, Nat.reduceAdd]; first | done | omega | fail) | (simp (disch := first | omega | (simp only [H.next_alloc, H.next_set, nx_del, nx_fence, H.floor_alloc, H.floor_set, fl_del, fl_fence, List.length_cons, List.length_nil, Nat.zero_add, Nat.reduceAdd]; first | done | omega | fail) | fail) only [H.next_alloc, H.next_set, nx_del, nx_fence, H.floor_alloc, H.floor_set, fl_del, fl_fence, List.length_cons, List.length_nil, Nat.zero_add, Nat.reduceAdd, get_hit, get_miss, set_hit, set_miss, del_miss, gt_fence, Option.map_some]; done) | fail) only [go_sem, abin_shl, abin_shr, Nat.reduceEqDiff, reduceIte, Nat.reduceAdd, Nat.reduceMul, Nat.reduceLT, Nat.reduceLeDiff, Int.reduceBEq, Int.reduceBNe, Int.reduceLT, Int.reduceLE, Int.reduceEq, dt, df, eqt, eqf, net, nef, wi, wb, alen_str, idxs_at, tn_add, tn_nat, aix, get_hit, get_miss, set_hit, set_miss, H.floor_alloc, H.next_alloc, H.floor_set, H.next_set, stO_d, condO_t, fill_n, fill_c, fillS_s, bir_bslice, bir_alloc, bir_box, birB_s, repl_s, repl_z, List.map_cons, List.map_nil, setFrom_nil, setFrom_cons, allsc_nil, allsc_cons, Bool.and_true, Bool.true_and, Bool.and_self, List.append_nil, Option.map_some, Option.map_none, iadr_s, iadr_m, idP_s, idQ_s, bir_mksl, mkslB_s, alen_s, alen_n, alen_m, Bool.and_false, Bool.false_and, Bool.or_false, Bool.or_true, Bool.true_or, Bool.false_or, Bool.or_self, C_dregF, goD_s, goD2_t, stb_n, stb_c, stK_n, stK_c, stV_s, stB_f, beq_int, beq_bool, beq_tup0, beq_nils, beq_simm0, beq_str, beq_sobj, beq_pobj, opsD_nil, opsD_u, opsD_g, goOD_s, preD_t, preD_f, AOp.loud, AOp.births, st1_u, st1_g, Int.reduceAdd, Int.reduceSub, Int.reduceMul, Int.reduceNeg, Int.reduceToNat, eqbB_s, beq_refl, beqs_refl, stB_t, beO_s, stBv_t, stBv_p, stBv_o, st1b_alloc, st1b_box, st1b_bslice, st1b_mksl, nx_fence, gt_fence, fl_fence, nx_del, fl_del, del_miss, rdT, List.take_succ_cons, List.take_zero, List.drop_zero, List.drop_succ_cons, selO_t, selO_f, srcO_s, src_o, src_m, src_n, src_s, appS_s, app_b, apO_s, apc_o, apc_n, roomy_t, Int.cast_ofNat_Int, Int.natCast_one, Int.natCast_zero, at_z, at_s, tl_z, tl_s, List.length_set, AP.f88, b1, b2, b3, b4, w1, w2, k0, k1, k2, k3, k9, lX, lY, lM, cX, cY, cM, fX, fY, fM, tX, tY, X3, Y3, X4, Y4, M2, M3, M6, gg, g9, g10, g11, lv, y1, y2, evC_loop, r1', r2, r3, r4, r5, op_mx2, amax2_s, mz]
    · simp (disch := first | omega | (simp only [H.next_alloc, H.next_set, nx_del, nx_fence, H.floor_alloc, H.floor_set, fl_del, fl_fence, List.length_cons, List.length_nil, Nat.zero_add, Nat.reduceAdd]; first | done | omega | fail) | (simp (disch := first | omega | (simp only [H.next_alloc, H.next_set, nx_del, nx_fence, H.floor_alloc, H.floor_set, fl_del, fl_fence, List.length_cons, List.length_nil, Nat.zero_add, Nat.reduceAdd]; first | done | omega | fail) | fail) only [H.next_alloc, H.next_set, nx_del, nx_fence, H.floor_alloc, H.floor_set, fl_del, fl_fence, List.length_cons, List.length_nil, Nat.zero_add, Nat.reduceAdd, get_hit, get_miss, set_hit, set_miss, del_miss, gt_fence, Option.map_some]; done) | fail) only [go_sem, abin_shl, abin_shr, Nat.reduceEqDiff, reduceIte, Nat.reduceAdd, Nat.reduceMul, Nat.reduceLT, Nat.reduceLeDiff, Int.reduceBEq, Int.reduceBNe, Int.reduceLT, Int.reduceLE, Int.reduceEq, dt, df, eqt, eqf, net, nef, wi, wb, alen_str, idxs_at, tn_add, tn_nat, aix, get_hit, get_miss, set_hit, set_miss, H.floor_alloc, H.next_alloc, H.floor_set, H.next_set, stO_d, condO_t, fill_n, fill_c, fillS_s, bir_bslice, bir_alloc, bir_box, birB_s, repl_s, repl_z, List.map_cons, List.map_nil, setFrom_nil, setFrom_cons, allsc_nil, allsc_cons, Bool.and_true, Bool.true_and, Bool.and_self, List.append_nil, Option.map_some, Option.map_none, iadr_s, iadr_m, idP_s, idQ_s, bir_mksl, mkslB_s, alen_s, alen_n, alen_m, Bool.and_false, Bool.false_and, Bool.or_false, Bool.or_true, Bool.true_or, Bool.false_or, Bool.or_self, C_dregF, goD_s, goD2_t, stb_n, stb_c, stK_n, stK_c, stV_s, stB_f, beq_int, beq_bool, beq_tup0, beq_nils, beq_simm0, beq_str, beq_sobj, beq_pobj, opsD_nil, opsD_u, opsD_g, goOD_s, preD_t, preD_f, AOp.loud, AOp.births, st1_u, st1_g, Int.reduceAdd, Int.reduceSub, Int.reduceMul, Int.reduceNeg, Int.reduceToNat, eqbB_s, beq_refl, beqs_refl, stB_t, beO_s, stBv_t, stBv_p, stBv_o, st1b_alloc, st1b_box, st1b_bslice, st1b_mksl, nx_fence, gt_fence, fl_fence, nx_del, fl_del, del_miss, rdT, List.take_succ_cons, List.take_zero, List.drop_zero, List.drop_succ_cons, selO_t, selO_f, srcO_s, src_o, src_m, src_n, src_s, appS_s, app_b, apO_s, apc_o, apc_n, roomy_t, Int.cast_ofNat_Int, Int.natCast_one, Int.natCast_zero, at_z, at_s, tl_z, tl_s, List.length_set, AP.f88, b1, b2, b3, b4, w1, w2, k0, k1, k2, k3, k9, lX, lY, lM, cX, cY, cM, fX, fY, fM, tX, tY, X3, Y3, X4, Y4, M2, M3, M6, gg, g9, g10, g11, lv, y1, y2, evC_loop, r1', r2, r3, r4, r5, op_mx2, amax2_s, mz]
  · have wn : winB x y = false := by
      cases q : winB x y with
      | false => rfl
      | true =>
        rw [wb] at q; simp only [Bool.or_eq_true, Bool.and_eq_true, decide_eq_true_eq] at q; omega
    rw [wn, if_neg (by decide)] at hmm
    have M3 : M[3]? = some (.int .i64 U) := by rw [hM, hmm, hx]; rfl
    have M6 : M[6]? = some (.str ⟨#[108, 101, 102, 116]⟩) := by rw [hM, hmm, hx]; rfl
    have mz : maxI U Z = U := by unfold maxI; split <;> omega
    obtain ⟨e', r1, r2, r3, r4, r5⟩ := lp (.str ⟨#[108, 101, 102, 116]⟩)
    have r1' : Lp AP.A [9, 10, 11, 14, 15] AP.f88L0 [(9, .pobj h.next 0), (10, .pobj (h.next + 1) 0), (11, .pobj (h.next + 1 + 1) 0), (14, .str ⟨#[108, 101, 102, 116]⟩), (15, .int .i64 0)] G = some (.exit 0, e', G) := r1
    clear r1 lp hm hmm hX hY hM hx hy mx my wn hG X2 Y2
    refine pure_c (fn := AP.f88) (h2 := G) (e := [(8, .bool true)]) rfl rfl rfl ?_ rfl rfl
    by_cases c2 : U = Z
    · simp (disch := first | omega | (simp only [H.next_alloc, H.next_set, nx_del, nx_fence, H.floor_alloc, H.floor_set, fl_del, fl_fence, List.length_cons, List.length_nil, Nat.zero_add, Nat.reduceAdd]; first | done | omega | fail) | (simp (disch := first | omega | (simp only [H.next_alloc, H.next_set, nx_del, nx_fence, H.floor_alloc, H.floor_set, fl_del, fl_fence, List.length_cons, List.length_nil, Nat.zero_add, Nat.reduceAdd]; first | done | omega | fail) | fail) only [H.next_alloc, H.next_set, nx_del, nx_fence, H.floor_alloc, H.floor_set, fl_del, fl_fence, List.length_cons, List.length_nil, Nat.zero_add, Nat.reduceAdd, get_hit, get_miss, set_hit, set_miss, del_miss, gt_fence, Option.map_some]; done) | fail) only [go_sem, abin_shl, abin_shr, Nat.reduceEqDiff, reduceIte, Nat.reduceAdd, Nat.reduceMul, Nat.reduceLT, Nat.reduceLeDiff, Int.reduceBEq, Int.reduceBNe, Int.reduceLT, Int.reduceLE, Int.reduceEq, dt, df, eqt, eqf, net, nef, wi, wb, alen_str, idxs_at, tn_add, tn_nat, aix, get_hit, get_miss, set_hit, set_miss, H.floor_alloc, H.next_alloc, H.floor_set, H.next_set, stO_d, condO_t, fill_n, fill_c, fillS_s, bir_bslice, bir_alloc, bir_box, birB_s, repl_s, repl_z, List.map_cons, List.map_nil, setFrom_nil, setFrom_cons, allsc_nil, allsc_cons, Bool.and_true, Bool.true_and, Bool.and_self, List.append_nil, Option.map_some, Option.map_none, iadr_s, iadr_m, idP_s, idQ_s, bir_mksl, mkslB_s, alen_s, alen_n, alen_m, Bool.and_false, Bool.false_and, Bool.or_false, Bool.or_true, Bool.true_or, Bool.false_or, Bool.or_self, C_dregF, goD_s, goD2_t, stb_n, stb_c, stK_n, stK_c, stV_s, stB_f, beq_int, beq_bool, beq_tup0, beq_nils, beq_simm0, beq_str, beq_sobj, beq_pobj, opsD_nil, opsD_u, opsD_g, goOD_s, preD_t, preD_f, AOp.loud, AOp.births, st1_u, st1_g, Int.reduceAdd, Int.reduceSub, Int.reduceMul, Int.reduceNeg, Int.reduceToNat, eqbB_s, beq_refl, beqs_refl, stB_t, beO_s, stBv_t, stBv_p, stBv_o, st1b_alloc, st1b_box, st1b_bslice, st1b_mksl, nx_fence, gt_fence, fl_fence, nx_del, fl_del, del_miss, rdT, List.take_succ_cons, List.take_zero, List.drop_zero, List.drop_succ_cons, selO_t, selO_f, srcO_s, src_o, src_m, src_n, src_s, appS_s, app_b, apO_s, apc_o, apc_n, roomy_t, Int.cast_ofNat_Int, Int.natCast_one, Int.natCast_zero, at_z, at_s, tl_z, tl_s, List.length_set, AP.f88, b1, b2, b3, b4, w1, w2, k0, k1, k2, k3, k9, lX, lY, lM, cX, cY, cM, fX, fY, fM, tX, tY, X3, Y3, X4, Y4, M2, M3, M6, gg, g9, g10, g11, lv, y1, y2, evC_loop, r1', r2, r3, r4, r5, op_mx2, amax2_s, mz]
    · simp (disch := first | omega | (simp only [H.next_alloc, H.next_set, nx_del, nx_fence, H.floor_alloc, H.floor_set, fl_del, fl_fence, List.length_cons, List.length_nil, Nat.zero_add, Nat.reduceAdd]; first | done | omega | fail) | (simp (disch := first | omega | (simp only [H.next_alloc, H.next_set, nx_del, nx_fence, H.floor_alloc, H.floor_set, fl_del, fl_fence, List.length_cons, List.length_nil, Nat.zero_add, Nat.reduceAdd]; first | done | omega | fail) | fail) only [H.next_alloc, H.next_set, nx_del, nx_fence, H.floor_alloc, H.floor_set, fl_del, fl_fence, List.length_cons, List.length_nil, Nat.zero_add, Nat.reduceAdd, get_hit, get_miss, set_hit, set_miss, del_miss, gt_fence, Option.map_some]; done) | fail) only [go_sem, abin_shl, abin_shr, Nat.reduceEqDiff, reduceIte, Nat.reduceAdd, Nat.reduceMul, Nat.reduceLT, Nat.reduceLeDiff, Int.reduceBEq, Int.reduceBNe, Int.reduceLT, Int.reduceLE, Int.reduceEq, dt, df, eqt, eqf, net, nef, wi, wb, alen_str, idxs_at, tn_add, tn_nat, aix, get_hit, get_miss, set_hit, set_miss, H.floor_alloc, H.next_alloc, H.floor_set, H.next_set, stO_d, condO_t, fill_n, fill_c, fillS_s, bir_bslice, bir_alloc, bir_box, birB_s, repl_s, repl_z, List.map_cons, List.map_nil, setFrom_nil, setFrom_cons, allsc_nil, allsc_cons, Bool.and_true, Bool.true_and, Bool.and_self, List.append_nil, Option.map_some, Option.map_none, iadr_s, iadr_m, idP_s, idQ_s, bir_mksl, mkslB_s, alen_s, alen_n, alen_m, Bool.and_false, Bool.false_and, Bool.or_false, Bool.or_true, Bool.true_or, Bool.false_or, Bool.or_self, C_dregF, goD_s, goD2_t, stb_n, stb_c, stK_n, stK_c, stV_s, stB_f, beq_int, beq_bool, beq_tup0, beq_nils, beq_simm0, beq_str, beq_sobj, beq_pobj, opsD_nil, opsD_u, opsD_g, goOD_s, preD_t, preD_f, AOp.loud, AOp.births, st1_u, st1_g, Int.reduceAdd, Int.reduceSub, Int.reduceMul, Int.reduceNeg, Int.reduceToNat, eqbB_s, beq_refl, beqs_refl, stB_t, beO_s, stBv_t, stBv_p, stBv_o, st1b_alloc, st1b_box, st1b_bslice, st1b_mksl, nx_fence, gt_fence, fl_fence, nx_del, fl_del, del_miss, rdT, List.take_succ_cons, List.take_zero, List.drop_zero, List.drop_succ_cons, selO_t, selO_f, srcO_s, src_o, src_m, src_n, src_s, appS_s, app_b, apO_s, apc_o, apc_n, roomy_t, Int.cast_ofNat_Int, Int.natCast_one, Int.natCast_zero, at_z, at_s, tl_z, tl_s, List.length_set, AP.f88, b1, b2, b3, b4, w1, w2, k0, k1, k2, k3, k9, lX, lY, lM, cX, cY, cM, fX, fY, fM, tX, tY, X3, Y3, X4, Y4, M2, M3, M6, gg, g9, g10, g11, lv, y1, y2, evC_loop, r1', r2, r3, r4, r5, op_mx2, amax2_s, mz]
end Ab
set_option linter.unusedSimpArgs false
set_option linter.unusedVariables false
namespace Ab
open Go
end Ab
set_option linter.unusedSimpArgs false
set_option linter.unusedVariables false
set_option maxRecDepth 100000
namespace Ab
open Go
end Ab
set_option linter.unusedSimpArgs false
set_option linter.unusedVariables false
set_option maxRecDepth 100000
namespace Ab
open Go
end Ab
namespace Ab
open Go
theorem law_entryWins (r : List (Ty × List AV)) (h : r.map (·.1) = [intT, intT, intT, intT]) (hp : ∀ x ∈ r, Sh reachBytes x.1 x.2) : callW AP.A 88 (r.map avOf) H.empty = some (.bool true, H.empty) := by
  obtain ⟨x, y, z, w, rfl, h1, h2, h3, h4⟩ := row4 h hp
  obtain ⟨a, rfl, _⟩ := sh_int h1
  obtain ⟨b, rfl, _⟩ := sh_int h2
  obtain ⟨c, rfl, _⟩ := sh_int h3
  obtain ⟨d, rfl, _⟩ := sh_int h4
  exact wins_c H.empty a b c d
end Ab
