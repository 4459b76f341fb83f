/- Part C2. -/
import Derived.Test.YtolinppbhjljcaaC1
/- slices.IndexFunc, slices.ContainsFunc, huff.may, huff.Check, inflate.single. -/
set_option linter.unusedSimpArgs false
set_option linter.unusedVariables false
namespace Ab
open Go

theorem get_fence_mono (h : H) : ∀ id c, h.get id = some c → h.fence.get id = some c := fun _ _ q => q

/-- Where the first one is that is such; -1: there is none. -/
def idxF (P : AV → Bool) : List AV → Nat → Int
  | [], _ => -1
  | v :: r, i => if P v then (i : Int) else idxF P r (i + 1)
theorem idxF_any (P : AV → Bool) : ∀ (l : List AV) (i : Nat), (0 ≤ idxF P l i) ↔ l.any P = true
  | [], i => by simp [idxF]
  | v :: r, i => by
    rw [idxF]
    by_cases h : P v
    · rw [if_pos h]; simp [h]
    · rw [if_neg h, idxF_any P r]; simp [h]

theorem index_loop {x fv : AV} {cs : List AV} (P : AV → Bool) (hP : ∀ v ∈ cs, ∀ g : H, callF (callW AP.A) [v] g fv = some (.bool (P v), g)) (hl : cs.length < 1000000000) (h : H) (rd : Rd h x cs) :
    ∀ (m i : Nat), m + i = cs.length → (∃ e', Lp AP.A [0, 1, 7, 8] AP.f84L0 [(0, x), (1, fv), (7, I cs.length), (8, I i)] h = some (.exit 0, e', h) ∧ idxF P (cs.drop i) i = -1) ∨
      ∃ e', Lp AP.A [0, 1, 7, 8] AP.f84L0 [(0, x), (1, fv), (7, I cs.length), (8, I i)] h = some (.ret, e', h) ∧ look e' 4 = I (idxF P (cs.drop i) i)
  | 0, i, hm => by
    left
    refine ⟨[(0, x), (1, fv), (7, I cs.length), (8, I i), (9, .bool false)], Lp_exit ?_, by rw [List.drop_eq_nil_of_le (by omega)]; rfl⟩
    have c1 : ¬ (i : Int) < (cs.length : Int) := by omega
    simp only [I] at *
    simp only [AP.f84L0, go_sem, abin_shl, abin_shr, Nat.reduceEqDiff, reduceIte, Nat.reduceAdd, Nat.reduceMul, Nat.reduceLT, Nat.reduceLeDiff, Int.reduceBEq, Int.reduceBNe, Int.reduceLT, Int.reduceLE, Int.reduceEq, decide_eq_false c1]
  | m + 1, i, hm => by
    have hi : i < cs.length := by omega
    obtain ⟨v, hv⟩ : ∃ v, cs[i]? = some v := ⟨_, List.getElem?_eq_getElem hi⟩
    have hd : cs.drop i = v :: cs.drop (i + 1) := by
      rw [List.drop_eq_getElem_cons hi]; rw [List.getElem?_eq_getElem hi] at hv; rw [Option.some.inj hv]
    obtain ⟨p, p1, p2⟩ := rd.elem hv
    have p3 := p2 h (fun _ _ q => q)
    have c1 : (i : Int) < (cs.length : Int) := by omega
    have hPv := hP v (List.mem_of_getElem? hv) h
    have w1 : IntKind.wrap .i64 ((i : Int) + 1) = ((i + 1 : Nat) : Int) := wrap_nat64 (n := i + 1) (by omega)
    rw [hd, idxF]
    cases hb : P v with
    | true =>
      right
      rw [hb] at hPv
      rw [if_pos rfl]
      refine ⟨[(4, I i)], Lp_ret ?_, rfl⟩
      simp only [I] at *
      simp only [AP.f84L0, go_sem, abin_shl, abin_shr, Nat.reduceEqDiff, reduceIte, Nat.reduceAdd, Nat.reduceMul, Nat.reduceLT, Nat.reduceLeDiff, Int.reduceBEq, Int.reduceBNe, Int.reduceLT, Int.reduceLE, Int.reduceEq, decide_eq_true c1, p1, p3, hPv]
    | false =>
      rw [hb] at hPv
      have step : evC (callW AP.A) loopW AP.f84L0 (restr [(0, x), (1, fv), (7, I cs.length), (8, I i)] [0, 1, 7, 8]) h = some (.normal, [(0, x), (1, fv), (7, I cs.length), (8, I (i + 1 : Nat))], h) := by
        simp only [I] at *
        simp only [AP.f84L0, go_sem, abin_shl, abin_shr, Nat.reduceEqDiff, reduceIte, Nat.reduceAdd, Nat.reduceMul, Nat.reduceLT, Nat.reduceLeDiff, Int.reduceBEq, Int.reduceBNe, Int.reduceLT, Int.reduceLE, Int.reduceEq, decide_eq_true c1, p1, p3, hPv, w1]
      rw [if_neg (by decide)]
      rcases index_loop P hP hl h rd m (i + 1) (by omega) with ⟨e', q1, q2⟩ | ⟨e', q1, q2⟩
      · exact .inl ⟨e', Lp_next step q1, q2⟩
      · exact .inr ⟨e', Lp_next step q1, q2⟩

theorem index_c {x fv : AV} {cs : List AV} (P : AV → Bool) (hP : ∀ v ∈ cs, ∀ g : H, callF (callW AP.A) [v] g fv = some (.bool (P v), g)) (hl : cs.length < 1000000000) (h : H) (rd : Rd h x cs) :
    callW AP.A 84 [x, fv] h = some (I (idxF P cs 0), h) := by
  have rd' := rd.mono (get_fence_mono h)
  have ln := rd.len
  rcases index_loop P hP hl h.fence rd' cs.length 0 (by omega) with ⟨e', q1, q2⟩ | ⟨e', q1, q2⟩
  · rw [List.drop_zero] at q2
    rw [q2]
    refine pure_c (fn := AP.f84) (h2 := h.fence) (e := [(4, I (-1))]) rfl rfl rfl ?_ rfl rfl
    have q1' : Lp AP.A [0, 1, 7, 8] AP.f84L0 [(0, x), (1, fv), (7, I cs.length), (8, I 0)] h.fence = some (.exit 0, e', h.fence) := q1
    clear q1
    simp only [I] at *
    simp only [AP.f84, go_sem, abin_shl, abin_shr, Nat.reduceEqDiff, reduceIte, Nat.reduceAdd, Nat.reduceMul, Nat.reduceLT, Nat.reduceLeDiff, Int.reduceBEq, Int.reduceBNe, Int.reduceLT, Int.reduceLE, Int.reduceEq, evC_loop, ln, q1']
  · rw [List.drop_zero] at q2
    refine pure_c (fn := AP.f84) (h2 := h.fence) (e := e') (vs := [I (idxF P cs 0)]) rfl rfl rfl ?_ (by simp only [AP.f84, resAll, resOf, q2]; rfl) rfl
    have q1' : Lp AP.A [0, 1, 7, 8] AP.f84L0 [(0, x), (1, fv), (7, I cs.length), (8, I 0)] h.fence = some (.ret, e', h.fence) := q1
    clear q1
    simp only [I] at *
    simp only [AP.f84, go_sem, abin_shl, abin_shr, Nat.reduceEqDiff, reduceIte, Nat.reduceAdd, Nat.reduceMul, Nat.reduceLT, Nat.reduceLeDiff, Int.reduceBEq, Int.reduceBNe, Int.reduceLT, Int.reduceLE, Int.reduceEq, evC_loop, ln, q1']

theorem contains_c {x fv : AV} {cs : List AV} (P : AV → Bool) (hP : ∀ v ∈ cs, ∀ g : H, callF (callW AP.A) [v] g fv = some (.bool (P v), g)) (hl : cs.length < 1000000000) (h : H) (rd : Rd h x cs) :
    callW AP.A 83 [x, fv] h = some (.bool (cs.any P), h) := by
  have k1 := index_c P hP hl h.fence (rd.mono (get_fence_mono h))
  have ha := idxF_any P cs 0
  refine pure_c (fn := AP.f83) (h2 := h.fence) (e := [(4, .bool (cs.any P))]) rfl rfl rfl ?_ rfl rfl
  cases hb : cs.any P with
  | true =>
    have c1 : 0 ≤ idxF P cs 0 := ha.2 hb
    simp only [I] at *
    simp only [AP.f83, go_sem, abin_shl, abin_shr, Nat.reduceEqDiff, reduceIte, Nat.reduceAdd, Nat.reduceMul, Nat.reduceLT, Nat.reduceLeDiff, Int.reduceBEq, Int.reduceBNe, Int.reduceLT, Int.reduceLE, Int.reduceEq, k1, decide_eq_true c1]
  | false =>
    have c1 : ¬ 0 ≤ idxF P cs 0 := by rw [ha, hb]; decide
    simp only [I] at *
    simp only [AP.f83, go_sem, abin_shl, abin_shr, Nat.reduceEqDiff, reduceIte, Nat.reduceAdd, Nat.reduceMul, Nat.reduceLT, Nat.reduceLeDiff, Int.reduceBEq, Int.reduceBNe, Int.reduceLT, Int.reduceLE, Int.reduceEq, k1, decide_eq_false c1]

def badV (v : AV) : Bool := match v with | .int _ n => decide (n < 0) || decide (15 < n) | _ => true

theorem bad_c (n : Int) (h : H) : callW AP.A 82 [I n] h = some (.bool (badV (I n)), h) := by
  by_cases c1 : n < 0
  · refine pure_c (fn := AP.f82) (h2 := h.fence) (e := [(2, .bool true)]) rfl rfl rfl ?_ rfl ?_
    · simp only [I] at *
      simp only [AP.f82, go_sem, abin_shl, abin_shr, Nat.reduceEqDiff, reduceIte, Nat.reduceAdd, Nat.reduceMul, Nat.reduceLT, Nat.reduceLeDiff, Int.reduceBEq, Int.reduceBNe, Int.reduceLT, Int.reduceLE, Int.reduceEq, decide_eq_true c1]
    · simp [badV, I, c1]; rfl
  · refine pure_c (fn := AP.f82) (h2 := h.fence) (e := [(2, .bool (decide (15 < n)))]) rfl rfl rfl ?_ rfl ?_
    · simp only [I] at *
      simp only [AP.f82, go_sem, abin_shl, abin_shr, Nat.reduceEqDiff, reduceIte, Nat.reduceAdd, Nat.reduceMul, Nat.reduceLT, Nat.reduceLeDiff, Int.reduceBEq, Int.reduceBNe, Int.reduceLT, Int.reduceLE, Int.reduceEq, decide_eq_false c1]
    · simp [badV, I, c1]; rfl

/-- May lengths be? -/
def mayS (l : List Int) : Bool := decide (1 ≤ l.length) && decide (l.length ≤ 288) && !((ints l).any badV)

theorem may_c (h : H) (x : AV) (l : List Int) (hl : l.length < 100000) (rd : Rd h x (ints l)) : callW AP.A 81 [x] h = some (.bool (mayS l), h) := by
  have hP : ∀ v ∈ ints l, ∀ g : H, callF (callW AP.A) [v] g (.fn 82 [] []) = some (.bool (badV v), g) := by
    intro v hv g
    obtain ⟨n, _, rfl⟩ := List.mem_map.1 hv
    rw [callF_s]; exact bad_c n g
  have k1 := contains_c badV hP (by simp; omega) h.fence (rd.mono (get_fence_mono h))
  have ln := rd.len
  rw [ints_length] at ln
  refine pure_c (fn := AP.f81) (h2 := h.fence) (e := [(2, .bool (mayS l))]) rfl rfl rfl ?_ rfl rfl
  unfold mayS
  by_cases c1 : 1 ≤ l.length
  · have c1' : (1 : Int) ≤ (l.length : Int) := by omega
    by_cases c2 : l.length ≤ 288
    · have c2' : (l.length : Int) ≤ 288 := by omega
      simp only [I] at *
      simp only [AP.f81, go_sem, abin_shl, abin_shr, Nat.reduceEqDiff, reduceIte, Nat.reduceAdd, Nat.reduceMul, Nat.reduceLT, Nat.reduceLeDiff, Int.reduceBEq, Int.reduceBNe, Int.reduceLT, Int.reduceLE, Int.reduceEq, ln, decide_eq_true c1', decide_eq_true c2', decide_eq_true c1, decide_eq_true c2, k1, Bool.true_and]
    · have c2' : ¬ (l.length : Int) ≤ 288 := by omega
      simp only [I] at *
      simp only [AP.f81, go_sem, abin_shl, abin_shr, Nat.reduceEqDiff, reduceIte, Nat.reduceAdd, Nat.reduceMul, Nat.reduceLT, Nat.reduceLeDiff, Int.reduceBEq, Int.reduceBNe, Int.reduceLT, Int.reduceLE, Int.reduceEq, ln, decide_eq_true c1', decide_eq_false c2', decide_eq_true c1, decide_eq_false c2, Bool.true_and, Bool.false_and]
  · have c1' : ¬ (1 : Int) ≤ (l.length : Int) := by omega
    simp only [I] at *
    simp only [AP.f81, go_sem, abin_shl, abin_shr, Nat.reduceEqDiff, reduceIte, Nat.reduceAdd, Nat.reduceMul, Nat.reduceLT, Nat.reduceLeDiff, Int.reduceBEq, Int.reduceBNe, Int.reduceLT, Int.reduceLE, Int.reduceEq, ln, decide_eq_false c1', decide_eq_false c1, Bool.false_and]

/-- Do lengths make a whole code? -/
def checkS (l : List Int) : Int := if mayS l = false then 300 else if leftC l 15 < 0 then 301 else if 0 < leftC l 15 then 302 else 0

theorem may_range {l : List Int} (h : mayS l = true) : ∀ y ∈ l, 0 ≤ y ∧ y < 16 := by
  intro y hy
  simp only [mayS, Bool.and_eq_true, Bool.not_eq_true', List.any_eq_false] at h
  have := h.2 (I y) (List.mem_map.2 ⟨y, hy, rfl⟩)
  simp [badV, I] at this
  omega

theorem check_c (h : H) (x : AV) (l : List Int) (hl : l.length < 100000) (rd : Rd h x (ints l)) : callW AP.A 65 [x] h = some (I (checkS l), h) := by
  have rd' := rd.mono (get_fence_mono h)
  have k1 := may_c h.fence x l hl rd'
  unfold checkS
  by_cases hm : mayS l = true
  · have k2 := make_c h.fence x l hl (may_range hm) rd'
    have hb : bookV l = .pimm (tab 49 (bookC l)) 0 := rfl
    have g : (tab 49 (bookC l))[48]? = some (I (leftC l 15)) := by rw [tab_get (by omega)]; rfl
    rw [hb] at k2
    clear hb
    generalize tab 49 (bookC l) = T at k2 g
    rw [hm] at k1 ⊢
    rw [if_neg (by decide)]
    by_cases c1 : leftC l 15 < 0
    · rw [if_pos c1]
      refine pure_c (fn := AP.f65) (h2 := h.fence) (e := [(2, I 301)]) rfl rfl rfl ?_ rfl rfl
      simp only [I] at *
      simp only [AP.f65, go_sem, abin_shl, abin_shr, Nat.reduceEqDiff, reduceIte, Nat.reduceAdd, Nat.reduceMul, Nat.reduceLT, Nat.reduceLeDiff, Int.reduceBEq, Int.reduceBNe, Int.reduceLT, Int.reduceLE, Int.reduceEq, k1, k2, g, decide_eq_true c1]
    · rw [if_neg c1]
      by_cases c2 : 0 < leftC l 15
      · rw [if_pos c2]
        refine pure_c (fn := AP.f65) (h2 := h.fence) (e := [(2, I 302)]) rfl rfl rfl ?_ rfl rfl
        simp only [I] at *
        simp only [AP.f65, go_sem, abin_shl, abin_shr, Nat.reduceEqDiff, reduceIte, Nat.reduceAdd, Nat.reduceMul, Nat.reduceLT, Nat.reduceLeDiff, Int.reduceBEq, Int.reduceBNe, Int.reduceLT, Int.reduceLE, Int.reduceEq, k1, k2, g, decide_eq_false c1, decide_eq_true c2]
      · rw [if_neg c2]
        refine pure_c (fn := AP.f65) (h2 := h.fence) (e := [(2, I 0)]) rfl rfl rfl ?_ rfl rfl
        simp only [I] at *
        simp only [AP.f65, go_sem, abin_shl, abin_shr, Nat.reduceEqDiff, reduceIte, Nat.reduceAdd, Nat.reduceMul, Nat.reduceLT, Nat.reduceLeDiff, Int.reduceBEq, Int.reduceBNe, Int.reduceLT, Int.reduceLE, Int.reduceEq, k1, k2, g, decide_eq_false c1, decide_eq_false c2]
  · have hm' : mayS l = false := by simpa using hm
    rw [hm'] at k1 ⊢
    rw [if_pos rfl]
    refine pure_c (fn := AP.f65) (h2 := h.fence) (e := [(2, I 300)]) rfl rfl rfl ?_ rfl rfl
    simp only [I] at *
    simp only [AP.f65, go_sem, abin_shl, abin_shr, Nat.reduceEqDiff, reduceIte, Nat.reduceAdd, Nat.reduceMul, Nat.reduceLT, Nat.reduceLeDiff, Int.reduceBEq, Int.reduceBNe, Int.reduceLT, Int.reduceLE, Int.reduceEq, k1]

/-- Their sum. -/
def sumL : List Int → Int → Int
  | [], s => s
  | x :: r, s => sumL r (s + x)

theorem single_loop {x : AV} {l : List Int} (hl : l.length < 100000) (hr : ∀ y ∈ l, 0 ≤ y ∧ y < 16) (h : H) (rd : Rd h x (ints l)) :
    ∀ (q p : List Int) (s : Int), l = p ++ q → 0 ≤ s → s ≤ 16 * p.length → ∃ e', Lp AP.A [3, 6, 7, 8] AP.f66L0 [(3, I s), (6, x), (7, I l.length), (8, I p.length)] h = some (.exit 0, e', h) ∧ look e' 3 = I (sumL q s)
  | [], p, s, hpq, hs0, hs1 => by
    refine ⟨[(3, I s), (6, x), (7, I l.length), (8, I p.length), (9, .bool false)], Lp_exit ?_, rfl⟩
    have c1 : ¬ (p.length : Int) < (l.length : Int) := by rw [hpq]; simp
    simp only [I] at *
    simp only [AP.f66L0, go_sem, abin_shl, abin_shr, Nat.reduceEqDiff, reduceIte, Nat.reduceAdd, Nat.reduceMul, Nat.reduceLT, Nat.reduceLeDiff, Int.reduceBEq, Int.reduceBNe, Int.reduceLT, Int.reduceLE, Int.reduceEq, decide_eq_false c1]
  | y :: q, p, s, hpq, hs0, hs1 => by
    have hlen : l.length = p.length + (q.length + 1) := by rw [hpq]; simp
    have c1 : (p.length : Int) < (l.length : Int) := by omega
    have hy := hr y (by rw [hpq]; simp)
    have hv : (ints l)[p.length]? = some (I y) := ints_get (by rw [hpq]; simp)
    obtain ⟨a, p1, p2⟩ := rd.elem hv
    have p3 := p2 h (fun _ _ q => q)
    have w1 : IntKind.wrap .i64 (s + y) = s + y := wrap_in (by omega) (by omega)
    have w2 : IntKind.wrap .i64 ((p.length : Int) + 1) = (((p ++ [y]).length : Nat) : Int) := by
      rw [List.length_append]; exact wrap_nat64 (n := p.length + 1) (by omega)
    have step : evC (callW AP.A) loopW AP.f66L0 (restr [(3, I s), (6, x), (7, I l.length), (8, I p.length)] [3, 6, 7, 8]) h = some (.normal, [(3, I (s + y)), (6, x), (7, I l.length), (8, I (p ++ [y]).length)], h) := by
      simp only [I] at *
      simp only [AP.f66L0, goO_s, goG_tt, goG_ff, goG_tf, goG_ft, ops_nil, ops_u, ops_g, goR_s, goS_n, goS_x, goS_r, goK_n, goK_x, goI_t, goI_f, goB_n, goB_x, C_reg, C_seq, C_cond, C_block, evC_skip, look_hit, look_miss, ev_t', ev_c', restr_c, restr_n, put_s, ret1_s, op_mv, op_bin, op_load, op_iadr, Nat.reduceEqDiff, ne_eq, not_false_eq_true, abin_lss, abin_add, decide_eq_true c1, p1, p3, w1, w2]
    obtain ⟨e', q1, q2⟩ := single_loop hl hr h rd q (p ++ [y]) (s + y) (by rw [hpq]; simp) (by omega) (by simp; omega)
    exact ⟨e', Lp_next step q1, q2⟩

/-- Has none of them a code, or just one, of one bit? -/
def singleS (l : List Int) : Bool := decide (sumL l 0 ≤ 1)

theorem single_c (h : H) (x : AV) (l : List Int) (hl : l.length < 100000) (hr : ∀ y ∈ l, 0 ≤ y ∧ y < 16) (rd : Rd h x (ints l)) : callW AP.A 66 [x] h = some (.bool (singleS l), h) := by
  have rd' := rd.mono (get_fence_mono h)
  have ln := rd.len
  rw [ints_length] at ln
  obtain ⟨e', q1, q2⟩ := single_loop hl hr h.fence rd' l [] 0 rfl (by omega) (by simp)
  have q1' : Lp AP.A [3, 6, 7, 8] AP.f66L0 [(3, I 0), (6, x), (7, I l.length), (8, I 0)] h.fence = some (.exit 0, e', h.fence) := q1
  clear q1
  refine pure_c (fn := AP.f66) (h2 := h.fence) (e := [(2, .bool (singleS l))]) rfl rfl rfl ?_ rfl rfl
  simp only [I, singleS] at *
  simp only [AP.f66, go_sem, abin_shl, abin_shr, Nat.reduceEqDiff, reduceIte, Nat.reduceAdd, Nat.reduceMul, Nat.reduceLT, Nat.reduceLeDiff, Int.reduceBEq, Int.reduceBNe, Int.reduceLT, Int.reduceLE, Int.reduceEq, evC_loop, ln, q1', q2]
end Ab

/- math/bits.Mul, slices.Repeat (of one element), slices.Grow and slices.Concat, table.Fixed, table.Order. -/
set_option linter.unusedSimpArgs false
set_option linter.unusedVariables false
namespace Ab
open Go

theorem wrap_u64 {n : Nat} (h : n < 18446744073709551616) : IntKind.wrap .u64 (n : Int) = n := by
  have e : IntKind.wrap .u64 (n : Int) = (n : Int) % 18446744073709551616 := by simp [IntKind.wrap, IntKind.bits, IntKind.signed]
  rw [e]; omega
theorem and_mask {a : Nat} (ha : a < 4294967296) : bits .and .u64 (a : Int) 4294967295 = (a : Int) := by
  show IntKind.wrap .u64 (((BitVec.ofInt 64 (a : Int) &&& BitVec.ofInt 64 ((4294967295 : Nat) : Int)).toNat : Nat) : Int) = _
  rw [BitVec.toNat_and, bv_nat 64 a (by omega), bv_nat 64 4294967295 (by omega)]
  rw [show 4294967295 = 2 ^ 32 - 1 from rfl, Nat.and_two_pow_sub_one_eq_mod, Nat.mod_eq_of_lt (by simpa using ha)]
  exact wrap_u64 (by omega)
theorem shr32 {a : Nat} (ha : a < 4294967296) : shft .shr .u64 (a : Int) 32 = some (.int .u64 0) := by
  have : (a : Int).fdiv 4294967296 = 0 := by rw [Int.fdiv_eq_ediv_of_nonneg _ (by omega)]; omega
  simp [shft, IntKind.bits, this]

theorem mul64_c (h : H) (a b : Nat) (ha : a < 4294967296) (hb : b < 4294967296) (hab : a * b < 4294967296) : callW AP.A 78 [.int .u64 a, .int .u64 b] h = some (.tup [.int .u64 0, .int .u64 (a * b : Nat)], h) := by
  have a1 := and_mask ha
  have a2 := and_mask hb
  have s1 := shr32 ha
  have s2 := shr32 hb
  have s3 := shr32 hab
  have w1 : IntKind.wrap .u64 ((a : Int) * b) = ((a * b : Nat) : Int) := by rw [show (a : Int) * b = ((a * b : Nat) : Int) by simp]; exact wrap_u64 (by omega)
  have w0 : IntKind.wrap .u64 0 = 0 := by decide
  have z1 : (0 : Int) * b = 0 := by omega
  have z2 : (a : Int) * 0 = 0 := by omega
  have s0 : shft .shr .u64 0 32 = some (.int .u64 0) := shr32 (a := 0) (by omega)
  have a0 : bits .and .u64 0 4294967295 = 0 := and_mask (a := 0) (by omega)
  refine pure_c (fn := AP.f78) (h2 := h.fence) (e := [(4, .int .u64 0), (5, .int .u64 (a * b : Nat))]) rfl rfl rfl ?_ rfl rfl
  simp only [AP.f78, go_sem, abin_shl, abin_shr, Nat.reduceEqDiff, reduceIte, Nat.reduceAdd, Nat.reduceMul, Nat.reduceLT, Nat.reduceLeDiff, Int.reduceBEq, Int.reduceBNe, Int.reduceLT, Int.reduceLE, Int.reduceEq, a1, a2, s1, s2, s3, w1, w0, z1, z2, s0, a0, Int.zero_mul, Int.add_zero]

theorem mul_c (h : H) (a b : Nat) (ha : a < 4294967296) (hb : b < 4294967296) (hab : a * b < 4294967296) : callW AP.A 63 [.int .u64 a, .int .u64 b] h = some (.tup [.int .u64 0, .int .u64 (a * b : Nat)], h) := by
  have k := mul64_c h.fence a b ha hb hab
  refine pure_c (fn := AP.f63) (h2 := h.fence) (e := [(4, .int .u64 0), (5, .int .u64 (a * b : Nat))]) rfl rfl rfl ?_ rfl rfl
  simp only [AP.f63, go_sem, abin_shl, abin_shr, Nat.reduceEqDiff, reduceIte, Nat.reduceAdd, Nat.reduceMul, Nat.reduceLT, Nat.reduceLeDiff, Int.reduceBEq, Int.reduceBNe, Int.reduceLT, Int.reduceLE, Int.reduceEq, k]

theorem setFrom_mid : ∀ (B V A C : List AV), V.length = B.length → setFrom (A ++ (B ++ C)) A.length V = A ++ (V ++ C)
  | [], [], A, C, _ => rfl
  | b :: B, v :: V, A, C, h => by
    rw [setFrom_cons]
    have h1 : (A ++ (b :: B ++ C)).set A.length v = (A ++ [v]) ++ (B ++ C) := by
      rw [List.set_append_right _ _ (Nat.le_refl _)]; simp
    rw [h1]
    have h2 := setFrom_mid B V (A ++ [v]) C (by simpa using h)
    rw [List.length_append] at h2
    rw [show A.length + 1 = A.length + [v].length by rfl, h2]; simp
  | [], v :: V, A, C, h => by simp at h
  | b :: B, [], A, C, h => by simp at h

theorem allsc_rep (n : Nat) {v : AV} (hv : v.sc = true) : AV.allsc (List.replicate n v) = true := by
  induction n with
  | zero => rfl
  | succ n ih => rw [List.replicate_succ, allsc_cons, hv, ih]; rfl
theorem repl_1 (v : AV) : ∀ n, repl n [v] = List.replicate n v
  | 0 => rfl
  | n + 1 => by rw [repl, repl_1 v n]; rfl

theorem sb_of {k y : Nat} (h : k ≤ y) : sbound (I k) y = some k := by
  simp [sbound, asI, I]; omega

/-- Slicing what is one's own: from a place on. -/
theorem asl_lo {h : H} {id N k : Nat} {cs : List AV} (hg : h.get id = some cs) (hN : cs.length = N) (hk : k ≤ N) : asl h 1 (.sobj id 0 N 1) (some (I k)) none none = some (.sobj id k (N - k) 1) := by
  simp [asl, hg, hN, osbound, sb_of hk]
theorem asl_hi {h : H} {id N M k : Nat} {cs : List AV} (hg : h.get id = some cs) (hN : cs.length = N) (hM : M ≤ N) (hk : k ≤ N) : asl h 1 (.sobj id 0 M 1) none (some (I k)) none = some (.sobj id 0 k 1) := by
  have : sbound (I k) N = some k := sb_of hk
  simp [asl, hg, hN, osbound, this, hM]

def repC (v : AV) (k N : Nat) : List AV := List.replicate k v ++ List.replicate (N - k) (I 0)
theorem repC_len {v : AV} {k N : Nat} (h : k ≤ N) : (repC v k N).length = N := by simp [repC]; omega
theorem repC_set {v : AV} {k N m : Nat} (h : k + m ≤ N) : setFrom (repC v k N) k (List.replicate m v) = repC v (k + m) N := by
  have e : List.replicate (N - k) (I 0) = List.replicate m (I 0) ++ List.replicate (N - (k + m)) (I 0) := by
    rw [List.replicate_append_replicate]; congr 1; omega
  have := setFrom_mid (List.replicate m (I 0)) (List.replicate m v) (List.replicate k v) (List.replicate (N - (k + m)) (I 0)) (by simp)
  rw [List.length_replicate] at this
  rw [repC, e, this, repC, ← List.append_assoc, List.replicate_append_replicate]

theorem repeat_loop (v : AV) (hv : v.sc = true) (N id : Nat) (hN : N < 1000000000) : ∀ (f k : Nat) (h : H), N - k ≤ f → 0 < k → k ≤ N → h.get id = some (repC v k N) → h.floor ≤ id →
    ∃ e' h', Lp AP.A [7, 8] AP.f43L0 [(7, .sobj id 0 N 1), (8, I k)] h = some (.exit 0, e', h') ∧ look e' 7 = .sobj id 0 N 1 ∧ h'.get id = some (repC v N N) ∧ h'.next = h.next
  | f, k, h, hf, hk, hkN, hg, hfl => by
    by_cases hlt : k < N
    · have c1 : (k : Int) < (N : Int) := by omega
      have hlen := repC_len (v := v) hkN
      have s1 := asl_lo hg hlen hkN
      have s2 := asl_hi hg hlen (Nat.le_refl N) hkN
      obtain ⟨m, hm⟩ : ∃ m, m = Nat.min k (N - k) := ⟨_, rfl⟩
      have hm1 : 0 < m ∧ m ≤ k ∧ k + m ≤ N := by
        rw [hm]; have : Nat.min k (N - k) = min k (N - k) := rfl
        rw [this]; omega
      have hsrc : srcCells h 1 (.sobj id 0 k 1) = some (k, List.replicate k v) := by
        simp only [srcCells, if_true, hg, Option.bind_some]
        rw [if_pos (by rw [hlen]; omega)]
        simp [repC]
      have cp : acopy h 1 (.sobj id k (N - k) 1) (.sobj id 0 k 1) = some (I m, h.set id (repC v (k + m) N)) := by
        unfold acopy
        rw [hsrc, Option.bind_some]
        simp only [allsc_rep k hv, hfl, and_self, true_and, if_true, hg, Option.bind_some, hlen]
        rw [if_pos (by omega), ← hm, Nat.mul_one, List.take_replicate, Nat.min_eq_left hm1.2.1, repC_set hm1.2.2]; rfl
      have w1 : IntKind.wrap .i64 ((k : Int) + m) = ((k + m : Nat) : Int) := by rw [show (k : Int) + m = ((k + m : Nat) : Int) by omega]; exact wrap_nat64 (by omega)
      have al : alen false (.sobj id 0 N 1) = some (I N) := rfl
      have step : evC (callW AP.A) loopW AP.f43L0 (restr [(7, .sobj id 0 N 1), (8, I k)] [7, 8]) h = some (.normal, [(7, .sobj id 0 N 1), (8, I (k + m : Nat))], h.set id (repC v (k + m) N)) := by
        simp only [I] at *
        simp only [AP.f43L0, go_sem, abin_shl, abin_shr, Nat.reduceEqDiff, reduceIte, Nat.reduceAdd, Nat.reduceMul, Nat.reduceLT, Nat.reduceLeDiff, Int.reduceBEq, Int.reduceBNe, Int.reduceLT, Int.reduceLE, Int.reduceEq, al, decide_eq_true c1, Option.map_some, Option.map_none, s1, s2, cp, w1]
      match f, hf with
      | 0, hf => omega
      | f + 1, hf =>
        obtain ⟨e', h', q1, q2, q3, q4⟩ := repeat_loop v hv N id hN f (k + m) (h.set id (repC v (k + m) N)) (by omega) (by omega) (by omega) (by rw [H.get_set, if_pos rfl, hg]; rfl) (by simpa using hfl)
        exact ⟨e', h', Lp_next step q1, q2, q3, by rw [q4]; simp⟩
    · have hkN' : k = N := by omega
      subst hkN'
      have c1 : ¬ (k : Int) < (k : Int) := by omega
      have al : alen false (.sobj id 0 k 1) = some (I k) := rfl
      refine ⟨[(7, .sobj id 0 k 1), (8, I k), (37, .bool false)], h, Lp_exit ?_, rfl, hg, rfl⟩
      simp only [I] at *
      simp only [AP.f43L0, go_sem, abin_shl, abin_shr, Nat.reduceEqDiff, reduceIte, Nat.reduceAdd, Nat.reduceMul, Nat.reduceLT, Nat.reduceLeDiff, Int.reduceBEq, Int.reduceBNe, Int.reduceLT, Int.reduceLE, Int.reduceEq, al, decide_eq_false c1]

theorem repeat_c (h : H) (x : AV) (y : Int) (N : Nat) (hN : N < 1000000000) (rd : Rd h x [I y]) : callW AP.A 43 [x, I N] h = some (.simm false (ints (List.replicate N y)) 0 N 1, h) := by
  have rd' := rd.mono (get_fence_mono h)
  have ln := rd.len
  have mc := mul_c h.fence 1 N (by omega) (by omega) (by omega)
  rw [Nat.one_mul] at mc
  have mc' : callW AP.A 63 [.int .u64 1, .int .u64 N] h.fence = some (.tup [.int .u64 0, .int .u64 N], h.fence) := mc
  clear mc
  have c0 : ¬ (N : Int) < 0 := by omega
  have w1 : IntKind.wrap .u64 1 = 1 := by decide
  have w2 : IntKind.wrap .u64 (N : Int) = N := wrap_u64 (by omega)
  have w3 : IntKind.wrap .i64 (N : Int) = N := wrap_nat64 (by omega)
  have c1 : ¬ (0 : Int) < 0 := by omega
  have c2 : ¬ (9223372036854775807 : Int) < (N : Int) := by omega
  obtain ⟨id, hid⟩ : ∃ i, i = h.next := ⟨_, rfl⟩
  obtain ⟨g1, hg1⟩ : ∃ g, g = h.fence.alloc (List.replicate N (I 0)) := ⟨_, rfl⟩
  have e1 : g1.get id = some (List.replicate N (I 0)) := by rw [hg1, H.get_alloc, if_pos (by rw [hid]; rfl)]
  have bt : birth [(29, I N), (28, .int .u64 N), (0, x), (6, .int .u64 N)] (.mksl 1 8 [I 0] (.t 29) (.t 29)) = some (List.replicate N (I 0), fun i => .sobj i 0 N 1) := by
    have c3 : (8 : Int) * N ≤ 281474976710656 := by omega
    have c4 : (N : Int) ≤ 9223372036854775807 := by omega
    simp [birth, I, repl_1, c3, c4]
  have hcp : ∃ (k : Nat) (h2 : H), acopy g1 1 (.sobj id 0 N 1) x = some (I k, h2) ∧ ((k = 0 ∧ N = 0) ∨ (k = 1 ∧ 0 < N)) ∧ h2.get id = some (repC (I y) k N) ∧ h2.floor = h.next ∧ h2.next = g1.next := by
    have rd2 : srcCells g1 1 x = some (1, [I y]) := (rd.mono (fun i c q => by rw [hg1, H.get_alloc, if_neg (by have := h.lt _ _ q; show i ≠ h.next; omega)]; exact q)).1
    refine ⟨Nat.min 1 N, g1.set id (repC (I y) (Nat.min 1 N) N), ?_, ?_, by rw [H.get_set, if_pos rfl, e1]; rfl, by rw [hg1]; simp, by simp⟩
    · unfold acopy
      rw [rd2, Option.bind_some]
      have hf : g1.floor ≤ id := by rw [hg1, hid]; simp
      have ha : AV.allsc [I y] = true := rfl
      simp only [ha, hf, and_self, true_and, if_true, e1, Option.bind_some, List.length_replicate]
      rw [if_pos (by omega), Nat.mul_one]
      have hz : List.replicate N (I 0) = repC (I y) 0 N := by simp [repC]
      rw [hz]
      have ht : [I y].take (Nat.min 1 N) = List.replicate (Nat.min 1 N) (I y) := by
        cases N with
        | zero => rfl
        | succ n => have : Nat.min 1 (n + 1) = 1 := by show min 1 (n + 1) = 1; omega
                    rw [this]; rfl
      rw [ht, repC_set (by show 0 + min 1 N ≤ N; omega), Nat.zero_add]; rfl
    · cases N with
      | zero => left; exact ⟨rfl, rfl⟩
      | succ n => right; exact ⟨by show min 1 (n + 1) = 1; omega, by omega⟩
  obtain ⟨k, h2, cp1, cp2, cp3, cp4, cp5⟩ := hcp
  have lp : ∃ e' h3, Lp AP.A [7, 8] AP.f43L0 [(7, .sobj id 0 N 1), (8, I k)] h2 = some (.exit 0, e', h3) ∧ look e' 7 = .sobj id 0 N 1 ∧ h3.get id = some (repC (I y) N N) := by
    rcases cp2 with ⟨rfl, rfl⟩ | ⟨rfl, hN0⟩
    · refine ⟨[(7, .sobj id 0 0 1), (8, I 0), (37, .bool false)], h2, Lp_exit ?_, rfl, cp3⟩
      have al : alen false (.sobj id 0 0 1) = some (I 0) := rfl
      simp only [I] at *
      simp only [AP.f43L0, go_sem, abin_shl, abin_shr, Nat.reduceEqDiff, reduceIte, Nat.reduceAdd, Nat.reduceMul, Nat.reduceLT, Nat.reduceLeDiff, Int.reduceBEq, Int.reduceBNe, Int.reduceLT, Int.reduceLE, Int.reduceEq, al, Int.natCast_zero]
    · obtain ⟨e', h', q1, q2, q3, _⟩ := repeat_loop (I y) rfl N id hN N 1 h2 (by omega) (by omega) (by omega) cp3 (by rw [cp4, hid]; exact Nat.le_refl _)
      exact ⟨e', h', q1, q2, q3⟩
  obtain ⟨e', h3, q1, q2, q3⟩ := lp
  refine pure_c (fn := AP.f43) (h2 := h3) (e := [(4, .sobj id 0 N 1)]) (vs := [.sobj id 0 N 1]) rfl rfl rfl ?_ rfl ?_
  · have al : alen false x = some (I 1) := ln
    have hn : h.fence.next = id := by rw [hid]; rfl
    simp only [I] at *
    simp only [AP.f43, go_sem, abin_shl, abin_shr, Nat.reduceEqDiff, reduceIte, Nat.reduceAdd, Nat.reduceMul, Nat.reduceLT, Nat.reduceLeDiff, Int.reduceBEq, Int.reduceBNe, Int.reduceLT, Int.reduceLE, Int.reduceEq, al, decide_eq_false c0, w1, w2, w3, mc', decide_eq_false c1, decide_eq_false c2, bt, ← hg1, hn, cp1, evC_loop, q1, q2]
  · have hr : repC (I y) N N = ints (List.replicate N y) := by simp [repC, ints]
    show snap h3.get h.next 16 true (.sobj id 0 N 1) = _
    unfold snap
    rw [if_neg (by omega), q3, Option.bind_some, hr, if_pos (by simp)]
    have ht : ((ints (List.replicate N y)).drop 0).take (N * 1) = ints (List.replicate N y) := by
      rw [List.drop_zero, Nat.mul_one, List.take_of_length_le (by simp)]
    rw [ht, mapO_ints]; rfl
end Ab

/- slices.Grow, slices.Concat, table.Fixed, table.Order. -/
set_option linter.unusedSimpArgs false
set_option linter.unusedVariables false
namespace Ab
open Go

theorem grow_c (h : H) (N : Nat) (hN0 : 0 < N) (hN : N < 1000000000) : callW AP.A 76 [.nils, I N] h = some (.sobj h.next 0 0 1, h.alloc (List.replicate N (I 0))) := by
  have c0 : ¬ (N : Int) < 0 := by omega
  have c1 : (0 : Int) < N := by omega
  have w0 : IntKind.wrap .i64 (0 - 0) = 0 := by decide
  have w1 : IntKind.wrap .i64 ((N : Int) - 0) = N := by rw [Int.sub_zero]; exact wrap_nat64 (by omega)
  have a1 : acap .nils = some (I 0) := rfl
  have a2 : alen false .nils = some (I 0) := rfl
  have a3 : asl h 1 .nils none (some (I 0)) none = some .nils := rfl
  have a4 : aappz h 1 8 [I 0] .nils (I N) = some (.sobj h.next 0 N 1, h.alloc (List.replicate N (I 0))) := by
    have c3 : (N : Int) ≤ 281474976710656 := by omega
    have c4 : (N : Int) * 8 ≤ 281474976710656 := by omega
    have c5 : roomy 8 N = true := by simp [roomy]; omega
    simp [aappz, I, c3, c4, c5, repl_1, hN0]
  have a5 : asl (h.alloc (List.replicate N (I 0))) 1 (.sobj h.next 0 N 1) none (some (I 0)) none = some (.sobj h.next 0 0 1) :=
    asl_hi (by rw [H.get_alloc, if_pos rfl]) (by simp) (Nat.le_refl _) (Nat.zero_le _)
  refine plain_c (fn := AP.f76) (e := [(4, .sobj h.next 0 0 1)]) rfl rfl rfl ?_ rfl
  simp only [I] at *
  simp only [AP.f76, go_sem, abin_shl, abin_shr, Nat.reduceEqDiff, reduceIte, Nat.reduceAdd, Nat.reduceMul, Nat.reduceLT, Nat.reduceLeDiff, Int.reduceBEq, Int.reduceBNe, Int.reduceLT, Int.reduceLE, Int.reduceEq, decide_eq_false c0, decide_eq_true c1, w0, w1, a1, a2, Option.map_some, Option.map_none, a3, a4, a5]

/-- Lists, one behind the other. -/
def cat (ps : List (AV × List Int)) : List Int := ps.flatMap (·.2)
theorem cat_cons (p : AV × List Int) (ps : List (AV × List Int)) : cat (p :: ps) = p.2 ++ cat ps := by simp [cat]

theorem concat_loop1 {h : H} {x : AV} {all : List (AV × List Int)} (rd : Rd h x (all.map (·.1))) (hp : ∀ p ∈ all, Rd h p.1 (ints p.2)) (hT : (cat all).length < 1000000000) (hA : all.length < 1000000000) :
    ∀ (ps qs : List (AV × List Int)), all = qs ++ ps →
    ∃ e', Lp AP.A [0, 3, 9, 10, 11] AP.f62L1 [(0, x), (3, I (cat qs).length), (9, x), (10, I all.length), (11, I qs.length)] h = some (.exit 0, e', h) ∧ look e' 0 = x ∧ look e' 3 = I (cat all).length
  | [], qs, hq => by
    rw [List.append_nil] at hq; subst hq
    refine ⟨[(0, x), (3, I (cat all).length), (9, x), (10, I all.length), (11, I all.length), (12, .bool false)], Lp_exit ?_, rfl, rfl⟩
    have c1 : ¬ (all.length : Int) < (all.length : Int) := by omega
    simp only [I] at *
    simp only [AP.f62L1, go_sem, abin_shl, abin_shr, Nat.reduceEqDiff, reduceIte, Nat.reduceAdd, Nat.reduceMul, Nat.reduceLT, Nat.reduceLeDiff, Int.reduceBEq, Int.reduceBNe, Int.reduceLT, Int.reduceLE, Int.reduceEq, decide_eq_false c1]
  | p :: ps, qs, hq => by
    have hlen : all.length = qs.length + (ps.length + 1) := by rw [hq]; simp
    have hct : (cat all).length = (cat qs).length + (p.2.length + (cat ps).length) := by rw [hq]; simp [cat]
    have c1 : (qs.length : Int) < (all.length : Int) := by omega
    have hv : (all.map (·.1))[qs.length]? = some p.1 := by rw [hq]; simp
    obtain ⟨a, p1, p2⟩ := rd.elem hv
    have p3 := p2 h (fun _ _ q => q)
    have ln := (hp p (by rw [hq]; simp)).len
    rw [ints_length] at ln
    have w1 : IntKind.wrap .i64 (((cat qs).length : Int) + p.2.length) = ((cat (qs ++ [p])).length : Int) := by
      rw [show ((cat qs).length : Int) + p.2.length = ((cat (qs ++ [p])).length : Int) by simp [cat]]; exact wrap_nat64 (by simp [cat] at *; omega)
    have c2 : ¬ ((cat (qs ++ [p])).length : Int) < 0 := by omega
    have w2 : IntKind.wrap .i64 ((qs.length : Int) + 1) = ((qs ++ [p]).length : Int) := by
      rw [List.length_append]; exact wrap_nat64 (n := qs.length + 1) (by omega)
    obtain ⟨e', q1, q2, q3⟩ := concat_loop1 rd hp hT hA ps (qs ++ [p]) (by rw [hq]; simp)
    have step : evC (callW AP.A) loopW AP.f62L1 (restr [(0, x), (3, I (cat qs).length), (9, x), (10, I all.length), (11, I qs.length)] [0, 3, 9, 10, 11]) h = some (.normal, [(0, x), (3, I (cat (qs ++ [p])).length), (9, x), (10, I all.length), (11, I (qs ++ [p]).length)], h) := by
      generalize hB : (qs ++ [p]).length = B at *
      simp only [I] at *
      simp only [AP.f62L1, go_sem, abin_shl, abin_shr, Nat.reduceEqDiff, reduceIte, Nat.reduceAdd, Nat.reduceMul, Nat.reduceLT, Nat.reduceLeDiff, Int.reduceBEq, Int.reduceBNe, Int.reduceLT, Int.reduceLE, Int.reduceEq, decide_eq_true c1, p1, p3, ln, w1, decide_eq_false c2, w2]
    exact ⟨e', Lp_next step q1, q2, q3⟩

theorem setFrom_nilv (cs : List AV) (k : Nat) : setFrom cs k [] = cs := rfl

theorem concat_loop2 {h0 : H} {x : AV} {all : List (AV × List Int)} (rd : Rd h0 x (all.map (·.1))) (hp : ∀ p ∈ all, Rd h0 p.1 (ints p.2)) (hT : (cat all).length < 1000000000) (hA : all.length < 1000000000) (id : Nat) (hid : h0.next ≤ id) :
    ∀ (ps qs : List (AV × List Int)) (h : H), all = qs ++ ps → h.floor ≤ id → h.get id = some (ints (cat qs) ++ List.replicate (cat ps).length (I 0)) → (∀ i c, h0.get i = some c → h.get i = some c) →
    ∃ e' h', Lp AP.A [6, 25, 26, 27] AP.f62L0 [(6, .sobj id 0 (cat qs).length 1), (25, x), (26, I all.length), (27, I qs.length)] h = some (.exit 2, e', h') ∧ look e' 6 = .sobj id 0 (cat all).length 1 ∧ h'.get id = some (ints (cat all))
  | [], qs, h, hq, hf, hg, hm => by
    rw [List.append_nil] at hq; subst hq
    refine ⟨[(6, .sobj id 0 (cat all).length 1), (25, x), (26, I all.length), (27, I all.length), (28, .bool false)], h, Lp_exit ?_, rfl, by rw [hg]; simp [cat]⟩
    have c1 : ¬ (all.length : Int) < (all.length : Int) := by omega
    simp only [I] at *
    simp only [AP.f62L0, go_sem, abin_shl, abin_shr, Nat.reduceEqDiff, reduceIte, Nat.reduceAdd, Nat.reduceMul, Nat.reduceLT, Nat.reduceLeDiff, Int.reduceBEq, Int.reduceBNe, Int.reduceLT, Int.reduceLE, Int.reduceEq, decide_eq_false c1]
  | p :: ps, qs, h, hq, hf, hg, hm => by
    have hlen : all.length = qs.length + (ps.length + 1) := by rw [hq]; simp
    have hct : (cat all).length = (cat qs).length + (p.2.length + (cat ps).length) := by rw [hq]; simp [cat]
    have hcq : (cat (qs ++ [p])).length = (cat qs).length + p.2.length := by simp [cat]
    have c1 : (qs.length : Int) < (all.length : Int) := by omega
    have hv : (all.map (·.1))[qs.length]? = some p.1 := by rw [hq]; simp
    obtain ⟨a, p1, p2⟩ := rd.elem hv
    have p3 := p2 h hm
    have src := ((hp p (by rw [hq]; simp)).mono hm).1
    rw [ints_length] at src
    have w2 : IntKind.wrap .i64 ((qs.length : Int) + 1) = ((qs ++ [p]).length : Int) := by
      rw [List.length_append]; exact wrap_nat64 (n := qs.length + 1) (by omega)
    have hz : List.replicate (cat (p :: ps)).length (I 0) = List.replicate p.2.length (I 0) ++ List.replicate (cat ps).length (I 0) := by
      rw [List.replicate_append_replicate, cat_cons, List.length_append]
    have hap : ∃ h1, aapp h 1 8 (.sobj id 0 (cat qs).length 1) p.1 = some (.sobj id 0 (cat (qs ++ [p])).length 1, h1) ∧ h1.floor = h.floor ∧ h1.get id = some (ints (cat (qs ++ [p])) ++ List.replicate (cat ps).length (I 0)) ∧ ∀ i c, h0.get i = some c → h1.get i = some c := by
      by_cases h0' : p.2.length = 0
      · have hp2 : p.2 = [] := List.length_eq_zero_iff.1 h0'
        refine ⟨h, ?_, rfl, ?_, hm⟩
        · unfold aapp
          rw [src, Option.bind_some]
          unfold aappc
          rw [if_pos (by simp [h0']), hcq, h0', Nat.add_zero]
        · rw [hg, cat_cons, hp2]; simp [cat, hp2]
      · refine ⟨h.set id (ints (cat (qs ++ [p])) ++ List.replicate (cat ps).length (I 0)), ?_, by simp, by rw [H.get_set, if_pos rfl, hg]; rfl, fun i c q => ?_⟩
        · unfold aapp
          rw [src, Option.bind_some]
          have hs : setFrom (ints (cat qs) ++ List.replicate (cat (p :: ps)).length (I 0)) (cat qs).length (ints p.2) = ints (cat (qs ++ [p])) ++ List.replicate (cat ps).length (I 0) := by
            have := setFrom_mid (List.replicate p.2.length (I 0)) (ints p.2) (ints (cat qs)) (List.replicate (cat ps).length (I 0)) (by simp)
            rw [ints_length] at this
            rw [hz, this]; simp [cat, ints_append]
          unfold aappc
          dsimp only
          rw [if_neg h0', if_neg (by simp [allsc_ints])]
          rw [if_pos ⟨rfl, hf⟩, hg, Option.bind_some, if_pos (by rw [hz]; simp)]
          rw [Nat.mul_one, Nat.zero_add, hs, hcq]
        · rw [H.get_set, if_neg (by have := h0.lt _ _ q; omega)]; exact hm i c q
    obtain ⟨h1, ap1, ap2, ap3, ap4⟩ := hap
    obtain ⟨e', h', q1, q2, q3⟩ := concat_loop2 rd hp hT hA id hid ps (qs ++ [p]) h1 (by rw [hq]; simp) (by rw [ap2]; exact hf) ap3 ap4
    have step : evC (callW AP.A) loopW AP.f62L0 (restr [(6, .sobj id 0 (cat qs).length 1), (25, x), (26, I all.length), (27, I qs.length)] [6, 25, 26, 27]) h = some (.normal, [(6, .sobj id 0 (cat (qs ++ [p])).length 1), (25, x), (26, I all.length), (27, I (qs ++ [p]).length)], h1) := by
      generalize hB : (qs ++ [p]).length = B at *
      simp only [I] at *
      simp only [AP.f62L0, go_sem, abin_shl, abin_shr, Nat.reduceEqDiff, reduceIte, Nat.reduceAdd, Nat.reduceMul, Nat.reduceLT, Nat.reduceLeDiff, Int.reduceBEq, Int.reduceBNe, Int.reduceLT, Int.reduceLE, Int.reduceEq, decide_eq_true c1, p1, p3, ap1, w2]
    exact ⟨e', h', Lp_next step q1, q2, q3⟩

/-- A slice that never changes again, of whole numbers. -/
def immI (l : List Int) : AV := .simm false (ints l) 0 l.length 1
theorem rd_imm (h : H) (l : List Int) : Rd h (immI l) (ints l) := by
  refine ⟨?_, by intro s e; cases e⟩
  simp [srcCells, immI, List.take_of_length_le]

theorem concat_c (h : H) (x : AV) (ps : List (AV × List Int)) (rd : Rd h x (ps.map (·.1))) (hp : ∀ p ∈ ps, Rd h p.1 (ints p.2)) (hT : (cat ps).length < 1000000000) (hA : ps.length < 1000000000) (h0 : 0 < (cat ps).length) : callW AP.A 62 [x] h = some (immI (cat ps), h) := by
  have rd' := rd.mono (get_fence_mono h)
  have hp' : ∀ p ∈ ps, Rd h.fence p.1 (ints p.2) := fun p q => (hp p q).mono (get_fence_mono h)
  have ln := rd.len
  rw [List.length_map] at ln
  obtain ⟨e1, a1, a2, a3⟩ := concat_loop1 rd' hp' hT hA ps [] rfl
  have a1' : Lp AP.A [0, 3, 9, 10, 11] AP.f62L1 [(0, x), (3, I 0), (9, x), (10, I ps.length), (11, I 0)] h.fence = some (.exit 0, e1, h.fence) := a1
  clear a1
  have gc := grow_c h.fence (cat ps).length h0 hT
  obtain ⟨h1, hh1⟩ : ∃ g, g = h.fence.alloc (List.replicate (cat ps).length (I 0)) := ⟨_, rfl⟩
  rw [← hh1] at gc
  obtain ⟨e2, h2, b1, b2, b3⟩ := concat_loop2 rd' hp' hT hA h.next (Nat.le_refl _) ps [] h1 rfl (by rw [hh1]; simp) (by rw [hh1, H.get_alloc, if_pos (show h.next = h.fence.next from rfl)]; rfl)
    (fun i c q => by rw [hh1, H.get_alloc, if_neg (by have := h.fence.lt _ _ q; omega)]; exact q)
  have b1' : Lp AP.A [6, 25, 26, 27] AP.f62L0 [(6, .sobj h.next 0 0 1), (25, x), (26, I ps.length), (27, I 0)] h1 = some (.exit 2, e2, h2) := b1
  clear b1
  have hn : h.fence.next = h.next := rfl
  refine pure_c (fn := AP.f62) (h2 := h2) (e := [(2, .sobj h.next 0 (cat ps).length 1)]) (vs := [.sobj h.next 0 (cat ps).length 1]) rfl rfl rfl ?_ rfl ?_
  · simp only [I] at *
    simp only [AP.f62, go_sem, abin_shl, abin_shr, Nat.reduceEqDiff, reduceIte, Nat.reduceAdd, Nat.reduceMul, Nat.reduceLT, Nat.reduceLeDiff, Int.reduceBEq, Int.reduceBNe, Int.reduceLT, Int.reduceLE, Int.reduceEq, ln, evC_loop, a1', a2, a3, gc, hn, b1', b2]
  · show snap h2.get h.next 16 true (.sobj h.next 0 (cat ps).length 1) = _
    unfold snap
    rw [if_neg (by omega), b3, Option.bind_some, if_pos (by simp)]
    have ht : ((ints (cat ps)).drop 0).take ((cat ps).length * 1) = ints (cat ps) := by
      rw [List.drop_zero, Nat.mul_one, List.take_of_length_le (by simp)]
    rw [ht, mapO_ints]; rfl

def fixedL : List Int := List.replicate 144 8 ++ (List.replicate 112 9 ++ (List.replicate 24 7 ++ List.replicate 8 8))

theorem bsl1 (e : Env) (n : Int) : birth e (.bslice 1 1 [.int .i64 0] [(0, .c (.int .i64 n))]) = some ([I n], fun i => .sobj i 0 1 1) := rfl

theorem rd_own1 (h : H) (n : Int) : Rd (h.alloc [I n]) (.sobj h.next 0 1 1) [I n] := by
  refine ⟨?_, by intro s e; cases e⟩
  simp [srcCells, H.get_alloc]

theorem fixed_c (h : H) : callW AP.A 42 [] h = some (immI fixedL, h) := by
  have r1 := repeat_c (h.fence.alloc [I 8]) (.sobj h.fence.next 0 1 1) 8 144 (by omega) (rd_own1 _ _)
  have r2 := repeat_c ((h.fence.alloc [I 8]).alloc [I 9]) (.sobj (h.fence.alloc [I 8]).next 0 1 1) 9 112 (by omega) (rd_own1 _ _)
  have r3 := repeat_c (((h.fence.alloc [I 8]).alloc [I 9]).alloc [I 7]) (.sobj ((h.fence.alloc [I 8]).alloc [I 9]).next 0 1 1) 7 24 (by omega) (rd_own1 _ _)
  have r4 := repeat_c ((((h.fence.alloc [I 8]).alloc [I 9]).alloc [I 7]).alloc [I 8]) (.sobj (((h.fence.alloc [I 8]).alloc [I 9]).alloc [I 7]).next 0 1 1) 8 8 (by omega) (rd_own1 _ _)
  obtain ⟨g4, hg4⟩ : ∃ g, g = (((h.fence.alloc [I 8]).alloc [I 9]).alloc [I 7]).alloc [I 8] := ⟨_, rfl⟩
  obtain ⟨v1, hv1⟩ : ∃ v, v = AV.simm false (ints (List.replicate 144 8)) 0 144 1 := ⟨_, rfl⟩
  obtain ⟨v2, hv2⟩ : ∃ v, v = AV.simm false (ints (List.replicate 112 9)) 0 112 1 := ⟨_, rfl⟩
  obtain ⟨v3, hv3⟩ : ∃ v, v = AV.simm false (ints (List.replicate 24 7)) 0 24 1 := ⟨_, rfl⟩
  obtain ⟨v4, hv4⟩ : ∃ v, v = AV.simm false (ints (List.replicate 8 8)) 0 8 1 := ⟨_, rfl⟩
  have hc : cat [(v1, List.replicate 144 8), (v2, List.replicate 112 9), (v3, List.replicate 24 7), (v4, List.replicate 8 8)] = fixedL := by
    simp only [cat, fixedL, List.flatMap_cons, List.flatMap_nil, List.append_nil]
  have hfl : fixedL.length = 288 := by simp only [fixedL, List.length_append, List.length_replicate]
  have cc := concat_c (g4.alloc [v1, v2, v3, v4]) (.sobj g4.next 0 4 1) [(v1, List.replicate 144 8), (v2, List.replicate 112 9), (v3, List.replicate 24 7), (v4, List.replicate 8 8)]
    ⟨by simp [srcCells, H.get_alloc], by intro s e; cases e⟩
    (by
      intro p hp
      simp only [List.mem_cons, List.not_mem_nil, or_false] at hp
      rcases hp with rfl | rfl | rfl | rfl
      · rw [hv1]; exact rd_imm _ _
      · rw [hv2]; exact rd_imm _ _
      · rw [hv3]; exact rd_imm _ _
      · rw [hv4]; exact rd_imm _ _) (by rw [hc, hfl]; omega) (by simp) (by rw [hc, hfl]; omega)
  rw [hc] at cc
  have bt : ∀ e : Env, look e 2 = v1 → look e 4 = v2 → look e 6 = v3 → look e 8 = v4 → birth e (.bslice 1 4 [.nils] [(0, .t 2), (1, .t 4), (2, .t 6), (3, .t 8)]) = some ([v1, v2, v3, v4], fun i => .sobj i 0 4 1) := by
    intro e q1 q2 q3 q4
    simp only [birth, List.map_cons, List.map_nil, ev_t', q1, q2, q3, q4]
    rw [hv1, hv2, hv3, hv4]; rfl
  refine pure_c (fn := AP.f42) (h2 := g4.alloc [v1, v2, v3, v4]) (e := [(0, immI fixedL)]) rfl rfl rfl ?_ rfl ?_
  · rw [← hv1] at r1; rw [← hv2] at r2; rw [← hv3] at r3; rw [← hv4] at r4
    rw [← hg4] at r4
    have r1' : callW AP.A 43 [.sobj h.fence.next 0 1 1, I 144] (h.fence.alloc [I 8]) = some (v1, h.fence.alloc [I 8]) := r1
    have r2' : callW AP.A 43 [.sobj (h.fence.alloc [I 8]).next 0 1 1, I 112] ((h.fence.alloc [I 8]).alloc [I 9]) = some (v2, (h.fence.alloc [I 8]).alloc [I 9]) := r2
    have r3' : callW AP.A 43 [.sobj ((h.fence.alloc [I 8]).alloc [I 9]).next 0 1 1, I 24] (((h.fence.alloc [I 8]).alloc [I 9]).alloc [I 7]) = some (v3, ((h.fence.alloc [I 8]).alloc [I 9]).alloc [I 7]) := r3
    have r4' : callW AP.A 43 [.sobj (((h.fence.alloc [I 8]).alloc [I 9]).alloc [I 7]).next 0 1 1, I 8] g4 = some (v4, g4) := r4
    clear r1 r2 r3 r4 hv1 hv2 hv3 hv4 hc
    simp only [I] at *
    simp only [AP.f42, go_sem, abin_shl, abin_shr, Nat.reduceEqDiff, reduceIte, Nat.reduceAdd, Nat.reduceMul, Nat.reduceLT, Nat.reduceLeDiff, Int.reduceBEq, Int.reduceBNe, Int.reduceLT, Int.reduceLE, Int.reduceEq, bsl1, I, r1', r2', r3', ← hg4, r4']
    rw [bt _ rfl rfl rfl rfl]
    simp only [birthH_s, goO_s, go_sem, abin_shl, abin_shr, Nat.reduceEqDiff, reduceIte, Nat.reduceAdd, Nat.reduceMul, Nat.reduceLT, Nat.reduceLeDiff, Int.reduceBEq, Int.reduceBNe, Int.reduceLT, Int.reduceLE, Int.reduceEq, cc]
  · simp only [tupOf]; unfold snap immI; rfl

def orderL : List Int := [16, 17, 18, 0, 8, 7, 9, 6, 10, 5, 11, 4, 12, 3, 13, 2, 14, 1, 15]
theorem order_c (h : H) : callW AP.A 79 [] h = some (immI orderL, h) := by
  have b : birth [] (.bslice 1 19 [.int .i64 0] [(0, (.c (.int .i64 16))), (1, (.c (.int .i64 17))), (2, (.c (.int .i64 18))), (3, (.c (.int .i64 0))), (4, (.c (.int .i64 8))), (5, (.c (.int .i64 7))), (6, (.c (.int .i64 9))), (7, (.c (.int .i64 6))), (8, (.c (.int .i64 10))), (9, (.c (.int .i64 5))), (10, (.c (.int .i64 11))), (11, (.c (.int .i64 4))), (12, (.c (.int .i64 12))), (13, (.c (.int .i64 3))), (14, (.c (.int .i64 13))), (15, (.c (.int .i64 2))), (16, (.c (.int .i64 14))), (17, (.c (.int .i64 1))), (18, (.c (.int .i64 15)))]) = some (ints orderL, fun i => .sobj i 0 19 1) := rfl
  refine pure_c (fn := AP.f79) (h2 := h.fence.alloc (ints orderL)) (e := [(0, .sobj h.next 0 19 1)]) (vs := [.sobj h.next 0 19 1]) rfl rfl rfl ?_ rfl ?_
  · have hn : h.fence.next = h.next := rfl
    simp only [AP.f79, go_sem, abin_shl, abin_shr, Nat.reduceEqDiff, reduceIte, Nat.reduceAdd, Nat.reduceMul, Nat.reduceLT, Nat.reduceLeDiff, Int.reduceBEq, Int.reduceBNe, Int.reduceLT, Int.reduceLE, Int.reduceEq, b, hn]
  · show snap (h.fence.alloc (ints orderL)).get h.next 16 true (.sobj h.next 0 19 1) = _
    unfold snap
    rw [if_neg (by omega), H.get_alloc, if_pos (show h.next = h.fence.next from rfl), Option.bind_some, if_pos (by decide)]
    rw [show ((ints orderL).drop 0).take (19 * 1) = ints orderL from rfl, mapO_ints]; rfl
end Ab

/- Regions that draw their order, with floats; appending more than one; stream.again. -/
set_option linter.unusedSimpArgs false
set_option linter.unusedVariables false
namespace Ab
open Go

def goOD (c : CallT) (d : Option Nat) (r : List AOper) (e : Env) (p : Option (AV × H)) : Option (Env × H × List H) := p.bind fun q => evOpsD c r (putEnv d q.1 e) q.2
theorem goOD_s (c : CallT) (d : Option Nat) (r : List AOper) (e : Env) (v : AV) (h : H) : goOD c d r e (some (v, h)) = evOpsD c r (putEnv d v e) h := Eq.trans rfl rfl
def preD (loud : Bool) (h : H) (p : Option (Env × H × List H)) : Option (Env × H × List H) := p.bind fun q => some (q.1, q.2.1, if loud then h :: q.2.2 else q.2.2)
theorem preD_t (h : H) (e : Env) (h' : H) (gs : List H) : preD true h (some (e, h', gs)) = some (e, h', h :: gs) := Eq.trans rfl rfl
theorem preD_f (h : H) (e : Env) (h' : H) (gs : List H) : preD false h (some (e, h', gs)) = some (e, h', gs) := Eq.trans rfl rfl
theorem opsD_nil (c : CallT) (e : Env) (h : H) : evOpsD c [] e h = some (e, h, [h]) := Eq.trans rfl rfl
theorem preD_goOD (c : CallT) (o : AOper) (r : List AOper) (e : Env) (h : H) : evOpsD c (o :: r) e h = preD o.op.loud h (goOD c o.dst r e (evOper c o e h)) := by
  rw [evOpsD]
  unfold preD goOD
  cases hv : evOper c o e h with
  | none => rfl
  | some q =>
    obtain ⟨v, h'⟩ := q
    simp only [Option.bind_some]
theorem opsD_u (c : CallT) (d : Option Nat) (op : AOp) (r : List AOper) (e : Env) (h : H) : evOpsD c (⟨d, op, none⟩ :: r) e h = preD op.loud h (goOD c d r e (evOp c e h op)) := preD_goOD _ _ _ _ _
theorem opsD_g (c : CallT) (d : Option Nat) (op : AOp) (g : Nat) (w : Bool) (r : List AOper) (e : Env) (h : H) : evOpsD c (⟨d, op, some (g, w)⟩ :: r) e h = preD op.loud h (goOD c d r e (goG w c e h op (look e g))) := preD_goOD _ _ _ _ _
/-- A region that draws its order, with floats. -/
theorem C_dreg {c : CallT} {l : LoopT} {e e' : Env} {h h' : H} {gs : List H} (ord : List Nat) (ops : List AOper) (fl : List (Nat × List Nat)) (keep : List Nat) (h1 : evOpsD c ops e h = some (e', h', gs)) (h2 : stables c ops e' gs fl = true) : evC c l (.dreg ord ops fl keep) e h = some (.normal, restr e' keep, h') := by
  rw [evC, h1, Option.bind_some]
  dsimp only
  rw [if_pos h2]

theorem stables_c {c : CallT} {ops : List AOper} {e : Env} {gs : List H} {i : Nat} {ks : List Nat} {r : List (Nat × List Nat)} (h1 : ∀ k ∈ ks, stable1 c ops e gs i k = true) (h2 : stables c ops e gs r = true) : stables c ops e gs ((i, ks) :: r) = true := by
  simp only [stables, Bool.and_eq_true, List.all_eq_true]
  exact ⟨h1, h2⟩

theorem stable_of {c : CallT} {ops : List AOper} {e : Env} {gs : List H} {i k : Nat} {o : AOper} {g h' : H} {d : Nat} {u : AV} (ho : ops[i]? = some o) (hg : gs[k]? = some g) (hb : o.op.births = false) (hd : o.dst = some d) (hv : evOper c o e g = some (u, h')) (hu : AV.beq u (look e d) = true) : stable1 c ops e gs i k = true := by
  unfold stable1
  rw [ho, hg]
  dsimp only
  rw [hb]
  simp only [Bool.false_eq_true, if_false, hd, Option.map_some, hv]
  exact hu

theorem beq_int (k : IntKind) (n : Int) : AV.beq (.int k n) (.int k n) = true := by simp [AV.beq]
theorem beq_sobj (i o l z : Nat) : AV.beq (.sobj i o l z) (.sobj i o l z) = true := by simp [AV.beq]
theorem beq_pobj (i o : Nat) : AV.beq (.pobj i o) (.pobj i o) = true := by simp [AV.beq]
theorem beq_str (s : ByteArray) : AV.beq (.str s) (.str s) = true := by
  have : (s == s) = true := by
    obtain ⟨d⟩ := s
    show (d == d) = true
    exact beq_self_eq_true d
  simp [AV.beq, this]

theorem Own.apps {h : H} {v : AV} {cs : List AV} (o : Own h v cs) (hfn : h.floor ≤ h.next) {z : Nat} (bs : List AV) (hc : AV.allsc bs = true) (hb : 0 < bs.length) (hr : roomy z (cs.length + bs.length) = true) :
    ∃ v' h', aappc h 1 z v bs.length bs = some (v', h') ∧ Own h' v' (cs ++ bs) ∧ h'.floor = h.floor ∧ h.next ≤ h'.next ∧ (∀ i, v.id? ≠ some i → i ≠ h.next → h'.get i = h.get i) ∧ v'.id? = some h.next := by
  have hne : bs ≠ [] := by intro e; rw [e] at hb; simp at hb
  rcases o with ⟨rfl, rfl⟩ | ⟨id, rfl, hg, hf, hne'⟩
  · refine ⟨.sobj h.next 0 bs.length 1, h.alloc bs, ?_, .inr ⟨h.next, by simp, by simp [H.get_alloc], ?_, by simpa using hne⟩, by simp, by simp, fun i _ hi => by rw [H.get_alloc, if_neg hi], rfl⟩
    · unfold aappc
      rw [if_neg (by omega), if_neg (by simp [hc])]
      simp only [List.length_nil, Nat.zero_add] at hr
      simp only [hr, if_true]
    · simp; omega
  · refine ⟨.sobj h.next 0 (cs.length + bs.length) 1, (h.del id).alloc (cs ++ bs), ?_, .inr ⟨h.next, by simp, by simp [H.get_alloc], ?_, by simp [hne]⟩, by simp, by simp, fun i h1 h2 => ?_, rfl⟩
    · unfold aappc
      rw [if_neg (by omega), if_neg (by simp [hc])]
      simp only [hf, and_self, if_true, hg, Option.bind_some]
      rw [if_neg (by omega), if_pos ⟨by omega, hr⟩]
      simp
    · have := h.lt id cs hg; simp; omega
    · rw [H.get_alloc, H.next_del, if_neg h2, H.get_del, if_neg]
      intro e; subst e; exact h1 rfl

/-- The stream stays where nothing of it turns. -/
theorem St.keep {c : SC} {S : SS} {h h' : H} {ov : AV} (st : St c S h ov) (hf : h'.floor = h.floor) (hn : h.next ≤ h'.next) (hg : ∀ i, i = c.s ∨ i = c.r ∨ ov.id? = some i → h'.get i = h.get i) : St c S h' ov := by
  refine ⟨by rw [hg _ (.inl rfl)]; exact st.gs, by rw [hg _ (.inr (.inl rfl))]; exact st.gr, st.own.mono hf fun i hi => hg i (.inr (.inr hi)), st.sr, by rw [hf]; exact st.fs, by rw [hf]; exact st.fr, st.os, st.or, by rw [hf]; exact Nat.le_trans st.nx hn, st.sz, st.at_le, st.ol, st.ml⟩

theorem St.lt {c : SC} {S : SS} {h : H} {ov : AV} (st : St c S h ov) {i : Nat} (hi : i = c.s ∨ i = c.r ∨ ov.id? = some i) : i < h.next := by
  rcases hi with rfl | rfl | hi
  · exact h.lt _ _ st.gs
  · exact h.lt _ _ st.gr
  · exact st.own.lt hi

theorem St.alloc {c : SC} {S : SS} {h : H} {ov : AV} (st : St c S h ov) (cs : List AV) : St c S (h.alloc cs) ov ∧ Fr c h ov (h.alloc cs) ov := by
  refine ⟨st.keep (by simp) (by simp) fun i hi => ?_, ⟨by simp, by simp, fun id h1 _ _ _ => ?_, fun _ q => .inl q⟩⟩
  · have := st.lt hi; rw [H.get_alloc, if_neg (by omega)]
  · rw [H.get_alloc, if_neg (by omega)]

/-- What a length's symbol stands for. -/
def againS (c : SC) (y : Int) (acc : List Int) (S : SS) : (Int × Nat) × SS :=
  if y = 16 then (if acc = [] then ((0, 0), failS 700 S) else ((acc.getD (acc.length - 1) 0, 3 + (getS c 2 S).1), (getS c 2 S).2))
  else if y = 17 then ((0, 3 + (getS c 3 S).1), (getS c 3 S).2)
  else if y = 18 then ((0, 11 + (getS c 7 S).1), (getS c 7 S).2)
  else ((y, 1), S)

theorem getS_lt (c : SC) (S : SS) (n : Nat) (hn : n ≤ 16) : (getS c n S).1 < 65536 := by
  unfold getS; split
  · have := valAt_lt c.text S.at_ n
    have := Nat.pow_le_pow_right (show 0 < 2 by omega) hn
    simp at *; omega
  · simp

theorem ints_getD {l : List Int} {i : Nat} (h : i < l.length) : (ints l)[i]? = some (I (l.getD i 0)) := ints_get (by simp [List.getD, h])

theorem again_c {c : SC} {S : SS} {h : H} {ov : AV} (st : St c S h ov) (y : Int) {av : AV} {acc : List Int} (oa : Own h av (ints acc)) (ha : acc.length < 100000) (hne : ∀ i, av.id? = some i → i ≠ c.s ∧ i ≠ c.r ∧ ov.id? ≠ some i) :
    ∃ h', callW AP.A 80 [.pobj c.s 0, I y, av] h = some (.tup [I (againS c y acc S).1.1, I (againS c y acc S).1.2], h') ∧ St c (againS c y acc S).2 h' ov ∧ Fr c h ov h' ov := by
  have ln := oa.len
  rw [ints_length] at ln
  by_cases h16 : y = 16
  · have d16 := beq_t h16
    by_cases hnil : acc = []
    · obtain ⟨h', k1, k2, k3⟩ := fails_c st 700
      have e : againS c y acc S = ((0, 0), failS 700 S) := by rw [againS, if_pos h16, if_pos hnil]
      rw [e]
      refine ⟨h', ?_, k2, k3⟩
      have hz : ((acc.length : Int) == 0) = true := by rw [hnil]; rfl
      refine plain_c (fn := AP.f80) (e := [(6, I 0), (7, I 0)]) rfl rfl rfl ?_ rfl
      simp only [I] at *
      simp only [AP.f80, go_sem, abin_shl, abin_shr, Nat.reduceEqDiff, reduceIte, Nat.reduceAdd, Nat.reduceMul, Nat.reduceLT, Nat.reduceLeDiff, Int.reduceBEq, Int.reduceBNe, Int.reduceLT, Int.reduceLE, Int.reduceEq, d16, ln, hz, k1]
    · obtain ⟨h', k1, k2, k3⟩ := get_n st 2 2 rfl (by omega)
      have e : againS c y acc S = ((acc.getD (acc.length - 1) 0, 3 + (getS c 2 S).1), (getS c 2 S).2) := by rw [againS, if_pos h16, if_neg hnil]
      rw [e]
      have hpos : 0 < acc.length := List.length_pos_iff.2 hnil
      have hz : ((acc.length : Int) == 0) = false := beq_f (by omega)
      have hg := getS_lt c S 2 (by omega)
      have w1 : IntKind.wrap .i64 (3 + ((getS c 2 S).1 : Int)) = ((3 + (getS c 2 S).1 : Nat) : Int) := by
        rw [show (3 : Int) + ((getS c 2 S).1 : Int) = ((3 + (getS c 2 S).1 : Nat) : Int) by omega]; exact wrap_nat64 (by omega)
      have w2 : IntKind.wrap .i64 ((acc.length : Int) - 1) = ((acc.length - 1 : Nat) : Int) := by
        rw [show (acc.length : Int) - 1 = ((acc.length - 1 : Nat) : Int) by omega]; exact wrap_nat64 (by omega)
      have hel := ints_getD (l := acc) (i := acc.length - 1) (by omega)
      obtain ⟨id, i1, i2, i3⟩ := oa.elem hel
      have hid := hne id (by rw [i1]; rfl)
      have i4 : h'.get id = some (ints acc) := by rw [k3.oth id (h.lt _ _ i3) hid.1 hid.2.1 hid.2.2]; exact i3
      refine ⟨h', ?_, k2, k3⟩
      refine plain_c (fn := AP.f80) (e := [(6, I (acc.getD (acc.length - 1) 0)), (7, I (3 + (getS c 2 S).1 : Nat))]) rfl rfl rfl ?_ rfl
      generalize (getS c 2 S).1 = G at *
      clear i1
      simp only [I] at *
      simp only [AP.f80, go_sem, abin_shl, abin_shr, Nat.reduceEqDiff, reduceIte, Nat.reduceAdd, Nat.reduceMul, Nat.reduceLT, Nat.reduceLeDiff, Int.reduceBEq, Int.reduceBNe, Int.reduceLT, Int.reduceLE, Int.reduceEq, d16, ln, hz]
      rw [C_dreg (e' := [(7, .int .i64 ((3 + G : Nat) : Int)), (6, .int .i64 (acc.getD (acc.length - 1) 0)), (24, .int .i64 ((3 + G : Nat) : Int)), (23, .int .i64 G), (22, .pobj c.s 0), (21, .int .i64 (acc.getD (acc.length - 1) 0)), (20, .pobj id (acc.length - 1)), (19, .int .i64 (acc.length - 1 : Nat)), (18, .int .i64 acc.length), (17, av), (16, av), (0, .pobj c.s 0), (2, av)]) (h' := h') (gs := [h, h'])]
      · simp only [go_sem, abin_shl, abin_shr, Nat.reduceEqDiff, reduceIte, Nat.reduceAdd, Nat.reduceMul, Nat.reduceLT, Nat.reduceLeDiff, Int.reduceBEq, Int.reduceBNe, Int.reduceLT, Int.reduceLE, Int.reduceEq]
      · simp only [opsD_nil, opsD_u, goOD_s, preD_t, preD_f, AOp.loud, go_sem, abin_shl, abin_shr, Nat.reduceEqDiff, reduceIte, Nat.reduceAdd, Nat.reduceMul, Nat.reduceLT, Nat.reduceLeDiff, Int.reduceBEq, Int.reduceBNe, Int.reduceLT, Int.reduceLE, Int.reduceEq, ln, w2, i2, i3, hel, k1, w1]
      · refine stables_c (fun k hk => ?_) rfl
        obtain rfl : k = 1 := by simpa using hk
        refine stable_of (o := ⟨some 21, .load false 1 (.t 20), none⟩) (g := h') (h' := h') (d := 21) (u := .int .i64 (acc.getD (acc.length - 1) 0)) rfl rfl rfl rfl ?_ ?_
        · simp only [evOper, go_sem, abin_shl, abin_shr, Nat.reduceEqDiff, reduceIte, Nat.reduceAdd, Nat.reduceMul, Nat.reduceLT, Nat.reduceLeDiff, Int.reduceBEq, Int.reduceBNe, Int.reduceLT, Int.reduceLE, Int.reduceEq, i4, hel]
        · simp only [go_sem, abin_shl, abin_shr, Nat.reduceEqDiff, reduceIte, Nat.reduceAdd, Nat.reduceMul, Nat.reduceLT, Nat.reduceLeDiff, Int.reduceBEq, Int.reduceBNe, Int.reduceLT, Int.reduceLE, Int.reduceEq, beq_int]
  · have d16 := beq_f h16
    by_cases h17 : y = 17
    · have d17 := beq_t h17
      obtain ⟨h', k1, k2, k3⟩ := get_n st 3 3 rfl (by omega)
      have e : againS c y acc S = ((0, 3 + (getS c 3 S).1), (getS c 3 S).2) := by rw [againS, if_neg h16, if_pos h17]
      rw [e]
      have hg := getS_lt c S 3 (by omega)
      have w1 : IntKind.wrap .i64 (3 + ((getS c 3 S).1 : Int)) = ((3 + (getS c 3 S).1 : Nat) : Int) := by
        rw [show (3 : Int) + ((getS c 3 S).1 : Int) = ((3 + (getS c 3 S).1 : Nat) : Int) by omega]; exact wrap_nat64 (by omega)
      refine ⟨h', ?_, k2, k3⟩
      refine plain_c (fn := AP.f80) (e := [(6, I 0), (7, I (3 + (getS c 3 S).1 : Nat))]) rfl rfl rfl ?_ rfl
      simp only [I] at *
      simp only [AP.f80, go_sem, abin_shl, abin_shr, Nat.reduceEqDiff, reduceIte, Nat.reduceAdd, Nat.reduceMul, Nat.reduceLT, Nat.reduceLeDiff, Int.reduceBEq, Int.reduceBNe, Int.reduceLT, Int.reduceLE, Int.reduceEq, d16, d17, k1, w1]
    · have d17 := beq_f h17
      by_cases h18 : y = 18
      · have d18 := beq_t h18
        obtain ⟨h', k1, k2, k3⟩ := get_n st 7 7 rfl (by omega)
        have e : againS c y acc S = ((0, 11 + (getS c 7 S).1), (getS c 7 S).2) := by rw [againS, if_neg h16, if_neg h17, if_pos h18]
        rw [e]
        have hg := getS_lt c S 7 (by omega)
        have w1 : IntKind.wrap .i64 (11 + ((getS c 7 S).1 : Int)) = ((11 + (getS c 7 S).1 : Nat) : Int) := by
          rw [show (11 : Int) + ((getS c 7 S).1 : Int) = ((11 + (getS c 7 S).1 : Nat) : Int) by omega]; exact wrap_nat64 (by omega)
        refine ⟨h', ?_, k2, k3⟩
        refine plain_c (fn := AP.f80) (e := [(6, I 0), (7, I (11 + (getS c 7 S).1 : Nat))]) rfl rfl rfl ?_ rfl
        simp only [I] at *
        simp only [AP.f80, go_sem, abin_shl, abin_shr, Nat.reduceEqDiff, reduceIte, Nat.reduceAdd, Nat.reduceMul, Nat.reduceLT, Nat.reduceLeDiff, Int.reduceBEq, Int.reduceBNe, Int.reduceLT, Int.reduceLE, Int.reduceEq, d16, d17, d18, k1, w1]
      · have d18 := beq_f h18
        have e : againS c y acc S = ((y, 1), S) := by rw [againS, if_neg h16, if_neg h17, if_neg h18]
        rw [e]
        refine ⟨h, ?_, st, Fr.refl _ _ _⟩
        refine plain_c (fn := AP.f80) (e := [(6, I y), (7, I 1)]) rfl rfl rfl ?_ rfl
        simp only [I] at *
        simp only [AP.f80, go_sem, abin_shl, abin_shr, Nat.reduceEqDiff, reduceIte, Nat.reduceAdd, Nat.reduceMul, Nat.reduceLT, Nat.reduceLeDiff, Int.reduceBEq, Int.reduceBNe, Int.reduceLT, Int.reduceLE, Int.reduceEq, d16, d17, d18]
end Ab
