/- Part C2. -/
import Derived.KernelRfl
import Derived.Test.YtbihdlhgfnoejaaDoorC1
set_option linter.unusedSimpArgs false
set_option linter.unusedVariables false
set_option maxRecDepth 100000
namespace Ab
open Go
theorem wrap_u32 {n : Nat} (h : n < 4294967296) : IntKind.wrap .u32 (n : Int) = n := by
  have e : IntKind.wrap .u32 (n : Int) = (n : Int) % 4294967296 := by simp [IntKind.wrap, IntKind.bits, IntKind.signed]
  rw [e]; omega
theorem wrap_u32' (n : Int) : IntKind.wrap .u32 n = n % 4294967296 := by simp [IntKind.wrap, IntKind.bits, IntKind.signed]
theorem wu {n : Int} (h : 0 ≤ n ∧ n < 4294967296) : IntKind.wrap .u32 n = n := by rw [wrap_u32']; omega
theorem xor_lt32 {a b : Nat} (ha : a < 4294967296) (hb : b < 4294967296) : a ^^^ b < 4294967296 := Nat.xor_lt_two_pow (n := 32) ha hb
theorem bits_xor32 {a b : Nat} (ha : a < 4294967296) (hb : b < 4294967296) : bits .xor .u32 (a : Int) (b : Int) = ((a ^^^ b : Nat) : Int) := by
  have h3 := xor_lt32 ha hb
  show IntKind.wrap .u32 (((BitVec.ofInt 32 (a : Int) ^^^ BitVec.ofInt 32 (b : Int)).toNat : Nat) : Int) = _
  rw [BitVec.toNat_xor, bv_nat 32 a (by omega), bv_nat 32 b (by omega)]
  exact wrap_u32 h3
theorem bits_and32 {a : Nat} (ha : a < 4294967296) : bits .and .u32 (a : Int) 1 = ((a % 2 : Nat) : Int) := by
  show IntKind.wrap .u32 (((BitVec.ofInt 32 (a : Int) &&& BitVec.ofInt 32 ((1 : Nat) : Int)).toNat : Nat) : Int) = _
  rw [BitVec.toNat_and, bv_nat 32 a (by omega), bv_nat 32 1 (by omega), Nat.and_one_is_mod]
  exact wrap_u32 (by omega)
theorem shr_u32 {a : Nat} (ha : a < 4294967296) : shft .shr .u32 (a : Int) 1 = some (.int .u32 ((a / 2 : Nat) : Int)) := by
  unfold shft
  rw [if_neg (by omega)]
  have e : (2 : Int) ^ min (Int.toNat 1) IntKind.u32.bits = 2 := by decide
  rw [e]
  show some (AV.int .u32 _) = _
  rw [Int.fdiv_eq_ediv_of_nonneg _ (by omega)]
  rfl
theorem inv_u32 {h : H} {a : Nat} (ha : a < 4294967296) : invI h (.int .u32 (a : Int)) = some (.int .u32 ((4294967295 - a : Nat) : Int), h) := by
  rw [invI_s]
  have e : (if IntKind.u32.signed then -1 else IntKind.u32.max) = ((4294967295 : Nat) : Int) := by decide
  rw [e, bits_xor32 (by omega) ha]
  have h2 : 4294967295 ^^^ a = 4294967295 - a := by
    have h1 : a < 2 ^ 32 := by simpa using ha
    have : 4294967295 - a = 2 ^ 32 - (a + 1) := by omega
    rw [this]
    apply Nat.eq_of_testBit_eq
    intro i
    rw [Nat.testBit_two_pow_sub_succ h1, Nat.testBit_xor, show 4294967295 = 2 ^ 32 - 1 from rfl, Nat.testBit_two_pow_sub_one]
    by_cases hi : i < 32
    · simp [hi]
    · have : a.testBit i = false := Nat.testBit_lt_two_pow (Nat.lt_of_lt_of_le h1 (Nat.pow_le_pow_right (by omega) (by omega)))
      simp [hi, this]
  rw [h2]
def crcBit (c : Nat) : Nat := if c % 2 = 1 then (c / 2) ^^^ 3988292384 else c / 2
def crcBits : Nat → Nat → Nat
  | 0, c => c
  | n + 1, c => crcBits n (crcBit c)
def crcByte (c b : Nat) : Nat := crcBits 8 (c ^^^ b)
def crcRun (s : ByteArray) : Nat → Nat → Nat → Nat
  | 0, _, c => c
  | n + 1, i, c => crcRun s n (i + 1) (crcByte c (byN s i))
theorem crcBit_lt {c : Nat} (h : c < 4294967296) : crcBit c < 4294967296 := by
  unfold crcBit; split
  · exact xor_lt32 (by omega) (by omega)
  · omega
theorem crcBits_lt : ∀ (n : Nat) {c : Nat}, c < 4294967296 → crcBits n c < 4294967296
  | 0, _, h => h
  | n + 1, _, h => crcBits_lt n (crcBit_lt h)
theorem crcByte_lt {c b : Nat} (hc : c < 4294967296) (hb : b < 256) : crcByte c b < 4294967296 := crcBits_lt 8 (xor_lt32 hc (by omega))
theorem crcRun_lt (s : ByteArray) : ∀ (n i : Nat) {c : Nat}, c < 4294967296 → crcRun s n i c < 4294967296
  | 0, _, _, h => h
  | n + 1, i, _, h => crcRun_lt s n (i + 1) (crcByte_lt h (byN_lt s i))
theorem join_bits (a b d : AV) (h : H) : ∀ (n c k : Nat), k + n = 8 → c < 4294967296 →
    ∃ e', Lp AP.A [1, 5, 12, 13, 22] AP.f103L0 [(1, a), (5, .int .u32 c), (12, b), (13, d), (22, .int .i64 k)] h = some (.exit 2, e', h) ∧ look e' 1 = a ∧ look e' 5 = .int .u32 (crcBits n c : Nat) ∧ look e' 12 = b ∧ look e' 13 = d
  | 0, c, k, hk, hc => by
    refine ⟨[(1, a), (5, .int .u32 c), (12, b), (13, d), (22, .int .i64 k), (23, .bool false)], Lp_exit ?_, rfl, rfl, rfl, rfl⟩
    simp (disch := omega) only [go_sem, abin_shl, abin_shr, Nat.reduceEqDiff, reduceIte, Nat.reduceAdd, Nat.reduceMul, Nat.reduceLT, Nat.reduceLeDiff, Int.reduceBEq, Int.reduceBNe, Int.reduceLT, Int.reduceLE, Int.reduceEq, dt, df, eqt, eqf, net, nef, wi, wb, alen_str, idxs_at, tn_add, tn_nat, aix, get_hit, get_miss, set_hit, set_miss, H.floor_alloc, H.next_alloc, H.floor_set, H.next_set, stO_d, condO_t, fill_n, fill_c, fillS_s, bir_bslice, bir_alloc, bir_box, birB_s, repl_s, repl_z, List.map_cons, List.map_nil, setFrom_nil, setFrom_cons, allsc_nil, allsc_cons, Bool.and_true, Bool.true_and, Bool.and_self, List.append_nil, Option.map_some, Option.map_none, iadr_s, iadr_m, idP_s, idQ_s, bir_mksl, mkslB_s, alen_s, alen_n, alen_m, Bool.and_false, Bool.false_and, Bool.or_false, Bool.or_true, Bool.true_or, Bool.false_or, Bool.or_self, C_dregF, goD_s, goD2_t, stb_n, stb_c, stK_n, stK_c, stV_s, stB_f, beq_int, beq_bool, beq_tup0, beq_nils, beq_simm0, beq_str, beq_sobj, beq_pobj, opsD_nil, opsD_u, opsD_g, goOD_s, preD_t, preD_f, AOp.loud, AOp.births, st1_u, st1_g, Int.reduceAdd, Int.reduceSub, Int.reduceMul, Int.reduceNeg, Int.reduceToNat, eqbB_s, beq_refl, beqs_refl, stB_t, beO_s, stBv_t, stBv_p, stBv_o, st1b_alloc, st1b_box, st1b_bslice, st1b_mksl, AP.f103L0]
  | n + 1, c, k, hk, hc => by
    obtain ⟨e', r1, r2, r3, r4, r5⟩ := join_bits a b d h n (crcBit c) (k + 1) (by omega) (crcBit_lt hc)
    have n1 : ((k + 1 : Nat) : Int) = (k : Int) + 1 := by omega
    have x1 := bits_xor32 (a := c / 2) (b := 3988292384) (by omega) (by omega)
    have a1 := bits_and32 hc
    have s1 := shr_u32 hc
    refine ⟨e', Lp_next ?_ r1, r2, r3, r4, r5⟩
    rw [n1]
    unfold crcBit
    by_cases p : c % 2 = 1
    · rw [if_pos p]
      rw [show ((3988292384 : Nat) : Int) = 3988292384 from rfl] at x1
      simp (disch := omega) only [go_sem, abin_shl, abin_shr, Nat.reduceEqDiff, reduceIte, Nat.reduceAdd, Nat.reduceMul, Nat.reduceLT, Nat.reduceLeDiff, Int.reduceBEq, Int.reduceBNe, Int.reduceLT, Int.reduceLE, Int.reduceEq, dt, df, eqt, eqf, net, nef, wi, wb, alen_str, idxs_at, tn_add, tn_nat, aix, get_hit, get_miss, set_hit, set_miss, H.floor_alloc, H.next_alloc, H.floor_set, H.next_set, stO_d, condO_t, fill_n, fill_c, fillS_s, bir_bslice, bir_alloc, bir_box, birB_s, repl_s, repl_z, List.map_cons, List.map_nil, setFrom_nil, setFrom_cons, allsc_nil, allsc_cons, Bool.and_true, Bool.true_and, Bool.and_self, List.append_nil, Option.map_some, Option.map_none, iadr_s, iadr_m, idP_s, idQ_s, bir_mksl, mkslB_s, alen_s, alen_n, alen_m, Bool.and_false, Bool.false_and, Bool.or_false, Bool.or_true, Bool.true_or, Bool.false_or, Bool.or_self, C_dregF, goD_s, goD2_t, stb_n, stb_c, stK_n, stK_c, stV_s, stB_f, beq_int, beq_bool, beq_tup0, beq_nils, beq_simm0, beq_str, beq_sobj, beq_pobj, opsD_nil, opsD_u, opsD_g, goOD_s, preD_t, preD_f, AOp.loud, AOp.births, st1_u, st1_g, Int.reduceAdd, Int.reduceSub, Int.reduceMul, Int.reduceNeg, Int.reduceToNat, eqbB_s, beq_refl, beqs_refl, stB_t, beO_s, stBv_t, stBv_p, stBv_o, st1b_alloc, st1b_box, st1b_bslice, st1b_mksl, AP.f103L0, a1, s1, x1]
    · rw [if_neg p]
      simp (disch := omega) only [go_sem, abin_shl, abin_shr, Nat.reduceEqDiff, reduceIte, Nat.reduceAdd, Nat.reduceMul, Nat.reduceLT, Nat.reduceLeDiff, Int.reduceBEq, Int.reduceBNe, Int.reduceLT, Int.reduceLE, Int.reduceEq, dt, df, eqt, eqf, net, nef, wi, wb, alen_str, idxs_at, tn_add, tn_nat, aix, get_hit, get_miss, set_hit, set_miss, H.floor_alloc, H.next_alloc, H.floor_set, H.next_set, stO_d, condO_t, fill_n, fill_c, fillS_s, bir_bslice, bir_alloc, bir_box, birB_s, repl_s, repl_z, List.map_cons, List.map_nil, setFrom_nil, setFrom_cons, allsc_nil, allsc_cons, Bool.and_true, Bool.true_and, Bool.and_self, List.append_nil, Option.map_some, Option.map_none, iadr_s, iadr_m, idP_s, idQ_s, bir_mksl, mkslB_s, alen_s, alen_n, alen_m, Bool.and_false, Bool.false_and, Bool.or_false, Bool.or_true, Bool.true_or, Bool.false_or, Bool.or_self, C_dregF, goD_s, goD2_t, stb_n, stb_c, stK_n, stK_c, stV_s, stB_f, beq_int, beq_bool, beq_tup0, beq_nils, beq_simm0, beq_str, beq_sobj, beq_pobj, opsD_nil, opsD_u, opsD_g, goOD_s, preD_t, preD_f, AOp.loud, AOp.births, st1_u, st1_g, Int.reduceAdd, Int.reduceSub, Int.reduceMul, Int.reduceNeg, Int.reduceToNat, eqbB_s, beq_refl, beqs_refl, stB_t, beO_s, stBv_t, stBv_p, stBv_o, st1b_alloc, st1b_box, st1b_bslice, st1b_mksl, AP.f103L0, a1, s1]
theorem join_loop (s : ByteArray) (hs : s.size < 1125899906842624) (h : H) : ∀ (n i c : Nat), i + n = s.size → c < 4294967296 →
    ∃ e', Lp AP.A [1, 5, 12, 13] AP.f103L1 [(1, .str s), (5, .int .u32 c), (12, .int .i64 s.size), (13, .int .i64 i)] h = some (.exit 0, e', h) ∧ look e' 5 = .int .u32 (crcRun s n i c : Nat)
  | 0, i, c, hi, hc => by
    refine ⟨[(1, .str s), (5, .int .u32 c), (12, .int .i64 s.size), (13, .int .i64 i), (14, .bool false)], Lp_exit ?_, rfl⟩
    simp (disch := omega) only [go_sem, abin_shl, abin_shr, Nat.reduceEqDiff, reduceIte, Nat.reduceAdd, Nat.reduceMul, Nat.reduceLT, Nat.reduceLeDiff, Int.reduceBEq, Int.reduceBNe, Int.reduceLT, Int.reduceLE, Int.reduceEq, dt, df, eqt, eqf, net, nef, wi, wb, alen_str, idxs_at, tn_add, tn_nat, aix, get_hit, get_miss, set_hit, set_miss, H.floor_alloc, H.next_alloc, H.floor_set, H.next_set, stO_d, condO_t, fill_n, fill_c, fillS_s, bir_bslice, bir_alloc, bir_box, birB_s, repl_s, repl_z, List.map_cons, List.map_nil, setFrom_nil, setFrom_cons, allsc_nil, allsc_cons, Bool.and_true, Bool.true_and, Bool.and_self, List.append_nil, Option.map_some, Option.map_none, iadr_s, iadr_m, idP_s, idQ_s, bir_mksl, mkslB_s, alen_s, alen_n, alen_m, Bool.and_false, Bool.false_and, Bool.or_false, Bool.or_true, Bool.true_or, Bool.false_or, Bool.or_self, C_dregF, goD_s, goD2_t, stb_n, stb_c, stK_n, stK_c, stV_s, stB_f, beq_int, beq_bool, beq_tup0, beq_nils, beq_simm0, beq_str, beq_sobj, beq_pobj, opsD_nil, opsD_u, opsD_g, goOD_s, preD_t, preD_f, AOp.loud, AOp.births, st1_u, st1_g, Int.reduceAdd, Int.reduceSub, Int.reduceMul, Int.reduceNeg, Int.reduceToNat, eqbB_s, beq_refl, beqs_refl, stB_t, beO_s, stBv_t, stBv_p, stBv_o, st1b_alloc, st1b_box, st1b_bslice, st1b_mksl, AP.f103L1]
  | n + 1, i, c, hi, hc => by
    have hb := byN_lt s i
    obtain ⟨e', r1, r2⟩ := join_loop s hs h n (i + 1) (crcByte c (byN s i)) (by omega) (crcByte_lt hc hb)
    obtain ⟨e1, q1, q2, q3, q4, q5⟩ := join_bits (.str s) (.int .i64 s.size) (.int .i64 i) h 8 (c ^^^ byN s i) 0 rfl (xor_lt32 hc (by omega))
    have q1' : Lp AP.A [1, 5, 12, 13, 22] AP.f103L0 [(1, .str s), (5, .int .u32 (c ^^^ byN s i : Nat)), (12, .int .i64 s.size), (13, .int .i64 i), (22, .int .i64 0)] h = some (.exit 2, e1, h) := q1
    clear q1
    have x1 := bits_xor32 hc (show byN s i < 4294967296 by omega)
    have n1 : ((i + 1 : Nat) : Int) = (i : Int) + 1 := by omega
    refine ⟨e', Lp_next ?_ r1, r2⟩
    rw [n1]
    unfold crcByte
    simp (disch := omega) only [go_sem, abin_shl, abin_shr, Nat.reduceEqDiff, reduceIte, Nat.reduceAdd, Nat.reduceMul, Nat.reduceLT, Nat.reduceLeDiff, Int.reduceBEq, Int.reduceBNe, Int.reduceLT, Int.reduceLE, Int.reduceEq, dt, df, eqt, eqf, net, nef, wi, wb, alen_str, idxs_at, tn_add, tn_nat, aix, get_hit, get_miss, set_hit, set_miss, H.floor_alloc, H.next_alloc, H.floor_set, H.next_set, stO_d, condO_t, fill_n, fill_c, fillS_s, bir_bslice, bir_alloc, bir_box, birB_s, repl_s, repl_z, List.map_cons, List.map_nil, setFrom_nil, setFrom_cons, allsc_nil, allsc_cons, Bool.and_true, Bool.true_and, Bool.and_self, List.append_nil, Option.map_some, Option.map_none, iadr_s, iadr_m, idP_s, idQ_s, bir_mksl, mkslB_s, alen_s, alen_n, alen_m, Bool.and_false, Bool.false_and, Bool.or_false, Bool.or_true, Bool.true_or, Bool.false_or, Bool.or_self, C_dregF, goD_s, goD2_t, stb_n, stb_c, stK_n, stK_c, stV_s, stB_f, beq_int, beq_bool, beq_tup0, beq_nils, beq_simm0, beq_str, beq_sobj, beq_pobj, opsD_nil, opsD_u, opsD_g, goOD_s, preD_t, preD_f, AOp.loud, AOp.births, st1_u, st1_g, Int.reduceAdd, Int.reduceSub, Int.reduceMul, Int.reduceNeg, Int.reduceToNat, eqbB_s, beq_refl, beqs_refl, stB_t, beO_s, stBv_t, stBv_p, stBv_o, st1b_alloc, st1b_box, st1b_bslice, st1b_mksl, AP.f103L1, wu, x1, evC_loop, q1', q2, q3, q4, q5]
def joinA (a : Nat) (s : ByteArray) : Nat := 4294967295 - crcRun s s.size 0 (4294967295 - a)
theorem joinA_lt (a : Nat) (s : ByteArray) : joinA a s < 4294967296 := by unfold joinA; omega
theorem join_c (h : H) (s : ByteArray) (a : Nat) (ha : a < 4294967296) (hs : s.size < 1125899906842624) : callW AP.A 103 [.int .i64 a, .str s] h = some (.int .i64 (joinA a s : Nat), h) := by
  obtain ⟨e', r1, r2⟩ := join_loop s hs h.fence s.size 0 (4294967295 - a) (by omega) (by omega)
  have r1' : Lp AP.A [1, 5, 12, 13] AP.f103L1 [(1, .str s), (5, .int .u32 (4294967295 - a : Nat)), (12, .int .i64 s.size), (13, .int .i64 0)] h.fence = some (.exit 0, e', h.fence) := r1
  clear r1
  have lt := crcRun_lt s s.size 0 (c := 4294967295 - a) (by omega)
  have v1 : ∀ g : H, invI g (.int .u32 (a : Int)) = some (.int .u32 ((4294967295 - a : Nat) : Int), g) := fun g => inv_u32 ha
  have v2 : ∀ g : H, invI g (.int .u32 (crcRun s s.size 0 (4294967295 - a) : Nat)) = some (.int .u32 ((4294967295 - crcRun s s.size 0 (4294967295 - a) : Nat) : Int), g) := fun g => inv_u32 lt
  refine pure_c (fn := AP.f103) (h2 := h.fence) (e := [(4, .int .i64 (joinA a s : Nat))]) rfl rfl rfl ?_ rfl rfl
  unfold joinA
  simp (disch := omega) only [go_sem, abin_shl, abin_shr, Nat.reduceEqDiff, reduceIte, Nat.reduceAdd, Nat.reduceMul, Nat.reduceLT, Nat.reduceLeDiff, Int.reduceBEq, Int.reduceBNe, Int.reduceLT, Int.reduceLE, Int.reduceEq, dt, df, eqt, eqf, net, nef, wi, wb, alen_str, idxs_at, tn_add, tn_nat, aix, get_hit, get_miss, set_hit, set_miss, H.floor_alloc, H.next_alloc, H.floor_set, H.next_set, stO_d, condO_t, fill_n, fill_c, fillS_s, bir_bslice, bir_alloc, bir_box, birB_s, repl_s, repl_z, List.map_cons, List.map_nil, setFrom_nil, setFrom_cons, allsc_nil, allsc_cons, Bool.and_true, Bool.true_and, Bool.and_self, List.append_nil, Option.map_some, Option.map_none, iadr_s, iadr_m, idP_s, idQ_s, bir_mksl, mkslB_s, alen_s, alen_n, alen_m, Bool.and_false, Bool.false_and, Bool.or_false, Bool.or_true, Bool.true_or, Bool.false_or, Bool.or_self, C_dregF, goD_s, goD2_t, stb_n, stb_c, stK_n, stK_c, stV_s, stB_f, beq_int, beq_bool, beq_tup0, beq_nils, beq_simm0, beq_str, beq_sobj, beq_pobj, opsD_nil, opsD_u, opsD_g, goOD_s, preD_t, preD_f, AOp.loud, AOp.births, st1_u, st1_g, Int.reduceAdd, Int.reduceSub, Int.reduceMul, Int.reduceNeg, Int.reduceToNat, eqbB_s, beq_refl, beqs_refl, stB_t, beO_s, stBv_t, stBv_p, stBv_o, st1b_alloc, st1b_box, st1b_bslice, st1b_mksl, AP.f103, wu, v1, v2, evC_loop, r1', r2]
def isA (x : Int) : Bool := decide (0 ≤ x ∧ x ≤ 4294967295)
theorem is_c (h : H) (x : Int) : callW AP.A 105 [.int .i64 x] h = some (.bool (isA x), h) := by
  refine pure_c (fn := AP.f105) (h2 := h.fence) (e := [(2, .bool (isA x))]) rfl rfl rfl ?_ rfl rfl
  unfold isA
  by_cases c1 : 0 ≤ x
  · by_cases c2 : x ≤ 4294967295
    · simp (disch := omega) only [go_sem, abin_shl, abin_shr, Nat.reduceEqDiff, reduceIte, Nat.reduceAdd, Nat.reduceMul, Nat.reduceLT, Nat.reduceLeDiff, Int.reduceBEq, Int.reduceBNe, Int.reduceLT, Int.reduceLE, Int.reduceEq, dt, df, eqt, eqf, net, nef, wi, wb, alen_str, idxs_at, tn_add, tn_nat, aix, get_hit, get_miss, set_hit, set_miss, H.floor_alloc, H.next_alloc, H.floor_set, H.next_set, stO_d, condO_t, fill_n, fill_c, fillS_s, bir_bslice, bir_alloc, bir_box, birB_s, repl_s, repl_z, List.map_cons, List.map_nil, setFrom_nil, setFrom_cons, allsc_nil, allsc_cons, Bool.and_true, Bool.true_and, Bool.and_self, List.append_nil, Option.map_some, Option.map_none, iadr_s, iadr_m, idP_s, idQ_s, bir_mksl, mkslB_s, alen_s, alen_n, alen_m, Bool.and_false, Bool.false_and, Bool.or_false, Bool.or_true, Bool.true_or, Bool.false_or, Bool.or_self, C_dregF, goD_s, goD2_t, stb_n, stb_c, stK_n, stK_c, stV_s, stB_f, beq_int, beq_bool, beq_tup0, beq_nils, beq_simm0, beq_str, beq_sobj, beq_pobj, opsD_nil, opsD_u, opsD_g, goOD_s, preD_t, preD_f, AOp.loud, AOp.births, st1_u, st1_g, Int.reduceAdd, Int.reduceSub, Int.reduceMul, Int.reduceNeg, Int.reduceToNat, eqbB_s, beq_refl, beqs_refl, stB_t, beO_s, stBv_t, stBv_p, stBv_o, st1b_alloc, st1b_box, st1b_bslice, st1b_mksl, AP.f105]
    · simp (disch := omega) only [go_sem, abin_shl, abin_shr, Nat.reduceEqDiff, reduceIte, Nat.reduceAdd, Nat.reduceMul, Nat.reduceLT, Nat.reduceLeDiff, Int.reduceBEq, Int.reduceBNe, Int.reduceLT, Int.reduceLE, Int.reduceEq, dt, df, eqt, eqf, net, nef, wi, wb, alen_str, idxs_at, tn_add, tn_nat, aix, get_hit, get_miss, set_hit, set_miss, H.floor_alloc, H.next_alloc, H.floor_set, H.next_set, stO_d, condO_t, fill_n, fill_c, fillS_s, bir_bslice, bir_alloc, bir_box, birB_s, repl_s, repl_z, List.map_cons, List.map_nil, setFrom_nil, setFrom_cons, allsc_nil, allsc_cons, Bool.and_true, Bool.true_and, Bool.and_self, List.append_nil, Option.map_some, Option.map_none, iadr_s, iadr_m, idP_s, idQ_s, bir_mksl, mkslB_s, alen_s, alen_n, alen_m, Bool.and_false, Bool.false_and, Bool.or_false, Bool.or_true, Bool.true_or, Bool.false_or, Bool.or_self, C_dregF, goD_s, goD2_t, stb_n, stb_c, stK_n, stK_c, stV_s, stB_f, beq_int, beq_bool, beq_tup0, beq_nils, beq_simm0, beq_str, beq_sobj, beq_pobj, opsD_nil, opsD_u, opsD_g, goOD_s, preD_t, preD_f, AOp.loud, AOp.births, st1_u, st1_g, Int.reduceAdd, Int.reduceSub, Int.reduceMul, Int.reduceNeg, Int.reduceToNat, eqbB_s, beq_refl, beqs_refl, stB_t, beO_s, stBv_t, stBv_p, stBv_o, st1b_alloc, st1b_box, st1b_bslice, st1b_mksl, AP.f105]
  · simp (disch := omega) only [go_sem, abin_shl, abin_shr, Nat.reduceEqDiff, reduceIte, Nat.reduceAdd, Nat.reduceMul, Nat.reduceLT, Nat.reduceLeDiff, Int.reduceBEq, Int.reduceBNe, Int.reduceLT, Int.reduceLE, Int.reduceEq, dt, df, eqt, eqf, net, nef, wi, wb, alen_str, idxs_at, tn_add, tn_nat, aix, get_hit, get_miss, set_hit, set_miss, H.floor_alloc, H.next_alloc, H.floor_set, H.next_set, stO_d, condO_t, fill_n, fill_c, fillS_s, bir_bslice, bir_alloc, bir_box, birB_s, repl_s, repl_z, List.map_cons, List.map_nil, setFrom_nil, setFrom_cons, allsc_nil, allsc_cons, Bool.and_true, Bool.true_and, Bool.and_self, List.append_nil, Option.map_some, Option.map_none, iadr_s, iadr_m, idP_s, idQ_s, bir_mksl, mkslB_s, alen_s, alen_n, alen_m, Bool.and_false, Bool.false_and, Bool.or_false, Bool.or_true, Bool.true_or, Bool.false_or, Bool.or_self, C_dregF, goD_s, goD2_t, stb_n, stb_c, stK_n, stK_c, stV_s, stB_f, beq_int, beq_bool, beq_tup0, beq_nils, beq_simm0, beq_str, beq_sobj, beq_pobj, opsD_nil, opsD_u, opsD_g, goOD_s, preD_t, preD_f, AOp.loud, AOp.births, st1_u, st1_g, Int.reduceAdd, Int.reduceSub, Int.reduceMul, Int.reduceNeg, Int.reduceToNat, eqbB_s, beq_refl, beqs_refl, stB_t, beO_s, stBv_t, stBv_p, stBv_o, st1b_alloc, st1b_box, st1b_bslice, st1b_mksl, AP.f105]
def crcA (s : ByteArray) : Nat := joinA 0 s
theorem of_crc_c (h : H) (s : ByteArray) (hs : s.size < 1125899906842624) : callW AP.A 115 [.str s] h = some (.int .i64 (crcA s : Nat), h) := by
  have k1 := join_c h.fence s 0 (by omega) hs
  have k1' : callW AP.A 103 [.int .i64 0, .str s] h.fence = some (.int .i64 (crcA s : Nat), h.fence) := k1
  refine pure_c (fn := AP.f115) (h2 := h.fence) (e := [(2, .int .i64 (crcA s : Nat))]) rfl rfl rfl ?_ rfl rfl
  simp (disch := omega) only [go_sem, abin_shl, abin_shr, Nat.reduceEqDiff, reduceIte, Nat.reduceAdd, Nat.reduceMul, Nat.reduceLT, Nat.reduceLeDiff, Int.reduceBEq, Int.reduceBNe, Int.reduceLT, Int.reduceLE, Int.reduceEq, dt, df, eqt, eqf, net, nef, wi, wb, alen_str, idxs_at, tn_add, tn_nat, aix, get_hit, get_miss, set_hit, set_miss, H.floor_alloc, H.next_alloc, H.floor_set, H.next_set, stO_d, condO_t, fill_n, fill_c, fillS_s, bir_bslice, bir_alloc, bir_box, birB_s, repl_s, repl_z, List.map_cons, List.map_nil, setFrom_nil, setFrom_cons, allsc_nil, allsc_cons, Bool.and_true, Bool.true_and, Bool.and_self, List.append_nil, Option.map_some, Option.map_none, iadr_s, iadr_m, idP_s, idQ_s, bir_mksl, mkslB_s, alen_s, alen_n, alen_m, Bool.and_false, Bool.false_and, Bool.or_false, Bool.or_true, Bool.true_or, Bool.false_or, Bool.or_self, C_dregF, goD_s, goD2_t, stb_n, stb_c, stK_n, stK_c, stV_s, stB_f, beq_int, beq_bool, beq_tup0, beq_nils, beq_simm0, beq_str, beq_sobj, beq_pobj, opsD_nil, opsD_u, opsD_g, goOD_s, preD_t, preD_f, AOp.loud, AOp.births, st1_u, st1_g, Int.reduceAdd, Int.reduceSub, Int.reduceMul, Int.reduceNeg, Int.reduceToNat, eqbB_s, beq_refl, beqs_refl, stB_t, beO_s, stBv_t, stBv_p, stBv_o, st1b_alloc, st1b_box, st1b_bslice, st1b_mksl, AP.f115, k1']
theorem turn_bits (a d : AV) (h : H) : ∀ (n c k : Nat), k + n = 8 → c < 4294967296 →
    ∃ e', Lp AP.A [0, 1, 5, 6] AP.f111L0 [(0, .int .u32 c), (1, a), (5, d), (6, .int .i64 k)] h = some (.exit 2, e', h) ∧ look e' 1 = a ∧ look e' 0 = .int .u32 (crcBits n c : Nat) ∧ look e' 5 = d
  | 0, c, k, hk, hc => by
    refine ⟨[(0, .int .u32 c), (1, a), (5, d), (6, .int .i64 k), (20, .bool false)], Lp_exit ?_, rfl, rfl, rfl⟩
    simp (disch := omega) only [go_sem, abin_shl, abin_shr, Nat.reduceEqDiff, reduceIte, Nat.reduceAdd, Nat.reduceMul, Nat.reduceLT, Nat.reduceLeDiff, Int.reduceBEq, Int.reduceBNe, Int.reduceLT, Int.reduceLE, Int.reduceEq, dt, df, eqt, eqf, net, nef, wi, wb, alen_str, idxs_at, tn_add, tn_nat, aix, get_hit, get_miss, set_hit, set_miss, H.floor_alloc, H.next_alloc, H.floor_set, H.next_set, stO_d, condO_t, fill_n, fill_c, fillS_s, bir_bslice, bir_alloc, bir_box, birB_s, repl_s, repl_z, List.map_cons, List.map_nil, setFrom_nil, setFrom_cons, allsc_nil, allsc_cons, Bool.and_true, Bool.true_and, Bool.and_self, List.append_nil, Option.map_some, Option.map_none, iadr_s, iadr_m, idP_s, idQ_s, bir_mksl, mkslB_s, alen_s, alen_n, alen_m, Bool.and_false, Bool.false_and, Bool.or_false, Bool.or_true, Bool.true_or, Bool.false_or, Bool.or_self, C_dregF, goD_s, goD2_t, stb_n, stb_c, stK_n, stK_c, stV_s, stB_f, beq_int, beq_bool, beq_tup0, beq_nils, beq_simm0, beq_str, beq_sobj, beq_pobj, opsD_nil, opsD_u, opsD_g, goOD_s, preD_t, preD_f, AOp.loud, AOp.births, st1_u, st1_g, Int.reduceAdd, Int.reduceSub, Int.reduceMul, Int.reduceNeg, Int.reduceToNat, eqbB_s, beq_refl, beqs_refl, stB_t, beO_s, stBv_t, stBv_p, stBv_o, st1b_alloc, st1b_box, st1b_bslice, st1b_mksl, AP.f111L0]
  | n + 1, c, k, hk, hc => by
    obtain ⟨e', r1, r2, r3, r4⟩ := turn_bits a d h n (crcBit c) (k + 1) (by omega) (crcBit_lt hc)
    have n1 : ((k + 1 : Nat) : Int) = (k : Int) + 1 := by omega
    have x1 := bits_xor32 (a := c / 2) (b := 3988292384) (by omega) (by omega)
    have a1 := bits_and32 hc
    have s1 := shr_u32 hc
    refine ⟨e', Lp_next ?_ r1, r2, r3, r4⟩
    rw [n1]
    unfold crcBit
    by_cases p : c % 2 = 1
    · rw [if_pos p]
      rw [show ((3988292384 : Nat) : Int) = 3988292384 from rfl] at x1
      simp (disch := omega) only [go_sem, abin_shl, abin_shr, Nat.reduceEqDiff, reduceIte, Nat.reduceAdd, Nat.reduceMul, Nat.reduceLT, Nat.reduceLeDiff, Int.reduceBEq, Int.reduceBNe, Int.reduceLT, Int.reduceLE, Int.reduceEq, dt, df, eqt, eqf, net, nef, wi, wb, alen_str, idxs_at, tn_add, tn_nat, aix, get_hit, get_miss, set_hit, set_miss, H.floor_alloc, H.next_alloc, H.floor_set, H.next_set, stO_d, condO_t, fill_n, fill_c, fillS_s, bir_bslice, bir_alloc, bir_box, birB_s, repl_s, repl_z, List.map_cons, List.map_nil, setFrom_nil, setFrom_cons, allsc_nil, allsc_cons, Bool.and_true, Bool.true_and, Bool.and_self, List.append_nil, Option.map_some, Option.map_none, iadr_s, iadr_m, idP_s, idQ_s, bir_mksl, mkslB_s, alen_s, alen_n, alen_m, Bool.and_false, Bool.false_and, Bool.or_false, Bool.or_true, Bool.true_or, Bool.false_or, Bool.or_self, C_dregF, goD_s, goD2_t, stb_n, stb_c, stK_n, stK_c, stV_s, stB_f, beq_int, beq_bool, beq_tup0, beq_nils, beq_simm0, beq_str, beq_sobj, beq_pobj, opsD_nil, opsD_u, opsD_g, goOD_s, preD_t, preD_f, AOp.loud, AOp.births, st1_u, st1_g, Int.reduceAdd, Int.reduceSub, Int.reduceMul, Int.reduceNeg, Int.reduceToNat, eqbB_s, beq_refl, beqs_refl, stB_t, beO_s, stBv_t, stBv_p, stBv_o, st1b_alloc, st1b_box, st1b_bslice, st1b_mksl, AP.f111L0, a1, s1, x1]
    · rw [if_neg p]
      simp (disch := omega) only [go_sem, abin_shl, abin_shr, Nat.reduceEqDiff, reduceIte, Nat.reduceAdd, Nat.reduceMul, Nat.reduceLT, Nat.reduceLeDiff, Int.reduceBEq, Int.reduceBNe, Int.reduceLT, Int.reduceLE, Int.reduceEq, dt, df, eqt, eqf, net, nef, wi, wb, alen_str, idxs_at, tn_add, tn_nat, aix, get_hit, get_miss, set_hit, set_miss, H.floor_alloc, H.next_alloc, H.floor_set, H.next_set, stO_d, condO_t, fill_n, fill_c, fillS_s, bir_bslice, bir_alloc, bir_box, birB_s, repl_s, repl_z, List.map_cons, List.map_nil, setFrom_nil, setFrom_cons, allsc_nil, allsc_cons, Bool.and_true, Bool.true_and, Bool.and_self, List.append_nil, Option.map_some, Option.map_none, iadr_s, iadr_m, idP_s, idQ_s, bir_mksl, mkslB_s, alen_s, alen_n, alen_m, Bool.and_false, Bool.false_and, Bool.or_false, Bool.or_true, Bool.true_or, Bool.false_or, Bool.or_self, C_dregF, goD_s, goD2_t, stb_n, stb_c, stK_n, stK_c, stV_s, stB_f, beq_int, beq_bool, beq_tup0, beq_nils, beq_simm0, beq_str, beq_sobj, beq_pobj, opsD_nil, opsD_u, opsD_g, goOD_s, preD_t, preD_f, AOp.loud, AOp.births, st1_u, st1_g, Int.reduceAdd, Int.reduceSub, Int.reduceMul, Int.reduceNeg, Int.reduceToNat, eqbB_s, beq_refl, beqs_refl, stB_t, beO_s, stBv_t, stBv_p, stBv_o, st1b_alloc, st1b_box, st1b_bslice, st1b_mksl, AP.f111L0, a1, s1]
theorem turn_loop (s : ByteArray) (hs : s.size < 1125899906842624) (h : H) : ∀ (n i c : Nat), i + n = s.size → c < 4294967296 →
    ∃ e', Lp AP.A [0, 1, 5] AP.f111L1 [(0, .int .u32 c), (1, .str s), (5, .int .i64 i)] h = some (.exit 0, e', h) ∧ look e' 0 = .int .u32 (crcRun s n i c : Nat)
  | 0, i, c, hi, hc => by
    refine ⟨[(0, .int .u32 c), (1, .str s), (5, .int .i64 i), (10, .bool false)], Lp_exit ?_, rfl⟩
    simp (disch := omega) only [go_sem, abin_shl, abin_shr, Nat.reduceEqDiff, reduceIte, Nat.reduceAdd, Nat.reduceMul, Nat.reduceLT, Nat.reduceLeDiff, Int.reduceBEq, Int.reduceBNe, Int.reduceLT, Int.reduceLE, Int.reduceEq, dt, df, eqt, eqf, net, nef, wi, wb, alen_str, idxs_at, tn_add, tn_nat, aix, get_hit, get_miss, set_hit, set_miss, H.floor_alloc, H.next_alloc, H.floor_set, H.next_set, stO_d, condO_t, fill_n, fill_c, fillS_s, bir_bslice, bir_alloc, bir_box, birB_s, repl_s, repl_z, List.map_cons, List.map_nil, setFrom_nil, setFrom_cons, allsc_nil, allsc_cons, Bool.and_true, Bool.true_and, Bool.and_self, List.append_nil, Option.map_some, Option.map_none, iadr_s, iadr_m, idP_s, idQ_s, bir_mksl, mkslB_s, alen_s, alen_n, alen_m, Bool.and_false, Bool.false_and, Bool.or_false, Bool.or_true, Bool.true_or, Bool.false_or, Bool.or_self, C_dregF, goD_s, goD2_t, stb_n, stb_c, stK_n, stK_c, stV_s, stB_f, beq_int, beq_bool, beq_tup0, beq_nils, beq_simm0, beq_str, beq_sobj, beq_pobj, opsD_nil, opsD_u, opsD_g, goOD_s, preD_t, preD_f, AOp.loud, AOp.births, st1_u, st1_g, Int.reduceAdd, Int.reduceSub, Int.reduceMul, Int.reduceNeg, Int.reduceToNat, eqbB_s, beq_refl, beqs_refl, stB_t, beO_s, stBv_t, stBv_p, stBv_o, st1b_alloc, st1b_box, st1b_bslice, st1b_mksl, AP.f111L1]
  | n + 1, i, c, hi, hc => by
    have hb := byN_lt s i
    obtain ⟨e', r1, r2⟩ := turn_loop s hs h n (i + 1) (crcByte c (byN s i)) (by omega) (crcByte_lt hc hb)
    obtain ⟨e1, q1, q2, q3, q4⟩ := turn_bits (.str s) (.int .i64 i) h 8 (c ^^^ byN s i) 0 rfl (xor_lt32 hc (by omega))
    have q1' : Lp AP.A [0, 1, 5, 6] AP.f111L0 [(0, .int .u32 (c ^^^ byN s i : Nat)), (1, .str s), (5, .int .i64 i), (6, .int .i64 0)] h = some (.exit 2, e1, h) := q1
    clear q1
    have x1 := bits_xor32 hc (show byN s i < 4294967296 by omega)
    have n1 : ((i + 1 : Nat) : Int) = (i : Int) + 1 := by omega
    refine ⟨e', Lp_next ?_ r1, r2⟩
    rw [n1]
    unfold crcByte
    simp (disch := omega) only [go_sem, abin_shl, abin_shr, Nat.reduceEqDiff, reduceIte, Nat.reduceAdd, Nat.reduceMul, Nat.reduceLT, Nat.reduceLeDiff, Int.reduceBEq, Int.reduceBNe, Int.reduceLT, Int.reduceLE, Int.reduceEq, dt, df, eqt, eqf, net, nef, wi, wb, alen_str, idxs_at, tn_add, tn_nat, aix, get_hit, get_miss, set_hit, set_miss, H.floor_alloc, H.next_alloc, H.floor_set, H.next_set, stO_d, condO_t, fill_n, fill_c, fillS_s, bir_bslice, bir_alloc, bir_box, birB_s, repl_s, repl_z, List.map_cons, List.map_nil, setFrom_nil, setFrom_cons, allsc_nil, allsc_cons, Bool.and_true, Bool.true_and, Bool.and_self, List.append_nil, Option.map_some, Option.map_none, iadr_s, iadr_m, idP_s, idQ_s, bir_mksl, mkslB_s, alen_s, alen_n, alen_m, Bool.and_false, Bool.false_and, Bool.or_false, Bool.or_true, Bool.true_or, Bool.false_or, Bool.or_self, C_dregF, goD_s, goD2_t, stb_n, stb_c, stK_n, stK_c, stV_s, stB_f, beq_int, beq_bool, beq_tup0, beq_nils, beq_simm0, beq_str, beq_sobj, beq_pobj, opsD_nil, opsD_u, opsD_g, goOD_s, preD_t, preD_f, AOp.loud, AOp.births, st1_u, st1_g, Int.reduceAdd, Int.reduceSub, Int.reduceMul, Int.reduceNeg, Int.reduceToNat, eqbB_s, beq_refl, beqs_refl, stB_t, beO_s, stBv_t, stBv_p, stBv_o, st1b_alloc, st1b_box, st1b_bslice, st1b_mksl, AP.f111L1, wu, x1, evC_loop, q1', q2, q3, q4]
theorem turn_c (h : H) (s : ByteArray) (c : Nat) (hc : c < 4294967296) (hs : s.size < 1125899906842624) : callW AP.A 111 [.int .u32 c, .str s] h = some (.int .u32 (crcRun s s.size 0 c : Nat), h) := by
  obtain ⟨e', r1, r2⟩ := turn_loop s hs h.fence s.size 0 c (by omega) hc
  have r1' : Lp AP.A [0, 1, 5] AP.f111L1 [(0, .int .u32 c), (1, .str s), (5, .int .i64 0)] h.fence = some (.exit 0, e', h.fence) := r1
  clear r1
  refine pure_c (fn := AP.f111) (h2 := h.fence) (e := [(4, .int .u32 (crcRun s s.size 0 c : Nat))]) rfl rfl rfl ?_ rfl rfl
  simp (disch := omega) only [go_sem, abin_shl, abin_shr, Nat.reduceEqDiff, reduceIte, Nat.reduceAdd, Nat.reduceMul, Nat.reduceLT, Nat.reduceLeDiff, Int.reduceBEq, Int.reduceBNe, Int.reduceLT, Int.reduceLE, Int.reduceEq, dt, df, eqt, eqf, net, nef, wi, wb, alen_str, idxs_at, tn_add, tn_nat, aix, get_hit, get_miss, set_hit, set_miss, H.floor_alloc, H.next_alloc, H.floor_set, H.next_set, stO_d, condO_t, fill_n, fill_c, fillS_s, bir_bslice, bir_alloc, bir_box, birB_s, repl_s, repl_z, List.map_cons, List.map_nil, setFrom_nil, setFrom_cons, allsc_nil, allsc_cons, Bool.and_true, Bool.true_and, Bool.and_self, List.append_nil, Option.map_some, Option.map_none, iadr_s, iadr_m, idP_s, idQ_s, bir_mksl, mkslB_s, alen_s, alen_n, alen_m, Bool.and_false, Bool.false_and, Bool.or_false, Bool.or_true, Bool.true_or, Bool.false_or, Bool.or_self, C_dregF, goD_s, goD2_t, stb_n, stb_c, stK_n, stK_c, stV_s, stB_f, beq_int, beq_bool, beq_tup0, beq_nils, beq_simm0, beq_str, beq_sobj, beq_pobj, opsD_nil, opsD_u, opsD_g, goOD_s, preD_t, preD_f, AOp.loud, AOp.births, st1_u, st1_g, Int.reduceAdd, Int.reduceSub, Int.reduceMul, Int.reduceNeg, Int.reduceToNat, eqbB_s, beq_refl, beqs_refl, stB_t, beO_s, stBv_t, stBv_p, stBv_o, st1b_alloc, st1b_box, st1b_bslice, st1b_mksl, AP.f111, evC_loop, r1', r2]
theorem crc2_c (h : H) (s : ByteArray) (hs : s.size < 1125899906842624) : callW AP.A 101 [.str s] h = some (.int .i64 (crcA s : Nat), h) := by
  have k1 := turn_c h.fence s 4294967295 (by omega) hs
  have k1' : callW AP.A 111 [.int .u32 4294967295, .str s] h.fence = some (.int .u32 (crcRun s s.size 0 4294967295 : Nat), h.fence) := k1
  have lt := crcRun_lt s s.size 0 (c := 4294967295) (by omega)
  have v2 : ∀ g : H, invI g (.int .u32 (crcRun s s.size 0 4294967295 : Nat)) = some (.int .u32 (crcA s : Nat), g) := fun g => inv_u32 lt
  have lt2 := joinA_lt 0 s
  unfold crcA at v2 ⊢
  refine pure_c (fn := AP.f101) (h2 := h.fence) (e := [(2, .int .i64 (joinA 0 s : Nat))]) rfl rfl rfl ?_ rfl rfl
  simp (disch := omega) only [go_sem, abin_shl, abin_shr, Nat.reduceEqDiff, reduceIte, Nat.reduceAdd, Nat.reduceMul, Nat.reduceLT, Nat.reduceLeDiff, Int.reduceBEq, Int.reduceBNe, Int.reduceLT, Int.reduceLE, Int.reduceEq, dt, df, eqt, eqf, net, nef, wi, wb, alen_str, idxs_at, tn_add, tn_nat, aix, get_hit, get_miss, set_hit, set_miss, H.floor_alloc, H.next_alloc, H.floor_set, H.next_set, stO_d, condO_t, fill_n, fill_c, fillS_s, bir_bslice, bir_alloc, bir_box, birB_s, repl_s, repl_z, List.map_cons, List.map_nil, setFrom_nil, setFrom_cons, allsc_nil, allsc_cons, Bool.and_true, Bool.true_and, Bool.and_self, List.append_nil, Option.map_some, Option.map_none, iadr_s, iadr_m, idP_s, idQ_s, bir_mksl, mkslB_s, alen_s, alen_n, alen_m, Bool.and_false, Bool.false_and, Bool.or_false, Bool.or_true, Bool.true_or, Bool.false_or, Bool.or_self, C_dregF, goD_s, goD2_t, stb_n, stb_c, stK_n, stK_c, stV_s, stB_f, beq_int, beq_bool, beq_tup0, beq_nils, beq_simm0, beq_str, beq_sobj, beq_pobj, opsD_nil, opsD_u, opsD_g, goOD_s, preD_t, preD_f, AOp.loud, AOp.births, st1_u, st1_g, Int.reduceAdd, Int.reduceSub, Int.reduceMul, Int.reduceNeg, Int.reduceToNat, eqbB_s, beq_refl, beqs_refl, stB_t, beO_s, stBv_t, stBv_p, stBv_o, st1b_alloc, st1b_box, st1b_bslice, st1b_mksl, AP.f101, k1', v2]
end Ab
set_option linter.unusedSimpArgs false
set_option linter.unusedVariables false
set_option maxRecDepth 100000
namespace Ab
open Go
theorem shr_i64n {a s : Nat} (hs : s ≤ 64) : shft .shr .i64 (a : Int) (s : Int) = some (.int .i64 ((a / 2 ^ s : Nat) : Int)) := by
  unfold shft
  rw [if_neg (by omega)]
  simp only [IntKind.bits, Int.toNat_natCast, Nat.min_eq_left hs]
  rw [Int.fdiv_eq_ediv_of_nonneg _ (Int.pow_nonneg (by omega))]
  simp
theorem wrap_u8n (n : Nat) : IntKind.wrap .u8 (n : Int) = ((n % 256 : Nat) : Int) := by rw [wrap_u8']; omega
def lowAt (x i : Nat) : Nat := x / 2 ^ (8 * i) % 256
def lowL (x k : Nat) : List Nat := (List.range k).map (lowAt x)
theorem lowL_succ (x k : Nat) : lowL x (k + 1) = lowL x k ++ [lowAt x k] := by simp [lowL, List.range_succ]
theorem lowL_len (x k : Nat) : (lowL x k).length = k := by simp [lowL]
def lowA (x k : Nat) : ByteArray := bytesOf (lowL x k)
theorem b2s_ownN {h : H} {v : AV} {k : Nat} {l : List Nat} (o : OwnN 1 h v k (bys l)) : b2sB h v (srcCells h 1 v) = some (.str (bytesOf l), h) := by
  rw [o.rd.1]
  simp only [b2sB, Option.bind_some, b2s_bys]
  rcases o.2 with ⟨rfl, _⟩ | ⟨id, rfl, _⟩ <;> rfl
theorem bys_append (a b : List Nat) : bys (a ++ b) = bys a ++ bys b := by simp [bys]
theorem low_loop (x k id : Nat) (hk : k ≤ 8) : ∀ (m i : Nat) (h : H), i + m = k → h.get id = some (bys (lowL x i ++ List.replicate m 0)) → h.floor ≤ id →
    ∃ e' h', Lp AP.A [0, 5, 10, 11] AP.f104L0 [(0, .int .i64 x), (5, .sobj id 0 k 1), (10, .int .i64 k), (11, .int .i64 i)] h = some (.exit 0, e', h') ∧ look e' 5 = .sobj id 0 k 1 ∧ h'.get id = some (bys (lowL x k)) ∧ h'.floor = h.floor
  | 0, i, h, hi, hg, hf => by
    obtain rfl : i = k := by omega
    refine ⟨[(0, .int .i64 x), (5, .sobj id 0 i 1), (10, .int .i64 i), (11, .int .i64 i), (12, .bool false)], h, Lp_exit ?_, rfl, by simpa using hg, rfl⟩
    simp (disch := omega) only [go_sem, abin_shl, abin_shr, Nat.reduceEqDiff, reduceIte, Nat.reduceAdd, Nat.reduceMul, Nat.reduceLT, Nat.reduceLeDiff, Int.reduceBEq, Int.reduceBNe, Int.reduceLT, Int.reduceLE, Int.reduceEq, dt, df, eqt, eqf, net, nef, wi, wb, alen_str, idxs_at, tn_add, tn_nat, aix, get_hit, get_miss, set_hit, set_miss, H.floor_alloc, H.next_alloc, H.floor_set, H.next_set, stO_d, condO_t, fill_n, fill_c, fillS_s, bir_bslice, bir_alloc, bir_box, birB_s, repl_s, repl_z, List.map_cons, List.map_nil, setFrom_nil, setFrom_cons, allsc_nil, allsc_cons, Bool.and_true, Bool.true_and, Bool.and_self, List.append_nil, Option.map_some, Option.map_none, iadr_s, iadr_m, idP_s, idQ_s, bir_mksl, mkslB_s, alen_s, alen_n, alen_m, Bool.and_false, Bool.false_and, Bool.or_false, Bool.or_true, Bool.true_or, Bool.false_or, Bool.or_self, C_dregF, goD_s, goD2_t, stb_n, stb_c, stK_n, stK_c, stV_s, stB_f, beq_int, beq_bool, beq_tup0, beq_nils, beq_simm0, beq_str, beq_sobj, beq_pobj, opsD_nil, opsD_u, opsD_g, goOD_s, preD_t, preD_f, AOp.loud, AOp.births, st1_u, st1_g, Int.reduceAdd, Int.reduceSub, Int.reduceMul, Int.reduceNeg, Int.reduceToNat, eqbB_s, beq_refl, beqs_refl, stB_t, beO_s, stBv_t, stBv_p, stBv_o, st1b_alloc, st1b_box, st1b_bslice, st1b_mksl, AP.f104L0]
  | m + 1, i, h, hi, hg, hf => by
    have g2 : (h.set id (bys (lowL x (i + 1) ++ List.replicate m 0))).get id = some (bys (lowL x (i + 1) ++ List.replicate m 0)) := by rw [set_hit rfl, hg]; rfl
    obtain ⟨e', h', r1, r2, r3, r4⟩ := low_loop x k id hk m (i + 1) _ (by omega) g2 (by simpa using hf)
    have n1 : ((i + 1 : Nat) : Int) = (i : Int) + 1 := by omega
    have n2 : (8 : Int) * (i : Int) = ((8 * i : Nat) : Int) := by omega
    have s1 := shr_i64n (a := x) (s := 8 * i) (by omega)
    have w1 := wrap_u8n (x / 2 ^ (8 * i))
    have st : stO h id i 1 [.int .u8 ((x / 2 ^ (8 * i) % 256 : Nat) : Int)] (some (bys (lowL x i ++ List.replicate (m + 1) 0))) = some (h.set id (bys (lowL x (i + 1) ++ List.replicate m 0))) := by
      rw [stO_1 hf (by simp [lowL_len]) rfl]
      congr 2
      rw [lowL_succ, bys_append, bys_append, bys_append, List.set_append_right _ _ (by simp [lowL_len]), List.append_assoc]
      simp [lowL_len, bys, List.replicate_succ, lowAt]
    refine ⟨e', h', Lp_next ?_ r1, r2, r3, by rw [r4]; simp⟩
    rw [n1]
    simp (disch := omega) only [go_sem, abin_shl, abin_shr, Nat.reduceEqDiff, reduceIte, Nat.reduceAdd, Nat.reduceMul, Nat.reduceLT, Nat.reduceLeDiff, Int.reduceBEq, Int.reduceBNe, Int.reduceLT, Int.reduceLE, Int.reduceEq, dt, df, eqt, eqf, net, nef, wi, wb, alen_str, idxs_at, tn_add, tn_nat, aix, get_hit, get_miss, set_hit, set_miss, H.floor_alloc, H.next_alloc, H.floor_set, H.next_set, stO_d, condO_t, fill_n, fill_c, fillS_s, bir_bslice, bir_alloc, bir_box, birB_s, repl_s, repl_z, List.map_cons, List.map_nil, setFrom_nil, setFrom_cons, allsc_nil, allsc_cons, Bool.and_true, Bool.true_and, Bool.and_self, List.append_nil, Option.map_some, Option.map_none, iadr_s, iadr_m, idP_s, idQ_s, bir_mksl, mkslB_s, alen_s, alen_n, alen_m, Bool.and_false, Bool.false_and, Bool.or_false, Bool.or_true, Bool.true_or, Bool.false_or, Bool.or_self, C_dregF, goD_s, goD2_t, stb_n, stb_c, stK_n, stK_c, stV_s, stB_f, beq_int, beq_bool, beq_tup0, beq_nils, beq_simm0, beq_str, beq_sobj, beq_pobj, opsD_nil, opsD_u, opsD_g, goOD_s, preD_t, preD_f, AOp.loud, AOp.births, st1_u, st1_g, Int.reduceAdd, Int.reduceSub, Int.reduceMul, Int.reduceNeg, Int.reduceToNat, eqbB_s, beq_refl, beqs_refl, stB_t, beO_s, stBv_t, stBv_p, stBv_o, st1b_alloc, st1b_box, st1b_bslice, st1b_mksl, AP.f104L0, n2, s1, w1, hg, st]
theorem low_c (h : H) (x k : Nat) (hk : k ≤ 8) (hk0 : 0 < k) : callW AP.A 104 [.int .i64 x, .int .i64 k] h = some (.str (lowA x k), h) := by
  obtain ⟨h1, eh1⟩ : ∃ g, g = h.fence.alloc (replM k [.int .u8 0]) := ⟨_, rfl⟩
  have hz : replM k [.int .u8 0] = bys (lowL x 0 ++ List.replicate k 0) := by
    unfold replM; rw [repl_1]; simp [bys, lowL]
  have g1 : h1.get h.next = some (bys (lowL x 0 ++ List.replicate k 0)) := by rw [eh1, get_hit (by simp), hz]
  obtain ⟨e', h', r1, r2, r3, r4⟩ := low_loop x k h.next hk k 0 h1 (by omega) g1 (by rw [eh1]; simp)
  have r1' : Lp AP.A [0, 5, 10, 11] AP.f104L0 [(0, .int .i64 x), (5, .sobj h.next 0 k 1), (10, .int .i64 k), (11, .int .i64 0)] h1 = some (.exit 0, e', h') := r1
  clear r1
  have o : OwnN 1 h' (.sobj h.next 0 k 1) k (bys (lowL x k)) := ⟨by simp [lowL_len], .inr ⟨h.next, rfl, r3, by rw [r4, eh1]; simp, hk0⟩⟩
  have b := b2s_ownN o
  have hn : h.fence.next = h.next := rfl
  refine pure_c (fn := AP.f104) (h2 := h') (e := [(4, .str (lowA x k))]) rfl rfl rfl ?_ rfl rfl
  unfold lowA
  simp (disch := omega) only [go_sem, abin_shl, abin_shr, Nat.reduceEqDiff, reduceIte, Nat.reduceAdd, Nat.reduceMul, Nat.reduceLT, Nat.reduceLeDiff, Int.reduceBEq, Int.reduceBNe, Int.reduceLT, Int.reduceLE, Int.reduceEq, dt, df, eqt, eqf, net, nef, wi, wb, alen_str, idxs_at, tn_add, tn_nat, aix, get_hit, get_miss, set_hit, set_miss, H.floor_alloc, H.next_alloc, H.floor_set, H.next_set, stO_d, condO_t, fill_n, fill_c, fillS_s, bir_bslice, bir_alloc, bir_box, birB_s, repl_s, repl_z, List.map_cons, List.map_nil, setFrom_nil, setFrom_cons, allsc_nil, allsc_cons, Bool.and_true, Bool.true_and, Bool.and_self, List.append_nil, Option.map_some, Option.map_none, iadr_s, iadr_m, idP_s, idQ_s, bir_mksl, mkslB_s, alen_s, alen_n, alen_m, Bool.and_false, Bool.false_and, Bool.or_false, Bool.or_true, Bool.true_or, Bool.false_or, Bool.or_self, C_dregF, goD_s, goD2_t, stb_n, stb_c, stK_n, stK_c, stV_s, stB_f, beq_int, beq_bool, beq_tup0, beq_nils, beq_simm0, beq_str, beq_sobj, beq_pobj, opsD_nil, opsD_u, opsD_g, goOD_s, preD_t, preD_f, AOp.loud, AOp.births, st1_u, st1_g, Int.reduceAdd, Int.reduceSub, Int.reduceMul, Int.reduceNeg, Int.reduceToNat, eqbB_s, beq_refl, beqs_refl, stB_t, beO_s, stBv_t, stBv_p, stBv_o, st1b_alloc, st1b_box, st1b_bslice, st1b_mksl, AP.f104, evC_loop, hn, ← eh1, r1', r2, b]
end Ab
set_option linter.unusedSimpArgs false
set_option linter.unusedVariables false
namespace Ab
open Go
theorem toList_data (a : ByteArray) : a.toList = a.data.toList := by
  have key : ∀ (n i : Nat) (r : List UInt8), a.size - i = n → ByteArray.toList.loop a i r = r.reverse ++ a.data.toList.drop i := by
    intro n
    induction n with
    | zero =>
      intro i r h
      unfold ByteArray.toList.loop
      rw [if_neg (by omega), List.drop_eq_nil_of_le (by show a.data.toList.length ≤ i; have : a.data.toList.length = a.size := rfl; omega)]; simp
    | succ n ih =>
      intro i r h
      unfold ByteArray.toList.loop
      have hi : i < a.data.toList.length := by show i < a.size; omega
      rw [if_pos (by omega), ih (i + 1) _ (by omega), List.drop_eq_getElem_cons hi]
      have hi' : i < a.data.size := hi
      simp [ByteArray.get!, getElem!_pos a.data i hi']
  unfold ByteArray.toList
  rw [key a.size 0 [] (by omega)]; simp
theorem str_eql (a b : ByteArray) : abin .eql (.str a) (.str b) = some (.bool (a.data.toList == b.data.toList)) := by
  simp only [abin, binStr, toList_data]
theorem str_neq (a b : ByteArray) : abin .neq (.str a) (.str b) = some (.bool (!(a.data.toList == b.data.toList))) := by
  simp only [abin, binStr, toList_data]
theorem num_c (h : H) (n : Int) : callW AP.A 9 [I n] h = some (I n, h) := by
  refine pure_c (fn := AP.f9) (h2 := h.fence) (e := [(2, I n)]) rfl rfl rfl ?_ rfl rfl
  simp only [I] at *
  simp only [AP.f9, go_sem, abin_shl, abin_shr, Nat.reduceEqDiff, reduceIte, Nat.reduceAdd, Nat.reduceMul, Nat.reduceLT, Nat.reduceLeDiff, Int.reduceBEq, Int.reduceBNe, Int.reduceLT, Int.reduceLE, Int.reduceEq]
end Ab
set_option linter.unusedSimpArgs false
set_option linter.unusedVariables false
namespace Ab
open Go
theorem Own.set {h : H} {v : AV} {cs : List AV} (o : Own h v cs) {i : Nat} (hi : i < cs.length) (x : AV) : ∃ id, v = .sobj id 0 cs.length 1 ∧ h.get id = some cs ∧ h.floor ≤ id ∧ Own (h.set id (cs.set i x)) v (cs.set i x) := by
  rcases o with ⟨rfl, rfl⟩ | ⟨id, rfl, h1, h2, h3⟩
  · simp at hi
  · exact ⟨id, rfl, h1, h2, .inr ⟨id, by simp, by rw [H.get_set, if_pos rfl, h1]; rfl, by simpa using h2, by intro e; apply h3; have := congrArg List.length e; simpa using this⟩⟩
end Ab
set_option linter.unusedSimpArgs false
set_option linter.unusedVariables false
namespace Ab
open Go
theorem abin_strAdd {x y : ByteArray} (h : x.size + y.size ≤ 9223372036854775807) : abin .add (.str x) (.str y) = some (.str (x ++ y)) := by
  simp only [abin, binStr, if_pos h]
end Ab
set_option linter.unusedSimpArgs false
set_option linter.unusedVariables false
namespace Ab
open Go
structure Pre (a t : ByteArray) : Prop where
  sz : a.size ≤ t.size
  bit : ∀ i, i < 8 * a.size → bitAt a i = bitAt t i
section
variable {a t : ByteArray} (h : Pre a t)
include h
end
end Ab
set_option linter.unusedSimpArgs false
set_option linter.unusedVariables false
namespace Ab
open Go
variable {t : ByteArray} {most most' : Int}
end Ab
set_option linter.unusedSimpArgs false
set_option linter.unusedVariables false
namespace Ab
open Go
theorem asls_hi {s : ByteArray} {n : Nat} (hn : n ≤ s.size) : asls (.str s) none (some (I n)) = some (.str (s.extract 0 n)) := by
  have : sbound (I n) s.size = some n := sb_of hn
  simp [asls, osbound, this]
theorem bytesOf_size (l : List Nat) : (bytesOf l).size = l.length := by
  show (l.map UInt8.ofNat).toArray.size = _
  simp
end Ab
set_option linter.unusedSimpArgs false
set_option linter.unusedVariables false
set_option maxRecDepth 100000
namespace Ab
open Go
theorem aixk {k : IntKind} {i : Int} {n : Nat} (h : 0 ≤ i ∧ i < n) : aidx (.int k i) n = some i.toNat := by simp [aidx, asI, h]
def okB (b : Nat) : Bool := decide (97 ≤ b ∧ b ≤ 122 ∨ 48 ≤ b ∧ b ≤ 57 ∨ b = 46 ∨ b = 45 ∨ b = 95)
def setB (s : ByteArray) : Nat → Nat → Bool
  | 0, _ => false
  | n + 1, i => decide (i = byN s n) || setB s n i
def ofS : ByteArray := ⟨#[97, 98, 99, 100, 101, 102, 103, 104, 105, 106, 107, 108, 109, 110, 111, 112, 113, 114, 115, 116, 117, 118, 119, 120, 121, 122, 48, 49, 50, 51, 52, 53, 54, 55, 56, 57, 46, 45, 95]⟩
def bT (P : Nat → Bool) : List AV := tab 256 fun i => .bool (P i)
theorem bT_len (P : Nat → Bool) : (bT P).length = 256 := by simp [bT]
theorem bT_get (P : Nat → Bool) {i : Nat} (h : i < 256) : (bT P)[i]? = some (.bool (P i)) := tab_get h
theorem bT_set (s : ByteArray) (n : Nat) : (bT (setB s n)).set (byN s n) (.bool true) = bT (setB s (n + 1)) := by
  unfold bT
  rw [tab_set (byN_lt s n)]
  congr 1
  funext i
  have e : setB s (n + 1) i = (decide (i = byN s n) || setB s n i) := rfl
  rw [e]
  unfold upd
  by_cases h : i = byN s n
  · simp [h]
  · simp [h]
theorem bT_of : bT (setB ofS 39) = bT okB := by
  unfold bT tab
  refine List.map_congr_left fun i hi => ?_
  have hi' : i < 256 := List.mem_range.1 hi
  have : ∀ i, i < 256 → setB ofS 39 i = okB i := by decide +kernel
  rw [this i hi']
theorem mapO_bools (g : Nat → Option (List AV)) (fl n : Nat) (t : Bool) : ∀ l : List Bool, mapO (snap g fl (n + 1) t) (l.map .bool) = some (l.map .bool)
  | [] => rfl
  | b :: l => by
    have := mapO_bools g fl n t l
    simp only [List.map_cons, mapO, this]; rfl
theorem mapO_bT (g : Nat → Option (List AV)) (fl n : Nat) (t : Bool) (P : Nat → Bool) : mapO (snap g fl (n + 1) t) (bT P) = some (bT P) := by
  have e : bT P = ((List.range 256).map P).map .bool := by unfold bT tab; rw [List.map_map]; rfl
  rw [e]; exact mapO_bools g fl n t _
theorem bir_al (e : Env) : birth e (.alloc [.bool false, .bool false, .bool false, .bool false, .bool false, .bool false, .bool false, .bool false, .bool false, .bool false, .bool false, .bool false, .bool false, .bool false, .bool false, .bool false, .bool false, .bool false, .bool false, .bool false, .bool false, .bool false, .bool false, .bool false, .bool false, .bool false, .bool false, .bool false, .bool false, .bool false, .bool false, .bool false, .bool false, .bool false, .bool false, .bool false, .bool false, .bool false, .bool false, .bool false, .bool false, .bool false, .bool false, .bool false, .bool false, .bool false, .bool false, .bool false, .bool false, .bool false, .bool false, .bool false, .bool false, .bool false, .bool false, .bool false, .bool false, .bool false, .bool false, .bool false, .bool false, .bool false, .bool false, .bool false, .bool false, .bool false, .bool false, .bool false, .bool false, .bool false, .bool false, .bool false, .bool false, .bool false, .bool false, .bool false, .bool false, .bool false, .bool false, .bool false, .bool false, .bool false, .bool false, .bool false, .bool false, .bool false, .bool false, .bool false, .bool false, .bool false, .bool false, .bool false, .bool false, .bool false, .bool false, .bool false, .bool false, .bool false, .bool false, .bool false, .bool false, .bool false, .bool false, .bool false, .bool false, .bool false, .bool false, .bool false, .bool false, .bool false, .bool false, .bool false, .bool false, .bool false, .bool false, .bool false, .bool false, .bool false, .bool false, .bool false, .bool false, .bool false, .bool false, .bool false, .bool false, .bool false, .bool false, .bool false, .bool false, .bool false, .bool false, .bool false, .bool false, .bool false, .bool false, .bool false, .bool false, .bool false, .bool false, .bool false, .bool false, .bool false, .bool false, .bool false, .bool false, .bool false, .bool false, .bool false, .bool false, .bool false, .bool false, .bool false, .bool false, .bool false, .bool false, .bool false, .bool false, .bool false, .bool false, .bool false, .bool false, .bool false, .bool false, .bool false, .bool false, .bool false, .bool false, .bool false, .bool false, .bool false, .bool false, .bool false, .bool false, .bool false, .bool false, .bool false, .bool false, .bool false, .bool false, .bool false, .bool false, .bool false, .bool false, .bool false, .bool false, .bool false, .bool false, .bool false, .bool false, .bool false, .bool false, .bool false, .bool false, .bool false, .bool false, .bool false, .bool false, .bool false, .bool false, .bool false, .bool false, .bool false, .bool false, .bool false, .bool false, .bool false, .bool false, .bool false, .bool false, .bool false, .bool false, .bool false, .bool false, .bool false, .bool false, .bool false, .bool false, .bool false, .bool false, .bool false, .bool false, .bool false, .bool false, .bool false, .bool false, .bool false, .bool false, .bool false, .bool false, .bool false, .bool false, .bool false, .bool false, .bool false, .bool false, .bool false, .bool false, .bool false, .bool false, .bool false, .bool false, .bool false, .bool false, .bool false, .bool false, .bool false, .bool false, .bool false, .bool false, .bool false, .bool false, .bool false, .bool false, .bool false, .bool false, .bool false]) = some (bT fun _ => false, fun i => .pobj i 0) := rfl
theorem mk_loop (s : ByteArray) (hs : s.size < 100000) (h7 : ∀ i, i < s.size → byN s i < 128) (id : Nat) : ∀ (m n : Nat) (h : H), n + m = s.size → h.get id = some (bT (setB s n)) → h.floor ≤ id →
    ∃ e' h', Lp AP.A [0, 2, 4] AP.f127L0 [(0, .str s), (2, .pobj id 0), (4, .int .i64 n)] h = some (.exit 0, e', h') ∧ look e' 2 = .pobj id 0 ∧ h'.get id = some (bT (setB s s.size)) ∧ h'.floor = h.floor
  | 0, n, h, hn, hg, hf => by
    obtain rfl : n = s.size := by omega
    refine ⟨[(0, .str s), (2, .pobj id 0), (4, .int .i64 s.size), (9, .bool false)], h, Lp_exit ?_, rfl, hg, rfl⟩
    simp (disch := omega) only [go_sem, abin_shl, abin_shr, Nat.reduceEqDiff, reduceIte, Nat.reduceAdd, Nat.reduceMul, Nat.reduceLT, Nat.reduceLeDiff, Int.reduceBEq, Int.reduceBNe, Int.reduceLT, Int.reduceLE, Int.reduceEq, dt, df, eqt, eqf, net, nef, wi, wb, alen_str, idxs_at, tn_add, tn_nat, aix, get_hit, get_miss, set_hit, set_miss, H.floor_alloc, H.next_alloc, H.floor_set, H.next_set, stO_d, condO_t, fill_n, fill_c, fillS_s, bir_bslice, bir_alloc, bir_box, birB_s, repl_s, repl_z, List.map_cons, List.map_nil, setFrom_nil, setFrom_cons, allsc_nil, allsc_cons, Bool.and_true, Bool.true_and, Bool.and_self, List.append_nil, Option.map_some, Option.map_none, iadr_s, iadr_m, idP_s, idQ_s, bir_mksl, mkslB_s, alen_s, alen_n, alen_m, Bool.and_false, Bool.false_and, Bool.or_false, Bool.or_true, Bool.true_or, Bool.false_or, Bool.or_self, C_dregF, goD_s, goD2_t, stb_n, stb_c, stK_n, stK_c, stV_s, stB_f, beq_int, beq_bool, beq_tup0, beq_nils, beq_simm0, beq_str, beq_sobj, beq_pobj, opsD_nil, opsD_u, opsD_g, goOD_s, preD_t, preD_f, AOp.loud, AOp.births, st1_u, st1_g, Int.reduceAdd, Int.reduceSub, Int.reduceMul, Int.reduceNeg, Int.reduceToNat, eqbB_s, beq_refl, beqs_refl, stB_t, beO_s, stBv_t, stBv_p, stBv_o, st1b_alloc, st1b_box, st1b_bslice, st1b_mksl, AP.f127L0]
  | m + 1, n, h, hn, hg, hf => by
    have g2 : (h.set id (bT (setB s (n + 1)))).get id = some (bT (setB s (n + 1))) := by rw [set_hit rfl, hg]; rfl
    obtain ⟨e', h', r1, r2, r3, r4⟩ := mk_loop s hs h7 id m (n + 1) _ (by omega) g2 (by simpa using hf)
    have n1 : ((n + 1 : Nat) : Int) = (n : Int) + 1 := by omega
    have hb := byN_lt s n
    have hb7 := h7 n (by omega)
    have ia : aidx (.int .u8 (byN s n : Nat)) 256 = some (byN s n) := by rw [aixk (by omega)]; rfl
    have st : stO h id (byN s n) 1 [.bool true] (some (bT (setB s n))) = some (h.set id (bT (setB s (n + 1)))) := by rw [stO_1 hf (by rw [bT_len]; exact hb) rfl, bT_set]
    refine ⟨e', h', Lp_next ?_ r1, r2, r3, by rw [r4]; simp⟩
    rw [n1]
    generalize bT (setB s n) = T at *
    generalize bT (setB s (n + 1)) = T2 at *
    simp (disch := omega) only [go_sem, abin_shl, abin_shr, Nat.reduceEqDiff, reduceIte, Nat.reduceAdd, Nat.reduceMul, Nat.reduceLT, Nat.reduceLeDiff, Int.reduceBEq, Int.reduceBNe, Int.reduceLT, Int.reduceLE, Int.reduceEq, dt, df, eqt, eqf, net, nef, wi, wb, alen_str, idxs_at, tn_add, tn_nat, aix, get_hit, get_miss, set_hit, set_miss, H.floor_alloc, H.next_alloc, H.floor_set, H.next_set, stO_d, condO_t, fill_n, fill_c, fillS_s, bir_bslice, bir_alloc, bir_box, birB_s, repl_s, repl_z, List.map_cons, List.map_nil, setFrom_nil, setFrom_cons, allsc_nil, allsc_cons, Bool.and_true, Bool.true_and, Bool.and_self, List.append_nil, Option.map_some, Option.map_none, iadr_s, iadr_m, idP_s, idQ_s, bir_mksl, mkslB_s, alen_s, alen_n, alen_m, Bool.and_false, Bool.false_and, Bool.or_false, Bool.or_true, Bool.true_or, Bool.false_or, Bool.or_self, C_dregF, goD_s, goD2_t, stb_n, stb_c, stK_n, stK_c, stV_s, stB_f, beq_int, beq_bool, beq_tup0, beq_nils, beq_simm0, beq_str, beq_sobj, beq_pobj, opsD_nil, opsD_u, opsD_g, goOD_s, preD_t, preD_f, AOp.loud, AOp.births, st1_u, st1_g, Int.reduceAdd, Int.reduceSub, Int.reduceMul, Int.reduceNeg, Int.reduceToNat, eqbB_s, beq_refl, beqs_refl, stB_t, beO_s, stBv_t, stBv_p, stBv_o, st1b_alloc, st1b_box, st1b_bslice, st1b_mksl, AP.f127L0, ia, hg, st]
theorem stO_all {h : H} {id n : Nat} {v cs : List AV} (hf : h.floor ≤ id) (hv : v.length = n) (hc : cs.length = n) (hs : AV.allsc v = true) : stO h id 0 n v (some cs) = some (h.set id v) := by
  rw [stO_d]
  have e : setFrom cs 0 v = v := by
    have := setFrom_mid cs v [] [] (by omega)
    simpa using this
  simp [hf, hv, hc, hs, e, condO]
theorem bT_sc (P : Nat → Bool) : AV.allsc (bT P) = true := by
  have e : bT P = ((List.range 256).map P).map .bool := by unfold bT tab; rw [List.map_map]; rfl
  rw [e]
  generalize (List.range 256).map P = l
  induction l with
  | nil => rfl
  | cons b l ih => simp [ih]
theorem rdc_bT (P : Nat → Bool) : rdc true 256 (bT P) 0 = some (.agg (bT P)) := by
  simp only [rdc, if_true]
  rw [if_pos (by rw [bT_len]; omega), List.drop_zero, List.take_of_length_le (by rw [bT_len]; omega)]
theorem mkset_c (h : H) (s : ByteArray) (hs : s.size < 100000) (h7 : ∀ i, i < s.size → byN s i < 128) : callW AP.A 127 [.str s] h = some (.tup [.agg (bT (setB s s.size)), .bool true], h) := by
  obtain ⟨h1, eh1⟩ : ∃ g, g = h.fence.alloc (bT fun _ => false) := ⟨_, rfl⟩
  have g1 : h1.get h.next = some (bT (setB s 0)) := by rw [eh1, get_hit (by simp)]; rfl
  obtain ⟨e', h', r1, r2, r3, r4⟩ := mk_loop s hs h7 h.next s.size 0 h1 (by omega) g1 (by rw [eh1]; simp)
  have r1' : Lp AP.A [0, 2, 4] AP.f127L0 [(0, .str s), (2, .pobj h.next 0), (4, .int .i64 0)] h1 = some (.exit 0, e', h') := r1
  clear r1
  obtain ⟨h2, eh2⟩ : ∃ g, g = h'.set h.next (bT (setB s s.size)) := ⟨_, rfl⟩
  have st : stO h' h.next 0 256 (bT (setB s s.size)) (some (bT (setB s s.size))) = some h2 := by
    rw [stO_all (by rw [r4, eh1]; simp) (bT_len _) (bT_len _) (bT_sc _), eh2]
  have g2 : h2.get h.next = some (bT (setB s s.size)) := by rw [eh2, set_hit rfl, r3]; rfl
  have hn : h.fence.next = h.next := rfl
  have rd := rdc_bT (setB s s.size)
  refine pure_c (fn := AP.f127) (h2 := h2) (e := [(2, .pobj h.next 0), (3, .bool true)]) (vs := [.agg (bT (setB s s.size)), .bool true]) rfl rfl rfl ?_ ?_ ?_
  · generalize bT (setB s s.size) = T at *
    simp (disch := omega) only [go_sem, abin_shl, abin_shr, Nat.reduceEqDiff, reduceIte, Nat.reduceAdd, Nat.reduceMul, Nat.reduceLT, Nat.reduceLeDiff, Int.reduceBEq, Int.reduceBNe, Int.reduceLT, Int.reduceLE, Int.reduceEq, AP.f127, bir_al, hn, ← eh1, evC_loop, r1', r2, r3, rd, st]
  · simp only [AP.f127, resAll, resOf, look_hit, load_o, g2, rdO_s, rd, look_miss, ne_eq, Nat.reduceEqDiff, not_false_eq_true]
    rfl
  · show (mapO (snap h2.get h.next 15 true) [.agg (bT (setB s s.size)), .bool true]).bind _ = _
    have m1 : snap h2.get h.next 15 true (.agg (bT (setB s s.size))) = some (.agg (bT (setB s s.size))) := by
      unfold snap; rw [mapO_bT]; rfl
    simp only [mapO, m1]; rfl
theorem has_c (h : H) (id b : Nat) (P : Nat → Bool) (hg : h.get id = some (bT P)) (hb : b < 256) : callW AP.A 132 [.pobj id 0, .int .u8 b] h = some (.bool (P b), h) := by
  have ia : aidx (.int .u8 b) 256 = some b := by rw [aixk (by omega)]; congr 1
  have g := bT_get P hb
  refine plain_c (fn := AP.f132) (h2 := h) (e := [(4, .bool (P b))]) (vs := [.bool (P b)]) rfl rfl rfl ?_ rfl
  generalize bT P = T at *
  simp (disch := omega) only [go_sem, abin_shl, abin_shr, Nat.reduceEqDiff, reduceIte, Nat.reduceAdd, Nat.reduceMul, Nat.reduceLT, Nat.reduceLeDiff, Int.reduceBEq, Int.reduceBNe, Int.reduceLT, Int.reduceLE, Int.reduceEq, dt, df, eqt, eqf, net, nef, wi, wb, alen_str, idxs_at, tn_add, tn_nat, aix, get_hit, get_miss, set_hit, set_miss, H.floor_alloc, H.next_alloc, H.floor_set, H.next_set, stO_d, condO_t, fill_n, fill_c, fillS_s, bir_bslice, bir_alloc, bir_box, birB_s, repl_s, repl_z, List.map_cons, List.map_nil, setFrom_nil, setFrom_cons, allsc_nil, allsc_cons, Bool.and_true, Bool.true_and, Bool.and_self, List.append_nil, Option.map_some, Option.map_none, iadr_s, iadr_m, idP_s, idQ_s, bir_mksl, mkslB_s, alen_s, alen_n, alen_m, Bool.and_false, Bool.false_and, Bool.or_false, Bool.or_true, Bool.true_or, Bool.false_or, Bool.or_self, C_dregF, goD_s, goD2_t, stb_n, stb_c, stK_n, stK_c, stV_s, stB_f, beq_int, beq_bool, beq_tup0, beq_nils, beq_simm0, beq_str, beq_sobj, beq_pobj, opsD_nil, opsD_u, opsD_g, goOD_s, preD_t, preD_f, AOp.loud, AOp.births, st1_u, st1_g, Int.reduceAdd, Int.reduceSub, Int.reduceMul, Int.reduceNeg, Int.reduceToNat, eqbB_s, beq_refl, beqs_refl, stB_t, beO_s, stBv_t, stBv_p, stBv_o, st1b_alloc, st1b_box, st1b_bslice, st1b_mksl, AP.f132, ia, hg, g]
theorem asls_hi' {s : ByteArray} {n : Nat} (hn : n ≤ s.size) : asls (.str s) none (some (.int .i64 n)) = some (.str (s.extract 0 n)) := asls_hi hn
theorem asls_lo {s : ByteArray} {n : Nat} (hn : n ≤ s.size) : asls (.str s) (some (.int .i64 n)) none = some (.str (s.extract n s.size)) := by
  have : sbound (.int .i64 n) s.size = some n := sb_of hn
  simp [asls, osbound, this]
theorem byN_ext {s : ByteArray} {a b i : Nat} (hb : b ≤ s.size) (hi : a + i < b) : byN (s.extract a b) i = byN s (a + i) := by
  have e : (s.extract a b)[i]? = s[a + i]? := by
    show (s.extract a b).data[i]? = s.data[a + i]?
    rw [ByteArray.data_extract, Array.getElem?_extract]
    have : s.data.size = s.size := rfl
    rw [if_pos (by omega)]
  unfold byN; rw [e]
theorem size_ext {s : ByteArray} {a b : Nat} (hb : b ≤ s.size) : (s.extract a b).size = b - a := by simp [ByteArray.size_extract]; omega
theorem ext_all (s : ByteArray) : s.extract 0 s.size = s := by
  apply ByteArray.ext
  rw [ByteArray.data_extract]
  exact Array.extract_size
theorem ext_ext (s : ByteArray) {n m : Nat} (hm : m ≤ n) : (s.extract 0 n).extract 0 m = s.extract 0 m := by
  apply ByteArray.ext
  rw [ByteArray.data_extract, ByteArray.data_extract, ByteArray.data_extract, Array.extract_extract]
  simp [hm]
theorem right_loop (id : Nat) (P : Nat → Bool) (h : H) (hg : h.get id = some (bT P)) : ∀ (n : Nat) (s : ByteArray), s.size = n → n < 100000 →
    ∃ e' m, Lp AP.A [0, 1] AP.f129L0 [(0, .str s), (1, .pobj id 0)] h = some (.exit 0, e', h) ∧ look e' 0 = .str (s.extract 0 m) ∧ m ≤ s.size ∧ (∀ i, m ≤ i → i < s.size → P (byN s i) = true) ∧ (0 < m → P (byN s (m - 1)) = false)
  | 0, s, hs, hn => by
    refine ⟨[(0, .str s), (1, .pobj id 0), (7, .bool false)], 0, Lp_exit ?_, ?_, by omega, fun i h1 h2 => by omega, fun q => by omega⟩
    · simp (disch := omega) only [go_sem, abin_shl, abin_shr, Nat.reduceEqDiff, reduceIte, Nat.reduceAdd, Nat.reduceMul, Nat.reduceLT, Nat.reduceLeDiff, Int.reduceBEq, Int.reduceBNe, Int.reduceLT, Int.reduceLE, Int.reduceEq, dt, df, eqt, eqf, net, nef, wi, wb, alen_str, idxs_at, tn_add, tn_nat, aix, get_hit, get_miss, set_hit, set_miss, H.floor_alloc, H.next_alloc, H.floor_set, H.next_set, stO_d, condO_t, fill_n, fill_c, fillS_s, bir_bslice, bir_alloc, bir_box, birB_s, repl_s, repl_z, List.map_cons, List.map_nil, setFrom_nil, setFrom_cons, allsc_nil, allsc_cons, Bool.and_true, Bool.true_and, Bool.and_self, List.append_nil, Option.map_some, Option.map_none, iadr_s, iadr_m, idP_s, idQ_s, bir_mksl, mkslB_s, alen_s, alen_n, alen_m, Bool.and_false, Bool.false_and, Bool.or_false, Bool.or_true, Bool.true_or, Bool.false_or, Bool.or_self, C_dregF, goD_s, goD2_t, stb_n, stb_c, stK_n, stK_c, stV_s, stB_f, beq_int, beq_bool, beq_tup0, beq_nils, beq_simm0, beq_str, beq_sobj, beq_pobj, opsD_nil, opsD_u, opsD_g, goOD_s, preD_t, preD_f, AOp.loud, AOp.births, st1_u, st1_g, Int.reduceAdd, Int.reduceSub, Int.reduceMul, Int.reduceNeg, Int.reduceToNat, eqbB_s, beq_refl, beqs_refl, stB_t, beO_s, stBv_t, stBv_p, stBv_o, st1b_alloc, st1b_box, st1b_bslice, st1b_mksl, AP.f129L0]
    · show AV.str s = _
      congr 1
      have := ext_all s
      rw [hs] at this
      exact this.symm
  | n + 1, s, hs, hn => by
    have hb := byN_lt s n
    have k1 := has_c h id (byN s n) P hg hb
    have n1 : (s.size : Int) - 1 = (n : Int) := by omega
    have sl := asls_hi' (s := s) (n := n) (by omega)
    by_cases c : P (byN s n) = true
    · rw [c] at k1
      obtain ⟨e', m, r1, r2, r3, r4, r5⟩ := right_loop id P h hg n (s.extract 0 n) (by rw [size_ext (by omega)]; omega) (by omega)
      rw [size_ext (by omega)] at r3 r4
      refine ⟨e', m, Lp_next ?_ r1, ?_, by omega, fun i h1 h2 => ?_, fun q => ?_⟩
      · simp (disch := omega) only [go_sem, abin_shl, abin_shr, Nat.reduceEqDiff, reduceIte, Nat.reduceAdd, Nat.reduceMul, Nat.reduceLT, Nat.reduceLeDiff, Int.reduceBEq, Int.reduceBNe, Int.reduceLT, Int.reduceLE, Int.reduceEq, dt, df, eqt, eqf, net, nef, wi, wb, alen_str, idxs_at, tn_add, tn_nat, aix, get_hit, get_miss, set_hit, set_miss, H.floor_alloc, H.next_alloc, H.floor_set, H.next_set, stO_d, condO_t, fill_n, fill_c, fillS_s, bir_bslice, bir_alloc, bir_box, birB_s, repl_s, repl_z, List.map_cons, List.map_nil, setFrom_nil, setFrom_cons, allsc_nil, allsc_cons, Bool.and_true, Bool.true_and, Bool.and_self, List.append_nil, Option.map_some, Option.map_none, iadr_s, iadr_m, idP_s, idQ_s, bir_mksl, mkslB_s, alen_s, alen_n, alen_m, Bool.and_false, Bool.false_and, Bool.or_false, Bool.or_true, Bool.true_or, Bool.false_or, Bool.or_self, C_dregF, goD_s, goD2_t, stb_n, stb_c, stK_n, stK_c, stV_s, stB_f, beq_int, beq_bool, beq_tup0, beq_nils, beq_simm0, beq_str, beq_sobj, beq_pobj, opsD_nil, opsD_u, opsD_g, goOD_s, preD_t, preD_f, AOp.loud, AOp.births, st1_u, st1_g, Int.reduceAdd, Int.reduceSub, Int.reduceMul, Int.reduceNeg, Int.reduceToNat, eqbB_s, beq_refl, beqs_refl, stB_t, beO_s, stBv_t, stBv_p, stBv_o, st1b_alloc, st1b_box, st1b_bslice, st1b_mksl, AP.f129L0, n1, k1, sl]
      · rw [r2]; congr 1; exact ext_ext s r3
      · by_cases hi : i = n
        · rw [hi]; exact c
        · have := r4 i h1 (by omega)
          rwa [byN_ext (by omega) (by omega), Nat.zero_add] at this
      · have := r5 q
        rwa [byN_ext (by omega) (by omega), Nat.zero_add] at this
    · have c' : P (byN s n) = false := by simpa using c
      rw [c'] at k1
      refine ⟨[(0, .str s), (1, .pobj id 0), (15, .bool true)], s.size, Lp_exit ?_, ?_, Nat.le_refl _, fun i h1 h2 => by omega, fun q => by rw [hs]; exact c'⟩
      · simp (disch := omega) only [go_sem, abin_shl, abin_shr, Nat.reduceEqDiff, reduceIte, Nat.reduceAdd, Nat.reduceMul, Nat.reduceLT, Nat.reduceLeDiff, Int.reduceBEq, Int.reduceBNe, Int.reduceLT, Int.reduceLE, Int.reduceEq, dt, df, eqt, eqf, net, nef, wi, wb, alen_str, idxs_at, tn_add, tn_nat, aix, get_hit, get_miss, set_hit, set_miss, H.floor_alloc, H.next_alloc, H.floor_set, H.next_set, stO_d, condO_t, fill_n, fill_c, fillS_s, bir_bslice, bir_alloc, bir_box, birB_s, repl_s, repl_z, List.map_cons, List.map_nil, setFrom_nil, setFrom_cons, allsc_nil, allsc_cons, Bool.and_true, Bool.true_and, Bool.and_self, List.append_nil, Option.map_some, Option.map_none, iadr_s, iadr_m, idP_s, idQ_s, bir_mksl, mkslB_s, alen_s, alen_n, alen_m, Bool.and_false, Bool.false_and, Bool.or_false, Bool.or_true, Bool.true_or, Bool.false_or, Bool.or_self, C_dregF, goD_s, goD2_t, stb_n, stb_c, stK_n, stK_c, stV_s, stB_f, beq_int, beq_bool, beq_tup0, beq_nils, beq_simm0, beq_str, beq_sobj, beq_pobj, opsD_nil, opsD_u, opsD_g, goOD_s, preD_t, preD_f, AOp.loud, AOp.births, st1_u, st1_g, Int.reduceAdd, Int.reduceSub, Int.reduceMul, Int.reduceNeg, Int.reduceToNat, eqbB_s, beq_refl, beqs_refl, stB_t, beO_s, stBv_t, stBv_p, stBv_o, st1b_alloc, st1b_box, st1b_bslice, st1b_mksl, AP.f129L0, n1, k1]
      · show AV.str s = _
        congr 1
        exact (ext_all s).symm
theorem ext_lo (s : ByteArray) {n : Nat} (h : s.size = n + 1) : (s.extract 1 s.size).size = n := by rw [size_ext (Nat.le_refl _)]; omega
theorem left_loop (id : Nat) (P : Nat → Bool) (h : H) (hg : h.get id = some (bT P)) : ∀ (n : Nat) (s : ByteArray), s.size = n → n < 100000 → (0 < n → P (byN s (n - 1)) = false) →
    ∃ e' r, Lp AP.A [0, 1] AP.f128L0 [(0, .str s), (1, .pobj id 0)] h = some (.exit 0, e', h) ∧ look e' 0 = .str r ∧ (r.size = 0 ↔ n = 0)
  | 0, s, hs, hn, hp => by
    refine ⟨[(0, .str s), (1, .pobj id 0), (7, .bool false)], s, Lp_exit ?_, rfl, by omega⟩
    simp (disch := omega) only [go_sem, abin_shl, abin_shr, Nat.reduceEqDiff, reduceIte, Nat.reduceAdd, Nat.reduceMul, Nat.reduceLT, Nat.reduceLeDiff, Int.reduceBEq, Int.reduceBNe, Int.reduceLT, Int.reduceLE, Int.reduceEq, dt, df, eqt, eqf, net, nef, wi, wb, alen_str, idxs_at, tn_add, tn_nat, aix, get_hit, get_miss, set_hit, set_miss, H.floor_alloc, H.next_alloc, H.floor_set, H.next_set, stO_d, condO_t, fill_n, fill_c, fillS_s, bir_bslice, bir_alloc, bir_box, birB_s, repl_s, repl_z, List.map_cons, List.map_nil, setFrom_nil, setFrom_cons, allsc_nil, allsc_cons, Bool.and_true, Bool.true_and, Bool.and_self, List.append_nil, Option.map_some, Option.map_none, iadr_s, iadr_m, idP_s, idQ_s, bir_mksl, mkslB_s, alen_s, alen_n, alen_m, Bool.and_false, Bool.false_and, Bool.or_false, Bool.or_true, Bool.true_or, Bool.false_or, Bool.or_self, C_dregF, goD_s, goD2_t, stb_n, stb_c, stK_n, stK_c, stV_s, stB_f, beq_int, beq_bool, beq_tup0, beq_nils, beq_simm0, beq_str, beq_sobj, beq_pobj, opsD_nil, opsD_u, opsD_g, goOD_s, preD_t, preD_f, AOp.loud, AOp.births, st1_u, st1_g, Int.reduceAdd, Int.reduceSub, Int.reduceMul, Int.reduceNeg, Int.reduceToNat, eqbB_s, beq_refl, beqs_refl, stB_t, beO_s, stBv_t, stBv_p, stBv_o, st1b_alloc, st1b_box, st1b_bslice, st1b_mksl, AP.f128L0]
  | n + 1, s, hs, hn, hp => by
    have hb := byN_lt s 0
    have k1 := has_c h id (byN s 0) P hg hb
    have sl : asls (.str s) (some (.int .i64 1)) none = some (.str (s.extract 1 s.size)) := asls_lo (s := s) (n := 1) (by omega)
    have ix : aidxs (.str s) (.int .i64 0) = some (.int .u8 (byN s 0 : Nat)) := idxs_at (by omega)
    by_cases c : P (byN s 0) = true
    · rw [c] at k1
      have hn0 : n ≠ 0 := fun e => by subst e; have := hp (by omega); simp only [Nat.zero_add, Nat.sub_self] at this; rw [c] at this; cases this
      obtain ⟨e', r, r1, r2, r3⟩ := left_loop id P h hg n (s.extract 1 s.size) (ext_lo s hs) (by omega) (fun q => by
        rw [byN_ext (Nat.le_refl _) (by omega), show 1 + (n - 1) = n + 1 - 1 by omega]; exact hp (by omega))
      refine ⟨e', r, Lp_next ?_ r1, r2, by omega⟩
      clear hp
      simp (disch := omega) only [go_sem, abin_shl, abin_shr, Nat.reduceEqDiff, reduceIte, Nat.reduceAdd, Nat.reduceMul, Nat.reduceLT, Nat.reduceLeDiff, Int.reduceBEq, Int.reduceBNe, Int.reduceLT, Int.reduceLE, Int.reduceEq, dt, df, alen_str, AP.f128L0, k1, sl, ix, Option.map_some, Option.map_none]
    · have c' : P (byN s 0) = false := by simpa using c
      rw [c'] at k1
      refine ⟨[(0, .str s), (1, .pobj id 0), (12, .bool true)], s, Lp_exit ?_, rfl, by omega⟩
      clear hp
      simp (disch := omega) only [go_sem, abin_shl, abin_shr, Nat.reduceEqDiff, reduceIte, Nat.reduceAdd, Nat.reduceMul, Nat.reduceLT, Nat.reduceLeDiff, Int.reduceBEq, Int.reduceBNe, Int.reduceLT, Int.reduceLE, Int.reduceEq, dt, df, alen_str, AP.f128L0, k1, sl, ix, Option.map_some, Option.map_none]
def allOk (s : ByteArray) : Bool := (List.range s.size).all fun i => okB (byN s i)
theorem ofS_size : ofS.size = 39 := rfl
theorem bT_ofS : bT (setB ofS ofS.size) = bT okB := bT_of
theorem tl_c (h : H) (s : ByteArray) (id : Nat) (P : Nat → Bool) (hg : h.get id = some (bT P)) (hs : s.size < 100000) (hp : 0 < s.size → P (byN s (s.size - 1)) = false) : ∃ r, callW AP.A 128 [.str s, .pobj id 0] h = some (.str r, h) ∧ (r.size = 0 ↔ s.size = 0) := by
  obtain ⟨e', r, r1, r2, r3⟩ := left_loop id P h hg s.size s rfl hs hp
  refine ⟨r, plain_c (fn := AP.f128) (h2 := h) (e := [(4, .str r)]) (vs := [.str r]) rfl rfl rfl ?_ rfl, r3⟩
  clear hp
  simp only [go_sem, abin_shl, abin_shr, Nat.reduceEqDiff, reduceIte, Nat.reduceAdd, Nat.reduceMul, Nat.reduceLT, Nat.reduceLeDiff, Int.reduceBEq, Int.reduceBNe, Int.reduceLT, Int.reduceLE, Int.reduceEq, AP.f128, evC_loop, r1, r2]
theorem tr_c (h : H) (s : ByteArray) (id : Nat) (P : Nat → Bool) (hg : h.get id = some (bT P)) (hs : s.size < 100000) :
    ∃ m, callW AP.A 129 [.str s, .pobj id 0] h = some (.str (s.extract 0 m), h) ∧ m ≤ s.size ∧ (∀ i, m ≤ i → i < s.size → P (byN s i) = true) ∧ (0 < m → P (byN s (m - 1)) = false) := by
  obtain ⟨e', m, r1, r2, r3, r4, r5⟩ := right_loop id P h hg s.size s rfl hs
  refine ⟨m, plain_c (fn := AP.f129) (h2 := h) (e := [(4, .str (s.extract 0 m))]) (vs := [.str (s.extract 0 m)]) rfl rfl rfl ?_ rfl, r3, r4, r5⟩
  simp only [go_sem, abin_shl, abin_shr, Nat.reduceEqDiff, reduceIte, Nat.reduceAdd, Nat.reduceMul, Nat.reduceLT, Nat.reduceLeDiff, Int.reduceBEq, Int.reduceBNe, Int.reduceLT, Int.reduceLE, Int.reduceEq, AP.f129, evC_loop, r1, r2]
theorem str_ne {a b : ByteArray} (h : a ≠ b) : (a.data.toList == b.data.toList) = false := by
  rw [beq_eq_false_iff_ne]
  intro e
  apply h
  apply ByteArray.ext
  exact Array.toList_inj.1 e
theorem str_same (a : ByteArray) : (a.data.toList == a.data.toList) = true := by simp
theorem trim_c (h : H) (s : ByteArray) (h0 : 0 < s.size) (hs : s.size < 100000) : ∃ r, callW AP.A 124 [.str s, .str ofS] h = some (.str r, h) ∧ (r.size = 0 ↔ allOk s = true) := by
  have m1 := mkset_c h.fence ofS (by rw [ofS_size]; omega) (by rw [ofS_size]; decide +kernel)
  rw [bT_ofS] at m1
  obtain ⟨h1, eh1⟩ : ∃ g, g = h.fence.alloc (bT fun _ => false) := ⟨_, rfl⟩
  have hn : h.fence.next = h.next := rfl
  have g1 : h1.get h.next = some (bT fun _ => false) := by rw [eh1, get_hit (by simp)]
  obtain ⟨h2, eh2⟩ : ∃ g, g = h1.set h.next (bT okB) := ⟨_, rfl⟩
  have st : stO h1 h.next 0 256 (bT okB) (some (bT fun _ => false)) = some h2 := by
    rw [stO_all (by rw [eh1]; simp) (bT_len _) (bT_len _) (bT_sc _), eh2]
  have g2 : h2.get h.next = some (bT okB) := by rw [eh2, set_hit rfl, g1]; rfl
  obtain ⟨m, a1, a2, a3, a4⟩ := tr_c h2 s h.next okB g2 hs
  have sz := size_ext (s := s) (a := 0) (b := m) a2
  obtain ⟨r, b1, b2⟩ := tl_c h2 (s.extract 0 m) h.next okB g2 (by omega) (fun q => by
    rw [sz, Nat.sub_zero, byN_ext a2 (by omega), Nat.zero_add]; exact a4 (by omega))
  refine ⟨r, ?_, ?_⟩
  · have e1 : abin .eql (.str s) (.str ⟨#[]⟩) = some (.bool false) := by
      rw [str_eql, str_ne]; intro e; rw [e] at h0; exact absurd h0 (by decide)
    have e2 : abin .eql (.str ofS) (.str ⟨#[]⟩) = some (.bool false) := by
      rw [str_eql, str_ne]; intro e; have := ofS_size; rw [e] at this; exact absurd this (by decide)
    have l2 : alen true (.str ofS) = some (.int .i64 39) := rfl
    refine pure_c (fn := AP.f124) (h2 := h2) (e := [(4, .str r)]) rfl rfl rfl ?_ rfl rfl
    clear a3 a4
    generalize bT okB = T at *
    generalize hT : (bT fun _ => false) = T0 at *
    have ba : ∀ e : Env, birth e (.alloc [.bool false, .bool false, .bool false, .bool false, .bool false, .bool false, .bool false, .bool false, .bool false, .bool false, .bool false, .bool false, .bool false, .bool false, .bool false, .bool false, .bool false, .bool false, .bool false, .bool false, .bool false, .bool false, .bool false, .bool false, .bool false, .bool false, .bool false, .bool false, .bool false, .bool false, .bool false, .bool false, .bool false, .bool false, .bool false, .bool false, .bool false, .bool false, .bool false, .bool false, .bool false, .bool false, .bool false, .bool false, .bool false, .bool false, .bool false, .bool false, .bool false, .bool false, .bool false, .bool false, .bool false, .bool false, .bool false, .bool false, .bool false, .bool false, .bool false, .bool false, .bool false, .bool false, .bool false, .bool false, .bool false, .bool false, .bool false, .bool false, .bool false, .bool false, .bool false, .bool false, .bool false, .bool false, .bool false, .bool false, .bool false, .bool false, .bool false, .bool false, .bool false, .bool false, .bool false, .bool false, .bool false, .bool false, .bool false, .bool false, .bool false, .bool false, .bool false, .bool false, .bool false, .bool false, .bool false, .bool false, .bool false, .bool false, .bool false, .bool false, .bool false, .bool false, .bool false, .bool false, .bool false, .bool false, .bool false, .bool false, .bool false, .bool false, .bool false, .bool false, .bool false, .bool false, .bool false, .bool false, .bool false, .bool false, .bool false, .bool false, .bool false, .bool false, .bool false, .bool false, .bool false, .bool false, .bool false, .bool false, .bool false, .bool false, .bool false, .bool false, .bool false, .bool false, .bool false, .bool false, .bool false, .bool false, .bool false, .bool false, .bool false, .bool false, .bool false, .bool false, .bool false, .bool false, .bool false, .bool false, .bool false, .bool false, .bool false, .bool false, .bool false, .bool false, .bool false, .bool false, .bool false, .bool false, .bool false, .bool false, .bool false, .bool false, .bool false, .bool false, .bool false, .bool false, .bool false, .bool false, .bool false, .bool false, .bool false, .bool false, .bool false, .bool false, .bool false, .bool false, .bool false, .bool false, .bool false, .bool false, .bool false, .bool false, .bool false, .bool false, .bool false, .bool false, .bool false, .bool false, .bool false, .bool false, .bool false, .bool false, .bool false, .bool false, .bool false, .bool false, .bool false, .bool false, .bool false, .bool false, .bool false, .bool false, .bool false, .bool false, .bool false, .bool false, .bool false, .bool false, .bool false, .bool false, .bool false, .bool false, .bool false, .bool false, .bool false, .bool false, .bool false, .bool false, .bool false, .bool false, .bool false, .bool false, .bool false, .bool false, .bool false, .bool false, .bool false, .bool false, .bool false, .bool false, .bool false, .bool false, .bool false, .bool false, .bool false, .bool false, .bool false, .bool false, .bool false, .bool false, .bool false, .bool false, .bool false, .bool false, .bool false, .bool false, .bool false, .bool false, .bool false, .bool false, .bool false, .bool false, .bool false, .bool false, .bool false, .bool false]) = some (T0, fun i => .pobj i 0) := fun e => by rw [bir_al, hT]
    simp (disch := omega) only [go_sem, abin_shl, abin_shr, Nat.reduceEqDiff, reduceIte, Nat.reduceAdd, Nat.reduceMul, Nat.reduceLT, Nat.reduceLeDiff, Int.reduceBEq, Int.reduceBNe, Int.reduceLT, Int.reduceLE, Int.reduceEq, AP.f124, ba, hn, ← eh1, e1, e2, l2, eqf, m1, g1, st, a1, b1]
  · rw [b2, sz]
    unfold allOk
    rw [List.all_eq_true]
    constructor
    · intro q i hi
      exact a3 i (by omega) (List.mem_range.1 hi)
    · intro q
      by_cases hm : m = 0
      · omega
      · have := a4 (by omega)
        rw [q (m - 1) (List.mem_range.2 (by omega))] at this
        cases this
def dotS : ByteArray := ⟨#[46]⟩
def dotsS : ByteArray := ⟨#[46, 46]⟩
def nameA (s : ByteArray) : Bool := decide (1 ≤ s.size) && (decide (s.size ≤ 8) && (allOk s && (!(s.data.toList == dotS.data.toList) && !(s.data.toList == dotsS.data.toList))))
theorem name_c (h : H) (s : ByteArray) (hs : s.size < 1125899906842624) : callW AP.A 121 [.str s] h = some (.bool (nameA s), h) := by
  refine pure_c (fn := AP.f121) (h2 := h.fence) (e := [(2, .bool (nameA s))]) rfl rfl rfl ?_ rfl rfl
  unfold nameA
  by_cases c1 : 1 ≤ s.size
  · by_cases c2 : s.size ≤ 8
    · obtain ⟨r, t1, t2⟩ := trim_c h.fence s (by omega) (by omega)
      have t1' : callW AP.A 124 [.str s, .str ⟨#[97, 98, 99, 100, 101, 102, 103, 104, 105, 106, 107, 108, 109, 110, 111, 112, 113, 114, 115, 116, 117, 118, 119, 120, 121, 122, 48, 49, 50, 51, 52, 53, 54, 55, 56, 57, 46, 45, 95]⟩] h.fence = some (.str r, h.fence) := t1
      have e1 : abin .eql (.str r) (.str ⟨#[]⟩) = some (.bool (allOk s)) := by
        rw [str_eql]
        by_cases q : allOk s = true
        · rw [q]
          have : r = ⟨#[]⟩ := by
            apply ByteArray.ext
            exact Array.size_eq_zero_iff.1 (t2.2 q)
          rw [this, str_same]
        · have q' : allOk s = false := by simpa using q
          rw [q', str_ne]
          intro e
          rw [e] at t2
          exact q (t2.1 rfl)
      have e2 : abin .neq (.str s) (.str ⟨#[46]⟩) = some (.bool (!(s.data.toList == dotS.data.toList))) := str_neq _ _
      have e3 : abin .neq (.str s) (.str ⟨#[46, 46]⟩) = some (.bool (!(s.data.toList == dotsS.data.toList))) := str_neq _ _
      clear t1 t2
      generalize (!(s.data.toList == dotS.data.toList)) = B2 at *
      generalize (!(s.data.toList == dotsS.data.toList)) = B3 at *
      generalize allOk s = B1 at *
      cases B1 <;> cases B2 <;> cases B3 <;> simp (disch := omega) only [go_sem, abin_shl, abin_shr, Nat.reduceEqDiff, reduceIte, Nat.reduceAdd, Nat.reduceMul, Nat.reduceLT, Nat.reduceLeDiff, Int.reduceBEq, Int.reduceBNe, Int.reduceLT, Int.reduceLE, Int.reduceEq, dt, df, eqt, eqf, net, nef, wi, wb, alen_str, idxs_at, tn_add, tn_nat, aix, get_hit, get_miss, set_hit, set_miss, H.floor_alloc, H.next_alloc, H.floor_set, H.next_set, stO_d, condO_t, fill_n, fill_c, fillS_s, bir_bslice, bir_alloc, bir_box, birB_s, repl_s, repl_z, List.map_cons, List.map_nil, setFrom_nil, setFrom_cons, allsc_nil, allsc_cons, Bool.and_true, Bool.true_and, Bool.and_self, List.append_nil, Option.map_some, Option.map_none, iadr_s, iadr_m, idP_s, idQ_s, bir_mksl, mkslB_s, alen_s, alen_n, alen_m, Bool.and_false, Bool.false_and, Bool.or_false, Bool.or_true, Bool.true_or, Bool.false_or, Bool.or_self, C_dregF, goD_s, goD2_t, stb_n, stb_c, stK_n, stK_c, stV_s, stB_f, beq_int, beq_bool, beq_tup0, beq_nils, beq_simm0, beq_str, beq_sobj, beq_pobj, opsD_nil, opsD_u, opsD_g, goOD_s, preD_t, preD_f, AOp.loud, AOp.births, st1_u, st1_g, Int.reduceAdd, Int.reduceSub, Int.reduceMul, Int.reduceNeg, Int.reduceToNat, eqbB_s, beq_refl, beqs_refl, stB_t, beO_s, stBv_t, stBv_p, stBv_o, st1b_alloc, st1b_box, st1b_bslice, st1b_mksl, AP.f121, t1', e1, e2, e3]
    · simp (disch := omega) only [go_sem, abin_shl, abin_shr, Nat.reduceEqDiff, reduceIte, Nat.reduceAdd, Nat.reduceMul, Nat.reduceLT, Nat.reduceLeDiff, Int.reduceBEq, Int.reduceBNe, Int.reduceLT, Int.reduceLE, Int.reduceEq, dt, df, eqt, eqf, net, nef, wi, wb, alen_str, idxs_at, tn_add, tn_nat, aix, get_hit, get_miss, set_hit, set_miss, H.floor_alloc, H.next_alloc, H.floor_set, H.next_set, stO_d, condO_t, fill_n, fill_c, fillS_s, bir_bslice, bir_alloc, bir_box, birB_s, repl_s, repl_z, List.map_cons, List.map_nil, setFrom_nil, setFrom_cons, allsc_nil, allsc_cons, Bool.and_true, Bool.true_and, Bool.and_self, List.append_nil, Option.map_some, Option.map_none, iadr_s, iadr_m, idP_s, idQ_s, bir_mksl, mkslB_s, alen_s, alen_n, alen_m, Bool.and_false, Bool.false_and, Bool.or_false, Bool.or_true, Bool.true_or, Bool.false_or, Bool.or_self, C_dregF, goD_s, goD2_t, stb_n, stb_c, stK_n, stK_c, stV_s, stB_f, beq_int, beq_bool, beq_tup0, beq_nils, beq_simm0, beq_str, beq_sobj, beq_pobj, opsD_nil, opsD_u, opsD_g, goOD_s, preD_t, preD_f, AOp.loud, AOp.births, st1_u, st1_g, Int.reduceAdd, Int.reduceSub, Int.reduceMul, Int.reduceNeg, Int.reduceToNat, eqbB_s, beq_refl, beqs_refl, stB_t, beO_s, stBv_t, stBv_p, stBv_o, st1b_alloc, st1b_box, st1b_bslice, st1b_mksl, AP.f121]
  · simp (disch := omega) only [go_sem, abin_shl, abin_shr, Nat.reduceEqDiff, reduceIte, Nat.reduceAdd, Nat.reduceMul, Nat.reduceLT, Nat.reduceLeDiff, Int.reduceBEq, Int.reduceBNe, Int.reduceLT, Int.reduceLE, Int.reduceEq, dt, df, eqt, eqf, net, nef, wi, wb, alen_str, idxs_at, tn_add, tn_nat, aix, get_hit, get_miss, set_hit, set_miss, H.floor_alloc, H.next_alloc, H.floor_set, H.next_set, stO_d, condO_t, fill_n, fill_c, fillS_s, bir_bslice, bir_alloc, bir_box, birB_s, repl_s, repl_z, List.map_cons, List.map_nil, setFrom_nil, setFrom_cons, allsc_nil, allsc_cons, Bool.and_true, Bool.true_and, Bool.and_self, List.append_nil, Option.map_some, Option.map_none, iadr_s, iadr_m, idP_s, idQ_s, bir_mksl, mkslB_s, alen_s, alen_n, alen_m, Bool.and_false, Bool.false_and, Bool.or_false, Bool.or_true, Bool.true_or, Bool.false_or, Bool.or_self, C_dregF, goD_s, goD2_t, stb_n, stb_c, stK_n, stK_c, stV_s, stB_f, beq_int, beq_bool, beq_tup0, beq_nils, beq_simm0, beq_str, beq_sobj, beq_pobj, opsD_nil, opsD_u, opsD_g, goOD_s, preD_t, preD_f, AOp.loud, AOp.births, st1_u, st1_g, Int.reduceAdd, Int.reduceSub, Int.reduceMul, Int.reduceNeg, Int.reduceToNat, eqbB_s, beq_refl, beqs_refl, stB_t, beO_s, stBv_t, stBv_p, stBv_o, st1b_alloc, st1b_box, st1b_bslice, st1b_mksl, AP.f121]
end Ab
set_option linter.unusedSimpArgs false
set_option linter.unusedVariables false
set_option maxRecDepth 100000
namespace Ab
open Go
structure Tok where
  lit : Int
  len : Int
  dist : Int
deriving DecidableEq
end Ab
set_option linter.unusedSimpArgs false
set_option linter.unusedVariables false
namespace Ab
open Go
structure FC where
  f : Nat
  text : ByteArray
  most : Int
structure Ft (c : FC) (S : SS) (h : H) (ov : AV) : Prop where
  gf : h.get c.f = some [.str c.text, I S.at_, ov, I c.most, I S.e]
  own : Own h ov (bys S.out)
  ff : h.floor ≤ c.f
  of : ov.id? ≠ some c.f
  nx : h.floor ≤ h.next
  sz : c.text.size < 1125899906842624
  at_le : S.at_ ≤ 8 * c.text.size
  ol : (S.out.length : Int) ≤ c.most
  ml : c.most ≤ 900000
structure FF (c : FC) (h : H) (ov : AV) (h' : H) (ov' : AV) : Prop where
  fl : h'.floor = h.floor
  nx : h.next ≤ h'.next
  oth : ∀ id, id < h.next → id ≠ c.f → ov.id? ≠ some id → h'.get id = h.get id
  nb : ∀ i, ov'.id? = some i → ov.id? = some i ∨ h.next ≤ i
theorem FF.refl (c : FC) (h : H) (ov : AV) : FF c h ov h ov := ⟨rfl, Nat.le_refl _, fun _ _ _ _ => rfl, fun _ q => .inl q⟩
theorem FF.trans {c : FC} {h1 h2 h3 : H} {o1 o2 o3 : AV} (a : FF c h1 o1 h2 o2) (b : FF c h2 o2 h3 o3) : FF c h1 o1 h3 o3 := by
  refine ⟨b.fl.trans a.fl, Nat.le_trans a.nx b.nx, fun id h4 h5 h7 => ?_, fun i hi => ?_⟩
  · rw [b.oth id (Nat.lt_of_lt_of_le h4 a.nx) h5 (fun q => ?_), a.oth id h4 h5 h7]
    rcases a.nb id q with q | q
    · exact h7 q
    · omega
  · rcases b.nb i hi with q | q
    · exact a.nb i q
    · exact .inr (Nat.le_trans a.nx q)
theorem Ft.keep {c : FC} {S : SS} {h h' : H} {ov : AV} (st : Ft c S h ov) (hf : h'.floor = h.floor) (hn : h.next ≤ h'.next) (hg : ∀ i, i = c.f ∨ ov.id? = some i → h'.get i = h.get i) : Ft c S h' ov :=
  ⟨by rw [hg _ (.inl rfl)]; exact st.gf, st.own.mono hf fun i hi => hg i (.inr hi), by rw [hf]; exact st.ff, st.of, by rw [hf]; exact Nat.le_trans st.nx hn, st.sz, st.at_le, st.ol, st.ml⟩
theorem Ft.lt {c : FC} {S : SS} {h : H} {ov : AV} (st : Ft c S h ov) {i : Nat} (hi : i = c.f ∨ ov.id? = some i) : i < h.next := by
  rcases hi with rfl | hi
  · exact h.lt _ _ st.gf
  · exact st.own.lt hi
theorem Ft.alloc {c : FC} {S : SS} {h : H} {ov : AV} (st : Ft c S h ov) (cs : List AV) : Ft c S (h.alloc cs) ov ∧ FF c h ov (h.alloc cs) ov := by
  refine ⟨st.keep (by simp) (by simp) fun i hi => ?_, ⟨by simp, by simp, fun id h1 _ _ => ?_, fun _ q => .inl q⟩⟩
  · have := st.lt hi; rw [H.get_alloc, if_neg (by omega)]
  · rw [H.get_alloc, if_neg (by omega)]
end Ab
set_option linter.unusedSimpArgs false
set_option linter.unusedVariables false
namespace Ab
open Go
structure Bkr (h0 h : H) (b : Nat) (D : Nat → AV) (k : Nat) (p S0 : List Int) : Prop where
  get : h.get b = some (tab 17 D)
  fl : h.floor = h0.next
  fb : h0.next ≤ b
  nx : h.floor ≤ h.next
  low : ∀ id, id < h0.next → h.get id = h0.get id
  ck : D k = I (cnt p k)
  own : Own h (D 16) (ints (S0 ++ syms p k))
  nb : (D 16).id? ≠ some b
end Ab
set_option linter.unusedSimpArgs false
set_option linter.unusedVariables false
namespace Ab
open Go
end Ab
set_option linter.unusedSimpArgs false
set_option linter.unusedVariables false
namespace Ab
open Go
end Ab
set_option linter.unusedSimpArgs false
set_option linter.unusedVariables false
set_option maxRecDepth 100000
namespace Ab
open Go
def Ext (h g : H) : Prop := ∀ id c, h.get id = some c → g.get id = some c
theorem Ext.refl (h : H) : Ext h h := fun _ _ q => q
theorem Ext.trans {a b c : H} (x : Ext a b) (y : Ext b c) : Ext a c := fun i d q => y i d (x i d q)
theorem Ext.alloc {a h : H} (x : Ext a h) (cs : List AV) : Ext a (h.alloc cs) := fun i d q => by
  have := h.lt _ _ (x i d q)
  rw [H.get_alloc, if_neg (by omega)]; exact x i d q
theorem Ext.set {a h : H} (x : Ext a h) {id : Nat} (hid : a.next ≤ id) (cs : List AV) : Ext a (h.set id cs) := fun i d q => by
  have := a.lt _ _ q
  rw [H.get_set, if_neg (by omega)]; exact x i d q
end Ab
set_option linter.unusedSimpArgs false
set_option linter.unusedVariables false
set_option maxRecDepth 100000
namespace Ab
open Go
def countA (n : Int) : Bool := decide (0 ≤ n) && decide (n ≤ 1048576)
theorem count_c (h : H) (n : Int) : callW AP.A 119 [.int .i64 n] h = some (.bool (countA n), h) := by
  refine pure_c (fn := AP.f119) (h2 := h.fence) (e := [(2, .bool (countA n))]) rfl rfl rfl ?_ rfl rfl
  unfold countA
  by_cases c1 : 0 ≤ n <;> by_cases c2 : n ≤ 1048576 <;> simp (disch := omega) only [go_sem, abin_shl, abin_shr, Nat.reduceEqDiff, reduceIte, Nat.reduceAdd, Nat.reduceMul, Nat.reduceLT, Nat.reduceLeDiff, Int.reduceBEq, Int.reduceBNe, Int.reduceLT, Int.reduceLE, Int.reduceEq, dt, df, eqt, eqf, net, nef, wi, wb, alen_str, idxs_at, tn_add, tn_nat, aix, get_hit, get_miss, set_hit, set_miss, H.floor_alloc, H.next_alloc, H.floor_set, H.next_set, stO_d, condO_t, fill_n, fill_c, fillS_s, bir_bslice, bir_alloc, bir_box, birB_s, repl_s, repl_z, List.map_cons, List.map_nil, setFrom_nil, setFrom_cons, allsc_nil, allsc_cons, Bool.and_true, Bool.true_and, Bool.and_self, List.append_nil, Option.map_some, Option.map_none, iadr_s, iadr_m, idP_s, idQ_s, bir_mksl, mkslB_s, alen_s, alen_n, alen_m, Bool.and_false, Bool.false_and, Bool.or_false, Bool.or_true, Bool.true_or, Bool.false_or, Bool.or_self, C_dregF, goD_s, goD2_t, stb_n, stb_c, stK_n, stK_c, stV_s, stB_f, beq_int, beq_bool, beq_tup0, beq_nils, beq_simm0, beq_str, beq_sobj, beq_pobj, opsD_nil, opsD_u, opsD_g, goOD_s, preD_t, preD_f, AOp.loud, AOp.births, st1_u, st1_g, Int.reduceAdd, Int.reduceSub, Int.reduceMul, Int.reduceNeg, Int.reduceToNat, eqbB_s, beq_refl, beqs_refl, stB_t, beO_s, stBv_t, stBv_p, stBv_o, st1b_alloc, st1b_box, st1b_bslice, st1b_mksl, AP.f119]
def nodeA (n : Int) : Bool := decide (0 ≤ n) && decide (n < 4)
theorem node_c (h : H) (n : Int) : callW AP.A 120 [.int .i64 n] h = some (.bool (nodeA n), h) := by
  refine pure_c (fn := AP.f120) (h2 := h.fence) (e := [(2, .bool (nodeA n))]) rfl rfl rfl ?_ rfl rfl
  unfold nodeA
  by_cases c1 : 0 ≤ n <;> by_cases c2 : n < 4 <;> simp (disch := omega) only [go_sem, abin_shl, abin_shr, Nat.reduceEqDiff, reduceIte, Nat.reduceAdd, Nat.reduceMul, Nat.reduceLT, Nat.reduceLeDiff, Int.reduceBEq, Int.reduceBNe, Int.reduceLT, Int.reduceLE, Int.reduceEq, dt, df, eqt, eqf, net, nef, wi, wb, alen_str, idxs_at, tn_add, tn_nat, aix, get_hit, get_miss, set_hit, set_miss, H.floor_alloc, H.next_alloc, H.floor_set, H.next_set, stO_d, condO_t, fill_n, fill_c, fillS_s, bir_bslice, bir_alloc, bir_box, birB_s, repl_s, repl_z, List.map_cons, List.map_nil, setFrom_nil, setFrom_cons, allsc_nil, allsc_cons, Bool.and_true, Bool.true_and, Bool.and_self, List.append_nil, Option.map_some, Option.map_none, iadr_s, iadr_m, idP_s, idQ_s, bir_mksl, mkslB_s, alen_s, alen_n, alen_m, Bool.and_false, Bool.false_and, Bool.or_false, Bool.or_true, Bool.true_or, Bool.false_or, Bool.or_self, C_dregF, goD_s, goD2_t, stb_n, stb_c, stK_n, stK_c, stV_s, stB_f, beq_int, beq_bool, beq_tup0, beq_nils, beq_simm0, beq_str, beq_sobj, beq_pobj, opsD_nil, opsD_u, opsD_g, goOD_s, preD_t, preD_f, AOp.loud, AOp.births, st1_u, st1_g, Int.reduceAdd, Int.reduceSub, Int.reduceMul, Int.reduceNeg, Int.reduceToNat, eqbB_s, beq_refl, beqs_refl, stB_t, beO_s, stBv_t, stBv_p, stBv_o, st1b_alloc, st1b_box, st1b_bslice, st1b_mksl, AP.f120]
def uncount (v : AV) : Bool := match v with | .int .i64 n => !countA n | _ => false
theorem uncount_c (h : H) (n : Int) : callW AP.A 123 [.int .i64 n] h = some (.bool (!countA n), h) := by
  have k1 := count_c h.fence n
  refine pure_c (fn := AP.f123) (h2 := h.fence) (e := [(2, .bool (!countA n))]) rfl rfl rfl ?_ rfl rfl
  simp (disch := omega) only [go_sem, abin_shl, abin_shr, Nat.reduceEqDiff, reduceIte, Nat.reduceAdd, Nat.reduceMul, Nat.reduceLT, Nat.reduceLeDiff, Int.reduceBEq, Int.reduceBNe, Int.reduceLT, Int.reduceLE, Int.reduceEq, dt, df, eqt, eqf, net, nef, wi, wb, alen_str, idxs_at, tn_add, tn_nat, aix, get_hit, get_miss, set_hit, set_miss, H.floor_alloc, H.next_alloc, H.floor_set, H.next_set, stO_d, condO_t, fill_n, fill_c, fillS_s, bir_bslice, bir_alloc, bir_box, birB_s, repl_s, repl_z, List.map_cons, List.map_nil, setFrom_nil, setFrom_cons, allsc_nil, allsc_cons, Bool.and_true, Bool.true_and, Bool.and_self, List.append_nil, Option.map_some, Option.map_none, iadr_s, iadr_m, idP_s, idQ_s, bir_mksl, mkslB_s, alen_s, alen_n, alen_m, Bool.and_false, Bool.false_and, Bool.or_false, Bool.or_true, Bool.true_or, Bool.false_or, Bool.or_self, C_dregF, goD_s, goD2_t, stb_n, stb_c, stK_n, stK_c, stV_s, stB_f, beq_int, beq_bool, beq_tup0, beq_nils, beq_simm0, beq_str, beq_sobj, beq_pobj, opsD_nil, opsD_u, opsD_g, goOD_s, preD_t, preD_f, AOp.loud, AOp.births, st1_u, st1_g, Int.reduceAdd, Int.reduceSub, Int.reduceMul, Int.reduceNeg, Int.reduceToNat, eqbB_s, beq_refl, beqs_refl, stB_t, beO_s, stBv_t, stBv_p, stBv_o, st1b_alloc, st1b_box, st1b_bslice, st1b_mksl, AP.f123, k1]
def vecA (l : List Int) : Bool := decide (l.length = 4) && l.all countA
theorem any_uncount : ∀ l : List Int, (ints l).any uncount = !l.all countA
  | [] => rfl
  | n :: l => by
    have := any_uncount l
    simp only [ints, List.map_cons, List.any_cons, List.all_cons, Bool.not_and] at *
    rw [this]; rfl
theorem vec_c (h : H) (v : AV) (l : List Int) (rd : Rd h v (ints l)) (hl : l.length < 1125899906842624) : callW AP.A 117 [v] h = some (.bool (vecA l), h) := by
  have rd' := rd.mono (get_fence_mono h)
  have ln := rd'.len
  rw [ints_length] at ln
  simp only [I] at ln
  refine pure_c (fn := AP.f117) (h2 := h.fence) (e := [(2, .bool (vecA l))]) rfl rfl rfl ?_ rfl rfl
  unfold vecA
  by_cases c : l.length = 4
  · have k1 := contains_c (fv := .fn 123 [] []) uncount (fun x hx g => by
      obtain ⟨n, hn, rfl⟩ := List.mem_map.1 hx
      rw [callF_s]; exact uncount_c g n) (by simp; omega) h.fence rd'
    rw [any_uncount] at k1
    have c' : (l.length : Int) = 4 := by omega
    simp (disch := omega) only [go_sem, abin_shl, abin_shr, Nat.reduceEqDiff, reduceIte, Nat.reduceAdd, Nat.reduceMul, Nat.reduceLT, Nat.reduceLeDiff, Int.reduceBEq, Int.reduceBNe, Int.reduceLT, Int.reduceLE, Int.reduceEq, dt, df, eqt, eqf, net, nef, wi, wb, alen_str, idxs_at, tn_add, tn_nat, aix, get_hit, get_miss, set_hit, set_miss, H.floor_alloc, H.next_alloc, H.floor_set, H.next_set, stO_d, condO_t, fill_n, fill_c, fillS_s, bir_bslice, bir_alloc, bir_box, birB_s, repl_s, repl_z, List.map_cons, List.map_nil, setFrom_nil, setFrom_cons, allsc_nil, allsc_cons, Bool.and_true, Bool.true_and, Bool.and_self, List.append_nil, Option.map_some, Option.map_none, iadr_s, iadr_m, idP_s, idQ_s, bir_mksl, mkslB_s, alen_s, alen_n, alen_m, Bool.and_false, Bool.false_and, Bool.or_false, Bool.or_true, Bool.true_or, Bool.false_or, Bool.or_self, C_dregF, goD_s, goD2_t, stb_n, stb_c, stK_n, stK_c, stV_s, stB_f, beq_int, beq_bool, beq_tup0, beq_nils, beq_simm0, beq_str, beq_sobj, beq_pobj, opsD_nil, opsD_u, opsD_g, goOD_s, preD_t, preD_f, AOp.loud, AOp.births, st1_u, st1_g, Int.reduceAdd, Int.reduceSub, Int.reduceMul, Int.reduceNeg, Int.reduceToNat, eqbB_s, beq_refl, beqs_refl, stB_t, beO_s, stBv_t, stBv_p, stBv_o, st1b_alloc, st1b_box, st1b_bslice, st1b_mksl, AP.f117, ln, k1, Bool.not_not]
  · have c' : ¬ (l.length : Int) = 4 := by omega
    simp (disch := omega) only [go_sem, abin_shl, abin_shr, Nat.reduceEqDiff, reduceIte, Nat.reduceAdd, Nat.reduceMul, Nat.reduceLT, Nat.reduceLeDiff, Int.reduceBEq, Int.reduceBNe, Int.reduceLT, Int.reduceLE, Int.reduceEq, dt, df, eqt, eqf, net, nef, wi, wb, alen_str, idxs_at, tn_add, tn_nat, aix, get_hit, get_miss, set_hit, set_miss, H.floor_alloc, H.next_alloc, H.floor_set, H.next_set, stO_d, condO_t, fill_n, fill_c, fillS_s, bir_bslice, bir_alloc, bir_box, birB_s, repl_s, repl_z, List.map_cons, List.map_nil, setFrom_nil, setFrom_cons, allsc_nil, allsc_cons, Bool.and_true, Bool.true_and, Bool.and_self, List.append_nil, Option.map_some, Option.map_none, iadr_s, iadr_m, idP_s, idQ_s, bir_mksl, mkslB_s, alen_s, alen_n, alen_m, Bool.and_false, Bool.false_and, Bool.or_false, Bool.or_true, Bool.true_or, Bool.false_or, Bool.or_self, C_dregF, goD_s, goD2_t, stb_n, stb_c, stK_n, stK_c, stV_s, stB_f, beq_int, beq_bool, beq_tup0, beq_nils, beq_simm0, beq_str, beq_sobj, beq_pobj, opsD_nil, opsD_u, opsD_g, goOD_s, preD_t, preD_f, AOp.loud, AOp.births, st1_u, st1_g, Int.reduceAdd, Int.reduceSub, Int.reduceMul, Int.reduceNeg, Int.reduceToNat, eqbB_s, beq_refl, beqs_refl, stB_t, beO_s, stBv_t, stBv_p, stBv_o, st1b_alloc, st1b_box, st1b_bslice, st1b_mksl, AP.f117, ln]
theorem Rd.ints_at {h : H} {v : AV} {l : List Int} (r : Rd h v (ints l)) : ∃ ad : Int → AV, (∀ i : Int, 0 ≤ i ∧ i < l.length → aiadr 1 v (.int .i64 i) = some (ad i)) ∧
    ∀ g : H, Ext h g → ∀ (i : Nat) (n : Int), l[i]? = some n → aload false 1 (ad i) g = some (.int .i64 n) := by
  have r2 := r.rdN
  rw [ints_length] at r2
  obtain ⟨ad, a1, _, _, a3⟩ := r2.at_
  refine ⟨fun i => ad i 0, a1, fun g hg i n hn => ?_⟩
  have hi : i < l.length := (List.getElem?_eq_some_iff.1 hn).1
  refine (a3 g hg).1 i 0 _ ⟨by omega, by omega⟩ ?_
  rw [tn_nat, Nat.mul_one, Nat.add_zero]
  exact ints_get hn
structure Ent where
  name : ByteArray
  gone : Bool
  vec : List Int
  stamp : Int
  node : Int
  method : Int
  packed : ByteArray
  size : Int
  crc : Int
def entC (e : Ent) (v : AV) : List AV := [.str e.name, .bool e.gone, v, .int .i64 e.stamp, .int .i64 e.node, .int .i64 e.method, .str e.packed, .int .i64 e.size, .int .i64 e.crc]
def headA (e : Ent) : Bool := vecA e.vec && (decide (1 ≤ e.stamp) && (countA e.stamp && nodeA e.node))
structure PE (h : H) (p : AV) (cs : List AV) : Prop where
  nil : ∀ g : H, nilcB g p = some (p, g)
  fld : ∃ q : Nat → AV, (∀ k, afadr k p = some (q k)) ∧ ∀ g : H, Ext h g → ∀ (k : Nat) (c : AV), cs[k]? = some c → aload false 1 (q k) g = some c
theorem head_c (h : H) (p v : AV) (e : Ent) (pe : PE h p (entC e v)) (rd : Rd h v (ints e.vec)) (hl : e.vec.length < 1125899906842624) : callW AP.A 112 [p] h = some (.bool (headA e), h) := by
  have nl := pe.nil
  obtain ⟨q, f1, f2⟩ := pe.fld
  have l2 := f2 h (Ext.refl h) 2 v rfl
  have l3 := f2 h (Ext.refl h) 3 _ rfl
  have l4 := f2 h (Ext.refl h) 4 _ rfl
  have k1 := vec_c h v e.vec rd hl
  have k2 := count_c h e.stamp
  have k3 := node_c h e.node
  have c2 : countA e.stamp = true → 1 ≤ e.stamp → True := fun _ _ => trivial
  refine plain_c (fn := AP.f112) (h2 := h) (e := [(2, .bool (headA e))]) (vs := [.bool (headA e)]) rfl rfl rfl ?_ rfl
  unfold headA
  clear pe f2 rd c2
  generalize vecA e.vec = B1 at *
  generalize countA e.stamp = B2 at *
  generalize nodeA e.node = B3 at *
  by_cases c1 : 1 ≤ e.stamp <;> cases B1 <;> cases B2 <;> cases B3 <;> simp (disch := omega) only [go_sem, abin_shl, abin_shr, Nat.reduceEqDiff, reduceIte, Nat.reduceAdd, Nat.reduceMul, Nat.reduceLT, Nat.reduceLeDiff, Int.reduceBEq, Int.reduceBNe, Int.reduceLT, Int.reduceLE, Int.reduceEq, dt, df, eqt, eqf, net, nef, wi, wb, alen_str, idxs_at, tn_add, tn_nat, aix, get_hit, get_miss, set_hit, set_miss, H.floor_alloc, H.next_alloc, H.floor_set, H.next_set, stO_d, condO_t, fill_n, fill_c, fillS_s, bir_bslice, bir_alloc, bir_box, birB_s, repl_s, repl_z, List.map_cons, List.map_nil, setFrom_nil, setFrom_cons, allsc_nil, allsc_cons, Bool.and_true, Bool.true_and, Bool.and_self, List.append_nil, Option.map_some, Option.map_none, iadr_s, iadr_m, idP_s, idQ_s, bir_mksl, mkslB_s, alen_s, alen_n, alen_m, Bool.and_false, Bool.false_and, Bool.or_false, Bool.or_true, Bool.true_or, Bool.false_or, Bool.or_self, C_dregF, goD_s, goD2_t, stb_n, stb_c, stK_n, stK_c, stV_s, stB_f, beq_int, beq_bool, beq_tup0, beq_nils, beq_simm0, beq_str, beq_sobj, beq_pobj, opsD_nil, opsD_u, opsD_g, goOD_s, preD_t, preD_f, AOp.loud, AOp.births, st1_u, st1_g, Int.reduceAdd, Int.reduceSub, Int.reduceMul, Int.reduceNeg, Int.reduceToNat, eqbB_s, beq_refl, beqs_refl, stB_t, beO_s, stBv_t, stBv_p, stBv_o, st1b_alloc, st1b_box, st1b_bslice, st1b_mksl, AP.f112, nl, f1, l2, l3, l4, k1, k2, k3]
end Ab
set_option linter.unusedSimpArgs false
set_option linter.unusedVariables false
set_option maxRecDepth 100000
namespace Ab
open Go
def isEmp (s : ByteArray) : Bool := s.data.toList == (⟨#[]⟩ : ByteArray).data.toList
def contA (e : Ent) : Bool :=
  if e.gone then decide (e.method = 0) && (isEmp e.packed && (decide (e.size = 0) && decide (e.crc = 0)))
  else (decide (0 ≤ e.size) && (decide (e.size ≤ 300) && isA e.crc)) && (decide (e.method = 0) && decide ((e.packed.size : Int) = e.size) || decide (e.method = 8) && decide (e.packed.size ≤ 300))
theorem content_c (h : H) (p v : AV) (e : Ent) (pe : PE h p (entC e v)) : callW AP.A 122 [p] h = some (.bool (contA e), h) := by
  have nl := pe.nil
  obtain ⟨q, f1, f2⟩ := pe.fld
  have l1 := f2 h (Ext.refl h) 1 _ rfl
  have l5 := f2 h (Ext.refl h) 5 _ rfl
  have l6 := f2 h (Ext.refl h) 6 _ rfl
  have l7 := f2 h (Ext.refl h) 7 _ rfl
  have l8 := f2 h (Ext.refl h) 8 _ rfl
  have k1 := is_c h e.crc
  have e1 : abin .eql (.str e.packed) (.str ⟨#[]⟩) = some (.bool (isEmp e.packed)) := str_eql _ _
  refine plain_c (fn := AP.f122) (h2 := h) (e := [(2, .bool (contA e))]) (vs := [.bool (contA e)]) rfl rfl rfl ?_ rfl
  unfold contA
  clear pe f2
  generalize isEmp e.packed = B1 at *
  generalize isA e.crc = B2 at *
  cases hg : e.gone with
  | true =>
    rw [hg] at l1
    rw [if_pos rfl]
    by_cases c1 : e.method = 0
    · cases B1 with
      | false => simp (disch := omega) only [go_sem, abin_shl, abin_shr, Nat.reduceEqDiff, reduceIte, Nat.reduceAdd, Nat.reduceMul, Nat.reduceLT, Nat.reduceLeDiff, Int.reduceBEq, Int.reduceBNe, Int.reduceLT, Int.reduceLE, Int.reduceEq, dt, df, eqt, eqf, net, nef, wi, wb, alen_str, idxs_at, tn_add, tn_nat, aix, get_hit, get_miss, set_hit, set_miss, H.floor_alloc, H.next_alloc, H.floor_set, H.next_set, stO_d, condO_t, fill_n, fill_c, fillS_s, bir_bslice, bir_alloc, bir_box, birB_s, repl_s, repl_z, List.map_cons, List.map_nil, setFrom_nil, setFrom_cons, allsc_nil, allsc_cons, Bool.and_true, Bool.true_and, Bool.and_self, List.append_nil, Option.map_some, Option.map_none, iadr_s, iadr_m, idP_s, idQ_s, bir_mksl, mkslB_s, alen_s, alen_n, alen_m, Bool.and_false, Bool.false_and, Bool.or_false, Bool.or_true, Bool.true_or, Bool.false_or, Bool.or_self, C_dregF, goD_s, goD2_t, stb_n, stb_c, stK_n, stK_c, stV_s, stB_f, beq_int, beq_bool, beq_tup0, beq_nils, beq_simm0, beq_str, beq_sobj, beq_pobj, opsD_nil, opsD_u, opsD_g, goOD_s, preD_t, preD_f, AOp.loud, AOp.births, st1_u, st1_g, Int.reduceAdd, Int.reduceSub, Int.reduceMul, Int.reduceNeg, Int.reduceToNat, eqbB_s, beq_refl, beqs_refl, stB_t, beO_s, stBv_t, stBv_p, stBv_o, st1b_alloc, st1b_box, st1b_bslice, st1b_mksl, AP.f122, nl, f1, l1, l5, l6, l7, l8, e1]
      | true =>
        by_cases c2 : e.size = 0
        · by_cases c3 : e.crc = 0 <;> simp (disch := omega) only [go_sem, abin_shl, abin_shr, Nat.reduceEqDiff, reduceIte, Nat.reduceAdd, Nat.reduceMul, Nat.reduceLT, Nat.reduceLeDiff, Int.reduceBEq, Int.reduceBNe, Int.reduceLT, Int.reduceLE, Int.reduceEq, dt, df, eqt, eqf, net, nef, wi, wb, alen_str, idxs_at, tn_add, tn_nat, aix, get_hit, get_miss, set_hit, set_miss, H.floor_alloc, H.next_alloc, H.floor_set, H.next_set, stO_d, condO_t, fill_n, fill_c, fillS_s, bir_bslice, bir_alloc, bir_box, birB_s, repl_s, repl_z, List.map_cons, List.map_nil, setFrom_nil, setFrom_cons, allsc_nil, allsc_cons, Bool.and_true, Bool.true_and, Bool.and_self, List.append_nil, Option.map_some, Option.map_none, iadr_s, iadr_m, idP_s, idQ_s, bir_mksl, mkslB_s, alen_s, alen_n, alen_m, Bool.and_false, Bool.false_and, Bool.or_false, Bool.or_true, Bool.true_or, Bool.false_or, Bool.or_self, C_dregF, goD_s, goD2_t, stb_n, stb_c, stK_n, stK_c, stV_s, stB_f, beq_int, beq_bool, beq_tup0, beq_nils, beq_simm0, beq_str, beq_sobj, beq_pobj, opsD_nil, opsD_u, opsD_g, goOD_s, preD_t, preD_f, AOp.loud, AOp.births, st1_u, st1_g, Int.reduceAdd, Int.reduceSub, Int.reduceMul, Int.reduceNeg, Int.reduceToNat, eqbB_s, beq_refl, beqs_refl, stB_t, beO_s, stBv_t, stBv_p, stBv_o, st1b_alloc, st1b_box, st1b_bslice, st1b_mksl, AP.f122, nl, f1, l1, l5, l6, l7, l8, e1]
        · simp (disch := omega) only [go_sem, abin_shl, abin_shr, Nat.reduceEqDiff, reduceIte, Nat.reduceAdd, Nat.reduceMul, Nat.reduceLT, Nat.reduceLeDiff, Int.reduceBEq, Int.reduceBNe, Int.reduceLT, Int.reduceLE, Int.reduceEq, dt, df, eqt, eqf, net, nef, wi, wb, alen_str, idxs_at, tn_add, tn_nat, aix, get_hit, get_miss, set_hit, set_miss, H.floor_alloc, H.next_alloc, H.floor_set, H.next_set, stO_d, condO_t, fill_n, fill_c, fillS_s, bir_bslice, bir_alloc, bir_box, birB_s, repl_s, repl_z, List.map_cons, List.map_nil, setFrom_nil, setFrom_cons, allsc_nil, allsc_cons, Bool.and_true, Bool.true_and, Bool.and_self, List.append_nil, Option.map_some, Option.map_none, iadr_s, iadr_m, idP_s, idQ_s, bir_mksl, mkslB_s, alen_s, alen_n, alen_m, Bool.and_false, Bool.false_and, Bool.or_false, Bool.or_true, Bool.true_or, Bool.false_or, Bool.or_self, C_dregF, goD_s, goD2_t, stb_n, stb_c, stK_n, stK_c, stV_s, stB_f, beq_int, beq_bool, beq_tup0, beq_nils, beq_simm0, beq_str, beq_sobj, beq_pobj, opsD_nil, opsD_u, opsD_g, goOD_s, preD_t, preD_f, AOp.loud, AOp.births, st1_u, st1_g, Int.reduceAdd, Int.reduceSub, Int.reduceMul, Int.reduceNeg, Int.reduceToNat, eqbB_s, beq_refl, beqs_refl, stB_t, beO_s, stBv_t, stBv_p, stBv_o, st1b_alloc, st1b_box, st1b_bslice, st1b_mksl, AP.f122, nl, f1, l1, l5, l6, l7, l8, e1]
    · simp (disch := omega) only [go_sem, abin_shl, abin_shr, Nat.reduceEqDiff, reduceIte, Nat.reduceAdd, Nat.reduceMul, Nat.reduceLT, Nat.reduceLeDiff, Int.reduceBEq, Int.reduceBNe, Int.reduceLT, Int.reduceLE, Int.reduceEq, dt, df, eqt, eqf, net, nef, wi, wb, alen_str, idxs_at, tn_add, tn_nat, aix, get_hit, get_miss, set_hit, set_miss, H.floor_alloc, H.next_alloc, H.floor_set, H.next_set, stO_d, condO_t, fill_n, fill_c, fillS_s, bir_bslice, bir_alloc, bir_box, birB_s, repl_s, repl_z, List.map_cons, List.map_nil, setFrom_nil, setFrom_cons, allsc_nil, allsc_cons, Bool.and_true, Bool.true_and, Bool.and_self, List.append_nil, Option.map_some, Option.map_none, iadr_s, iadr_m, idP_s, idQ_s, bir_mksl, mkslB_s, alen_s, alen_n, alen_m, Bool.and_false, Bool.false_and, Bool.or_false, Bool.or_true, Bool.true_or, Bool.false_or, Bool.or_self, C_dregF, goD_s, goD2_t, stb_n, stb_c, stK_n, stK_c, stV_s, stB_f, beq_int, beq_bool, beq_tup0, beq_nils, beq_simm0, beq_str, beq_sobj, beq_pobj, opsD_nil, opsD_u, opsD_g, goOD_s, preD_t, preD_f, AOp.loud, AOp.births, st1_u, st1_g, Int.reduceAdd, Int.reduceSub, Int.reduceMul, Int.reduceNeg, Int.reduceToNat, eqbB_s, beq_refl, beqs_refl, stB_t, beO_s, stBv_t, stBv_p, stBv_o, st1b_alloc, st1b_box, st1b_bslice, st1b_mksl, AP.f122, nl, f1, l1, l5, l6, l7, l8, e1]
  | false =>
    rw [hg] at l1
    rw [if_neg (by decide)]
    by_cases c1 : e.method = 0
    · have c1' : ¬ e.method = 8 := by omega
      by_cases c2 : (e.packed.size : Int) = e.size
      · by_cases c3 : 0 ≤ e.size
        · by_cases c4 : e.size ≤ 300
          · cases B2 <;> simp (disch := omega) only [go_sem, abin_shl, abin_shr, Nat.reduceEqDiff, reduceIte, Nat.reduceAdd, Nat.reduceMul, Nat.reduceLT, Nat.reduceLeDiff, Int.reduceBEq, Int.reduceBNe, Int.reduceLT, Int.reduceLE, Int.reduceEq, dt, df, eqt, eqf, net, nef, wi, wb, alen_str, idxs_at, tn_add, tn_nat, aix, get_hit, get_miss, set_hit, set_miss, H.floor_alloc, H.next_alloc, H.floor_set, H.next_set, stO_d, condO_t, fill_n, fill_c, fillS_s, bir_bslice, bir_alloc, bir_box, birB_s, repl_s, repl_z, List.map_cons, List.map_nil, setFrom_nil, setFrom_cons, allsc_nil, allsc_cons, Bool.and_true, Bool.true_and, Bool.and_self, List.append_nil, Option.map_some, Option.map_none, iadr_s, iadr_m, idP_s, idQ_s, bir_mksl, mkslB_s, alen_s, alen_n, alen_m, Bool.and_false, Bool.false_and, Bool.or_false, Bool.or_true, Bool.true_or, Bool.false_or, Bool.or_self, C_dregF, goD_s, goD2_t, stb_n, stb_c, stK_n, stK_c, stV_s, stB_f, beq_int, beq_bool, beq_tup0, beq_nils, beq_simm0, beq_str, beq_sobj, beq_pobj, opsD_nil, opsD_u, opsD_g, goOD_s, preD_t, preD_f, AOp.loud, AOp.births, st1_u, st1_g, Int.reduceAdd, Int.reduceSub, Int.reduceMul, Int.reduceNeg, Int.reduceToNat, eqbB_s, beq_refl, beqs_refl, stB_t, beO_s, stBv_t, stBv_p, stBv_o, st1b_alloc, st1b_box, st1b_bslice, st1b_mksl, AP.f122, nl, f1, l1, l5, l6, l7, l8, e1, k1]
          · simp (disch := omega) only [go_sem, abin_shl, abin_shr, Nat.reduceEqDiff, reduceIte, Nat.reduceAdd, Nat.reduceMul, Nat.reduceLT, Nat.reduceLeDiff, Int.reduceBEq, Int.reduceBNe, Int.reduceLT, Int.reduceLE, Int.reduceEq, dt, df, eqt, eqf, net, nef, wi, wb, alen_str, idxs_at, tn_add, tn_nat, aix, get_hit, get_miss, set_hit, set_miss, H.floor_alloc, H.next_alloc, H.floor_set, H.next_set, stO_d, condO_t, fill_n, fill_c, fillS_s, bir_bslice, bir_alloc, bir_box, birB_s, repl_s, repl_z, List.map_cons, List.map_nil, setFrom_nil, setFrom_cons, allsc_nil, allsc_cons, Bool.and_true, Bool.true_and, Bool.and_self, List.append_nil, Option.map_some, Option.map_none, iadr_s, iadr_m, idP_s, idQ_s, bir_mksl, mkslB_s, alen_s, alen_n, alen_m, Bool.and_false, Bool.false_and, Bool.or_false, Bool.or_true, Bool.true_or, Bool.false_or, Bool.or_self, C_dregF, goD_s, goD2_t, stb_n, stb_c, stK_n, stK_c, stV_s, stB_f, beq_int, beq_bool, beq_tup0, beq_nils, beq_simm0, beq_str, beq_sobj, beq_pobj, opsD_nil, opsD_u, opsD_g, goOD_s, preD_t, preD_f, AOp.loud, AOp.births, st1_u, st1_g, Int.reduceAdd, Int.reduceSub, Int.reduceMul, Int.reduceNeg, Int.reduceToNat, eqbB_s, beq_refl, beqs_refl, stB_t, beO_s, stBv_t, stBv_p, stBv_o, st1b_alloc, st1b_box, st1b_bslice, st1b_mksl, AP.f122, nl, f1, l1, l5, l6, l7, l8, e1, k1]
        · exfalso; omega
      · simp (disch := omega) only [go_sem, abin_shl, abin_shr, Nat.reduceEqDiff, reduceIte, Nat.reduceAdd, Nat.reduceMul, Nat.reduceLT, Nat.reduceLeDiff, Int.reduceBEq, Int.reduceBNe, Int.reduceLT, Int.reduceLE, Int.reduceEq, dt, df, eqt, eqf, net, nef, wi, wb, alen_str, idxs_at, tn_add, tn_nat, aix, get_hit, get_miss, set_hit, set_miss, H.floor_alloc, H.next_alloc, H.floor_set, H.next_set, stO_d, condO_t, fill_n, fill_c, fillS_s, bir_bslice, bir_alloc, bir_box, birB_s, repl_s, repl_z, List.map_cons, List.map_nil, setFrom_nil, setFrom_cons, allsc_nil, allsc_cons, Bool.and_true, Bool.true_and, Bool.and_self, List.append_nil, Option.map_some, Option.map_none, iadr_s, iadr_m, idP_s, idQ_s, bir_mksl, mkslB_s, alen_s, alen_n, alen_m, Bool.and_false, Bool.false_and, Bool.or_false, Bool.or_true, Bool.true_or, Bool.false_or, Bool.or_self, C_dregF, goD_s, goD2_t, stb_n, stb_c, stK_n, stK_c, stV_s, stB_f, beq_int, beq_bool, beq_tup0, beq_nils, beq_simm0, beq_str, beq_sobj, beq_pobj, opsD_nil, opsD_u, opsD_g, goOD_s, preD_t, preD_f, AOp.loud, AOp.births, st1_u, st1_g, Int.reduceAdd, Int.reduceSub, Int.reduceMul, Int.reduceNeg, Int.reduceToNat, eqbB_s, beq_refl, beqs_refl, stB_t, beO_s, stBv_t, stBv_p, stBv_o, st1b_alloc, st1b_box, st1b_bslice, st1b_mksl, AP.f122, nl, f1, l1, l5, l6, l7, l8, e1, k1]
    · by_cases c0 : e.method = 8
      · by_cases c2 : e.packed.size ≤ 300
        · by_cases c3 : 0 ≤ e.size
          · by_cases c4 : e.size ≤ 300
            · cases B2 <;> simp (disch := omega) only [go_sem, abin_shl, abin_shr, Nat.reduceEqDiff, reduceIte, Nat.reduceAdd, Nat.reduceMul, Nat.reduceLT, Nat.reduceLeDiff, Int.reduceBEq, Int.reduceBNe, Int.reduceLT, Int.reduceLE, Int.reduceEq, dt, df, eqt, eqf, net, nef, wi, wb, alen_str, idxs_at, tn_add, tn_nat, aix, get_hit, get_miss, set_hit, set_miss, H.floor_alloc, H.next_alloc, H.floor_set, H.next_set, stO_d, condO_t, fill_n, fill_c, fillS_s, bir_bslice, bir_alloc, bir_box, birB_s, repl_s, repl_z, List.map_cons, List.map_nil, setFrom_nil, setFrom_cons, allsc_nil, allsc_cons, Bool.and_true, Bool.true_and, Bool.and_self, List.append_nil, Option.map_some, Option.map_none, iadr_s, iadr_m, idP_s, idQ_s, bir_mksl, mkslB_s, alen_s, alen_n, alen_m, Bool.and_false, Bool.false_and, Bool.or_false, Bool.or_true, Bool.true_or, Bool.false_or, Bool.or_self, C_dregF, goD_s, goD2_t, stb_n, stb_c, stK_n, stK_c, stV_s, stB_f, beq_int, beq_bool, beq_tup0, beq_nils, beq_simm0, beq_str, beq_sobj, beq_pobj, opsD_nil, opsD_u, opsD_g, goOD_s, preD_t, preD_f, AOp.loud, AOp.births, st1_u, st1_g, Int.reduceAdd, Int.reduceSub, Int.reduceMul, Int.reduceNeg, Int.reduceToNat, eqbB_s, beq_refl, beqs_refl, stB_t, beO_s, stBv_t, stBv_p, stBv_o, st1b_alloc, st1b_box, st1b_bslice, st1b_mksl, AP.f122, nl, f1, l1, l5, l6, l7, l8, e1, k1]
            · simp (disch := omega) only [go_sem, abin_shl, abin_shr, Nat.reduceEqDiff, reduceIte, Nat.reduceAdd, Nat.reduceMul, Nat.reduceLT, Nat.reduceLeDiff, Int.reduceBEq, Int.reduceBNe, Int.reduceLT, Int.reduceLE, Int.reduceEq, dt, df, eqt, eqf, net, nef, wi, wb, alen_str, idxs_at, tn_add, tn_nat, aix, get_hit, get_miss, set_hit, set_miss, H.floor_alloc, H.next_alloc, H.floor_set, H.next_set, stO_d, condO_t, fill_n, fill_c, fillS_s, bir_bslice, bir_alloc, bir_box, birB_s, repl_s, repl_z, List.map_cons, List.map_nil, setFrom_nil, setFrom_cons, allsc_nil, allsc_cons, Bool.and_true, Bool.true_and, Bool.and_self, List.append_nil, Option.map_some, Option.map_none, iadr_s, iadr_m, idP_s, idQ_s, bir_mksl, mkslB_s, alen_s, alen_n, alen_m, Bool.and_false, Bool.false_and, Bool.or_false, Bool.or_true, Bool.true_or, Bool.false_or, Bool.or_self, C_dregF, goD_s, goD2_t, stb_n, stb_c, stK_n, stK_c, stV_s, stB_f, beq_int, beq_bool, beq_tup0, beq_nils, beq_simm0, beq_str, beq_sobj, beq_pobj, opsD_nil, opsD_u, opsD_g, goOD_s, preD_t, preD_f, AOp.loud, AOp.births, st1_u, st1_g, Int.reduceAdd, Int.reduceSub, Int.reduceMul, Int.reduceNeg, Int.reduceToNat, eqbB_s, beq_refl, beqs_refl, stB_t, beO_s, stBv_t, stBv_p, stBv_o, st1b_alloc, st1b_box, st1b_bslice, st1b_mksl, AP.f122, nl, f1, l1, l5, l6, l7, l8, e1, k1]
          · simp (disch := omega) only [go_sem, abin_shl, abin_shr, Nat.reduceEqDiff, reduceIte, Nat.reduceAdd, Nat.reduceMul, Nat.reduceLT, Nat.reduceLeDiff, Int.reduceBEq, Int.reduceBNe, Int.reduceLT, Int.reduceLE, Int.reduceEq, dt, df, eqt, eqf, net, nef, wi, wb, alen_str, idxs_at, tn_add, tn_nat, aix, get_hit, get_miss, set_hit, set_miss, H.floor_alloc, H.next_alloc, H.floor_set, H.next_set, stO_d, condO_t, fill_n, fill_c, fillS_s, bir_bslice, bir_alloc, bir_box, birB_s, repl_s, repl_z, List.map_cons, List.map_nil, setFrom_nil, setFrom_cons, allsc_nil, allsc_cons, Bool.and_true, Bool.true_and, Bool.and_self, List.append_nil, Option.map_some, Option.map_none, iadr_s, iadr_m, idP_s, idQ_s, bir_mksl, mkslB_s, alen_s, alen_n, alen_m, Bool.and_false, Bool.false_and, Bool.or_false, Bool.or_true, Bool.true_or, Bool.false_or, Bool.or_self, C_dregF, goD_s, goD2_t, stb_n, stb_c, stK_n, stK_c, stV_s, stB_f, beq_int, beq_bool, beq_tup0, beq_nils, beq_simm0, beq_str, beq_sobj, beq_pobj, opsD_nil, opsD_u, opsD_g, goOD_s, preD_t, preD_f, AOp.loud, AOp.births, st1_u, st1_g, Int.reduceAdd, Int.reduceSub, Int.reduceMul, Int.reduceNeg, Int.reduceToNat, eqbB_s, beq_refl, beqs_refl, stB_t, beO_s, stBv_t, stBv_p, stBv_o, st1b_alloc, st1b_box, st1b_bslice, st1b_mksl, AP.f122, nl, f1, l1, l5, l6, l7, l8, e1, k1]
        · simp (disch := omega) only [go_sem, abin_shl, abin_shr, Nat.reduceEqDiff, reduceIte, Nat.reduceAdd, Nat.reduceMul, Nat.reduceLT, Nat.reduceLeDiff, Int.reduceBEq, Int.reduceBNe, Int.reduceLT, Int.reduceLE, Int.reduceEq, dt, df, eqt, eqf, net, nef, wi, wb, alen_str, idxs_at, tn_add, tn_nat, aix, get_hit, get_miss, set_hit, set_miss, H.floor_alloc, H.next_alloc, H.floor_set, H.next_set, stO_d, condO_t, fill_n, fill_c, fillS_s, bir_bslice, bir_alloc, bir_box, birB_s, repl_s, repl_z, List.map_cons, List.map_nil, setFrom_nil, setFrom_cons, allsc_nil, allsc_cons, Bool.and_true, Bool.true_and, Bool.and_self, List.append_nil, Option.map_some, Option.map_none, iadr_s, iadr_m, idP_s, idQ_s, bir_mksl, mkslB_s, alen_s, alen_n, alen_m, Bool.and_false, Bool.false_and, Bool.or_false, Bool.or_true, Bool.true_or, Bool.false_or, Bool.or_self, C_dregF, goD_s, goD2_t, stb_n, stb_c, stK_n, stK_c, stV_s, stB_f, beq_int, beq_bool, beq_tup0, beq_nils, beq_simm0, beq_str, beq_sobj, beq_pobj, opsD_nil, opsD_u, opsD_g, goOD_s, preD_t, preD_f, AOp.loud, AOp.births, st1_u, st1_g, Int.reduceAdd, Int.reduceSub, Int.reduceMul, Int.reduceNeg, Int.reduceToNat, eqbB_s, beq_refl, beqs_refl, stB_t, beO_s, stBv_t, stBv_p, stBv_o, st1b_alloc, st1b_box, st1b_bslice, st1b_mksl, AP.f122, nl, f1, l1, l5, l6, l7, l8, e1, k1]
      · simp (disch := omega) only [go_sem, abin_shl, abin_shr, Nat.reduceEqDiff, reduceIte, Nat.reduceAdd, Nat.reduceMul, Nat.reduceLT, Nat.reduceLeDiff, Int.reduceBEq, Int.reduceBNe, Int.reduceLT, Int.reduceLE, Int.reduceEq, dt, df, eqt, eqf, net, nef, wi, wb, alen_str, idxs_at, tn_add, tn_nat, aix, get_hit, get_miss, set_hit, set_miss, H.floor_alloc, H.next_alloc, H.floor_set, H.next_set, stO_d, condO_t, fill_n, fill_c, fillS_s, bir_bslice, bir_alloc, bir_box, birB_s, repl_s, repl_z, List.map_cons, List.map_nil, setFrom_nil, setFrom_cons, allsc_nil, allsc_cons, Bool.and_true, Bool.true_and, Bool.and_self, List.append_nil, Option.map_some, Option.map_none, iadr_s, iadr_m, idP_s, idQ_s, bir_mksl, mkslB_s, alen_s, alen_n, alen_m, Bool.and_false, Bool.false_and, Bool.or_false, Bool.or_true, Bool.true_or, Bool.false_or, Bool.or_self, C_dregF, goD_s, goD2_t, stb_n, stb_c, stK_n, stK_c, stV_s, stB_f, beq_int, beq_bool, beq_tup0, beq_nils, beq_simm0, beq_str, beq_sobj, beq_pobj, opsD_nil, opsD_u, opsD_g, goOD_s, preD_t, preD_f, AOp.loud, AOp.births, st1_u, st1_g, Int.reduceAdd, Int.reduceSub, Int.reduceMul, Int.reduceNeg, Int.reduceToNat, eqbB_s, beq_refl, beqs_refl, stB_t, beO_s, stBv_t, stBv_p, stBv_o, st1b_alloc, st1b_box, st1b_bslice, st1b_mksl, AP.f122, nl, f1, l1, l5, l6, l7, l8, e1, k1]
def entOk (prev : Option Ent) (e : Ent) : Bool := nameA e.name && ((match prev with | none => true | some p => Op.bytesLess p.name.toList e.name.toList) && (headA e && contA e))
theorem entOk_n (e : Ent) : entOk none e = (nameA e.name && (headA e && contA e)) := by simp [entOk]
theorem entOk_s (p e : Ent) : entOk (some p) e = (nameA e.name && (Op.bytesLess p.name.toList e.name.toList && (headA e && contA e))) := rfl
def mayL : Option Ent → List Ent → Bool
  | _, [] => true
  | p, e :: r => entOk p e && mayL (some e) r
abbrev EntP := Ent × AV
def epC (x : EntP) : List AV := entC x.1 x.2
def entsC (l : List EntP) : List AV := l.flatMap epC
theorem epC_len (x : EntP) : (epC x).length = 9 := rfl
structure EOk (h : H) (x : EntP) : Prop where
  vec : Rd h x.2 (ints x.1.vec)
  vl : x.1.vec.length < 1125899906842624
  nl : x.1.name.size < 1125899906842624
  pl : x.1.packed.size < 1125899906842624
theorem EOk.mono {h g : H} {x : EntP} (o : EOk h x) (e : Ext h g) : EOk g x := ⟨o.vec.mono fun i c q => e i c q, o.vl, o.nl, o.pl⟩
theorem zm_loop {v : AV} {l : List EntP} (hn : l.length < 1125899906842624) (h : H) (b : Nat) (hb : h.get b = some [v]) (rd : RdN 9 h v l.length (entsC l)) (hv : ∀ x ∈ l, EOk h x) : ∀ (q p : List EntP), l = p ++ q →
    (∃ e', Lp AP.A [1, 7, 8] AP.f113L0 [(1, .pobj b 0), (7, .int .i64 l.length), (8, .int .i64 p.length)] h = some (.exit 0, e', h) ∧ look e' 1 = .pobj b 0 ∧ mayL (p.getLast?.map (·.1)) (q.map (·.1)) = true) ∨
    (∃ e', Lp AP.A [1, 7, 8] AP.f113L0 [(1, .pobj b 0), (7, .int .i64 l.length), (8, .int .i64 p.length)] h = some (.ret, e', h) ∧ look e' 2 = .bool false ∧ mayL (p.getLast?.map (·.1)) (q.map (·.1)) = false)
  | [], p, hp => by
    left
    rw [List.append_nil] at hp; subst hp
    refine ⟨[(1, .pobj b 0), (7, .int .i64 l.length), (8, .int .i64 l.length), (9, .bool false)], Lp_exit ?_, rfl, rfl⟩
    simp (disch := omega) only [go_sem, abin_shl, abin_shr, Nat.reduceEqDiff, reduceIte, Nat.reduceAdd, Nat.reduceMul, Nat.reduceLT, Nat.reduceLeDiff, Int.reduceBEq, Int.reduceBNe, Int.reduceLT, Int.reduceLE, Int.reduceEq, dt, df, eqt, eqf, net, nef, wi, wb, alen_str, idxs_at, tn_add, tn_nat, aix, get_hit, get_miss, set_hit, set_miss, H.floor_alloc, H.next_alloc, H.floor_set, H.next_set, stO_d, condO_t, fill_n, fill_c, fillS_s, bir_bslice, bir_alloc, bir_box, birB_s, repl_s, repl_z, List.map_cons, List.map_nil, setFrom_nil, setFrom_cons, allsc_nil, allsc_cons, Bool.and_true, Bool.true_and, Bool.and_self, List.append_nil, Option.map_some, Option.map_none, iadr_s, iadr_m, idP_s, idQ_s, bir_mksl, mkslB_s, alen_s, alen_n, alen_m, Bool.and_false, Bool.false_and, Bool.or_false, Bool.or_true, Bool.true_or, Bool.false_or, Bool.or_self, C_dregF, goD_s, goD2_t, stb_n, stb_c, stK_n, stK_c, stV_s, stB_f, beq_int, beq_bool, beq_tup0, beq_nils, beq_simm0, beq_str, beq_sobj, beq_pobj, opsD_nil, opsD_u, opsD_g, goOD_s, preD_t, preD_f, AOp.loud, AOp.births, st1_u, st1_g, Int.reduceAdd, Int.reduceSub, Int.reduceMul, Int.reduceNeg, Int.reduceToNat, eqbB_s, beq_refl, beqs_refl, stB_t, beO_s, stBv_t, stBv_p, stBv_o, st1b_alloc, st1b_box, st1b_bslice, st1b_mksl, AP.f113L0]
  | x :: q, p, hp => by
    have hlen : l.length = p.length + (q.length + 1) := by rw [hp]; simp
    have hx : l[p.length]? = some x := by rw [hp]; simp
    have ho := hv x (by rw [hp]; simp)
    obtain ⟨ad, a1, a2, a4, a3⟩ := rd.at_
    have hI : (0 : Int) ≤ (p.length : Int) ∧ (p.length : Int) < l.length := ⟨by omega, by omega⟩
    have b1 := a1 _ hI
    have pe : PE h (ad p.length 0) (entC x.1 x.2) := by
      refine ⟨fun g => a4 _ 0 g hI, fun k => ad p.length (0 + k), fun k => a2 _ 0 k hI, fun g hg k c hc => ?_⟩
      have hk : k < 9 := (List.getElem?_eq_some_iff.1 hc).1
      refine (a3 g hg).1 _ _ _ hI ?_
      rw [tn_nat, Nat.zero_add, show entsC l = l.flatMap epC from rfl, fm_get epC_len hx hk]; exact hc
    have k1 := name_c h x.1.name ho.nl
    have k2 := head_c h _ _ x.1 pe ho.vec ho.vl
    have k3 := content_c h _ _ x.1 pe
    have nl := pe.nil
    obtain ⟨qq, f1, f2⟩ := pe.fld
    have l0 := f2 h (Ext.refl h) 0 _ rfl
    have ih := zm_loop hn h b hb rd hv q (p ++ [x]) (by rw [hp]; simp)
    have w1 : (((p ++ [x]).length : Nat) : Int) = (p.length : Int) + 1 := by simp
    rw [w1, List.getLast?_concat] at ih
    have step : evC (callW AP.A) loopW AP.f113L0 (restr [(1, .pobj b 0), (7, .int .i64 l.length), (8, .int .i64 p.length)] [1, 7, 8]) h = if entOk (p.getLast?.map (·.1)) x.1 then some (.normal, [(1, .pobj b 0), (7, .int .i64 l.length), (8, .int .i64 ((p.length : Int) + 1))], h) else some (.ret, [(2, .bool false)], h) := by
      cases hl : p.getLast? with
      | none =>
        have hp0 : p = [] := List.getLast?_eq_none_iff.1 hl
        have hp1 : p.length = 0 := by rw [hp0]; rfl
        clear ih w1 pe f2 a1 a2 a3 a4 hl hv hp ho hx
        rw [Option.map_none, entOk_n]
        generalize nameA x.1.name = B1 at *
        generalize headA x.1 = B3 at *
        generalize contA x.1 = B4 at *
        cases B1 with
        | false =>
          rw [Bool.false_and, if_neg (by decide)]
          simp (disch := omega) only [go_sem, abin_shl, abin_shr, Nat.reduceEqDiff, reduceIte, Nat.reduceAdd, Nat.reduceMul, Nat.reduceLT, Nat.reduceLeDiff, Int.reduceBEq, Int.reduceBNe, Int.reduceLT, Int.reduceLE, Int.reduceEq, dt, df, eqt, eqf, net, nef, wi, wb, alen_str, idxs_at, tn_add, tn_nat, aix, get_hit, get_miss, set_hit, set_miss, H.floor_alloc, H.next_alloc, H.floor_set, H.next_set, stO_d, condO_t, fill_n, fill_c, fillS_s, bir_bslice, bir_alloc, bir_box, birB_s, repl_s, repl_z, List.map_cons, List.map_nil, setFrom_nil, setFrom_cons, allsc_nil, allsc_cons, Bool.and_true, Bool.true_and, Bool.and_self, List.append_nil, Option.map_some, Option.map_none, iadr_s, iadr_m, idP_s, idQ_s, bir_mksl, mkslB_s, alen_s, alen_n, alen_m, Bool.and_false, Bool.false_and, Bool.or_false, Bool.or_true, Bool.true_or, Bool.false_or, Bool.or_self, C_dregF, goD_s, goD2_t, stb_n, stb_c, stK_n, stK_c, stV_s, stB_f, beq_int, beq_bool, beq_tup0, beq_nils, beq_simm0, beq_str, beq_sobj, beq_pobj, opsD_nil, opsD_u, opsD_g, goOD_s, preD_t, preD_f, AOp.loud, AOp.births, st1_u, st1_g, Int.reduceAdd, Int.reduceSub, Int.reduceMul, Int.reduceNeg, Int.reduceToNat, eqbB_s, beq_refl, beqs_refl, stB_t, beO_s, stBv_t, stBv_p, stBv_o, st1b_alloc, st1b_box, st1b_bslice, st1b_mksl, AP.f113L0, hb, b1, nl, f1, l0, k1, k2, k3]
        | true =>
          cases B3 with
          | false =>
            rw [Bool.false_and, Bool.and_false, if_neg (by decide)]
            simp (disch := omega) only [go_sem, abin_shl, abin_shr, Nat.reduceEqDiff, reduceIte, Nat.reduceAdd, Nat.reduceMul, Nat.reduceLT, Nat.reduceLeDiff, Int.reduceBEq, Int.reduceBNe, Int.reduceLT, Int.reduceLE, Int.reduceEq, dt, df, eqt, eqf, net, nef, wi, wb, alen_str, idxs_at, tn_add, tn_nat, aix, get_hit, get_miss, set_hit, set_miss, H.floor_alloc, H.next_alloc, H.floor_set, H.next_set, stO_d, condO_t, fill_n, fill_c, fillS_s, bir_bslice, bir_alloc, bir_box, birB_s, repl_s, repl_z, List.map_cons, List.map_nil, setFrom_nil, setFrom_cons, allsc_nil, allsc_cons, Bool.and_true, Bool.true_and, Bool.and_self, List.append_nil, Option.map_some, Option.map_none, iadr_s, iadr_m, idP_s, idQ_s, bir_mksl, mkslB_s, alen_s, alen_n, alen_m, Bool.and_false, Bool.false_and, Bool.or_false, Bool.or_true, Bool.true_or, Bool.false_or, Bool.or_self, C_dregF, goD_s, goD2_t, stb_n, stb_c, stK_n, stK_c, stV_s, stB_f, beq_int, beq_bool, beq_tup0, beq_nils, beq_simm0, beq_str, beq_sobj, beq_pobj, opsD_nil, opsD_u, opsD_g, goOD_s, preD_t, preD_f, AOp.loud, AOp.births, st1_u, st1_g, Int.reduceAdd, Int.reduceSub, Int.reduceMul, Int.reduceNeg, Int.reduceToNat, eqbB_s, beq_refl, beqs_refl, stB_t, beO_s, stBv_t, stBv_p, stBv_o, st1b_alloc, st1b_box, st1b_bslice, st1b_mksl, AP.f113L0, hb, b1, nl, f1, l0, k1, k2, k3]
          | true =>
            cases B4 with
            | false =>
              rw [Bool.and_false, Bool.and_false, if_neg (by decide)]
              simp (disch := omega) only [go_sem, abin_shl, abin_shr, Nat.reduceEqDiff, reduceIte, Nat.reduceAdd, Nat.reduceMul, Nat.reduceLT, Nat.reduceLeDiff, Int.reduceBEq, Int.reduceBNe, Int.reduceLT, Int.reduceLE, Int.reduceEq, dt, df, eqt, eqf, net, nef, wi, wb, alen_str, idxs_at, tn_add, tn_nat, aix, get_hit, get_miss, set_hit, set_miss, H.floor_alloc, H.next_alloc, H.floor_set, H.next_set, stO_d, condO_t, fill_n, fill_c, fillS_s, bir_bslice, bir_alloc, bir_box, birB_s, repl_s, repl_z, List.map_cons, List.map_nil, setFrom_nil, setFrom_cons, allsc_nil, allsc_cons, Bool.and_true, Bool.true_and, Bool.and_self, List.append_nil, Option.map_some, Option.map_none, iadr_s, iadr_m, idP_s, idQ_s, bir_mksl, mkslB_s, alen_s, alen_n, alen_m, Bool.and_false, Bool.false_and, Bool.or_false, Bool.or_true, Bool.true_or, Bool.false_or, Bool.or_self, C_dregF, goD_s, goD2_t, stb_n, stb_c, stK_n, stK_c, stV_s, stB_f, beq_int, beq_bool, beq_tup0, beq_nils, beq_simm0, beq_str, beq_sobj, beq_pobj, opsD_nil, opsD_u, opsD_g, goOD_s, preD_t, preD_f, AOp.loud, AOp.births, st1_u, st1_g, Int.reduceAdd, Int.reduceSub, Int.reduceMul, Int.reduceNeg, Int.reduceToNat, eqbB_s, beq_refl, beqs_refl, stB_t, beO_s, stBv_t, stBv_p, stBv_o, st1b_alloc, st1b_box, st1b_bslice, st1b_mksl, AP.f113L0, hb, b1, nl, f1, l0, k1, k2, k3]
            | true =>
              rw [Bool.and_self, Bool.and_self, if_pos rfl]
              simp (disch := omega) only [go_sem, abin_shl, abin_shr, Nat.reduceEqDiff, reduceIte, Nat.reduceAdd, Nat.reduceMul, Nat.reduceLT, Nat.reduceLeDiff, Int.reduceBEq, Int.reduceBNe, Int.reduceLT, Int.reduceLE, Int.reduceEq, dt, df, eqt, eqf, net, nef, wi, wb, alen_str, idxs_at, tn_add, tn_nat, aix, get_hit, get_miss, set_hit, set_miss, H.floor_alloc, H.next_alloc, H.floor_set, H.next_set, stO_d, condO_t, fill_n, fill_c, fillS_s, bir_bslice, bir_alloc, bir_box, birB_s, repl_s, repl_z, List.map_cons, List.map_nil, setFrom_nil, setFrom_cons, allsc_nil, allsc_cons, Bool.and_true, Bool.true_and, Bool.and_self, List.append_nil, Option.map_some, Option.map_none, iadr_s, iadr_m, idP_s, idQ_s, bir_mksl, mkslB_s, alen_s, alen_n, alen_m, Bool.and_false, Bool.false_and, Bool.or_false, Bool.or_true, Bool.true_or, Bool.false_or, Bool.or_self, C_dregF, goD_s, goD2_t, stb_n, stb_c, stK_n, stK_c, stV_s, stB_f, beq_int, beq_bool, beq_tup0, beq_nils, beq_simm0, beq_str, beq_sobj, beq_pobj, opsD_nil, opsD_u, opsD_g, goOD_s, preD_t, preD_f, AOp.loud, AOp.births, st1_u, st1_g, Int.reduceAdd, Int.reduceSub, Int.reduceMul, Int.reduceNeg, Int.reduceToNat, eqbB_s, beq_refl, beqs_refl, stB_t, beO_s, stBv_t, stBv_p, stBv_o, st1b_alloc, st1b_box, st1b_bslice, st1b_mksl, AP.f113L0, hb, b1, nl, f1, l0, k1, k2, k3]
      | some y =>
        obtain ⟨p', rfl⟩ : ∃ p', p = p' ++ [y] := List.getLast?_eq_some_iff.1 hl
        have hpl : (p' ++ [y]).length = p'.length + 1 := by simp
        have hy : l[p'.length]? = some y := by rw [hp]; simp
        have hJ : (0 : Int) ≤ (p'.length : Int) ∧ (p'.length : Int) < l.length := ⟨by omega, by omega⟩
        have bj := a1 _ hJ
        have fj := a2 _ 0 0 hJ
        have lj := (a3 h (Ext.refl h)).1 p'.length (0 + 0) (.str y.1.name) hJ (by
          rw [tn_nat, show entsC l = l.flatMap epC from rfl, Nat.zero_add, fm_get epC_len hy (by omega)]; rfl)
        have cmp : abin .geq (.str y.1.name) (.str x.1.name) = some (.bool (!(Op.bytesLess y.1.name.toList x.1.name.toList))) := rfl
        have n2 : (((p' ++ [y]).length : Nat) : Int) - 1 = (p'.length : Int) := by rw [hpl]; omega
        clear ih w1 pe f2 a1 a2 a3 a4 hl hv hp ho hx hy
        rw [Option.map_some, entOk_s]
        simp only [Nat.add_zero] at fj lj
        generalize Op.bytesLess y.1.name.toList x.1.name.toList = B2 at *
        generalize nameA x.1.name = B1 at *
        generalize headA x.1 = B3 at *
        generalize contA x.1 = B4 at *
        generalize (p' ++ [y]).length = pl at *
        cases B1 with
        | false =>
          rw [Bool.false_and, if_neg (by decide)]
          simp (disch := omega) only [go_sem, abin_shl, abin_shr, Nat.reduceEqDiff, reduceIte, Nat.reduceAdd, Nat.reduceMul, Nat.reduceLT, Nat.reduceLeDiff, Int.reduceBEq, Int.reduceBNe, Int.reduceLT, Int.reduceLE, Int.reduceEq, dt, df, eqt, eqf, net, nef, wi, wb, alen_str, idxs_at, tn_add, tn_nat, aix, get_hit, get_miss, set_hit, set_miss, H.floor_alloc, H.next_alloc, H.floor_set, H.next_set, stO_d, condO_t, fill_n, fill_c, fillS_s, bir_bslice, bir_alloc, bir_box, birB_s, repl_s, repl_z, List.map_cons, List.map_nil, setFrom_nil, setFrom_cons, allsc_nil, allsc_cons, Bool.and_true, Bool.true_and, Bool.and_self, List.append_nil, Option.map_some, Option.map_none, iadr_s, iadr_m, idP_s, idQ_s, bir_mksl, mkslB_s, alen_s, alen_n, alen_m, Bool.and_false, Bool.false_and, Bool.or_false, Bool.or_true, Bool.true_or, Bool.false_or, Bool.or_self, C_dregF, goD_s, goD2_t, stb_n, stb_c, stK_n, stK_c, stV_s, stB_f, beq_int, beq_bool, beq_tup0, beq_nils, beq_simm0, beq_str, beq_sobj, beq_pobj, opsD_nil, opsD_u, opsD_g, goOD_s, preD_t, preD_f, AOp.loud, AOp.births, st1_u, st1_g, Int.reduceAdd, Int.reduceSub, Int.reduceMul, Int.reduceNeg, Int.reduceToNat, eqbB_s, beq_refl, beqs_refl, stB_t, beO_s, stBv_t, stBv_p, stBv_o, st1b_alloc, st1b_box, st1b_bslice, st1b_mksl, AP.f113L0, hb, b1, nl, f1, l0, k1, k2, k3, bj, fj, lj, cmp, n2]
        | true =>
          cases B2 with
          | false =>
            rw [Bool.false_and, Bool.and_false, if_neg (by decide)]
            simp (disch := omega) only [go_sem, abin_shl, abin_shr, Nat.reduceEqDiff, reduceIte, Nat.reduceAdd, Nat.reduceMul, Nat.reduceLT, Nat.reduceLeDiff, Int.reduceBEq, Int.reduceBNe, Int.reduceLT, Int.reduceLE, Int.reduceEq, dt, df, eqt, eqf, net, nef, wi, wb, alen_str, idxs_at, tn_add, tn_nat, aix, get_hit, get_miss, set_hit, set_miss, H.floor_alloc, H.next_alloc, H.floor_set, H.next_set, stO_d, condO_t, fill_n, fill_c, fillS_s, bir_bslice, bir_alloc, bir_box, birB_s, repl_s, repl_z, List.map_cons, List.map_nil, setFrom_nil, setFrom_cons, allsc_nil, allsc_cons, Bool.and_true, Bool.true_and, Bool.and_self, List.append_nil, Option.map_some, Option.map_none, iadr_s, iadr_m, idP_s, idQ_s, bir_mksl, mkslB_s, alen_s, alen_n, alen_m, Bool.and_false, Bool.false_and, Bool.or_false, Bool.or_true, Bool.true_or, Bool.false_or, Bool.or_self, C_dregF, goD_s, goD2_t, stb_n, stb_c, stK_n, stK_c, stV_s, stB_f, beq_int, beq_bool, beq_tup0, beq_nils, beq_simm0, beq_str, beq_sobj, beq_pobj, opsD_nil, opsD_u, opsD_g, goOD_s, preD_t, preD_f, AOp.loud, AOp.births, st1_u, st1_g, Int.reduceAdd, Int.reduceSub, Int.reduceMul, Int.reduceNeg, Int.reduceToNat, eqbB_s, beq_refl, beqs_refl, stB_t, beO_s, stBv_t, stBv_p, stBv_o, st1b_alloc, st1b_box, st1b_bslice, st1b_mksl, AP.f113L0, hb, b1, nl, f1, l0, k1, k2, k3, bj, fj, lj, cmp, n2]
          | true =>
            cases B3 with
            | false =>
              rw [Bool.false_and, Bool.and_false, Bool.and_false, if_neg (by decide)]
              simp (disch := omega) only [go_sem, abin_shl, abin_shr, Nat.reduceEqDiff, reduceIte, Nat.reduceAdd, Nat.reduceMul, Nat.reduceLT, Nat.reduceLeDiff, Int.reduceBEq, Int.reduceBNe, Int.reduceLT, Int.reduceLE, Int.reduceEq, dt, df, eqt, eqf, net, nef, wi, wb, alen_str, idxs_at, tn_add, tn_nat, aix, get_hit, get_miss, set_hit, set_miss, H.floor_alloc, H.next_alloc, H.floor_set, H.next_set, stO_d, condO_t, fill_n, fill_c, fillS_s, bir_bslice, bir_alloc, bir_box, birB_s, repl_s, repl_z, List.map_cons, List.map_nil, setFrom_nil, setFrom_cons, allsc_nil, allsc_cons, Bool.and_true, Bool.true_and, Bool.and_self, List.append_nil, Option.map_some, Option.map_none, iadr_s, iadr_m, idP_s, idQ_s, bir_mksl, mkslB_s, alen_s, alen_n, alen_m, Bool.and_false, Bool.false_and, Bool.or_false, Bool.or_true, Bool.true_or, Bool.false_or, Bool.or_self, C_dregF, goD_s, goD2_t, stb_n, stb_c, stK_n, stK_c, stV_s, stB_f, beq_int, beq_bool, beq_tup0, beq_nils, beq_simm0, beq_str, beq_sobj, beq_pobj, opsD_nil, opsD_u, opsD_g, goOD_s, preD_t, preD_f, AOp.loud, AOp.births, st1_u, st1_g, Int.reduceAdd, Int.reduceSub, Int.reduceMul, Int.reduceNeg, Int.reduceToNat, eqbB_s, beq_refl, beqs_refl, stB_t, beO_s, stBv_t, stBv_p, stBv_o, st1b_alloc, st1b_box, st1b_bslice, st1b_mksl, AP.f113L0, hb, b1, nl, f1, l0, k1, k2, k3, bj, fj, lj, cmp, n2]
            | true =>
              cases B4 with
              | false =>
                rw [Bool.and_false, Bool.and_false, Bool.and_false, if_neg (by decide)]
                simp (disch := omega) only [go_sem, abin_shl, abin_shr, Nat.reduceEqDiff, reduceIte, Nat.reduceAdd, Nat.reduceMul, Nat.reduceLT, Nat.reduceLeDiff, Int.reduceBEq, Int.reduceBNe, Int.reduceLT, Int.reduceLE, Int.reduceEq, dt, df, eqt, eqf, net, nef, wi, wb, alen_str, idxs_at, tn_add, tn_nat, aix, get_hit, get_miss, set_hit, set_miss, H.floor_alloc, H.next_alloc, H.floor_set, H.next_set, stO_d, condO_t, fill_n, fill_c, fillS_s, bir_bslice, bir_alloc, bir_box, birB_s, repl_s, repl_z, List.map_cons, List.map_nil, setFrom_nil, setFrom_cons, allsc_nil, allsc_cons, Bool.and_true, Bool.true_and, Bool.and_self, List.append_nil, Option.map_some, Option.map_none, iadr_s, iadr_m, idP_s, idQ_s, bir_mksl, mkslB_s, alen_s, alen_n, alen_m, Bool.and_false, Bool.false_and, Bool.or_false, Bool.or_true, Bool.true_or, Bool.false_or, Bool.or_self, C_dregF, goD_s, goD2_t, stb_n, stb_c, stK_n, stK_c, stV_s, stB_f, beq_int, beq_bool, beq_tup0, beq_nils, beq_simm0, beq_str, beq_sobj, beq_pobj, opsD_nil, opsD_u, opsD_g, goOD_s, preD_t, preD_f, AOp.loud, AOp.births, st1_u, st1_g, Int.reduceAdd, Int.reduceSub, Int.reduceMul, Int.reduceNeg, Int.reduceToNat, eqbB_s, beq_refl, beqs_refl, stB_t, beO_s, stBv_t, stBv_p, stBv_o, st1b_alloc, st1b_box, st1b_bslice, st1b_mksl, AP.f113L0, hb, b1, nl, f1, l0, k1, k2, k3, bj, fj, lj, cmp, n2]
              | true =>
                rw [Bool.and_self, Bool.and_self, Bool.and_self, if_pos rfl]
                simp (disch := omega) only [go_sem, abin_shl, abin_shr, Nat.reduceEqDiff, reduceIte, Nat.reduceAdd, Nat.reduceMul, Nat.reduceLT, Nat.reduceLeDiff, Int.reduceBEq, Int.reduceBNe, Int.reduceLT, Int.reduceLE, Int.reduceEq, dt, df, eqt, eqf, net, nef, wi, wb, alen_str, idxs_at, tn_add, tn_nat, aix, get_hit, get_miss, set_hit, set_miss, H.floor_alloc, H.next_alloc, H.floor_set, H.next_set, stO_d, condO_t, fill_n, fill_c, fillS_s, bir_bslice, bir_alloc, bir_box, birB_s, repl_s, repl_z, List.map_cons, List.map_nil, setFrom_nil, setFrom_cons, allsc_nil, allsc_cons, Bool.and_true, Bool.true_and, Bool.and_self, List.append_nil, Option.map_some, Option.map_none, iadr_s, iadr_m, idP_s, idQ_s, bir_mksl, mkslB_s, alen_s, alen_n, alen_m, Bool.and_false, Bool.false_and, Bool.or_false, Bool.or_true, Bool.true_or, Bool.false_or, Bool.or_self, C_dregF, goD_s, goD2_t, stb_n, stb_c, stK_n, stK_c, stV_s, stB_f, beq_int, beq_bool, beq_tup0, beq_nils, beq_simm0, beq_str, beq_sobj, beq_pobj, opsD_nil, opsD_u, opsD_g, goOD_s, preD_t, preD_f, AOp.loud, AOp.births, st1_u, st1_g, Int.reduceAdd, Int.reduceSub, Int.reduceMul, Int.reduceNeg, Int.reduceToNat, eqbB_s, beq_refl, beqs_refl, stB_t, beO_s, stBv_t, stBv_p, stBv_o, st1b_alloc, st1b_box, st1b_bslice, st1b_mksl, AP.f113L0, hb, b1, nl, f1, l0, k1, k2, k3, bj, fj, lj, cmp, n2]
    have hmay : mayL (p.getLast?.map (·.1)) ((x :: q).map (·.1)) = (entOk (p.getLast?.map (·.1)) x.1 && mayL (some x.1) (q.map (·.1))) := rfl
    rw [hmay]
    by_cases hok : entOk (p.getLast?.map (·.1)) x.1 = true
    · rw [if_pos hok] at step
      rw [hok, Bool.true_and]
      rcases ih with ⟨e', r1, r2, r3⟩ | ⟨e', r1, r2, r3⟩
      · exact .inl ⟨e', Lp_next step r1, r2, r3⟩
      · exact .inr ⟨e', Lp_next step r1, r2, r3⟩
    · have hok' : entOk (p.getLast?.map (·.1)) x.1 = false := by simpa using hok
      rw [if_neg hok] at step
      rw [hok', Bool.false_and]
      exact .inr ⟨_, Lp_ret step, rfl, rfl⟩
def mayF (l : List Ent) : Bool := mayL none l && decide (l.length ≤ 6)
theorem zmay_c (h : H) (v : AV) (l : List EntP) (hvs : v.sc = true) (hn : l.length < 1125899906842624) (rd : RdN 9 h v l.length (entsC l)) (hv : ∀ x ∈ l, EOk h x) : callW AP.A 113 [.agg [v]] h = some (.bool (mayF (l.map (·.1))), h) := by
  obtain ⟨h1, eh1⟩ : ∃ g, g = h.fence.alloc [v] := ⟨_, rfl⟩
  have hx : Ext h.fence h1 := by rw [eh1]; exact (Ext.refl _).alloc _
  have hx0 : Ext h h1 := fun i c q => hx i c q
  have hn0 : h.fence.next = h.next := rfl
  have g1 : h1.get h.next = some [v] := by rw [eh1]; exact get_hit rfl
  have rd1 := rd.mono fun i c q => hx0 i c q
  have ln := rd1.len
  have hb : ∀ ev : Env, look ev 0 = .agg [v] → birth ev (.box 1 (.t 0)) = some ([v], fun i => .pobj i 0) := by
    intro ev q
    simp only [birth, ev_t', q, cells_agg]
    rw [if_pos ⟨rfl, by simp [hvs]⟩]
  unfold mayF
  rcases zm_loop hn h1 h.next g1 rd1 (fun x hx => (hv x hx).mono hx0) l [] rfl with ⟨e', r1, r2, r3⟩ | ⟨e', r1, r2, r3⟩
  · have r1' : Lp AP.A [1, 7, 8] AP.f113L0 [(1, .pobj h.next 0), (7, .int .i64 l.length), (8, .int .i64 0)] h1 = some (.exit 0, e', h1) := r1
    clear r1
    have r3' : mayL none (l.map (·.1)) = true := r3
    rw [r3', Bool.true_and, List.length_map]
    refine pure_c (fn := AP.f113) (h2 := h1) (e := [(2, .bool (decide (l.length ≤ 6)))]) rfl rfl rfl ?_ rfl rfl
    clear rd rd1 hv hx hx0 r3 r3'
    simp only [params_c, params_n, AP.f113]
    rw [C_seq, C_reg, ops_u, op_birth_box, hb _ rfl]
    simp only [birthH_s, hn0, ← eh1]
    by_cases c : l.length ≤ 6
    · simp (disch := omega) only [go_sem, abin_shl, abin_shr, Nat.reduceEqDiff, reduceIte, Nat.reduceAdd, Nat.reduceMul, Nat.reduceLT, Nat.reduceLeDiff, Int.reduceBEq, Int.reduceBNe, Int.reduceLT, Int.reduceLE, Int.reduceEq, dt, df, eqt, eqf, net, nef, wi, wb, alen_str, idxs_at, tn_add, tn_nat, aix, get_hit, get_miss, set_hit, set_miss, H.floor_alloc, H.next_alloc, H.floor_set, H.next_set, stO_d, condO_t, fill_n, fill_c, fillS_s, bir_bslice, bir_alloc, bir_box, birB_s, repl_s, repl_z, List.map_cons, List.map_nil, setFrom_nil, setFrom_cons, allsc_nil, allsc_cons, Bool.and_true, Bool.true_and, Bool.and_self, List.append_nil, Option.map_some, Option.map_none, iadr_s, iadr_m, idP_s, idQ_s, bir_mksl, mkslB_s, alen_s, alen_n, alen_m, Bool.and_false, Bool.false_and, Bool.or_false, Bool.or_true, Bool.true_or, Bool.false_or, Bool.or_self, C_dregF, goD_s, goD2_t, stb_n, stb_c, stK_n, stK_c, stV_s, stB_f, beq_int, beq_bool, beq_tup0, beq_nils, beq_simm0, beq_str, beq_sobj, beq_pobj, opsD_nil, opsD_u, opsD_g, goOD_s, preD_t, preD_f, AOp.loud, AOp.births, st1_u, st1_g, Int.reduceAdd, Int.reduceSub, Int.reduceMul, Int.reduceNeg, Int.reduceToNat, eqbB_s, beq_refl, beqs_refl, stB_t, beO_s, stBv_t, stBv_p, stBv_o, st1b_alloc, st1b_box, st1b_bslice, st1b_mksl, g1, ln, evC_loop, r1', r2]
    · simp (disch := omega) only [go_sem, abin_shl, abin_shr, Nat.reduceEqDiff, reduceIte, Nat.reduceAdd, Nat.reduceMul, Nat.reduceLT, Nat.reduceLeDiff, Int.reduceBEq, Int.reduceBNe, Int.reduceLT, Int.reduceLE, Int.reduceEq, dt, df, eqt, eqf, net, nef, wi, wb, alen_str, idxs_at, tn_add, tn_nat, aix, get_hit, get_miss, set_hit, set_miss, H.floor_alloc, H.next_alloc, H.floor_set, H.next_set, stO_d, condO_t, fill_n, fill_c, fillS_s, bir_bslice, bir_alloc, bir_box, birB_s, repl_s, repl_z, List.map_cons, List.map_nil, setFrom_nil, setFrom_cons, allsc_nil, allsc_cons, Bool.and_true, Bool.true_and, Bool.and_self, List.append_nil, Option.map_some, Option.map_none, iadr_s, iadr_m, idP_s, idQ_s, bir_mksl, mkslB_s, alen_s, alen_n, alen_m, Bool.and_false, Bool.false_and, Bool.or_false, Bool.or_true, Bool.true_or, Bool.false_or, Bool.or_self, C_dregF, goD_s, goD2_t, stb_n, stb_c, stK_n, stK_c, stV_s, stB_f, beq_int, beq_bool, beq_tup0, beq_nils, beq_simm0, beq_str, beq_sobj, beq_pobj, opsD_nil, opsD_u, opsD_g, goOD_s, preD_t, preD_f, AOp.loud, AOp.births, st1_u, st1_g, Int.reduceAdd, Int.reduceSub, Int.reduceMul, Int.reduceNeg, Int.reduceToNat, eqbB_s, beq_refl, beqs_refl, stB_t, beO_s, stBv_t, stBv_p, stBv_o, st1b_alloc, st1b_box, st1b_bslice, st1b_mksl, g1, ln, evC_loop, r1', r2]
  · have r1' : Lp AP.A [1, 7, 8] AP.f113L0 [(1, .pobj h.next 0), (7, .int .i64 l.length), (8, .int .i64 0)] h1 = some (.ret, e', h1) := r1
    clear r1
    have r3' : mayL none (l.map (·.1)) = false := r3
    rw [r3', Bool.false_and]
    refine pure_c (fn := AP.f113) (h2 := h1) (e := e') (vs := [.bool false]) rfl rfl rfl ?_ (by simp only [AP.f113, resAll, resOf, r2]; rfl) rfl
    clear rd rd1 hv hx hx0 r3 r3'
    simp only [params_c, params_n, AP.f113]
    rw [C_seq, C_reg, ops_u, op_birth_box, hb _ rfl]
    simp only [birthH_s, hn0, ← eh1]
    simp (disch := omega) only [go_sem, abin_shl, abin_shr, Nat.reduceEqDiff, reduceIte, Nat.reduceAdd, Nat.reduceMul, Nat.reduceLT, Nat.reduceLeDiff, Int.reduceBEq, Int.reduceBNe, Int.reduceLT, Int.reduceLE, Int.reduceEq, dt, df, eqt, eqf, net, nef, wi, wb, alen_str, idxs_at, tn_add, tn_nat, aix, get_hit, get_miss, set_hit, set_miss, H.floor_alloc, H.next_alloc, H.floor_set, H.next_set, stO_d, condO_t, fill_n, fill_c, fillS_s, bir_bslice, bir_alloc, bir_box, birB_s, repl_s, repl_z, List.map_cons, List.map_nil, setFrom_nil, setFrom_cons, allsc_nil, allsc_cons, Bool.and_true, Bool.true_and, Bool.and_self, List.append_nil, Option.map_some, Option.map_none, iadr_s, iadr_m, idP_s, idQ_s, bir_mksl, mkslB_s, alen_s, alen_n, alen_m, Bool.and_false, Bool.false_and, Bool.or_false, Bool.or_true, Bool.true_or, Bool.false_or, Bool.or_self, C_dregF, goD_s, goD2_t, stb_n, stb_c, stK_n, stK_c, stV_s, stB_f, beq_int, beq_bool, beq_tup0, beq_nils, beq_simm0, beq_str, beq_sobj, beq_pobj, opsD_nil, opsD_u, opsD_g, goOD_s, preD_t, preD_f, AOp.loud, AOp.births, st1_u, st1_g, Int.reduceAdd, Int.reduceSub, Int.reduceMul, Int.reduceNeg, Int.reduceToNat, eqbB_s, beq_refl, beqs_refl, stB_t, beO_s, stBv_t, stBv_p, stBv_o, st1b_alloc, st1b_box, st1b_bslice, st1b_mksl, g1, ln, evC_loop, r1']
end Ab
set_option linter.unusedSimpArgs false
set_option linter.unusedVariables false
namespace Ab
open Go
end Ab
set_option linter.unusedSimpArgs false
set_option linter.unusedVariables false
namespace Ab
open Go
end Ab
set_option linter.unusedSimpArgs false
set_option linter.unusedVariables false
namespace Ab
open Go
end Ab
set_option linter.unusedSimpArgs false
set_option linter.unusedVariables false
namespace Ab
open Go
end Ab
set_option linter.unusedSimpArgs false
set_option linter.unusedVariables false
namespace Ab
open Go
end Ab
set_option linter.unusedSimpArgs false
set_option linter.unusedVariables false
namespace Ab
open Go
abbrev E7 (k : Int) : Prop := k = 700 ∨ k = 701
theorem storeA_err {t : ByteArray} {most k : Int} : ∀ {n p : Nat} {out : List Nat}, storeA t most n p out = .error k → E7 k
  | 0, p, out, h => by cases h
  | n + 1, p, out, h => by
    unfold storeA at h
    split at h
    · split at h
      · cases h; exact .inr rfl
      · exact storeA_err h
    · cases h; exact .inl rfl
theorem storedA_err {t : ByteArray} {most k : Int} {p : Nat} {out : List Nat} (h : storedA t most p out = .error k) : E7 k := by
  unfold storedA at h
  dsimp only at h
  split at h
  · split at h
    · exact storeA_err h
    · cases h; exact .inl rfl
  · cases h; exact .inl rfl
theorem copyL_err {most k : Int} {d : Nat} : ∀ {n : Nat} {out : List Nat}, copyL most d n out = .error k → E7 k
  | 0, out, h => by cases h
  | n + 1, out, h => by
    unfold copyL at h
    split at h
    · cases h; exact .inr rfl
    · exact copyL_err h
theorem copyA_err {t : ByteArray} {most k : Int} {dl : List Int} {y p : Nat} {out : List Nat} (h : copyA t most dl y p out = .error k) : E7 k := by
  unfold copyA at h
  split at h
  · cases h; exact .inl rfl
  · split at h
    · split at h
      · cases h; exact .inl rfl
      · split at h
        · cases h; exact .inl rfl
        · split at h
          · split at h
            · cases h
            · rename_i q; cases h; exact copyL_err q
          · cases h; exact .inl rfl
    · cases h; exact .inl rfl
theorem codedA_err {t : ByteArray} {most k : Int} {ll dl : List Int} : ∀ {n p : Nat} {out : List Nat}, codedA t most ll dl n p out = .error k → E7 k
  | 0, p, out, h => by cases h; exact .inl rfl
  | n + 1, p, out, h => by
    unfold codedA at h
    split at h
    · cases h; exact .inl rfl
    · split at h
      · split at h
        · cases h; exact .inr rfl
        · exact codedA_err h
      · split at h
        · cases h
        · split at h
          · exact codedA_err h
          · rename_i q; cases h; exact copyA_err q
theorem dynA_err {t : ByteArray} {most k : Int} {p : Nat} {out : List Nat} (h : dynA t most p out = .error k) : E7 k := by
  unfold dynA at h
  dsimp only at h
  split at h
  · split at h
    · cases h; exact .inl rfl
    · split at h
      · cases h; exact .inl rfl
      · split at h
        · cases h; exact .inl rfl
        · exact codedA_err h
  · cases h; exact .inl rfl
theorem blockA_err {t : ByteArray} {most k : Int} {p : Nat} {out : List Nat} (h : blockA t most p out = .error k) : E7 k := by
  unfold blockA at h
  dsimp only at h
  split at h
  · split at h
    · cases h
    · rename_i q
      cases h
      split at q
      · exact storedA_err q
      · split at q
        · exact codedA_err q
        · split at q
          · exact dynA_err q
          · cases q; exact .inl rfl
  · cases h; exact .inl rfl
theorem infLoop_err {t : ByteArray} {most k : Int} : ∀ {n p : Nat} {out : List Nat}, infLoop t most n p out = .error k → E7 k
  | 0, p, out, h => by
    unfold infLoop at h
    cases h; exact .inl rfl
  | n + 1, p, out, h => by
    unfold infLoop at h
    split at h
    · rename_i q; cases h; exact blockA_err q
    · split at h
      · cases h
      · exact infLoop_err h
theorem inflateA_err {t : ByteArray} {most k : Int} (h : inflateA t most = .error k) : E7 k := by
  unfold inflateA at h
  split at h
  · cases h; exact .inl rfl
  · split at h
    · cases h
    · rename_i q; cases h; exact infLoop_err q
end Ab
set_option linter.unusedSimpArgs false
set_option linter.unusedVariables false
set_option maxRecDepth 100000
namespace Ab
open Go
def unpackA (method : Int) (s : ByteArray) (size : Int) : Option ByteArray :=
  if size < 0 ∨ 300 < size then none
  else if method = 0 then (if (s.size : Int) = size then some s else none)
  else if method = 8 then (match inflateA s size with
    | .ok (o, took) => if (o.length : Int) = size ∧ took = s.size then some (bytesOf o) else none
    | .error _ => none)
  else none
theorem unpackA_size {m : Int} {s : ByteArray} {z : Int} {t : ByteArray} (h : unpackA m s z = some t) : (t.size : Int) = z ∧ 0 ≤ z ∧ z ≤ 300 := by
  unfold unpackA at h
  split at h
  · cases h
  · rename_i q
    split at h
    · split at h
      · rename_i q2; obtain rfl := Option.some.inj h; omega
      · cases h
    · split at h
      · split at h
        · split at h
          · rename_i q2
            obtain rfl := Option.some.inj h
            rw [bytesOf_size]; omega
          · cases h
        · cases h
      · cases h
def unpV : Option ByteArray → AV
  | some t => .tup [.str t, .int .i64 0]
  | none => .tup [.str ⟨#[]⟩, .int .i64 900]
theorem unpack_c (h : H) (hf : h.floor ≤ h.next) (m : Int) (s : ByteArray) (z : Int) (hs : s.size < 1125899906842624) : callW AP.A 114 [.int .i64 m, .str s, .int .i64 z] h = some (unpV (unpackA m s z), h) := by
  unfold unpackA
  by_cases c1 : z < 0
  · rw [if_pos (.inl c1)]
    refine pure_c (fn := AP.f114) (h2 := h.fence) (e := [(6, .str ⟨#[]⟩), (7, .int .i64 900)]) rfl rfl rfl ?_ rfl rfl
    simp (disch := omega) only [go_sem, abin_shl, abin_shr, Nat.reduceEqDiff, reduceIte, Nat.reduceAdd, Nat.reduceMul, Nat.reduceLT, Nat.reduceLeDiff, Int.reduceBEq, Int.reduceBNe, Int.reduceLT, Int.reduceLE, Int.reduceEq, dt, df, eqt, eqf, net, nef, wi, wb, alen_str, idxs_at, tn_add, tn_nat, aix, get_hit, get_miss, set_hit, set_miss, H.floor_alloc, H.next_alloc, H.floor_set, H.next_set, stO_d, condO_t, fill_n, fill_c, fillS_s, bir_bslice, bir_alloc, bir_box, birB_s, repl_s, repl_z, List.map_cons, List.map_nil, setFrom_nil, setFrom_cons, allsc_nil, allsc_cons, Bool.and_true, Bool.true_and, Bool.and_self, List.append_nil, Option.map_some, Option.map_none, iadr_s, iadr_m, idP_s, idQ_s, bir_mksl, mkslB_s, alen_s, alen_n, alen_m, Bool.and_false, Bool.false_and, Bool.or_false, Bool.or_true, Bool.true_or, Bool.false_or, Bool.or_self, C_dregF, goD_s, goD2_t, stb_n, stb_c, stK_n, stK_c, stV_s, stB_f, beq_int, beq_bool, beq_tup0, beq_nils, beq_simm0, beq_str, beq_sobj, beq_pobj, opsD_nil, opsD_u, opsD_g, goOD_s, preD_t, preD_f, AOp.loud, AOp.births, st1_u, st1_g, Int.reduceAdd, Int.reduceSub, Int.reduceMul, Int.reduceNeg, Int.reduceToNat, eqbB_s, beq_refl, beqs_refl, stB_t, beO_s, stBv_t, stBv_p, stBv_o, st1b_alloc, st1b_box, st1b_bslice, st1b_mksl, AP.f114]
  by_cases c2 : 300 < z
  · rw [if_pos (.inr c2)]
    refine pure_c (fn := AP.f114) (h2 := h.fence) (e := [(6, .str ⟨#[]⟩), (7, .int .i64 900)]) rfl rfl rfl ?_ rfl rfl
    simp (disch := omega) only [go_sem, abin_shl, abin_shr, Nat.reduceEqDiff, reduceIte, Nat.reduceAdd, Nat.reduceMul, Nat.reduceLT, Nat.reduceLeDiff, Int.reduceBEq, Int.reduceBNe, Int.reduceLT, Int.reduceLE, Int.reduceEq, dt, df, eqt, eqf, net, nef, wi, wb, alen_str, idxs_at, tn_add, tn_nat, aix, get_hit, get_miss, set_hit, set_miss, H.floor_alloc, H.next_alloc, H.floor_set, H.next_set, stO_d, condO_t, fill_n, fill_c, fillS_s, bir_bslice, bir_alloc, bir_box, birB_s, repl_s, repl_z, List.map_cons, List.map_nil, setFrom_nil, setFrom_cons, allsc_nil, allsc_cons, Bool.and_true, Bool.true_and, Bool.and_self, List.append_nil, Option.map_some, Option.map_none, iadr_s, iadr_m, idP_s, idQ_s, bir_mksl, mkslB_s, alen_s, alen_n, alen_m, Bool.and_false, Bool.false_and, Bool.or_false, Bool.or_true, Bool.true_or, Bool.false_or, Bool.or_self, C_dregF, goD_s, goD2_t, stb_n, stb_c, stK_n, stK_c, stV_s, stB_f, beq_int, beq_bool, beq_tup0, beq_nils, beq_simm0, beq_str, beq_sobj, beq_pobj, opsD_nil, opsD_u, opsD_g, goOD_s, preD_t, preD_f, AOp.loud, AOp.births, st1_u, st1_g, Int.reduceAdd, Int.reduceSub, Int.reduceMul, Int.reduceNeg, Int.reduceToNat, eqbB_s, beq_refl, beqs_refl, stB_t, beO_s, stBv_t, stBv_p, stBv_o, st1b_alloc, st1b_box, st1b_bslice, st1b_mksl, AP.f114]
  rw [if_neg (by omega)]
  by_cases c3 : m = 0
  · rw [if_pos c3]
    by_cases c4 : (s.size : Int) = z
    · rw [if_pos c4]
      refine pure_c (fn := AP.f114) (h2 := h.fence) (e := [(6, .str s), (7, .int .i64 0)]) rfl rfl rfl ?_ rfl rfl
      simp (disch := omega) only [go_sem, abin_shl, abin_shr, Nat.reduceEqDiff, reduceIte, Nat.reduceAdd, Nat.reduceMul, Nat.reduceLT, Nat.reduceLeDiff, Int.reduceBEq, Int.reduceBNe, Int.reduceLT, Int.reduceLE, Int.reduceEq, dt, df, eqt, eqf, net, nef, wi, wb, alen_str, idxs_at, tn_add, tn_nat, aix, get_hit, get_miss, set_hit, set_miss, H.floor_alloc, H.next_alloc, H.floor_set, H.next_set, stO_d, condO_t, fill_n, fill_c, fillS_s, bir_bslice, bir_alloc, bir_box, birB_s, repl_s, repl_z, List.map_cons, List.map_nil, setFrom_nil, setFrom_cons, allsc_nil, allsc_cons, Bool.and_true, Bool.true_and, Bool.and_self, List.append_nil, Option.map_some, Option.map_none, iadr_s, iadr_m, idP_s, idQ_s, bir_mksl, mkslB_s, alen_s, alen_n, alen_m, Bool.and_false, Bool.false_and, Bool.or_false, Bool.or_true, Bool.true_or, Bool.false_or, Bool.or_self, C_dregF, goD_s, goD2_t, stb_n, stb_c, stK_n, stK_c, stV_s, stB_f, beq_int, beq_bool, beq_tup0, beq_nils, beq_simm0, beq_str, beq_sobj, beq_pobj, opsD_nil, opsD_u, opsD_g, goOD_s, preD_t, preD_f, AOp.loud, AOp.births, st1_u, st1_g, Int.reduceAdd, Int.reduceSub, Int.reduceMul, Int.reduceNeg, Int.reduceToNat, eqbB_s, beq_refl, beqs_refl, stB_t, beO_s, stBv_t, stBv_p, stBv_o, st1b_alloc, st1b_box, st1b_bslice, st1b_mksl, AP.f114]
    · rw [if_neg c4]
      refine pure_c (fn := AP.f114) (h2 := h.fence) (e := [(6, .str ⟨#[]⟩), (7, .int .i64 900)]) rfl rfl rfl ?_ rfl rfl
      simp (disch := omega) only [go_sem, abin_shl, abin_shr, Nat.reduceEqDiff, reduceIte, Nat.reduceAdd, Nat.reduceMul, Nat.reduceLT, Nat.reduceLeDiff, Int.reduceBEq, Int.reduceBNe, Int.reduceLT, Int.reduceLE, Int.reduceEq, dt, df, eqt, eqf, net, nef, wi, wb, alen_str, idxs_at, tn_add, tn_nat, aix, get_hit, get_miss, set_hit, set_miss, H.floor_alloc, H.next_alloc, H.floor_set, H.next_set, stO_d, condO_t, fill_n, fill_c, fillS_s, bir_bslice, bir_alloc, bir_box, birB_s, repl_s, repl_z, List.map_cons, List.map_nil, setFrom_nil, setFrom_cons, allsc_nil, allsc_cons, Bool.and_true, Bool.true_and, Bool.and_self, List.append_nil, Option.map_some, Option.map_none, iadr_s, iadr_m, idP_s, idQ_s, bir_mksl, mkslB_s, alen_s, alen_n, alen_m, Bool.and_false, Bool.false_and, Bool.or_false, Bool.or_true, Bool.true_or, Bool.false_or, Bool.or_self, C_dregF, goD_s, goD2_t, stb_n, stb_c, stK_n, stK_c, stV_s, stB_f, beq_int, beq_bool, beq_tup0, beq_nils, beq_simm0, beq_str, beq_sobj, beq_pobj, opsD_nil, opsD_u, opsD_g, goOD_s, preD_t, preD_f, AOp.loud, AOp.births, st1_u, st1_g, Int.reduceAdd, Int.reduceSub, Int.reduceMul, Int.reduceNeg, Int.reduceToNat, eqbB_s, beq_refl, beqs_refl, stB_t, beO_s, stBv_t, stBv_p, stBv_o, st1b_alloc, st1b_box, st1b_bslice, st1b_mksl, AP.f114]
  rw [if_neg c3]
  by_cases c5 : m = 8
  · rw [if_pos c5]
    have k1 := inflate_c h.fence (by simp) s z hs
    simp only [I] at k1
    cases hi : inflateA s z with
    | error k =>
      rw [hi] at k1
      simp only [infV, I] at k1
      have hk := inflateA_err hi
      have hk' : ¬ k = 0 := by rcases hk with rfl | rfl <;> decide
      clear hk
      refine pure_c (fn := AP.f114) (h2 := h.fence) (e := [(6, .str ⟨#[]⟩), (7, .int .i64 900)]) rfl rfl rfl ?_ rfl rfl
      simp (disch := omega) only [go_sem, abin_shl, abin_shr, Nat.reduceEqDiff, reduceIte, Nat.reduceAdd, Nat.reduceMul, Nat.reduceLT, Nat.reduceLeDiff, Int.reduceBEq, Int.reduceBNe, Int.reduceLT, Int.reduceLE, Int.reduceEq, dt, df, eqt, eqf, net, nef, wi, wb, alen_str, idxs_at, tn_add, tn_nat, aix, get_hit, get_miss, set_hit, set_miss, H.floor_alloc, H.next_alloc, H.floor_set, H.next_set, stO_d, condO_t, fill_n, fill_c, fillS_s, bir_bslice, bir_alloc, bir_box, birB_s, repl_s, repl_z, List.map_cons, List.map_nil, setFrom_nil, setFrom_cons, allsc_nil, allsc_cons, Bool.and_true, Bool.true_and, Bool.and_self, List.append_nil, Option.map_some, Option.map_none, iadr_s, iadr_m, idP_s, idQ_s, bir_mksl, mkslB_s, alen_s, alen_n, alen_m, Bool.and_false, Bool.false_and, Bool.or_false, Bool.or_true, Bool.true_or, Bool.false_or, Bool.or_self, C_dregF, goD_s, goD2_t, stb_n, stb_c, stK_n, stK_c, stV_s, stB_f, beq_int, beq_bool, beq_tup0, beq_nils, beq_simm0, beq_str, beq_sobj, beq_pobj, opsD_nil, opsD_u, opsD_g, goOD_s, preD_t, preD_f, AOp.loud, AOp.births, st1_u, st1_g, Int.reduceAdd, Int.reduceSub, Int.reduceMul, Int.reduceNeg, Int.reduceToNat, eqbB_s, beq_refl, beqs_refl, stB_t, beO_s, stBv_t, stBv_p, stBv_o, st1b_alloc, st1b_box, st1b_bslice, st1b_mksl, AP.f114, k1]
    | ok r =>
      obtain ⟨o, took⟩ := r
      rw [hi] at k1
      simp only [infV, I] at k1
      dsimp only
      have sz := bytesOf_size o
      by_cases c6 : (o.length : Int) = z
      · by_cases c7 : took = s.size
        · rw [if_pos ⟨c6, c7⟩]
          refine pure_c (fn := AP.f114) (h2 := h.fence) (e := [(6, .str (bytesOf o)), (7, .int .i64 0)]) rfl rfl rfl ?_ rfl rfl
          simp (disch := omega) only [go_sem, abin_shl, abin_shr, Nat.reduceEqDiff, reduceIte, Nat.reduceAdd, Nat.reduceMul, Nat.reduceLT, Nat.reduceLeDiff, Int.reduceBEq, Int.reduceBNe, Int.reduceLT, Int.reduceLE, Int.reduceEq, dt, df, eqt, eqf, net, nef, wi, wb, alen_str, idxs_at, tn_add, tn_nat, aix, get_hit, get_miss, set_hit, set_miss, H.floor_alloc, H.next_alloc, H.floor_set, H.next_set, stO_d, condO_t, fill_n, fill_c, fillS_s, bir_bslice, bir_alloc, bir_box, birB_s, repl_s, repl_z, List.map_cons, List.map_nil, setFrom_nil, setFrom_cons, allsc_nil, allsc_cons, Bool.and_true, Bool.true_and, Bool.and_self, List.append_nil, Option.map_some, Option.map_none, iadr_s, iadr_m, idP_s, idQ_s, bir_mksl, mkslB_s, alen_s, alen_n, alen_m, Bool.and_false, Bool.false_and, Bool.or_false, Bool.or_true, Bool.true_or, Bool.false_or, Bool.or_self, C_dregF, goD_s, goD2_t, stb_n, stb_c, stK_n, stK_c, stV_s, stB_f, beq_int, beq_bool, beq_tup0, beq_nils, beq_simm0, beq_str, beq_sobj, beq_pobj, opsD_nil, opsD_u, opsD_g, goOD_s, preD_t, preD_f, AOp.loud, AOp.births, st1_u, st1_g, Int.reduceAdd, Int.reduceSub, Int.reduceMul, Int.reduceNeg, Int.reduceToNat, eqbB_s, beq_refl, beqs_refl, stB_t, beO_s, stBv_t, stBv_p, stBv_o, st1b_alloc, st1b_box, st1b_bslice, st1b_mksl, AP.f114, k1, sz]
        · rw [if_neg (fun q => c7 q.2)]
          refine pure_c (fn := AP.f114) (h2 := h.fence) (e := [(6, .str ⟨#[]⟩), (7, .int .i64 900)]) rfl rfl rfl ?_ rfl rfl
          simp (disch := omega) only [go_sem, abin_shl, abin_shr, Nat.reduceEqDiff, reduceIte, Nat.reduceAdd, Nat.reduceMul, Nat.reduceLT, Nat.reduceLeDiff, Int.reduceBEq, Int.reduceBNe, Int.reduceLT, Int.reduceLE, Int.reduceEq, dt, df, eqt, eqf, net, nef, wi, wb, alen_str, idxs_at, tn_add, tn_nat, aix, get_hit, get_miss, set_hit, set_miss, H.floor_alloc, H.next_alloc, H.floor_set, H.next_set, stO_d, condO_t, fill_n, fill_c, fillS_s, bir_bslice, bir_alloc, bir_box, birB_s, repl_s, repl_z, List.map_cons, List.map_nil, setFrom_nil, setFrom_cons, allsc_nil, allsc_cons, Bool.and_true, Bool.true_and, Bool.and_self, List.append_nil, Option.map_some, Option.map_none, iadr_s, iadr_m, idP_s, idQ_s, bir_mksl, mkslB_s, alen_s, alen_n, alen_m, Bool.and_false, Bool.false_and, Bool.or_false, Bool.or_true, Bool.true_or, Bool.false_or, Bool.or_self, C_dregF, goD_s, goD2_t, stb_n, stb_c, stK_n, stK_c, stV_s, stB_f, beq_int, beq_bool, beq_tup0, beq_nils, beq_simm0, beq_str, beq_sobj, beq_pobj, opsD_nil, opsD_u, opsD_g, goOD_s, preD_t, preD_f, AOp.loud, AOp.births, st1_u, st1_g, Int.reduceAdd, Int.reduceSub, Int.reduceMul, Int.reduceNeg, Int.reduceToNat, eqbB_s, beq_refl, beqs_refl, stB_t, beO_s, stBv_t, stBv_p, stBv_o, st1b_alloc, st1b_box, st1b_bslice, st1b_mksl, AP.f114, k1, sz]
      · rw [if_neg (fun q => c6 q.1)]
        refine pure_c (fn := AP.f114) (h2 := h.fence) (e := [(6, .str ⟨#[]⟩), (7, .int .i64 900)]) rfl rfl rfl ?_ rfl rfl
        simp (disch := omega) only [go_sem, abin_shl, abin_shr, Nat.reduceEqDiff, reduceIte, Nat.reduceAdd, Nat.reduceMul, Nat.reduceLT, Nat.reduceLeDiff, Int.reduceBEq, Int.reduceBNe, Int.reduceLT, Int.reduceLE, Int.reduceEq, dt, df, eqt, eqf, net, nef, wi, wb, alen_str, idxs_at, tn_add, tn_nat, aix, get_hit, get_miss, set_hit, set_miss, H.floor_alloc, H.next_alloc, H.floor_set, H.next_set, stO_d, condO_t, fill_n, fill_c, fillS_s, bir_bslice, bir_alloc, bir_box, birB_s, repl_s, repl_z, List.map_cons, List.map_nil, setFrom_nil, setFrom_cons, allsc_nil, allsc_cons, Bool.and_true, Bool.true_and, Bool.and_self, List.append_nil, Option.map_some, Option.map_none, iadr_s, iadr_m, idP_s, idQ_s, bir_mksl, mkslB_s, alen_s, alen_n, alen_m, Bool.and_false, Bool.false_and, Bool.or_false, Bool.or_true, Bool.true_or, Bool.false_or, Bool.or_self, C_dregF, goD_s, goD2_t, stb_n, stb_c, stK_n, stK_c, stV_s, stB_f, beq_int, beq_bool, beq_tup0, beq_nils, beq_simm0, beq_str, beq_sobj, beq_pobj, opsD_nil, opsD_u, opsD_g, goOD_s, preD_t, preD_f, AOp.loud, AOp.births, st1_u, st1_g, Int.reduceAdd, Int.reduceSub, Int.reduceMul, Int.reduceNeg, Int.reduceToNat, eqbB_s, beq_refl, beqs_refl, stB_t, beO_s, stBv_t, stBv_p, stBv_o, st1b_alloc, st1b_box, st1b_bslice, st1b_mksl, AP.f114, k1, sz]
  · rw [if_neg c5]
    refine pure_c (fn := AP.f114) (h2 := h.fence) (e := [(6, .str ⟨#[]⟩), (7, .int .i64 900)]) rfl rfl rfl ?_ rfl rfl
    simp (disch := omega) only [go_sem, abin_shl, abin_shr, Nat.reduceEqDiff, reduceIte, Nat.reduceAdd, Nat.reduceMul, Nat.reduceLT, Nat.reduceLeDiff, Int.reduceBEq, Int.reduceBNe, Int.reduceLT, Int.reduceLE, Int.reduceEq, dt, df, eqt, eqf, net, nef, wi, wb, alen_str, idxs_at, tn_add, tn_nat, aix, get_hit, get_miss, set_hit, set_miss, H.floor_alloc, H.next_alloc, H.floor_set, H.next_set, stO_d, condO_t, fill_n, fill_c, fillS_s, bir_bslice, bir_alloc, bir_box, birB_s, repl_s, repl_z, List.map_cons, List.map_nil, setFrom_nil, setFrom_cons, allsc_nil, allsc_cons, Bool.and_true, Bool.true_and, Bool.and_self, List.append_nil, Option.map_some, Option.map_none, iadr_s, iadr_m, idP_s, idQ_s, bir_mksl, mkslB_s, alen_s, alen_n, alen_m, Bool.and_false, Bool.false_and, Bool.or_false, Bool.or_true, Bool.true_or, Bool.false_or, Bool.or_self, C_dregF, goD_s, goD2_t, stb_n, stb_c, stK_n, stK_c, stV_s, stB_f, beq_int, beq_bool, beq_tup0, beq_nils, beq_simm0, beq_str, beq_sobj, beq_pobj, opsD_nil, opsD_u, opsD_g, goOD_s, preD_t, preD_f, AOp.loud, AOp.births, st1_u, st1_g, Int.reduceAdd, Int.reduceSub, Int.reduceMul, Int.reduceNeg, Int.reduceToNat, eqbB_s, beq_refl, beqs_refl, stB_t, beO_s, stBv_t, stBv_p, stBv_o, st1b_alloc, st1b_box, st1b_bslice, st1b_mksl, AP.f114]
def entText (e : Ent) : Option ByteArray :=
  if mayF [e] = false then none
  else if e.gone then some ⟨#[]⟩
  else match unpackA e.method e.packed e.size with
    | some t => if (crcA t : Int) = e.crc then some t else none
    | none => none
theorem text_c (h : H) (hf : h.floor ≤ h.next) (e : Ent) (v : AV) (hv : v.sc = true) (ok : EOk h (e, v)) : ∃ t, callW AP.A 107 [.agg (entC e v)] h = some (.tup [.str t, .bool (entText e).isSome], h) ∧ (∀ u, entText e = some u → t = u) := by
  obtain ⟨h1, eh1⟩ : ∃ g, g = h.fence.alloc (entC e v) := ⟨_, rfl⟩
  obtain ⟨h2, eh2⟩ : ∃ g, g = h1.alloc (entC e v) := ⟨_, rfl⟩
  have hx1 : Ext h h1 := fun i c q => by rw [eh1]; exact ((Ext.refl h.fence).alloc _) i c q
  have hx2 : Ext h h2 := by rw [eh2]; exact hx1.alloc _
  have hn0 : h.fence.next = h.next := rfl
  have hn1 : h1.next = h.next + 1 := by rw [eh1]; simp
  have g1 : h2.get h.next = some (entC e v) := by rw [eh2, get_miss (by omega), eh1, get_hit (by simp)]
  have g0 : h1.get h.next = some (entC e v) := by rw [eh1, get_hit (by simp)]
  have o : RdN 9 h2 (.sobj (h.next + 1) 0 1 9) 1 (entsC [(e, v)]) := by
    refine ⟨?_, rfl, fun _ => by simp⟩
    simp only [srcCells, if_true]
    rw [eh2, get_hit (by omega)]
    rfl
  have k1 := zmay_c h2 (.sobj (h.next + 1) 0 1 9) [(e, v)] rfl (by simp) o (fun x hx => by
    obtain rfl : x = (e, v) := by simpa using hx
    exact ok.mono hx2)
  have k1' : callW AP.A 113 [.agg [.sobj (h.next + 1) 0 1 9]] h2 = some (.bool (mayF [e]), h2) := k1
  have hf2 : h2.floor ≤ h2.next := by rw [eh2, eh1]; simp; omega
  have k2 := unpack_c h2 hf2 e.method e.packed e.size ok.pl
  have rdA : rdc true 9 (entC e v) 0 = some (.agg (entC e v)) := rfl
  have cr : ∀ t : ByteArray, t.size < 1125899906842624 → callW AP.A 115 [.str t] h2 = some (.int .i64 (crcA t : Nat), h2) := fun t ht => of_crc_c h2 t ht
  clear k1 o hx1 hx2
  unfold entText
  simp only [entC] at *
  cases hm : mayF [e] with
  | false =>
    rw [hm] at k1'
    refine ⟨⟨#[]⟩, ?_, fun u q => by simp at q⟩
    rw [if_pos rfl]
    refine pure_c (fn := AP.f107) (h2 := h2) (e := [(2, .str ⟨#[]⟩), (3, .bool false)]) rfl rfl rfl ?_ rfl rfl
    simp (disch := omega) only [go_sem, abin_shl, abin_shr, Nat.reduceEqDiff, reduceIte, Nat.reduceAdd, Nat.reduceMul, Nat.reduceLT, Nat.reduceLeDiff, Int.reduceBEq, Int.reduceBNe, Int.reduceLT, Int.reduceLE, Int.reduceEq, dt, df, eqt, eqf, net, nef, wi, wb, alen_str, idxs_at, tn_add, tn_nat, aix, get_hit, get_miss, set_hit, set_miss, H.floor_alloc, H.next_alloc, H.floor_set, H.next_set, stO_d, condO_t, fill_n, fill_c, fillS_s, bir_bslice, bir_alloc, bir_box, birB_s, repl_s, repl_z, List.map_cons, List.map_nil, setFrom_nil, setFrom_cons, allsc_nil, allsc_cons, Bool.and_true, Bool.true_and, Bool.and_self, List.append_nil, Option.map_some, Option.map_none, iadr_s, iadr_m, idP_s, idQ_s, bir_mksl, mkslB_s, alen_s, alen_n, alen_m, Bool.and_false, Bool.false_and, Bool.or_false, Bool.or_true, Bool.true_or, Bool.false_or, Bool.or_self, C_dregF, goD_s, goD2_t, stb_n, stb_c, stK_n, stK_c, stV_s, stB_f, beq_int, beq_bool, beq_tup0, beq_nils, beq_simm0, beq_str, beq_sobj, beq_pobj, opsD_nil, opsD_u, opsD_g, goOD_s, preD_t, preD_f, AOp.loud, AOp.births, st1_u, st1_g, Int.reduceAdd, Int.reduceSub, Int.reduceMul, Int.reduceNeg, Int.reduceToNat, eqbB_s, beq_refl, beqs_refl, stB_t, beO_s, stBv_t, stBv_p, stBv_o, st1b_alloc, st1b_box, st1b_bslice, st1b_mksl, AP.f107, hv, hn0, ← eh1, g0, rdA, hn1, ← eh2, k1']
  | true =>
    rw [hm] at k1'
    rw [if_neg (by decide)]
    cases hg : e.gone with
    | true =>
      rw [hg] at g1 g0 eh1 eh2 rdA
      refine ⟨⟨#[]⟩, ?_, fun u q => by simpa using q⟩
      refine pure_c (fn := AP.f107) (h2 := h2) (e := [(2, .str ⟨#[]⟩), (3, .bool true)]) rfl rfl rfl ?_ rfl rfl
      simp (disch := omega) only [go_sem, abin_shl, abin_shr, Nat.reduceEqDiff, reduceIte, Nat.reduceAdd, Nat.reduceMul, Nat.reduceLT, Nat.reduceLeDiff, Int.reduceBEq, Int.reduceBNe, Int.reduceLT, Int.reduceLE, Int.reduceEq, dt, df, eqt, eqf, net, nef, wi, wb, alen_str, idxs_at, tn_add, tn_nat, aix, get_hit, get_miss, set_hit, set_miss, H.floor_alloc, H.next_alloc, H.floor_set, H.next_set, stO_d, condO_t, fill_n, fill_c, fillS_s, bir_bslice, bir_alloc, bir_box, birB_s, repl_s, repl_z, List.map_cons, List.map_nil, setFrom_nil, setFrom_cons, allsc_nil, allsc_cons, Bool.and_true, Bool.true_and, Bool.and_self, List.append_nil, Option.map_some, Option.map_none, iadr_s, iadr_m, idP_s, idQ_s, bir_mksl, mkslB_s, alen_s, alen_n, alen_m, Bool.and_false, Bool.false_and, Bool.or_false, Bool.or_true, Bool.true_or, Bool.false_or, Bool.or_self, C_dregF, goD_s, goD2_t, stb_n, stb_c, stK_n, stK_c, stV_s, stB_f, beq_int, beq_bool, beq_tup0, beq_nils, beq_simm0, beq_str, beq_sobj, beq_pobj, opsD_nil, opsD_u, opsD_g, goOD_s, preD_t, preD_f, AOp.loud, AOp.births, st1_u, st1_g, Int.reduceAdd, Int.reduceSub, Int.reduceMul, Int.reduceNeg, Int.reduceToNat, eqbB_s, beq_refl, beqs_refl, stB_t, beO_s, stBv_t, stBv_p, stBv_o, st1b_alloc, st1b_box, st1b_bslice, st1b_mksl, AP.f107, hv, hn0, ← eh1, g0, g1, rdA, hn1, ← eh2, k1']
    | false =>
      rw [hg] at g1 g0 eh1 eh2 rdA
      rw [if_neg (by decide)]
      cases hu : unpackA e.method e.packed e.size with
      | none =>
        rw [hu] at k2
        simp only [unpV] at k2
        refine ⟨⟨#[]⟩, ?_, fun u q => by simp at q⟩
        refine pure_c (fn := AP.f107) (h2 := h2) (e := [(2, .str ⟨#[]⟩), (3, .bool false)]) rfl rfl rfl ?_ rfl rfl
        simp (disch := omega) only [go_sem, abin_shl, abin_shr, Nat.reduceEqDiff, reduceIte, Nat.reduceAdd, Nat.reduceMul, Nat.reduceLT, Nat.reduceLeDiff, Int.reduceBEq, Int.reduceBNe, Int.reduceLT, Int.reduceLE, Int.reduceEq, dt, df, eqt, eqf, net, nef, wi, wb, alen_str, idxs_at, tn_add, tn_nat, aix, get_hit, get_miss, set_hit, set_miss, H.floor_alloc, H.next_alloc, H.floor_set, H.next_set, stO_d, condO_t, fill_n, fill_c, fillS_s, bir_bslice, bir_alloc, bir_box, birB_s, repl_s, repl_z, List.map_cons, List.map_nil, setFrom_nil, setFrom_cons, allsc_nil, allsc_cons, Bool.and_true, Bool.true_and, Bool.and_self, List.append_nil, Option.map_some, Option.map_none, iadr_s, iadr_m, idP_s, idQ_s, bir_mksl, mkslB_s, alen_s, alen_n, alen_m, Bool.and_false, Bool.false_and, Bool.or_false, Bool.or_true, Bool.true_or, Bool.false_or, Bool.or_self, C_dregF, goD_s, goD2_t, stb_n, stb_c, stK_n, stK_c, stV_s, stB_f, beq_int, beq_bool, beq_tup0, beq_nils, beq_simm0, beq_str, beq_sobj, beq_pobj, opsD_nil, opsD_u, opsD_g, goOD_s, preD_t, preD_f, AOp.loud, AOp.births, st1_u, st1_g, Int.reduceAdd, Int.reduceSub, Int.reduceMul, Int.reduceNeg, Int.reduceToNat, eqbB_s, beq_refl, beqs_refl, stB_t, beO_s, stBv_t, stBv_p, stBv_o, st1b_alloc, st1b_box, st1b_bslice, st1b_mksl, AP.f107, hv, hn0, ← eh1, g0, g1, rdA, hn1, ← eh2, k1', k2]
      | some t =>
        rw [hu] at k2
        simp only [unpV] at k2
        have kc := cr t (by have := unpackA_size hu; omega)
        dsimp only
        by_cases c : (crcA t : Int) = e.crc
        · rw [if_pos c]
          refine ⟨t, ?_, fun u q => Option.some.inj q⟩
          refine pure_c (fn := AP.f107) (h2 := h2) (e := [(2, .str t), (3, .bool true)]) rfl rfl rfl ?_ rfl rfl
          simp (disch := omega) only [go_sem, abin_shl, abin_shr, Nat.reduceEqDiff, reduceIte, Nat.reduceAdd, Nat.reduceMul, Nat.reduceLT, Nat.reduceLeDiff, Int.reduceBEq, Int.reduceBNe, Int.reduceLT, Int.reduceLE, Int.reduceEq, dt, df, eqt, eqf, net, nef, wi, wb, alen_str, idxs_at, tn_add, tn_nat, aix, get_hit, get_miss, set_hit, set_miss, H.floor_alloc, H.next_alloc, H.floor_set, H.next_set, stO_d, condO_t, fill_n, fill_c, fillS_s, bir_bslice, bir_alloc, bir_box, birB_s, repl_s, repl_z, List.map_cons, List.map_nil, setFrom_nil, setFrom_cons, allsc_nil, allsc_cons, Bool.and_true, Bool.true_and, Bool.and_self, List.append_nil, Option.map_some, Option.map_none, iadr_s, iadr_m, idP_s, idQ_s, bir_mksl, mkslB_s, alen_s, alen_n, alen_m, Bool.and_false, Bool.false_and, Bool.or_false, Bool.or_true, Bool.true_or, Bool.false_or, Bool.or_self, C_dregF, goD_s, goD2_t, stb_n, stb_c, stK_n, stK_c, stV_s, stB_f, beq_int, beq_bool, beq_tup0, beq_nils, beq_simm0, beq_str, beq_sobj, beq_pobj, opsD_nil, opsD_u, opsD_g, goOD_s, preD_t, preD_f, AOp.loud, AOp.births, st1_u, st1_g, Int.reduceAdd, Int.reduceSub, Int.reduceMul, Int.reduceNeg, Int.reduceToNat, eqbB_s, beq_refl, beqs_refl, stB_t, beO_s, stBv_t, stBv_p, stBv_o, st1b_alloc, st1b_box, st1b_bslice, st1b_mksl, AP.f107, hv, hn0, ← eh1, g0, g1, rdA, hn1, ← eh2, k1', k2, kc]
        · rw [if_neg c]
          refine ⟨t, ?_, fun u q => by simp at q⟩
          refine pure_c (fn := AP.f107) (h2 := h2) (e := [(2, .str t), (3, .bool false)]) rfl rfl rfl ?_ rfl rfl
          simp (disch := omega) only [go_sem, abin_shl, abin_shr, Nat.reduceEqDiff, reduceIte, Nat.reduceAdd, Nat.reduceMul, Nat.reduceLT, Nat.reduceLeDiff, Int.reduceBEq, Int.reduceBNe, Int.reduceLT, Int.reduceLE, Int.reduceEq, dt, df, eqt, eqf, net, nef, wi, wb, alen_str, idxs_at, tn_add, tn_nat, aix, get_hit, get_miss, set_hit, set_miss, H.floor_alloc, H.next_alloc, H.floor_set, H.next_set, stO_d, condO_t, fill_n, fill_c, fillS_s, bir_bslice, bir_alloc, bir_box, birB_s, repl_s, repl_z, List.map_cons, List.map_nil, setFrom_nil, setFrom_cons, allsc_nil, allsc_cons, Bool.and_true, Bool.true_and, Bool.and_self, List.append_nil, Option.map_some, Option.map_none, iadr_s, iadr_m, idP_s, idQ_s, bir_mksl, mkslB_s, alen_s, alen_n, alen_m, Bool.and_false, Bool.false_and, Bool.or_false, Bool.or_true, Bool.true_or, Bool.false_or, Bool.or_self, C_dregF, goD_s, goD2_t, stb_n, stb_c, stK_n, stK_c, stV_s, stB_f, beq_int, beq_bool, beq_tup0, beq_nils, beq_simm0, beq_str, beq_sobj, beq_pobj, opsD_nil, opsD_u, opsD_g, goOD_s, preD_t, preD_f, AOp.loud, AOp.births, st1_u, st1_g, Int.reduceAdd, Int.reduceSub, Int.reduceMul, Int.reduceNeg, Int.reduceToNat, eqbB_s, beq_refl, beqs_refl, stB_t, beO_s, stBv_t, stBv_p, stBv_o, st1b_alloc, st1b_box, st1b_bslice, st1b_mksl, AP.f107, hv, hn0, ← eh1, g0, g1, rdA, hn1, ← eh2, k1', k2, kc]
def mayE (e : Ent) : Bool := (entText e).isSome
theorem emay_c (h : H) (hf : h.floor ≤ h.next) (e : Ent) (v : AV) (hv : v.sc = true) (ok : EOk h (e, v)) : callW AP.A 96 [.agg (entC e v)] h = some (.bool (mayE e), h) := by
  obtain ⟨h1, eh1⟩ : ∃ g, g = h.fence.alloc (entC e v) := ⟨_, rfl⟩
  have hx1 : Ext h h1 := fun i c q => by rw [eh1]; exact ((Ext.refl h.fence).alloc _) i c q
  have hn0 : h.fence.next = h.next := rfl
  have g0 : h1.get h.next = some (entC e v) := by rw [eh1, get_hit (by simp)]
  obtain ⟨t, k1, _⟩ := text_c h1 (by rw [eh1]; simp) e v hv (ok.mono hx1)
  have rdA : rdc true 9 (entC e v) 0 = some (.agg (entC e v)) := rfl
  refine pure_c (fn := AP.f96) (h2 := h1) (e := [(2, .bool (mayE e))]) rfl rfl rfl ?_ rfl rfl
  clear hx1
  unfold mayE
  simp only [entC] at *
  simp (disch := omega) only [go_sem, abin_shl, abin_shr, Nat.reduceEqDiff, reduceIte, Nat.reduceAdd, Nat.reduceMul, Nat.reduceLT, Nat.reduceLeDiff, Int.reduceBEq, Int.reduceBNe, Int.reduceLT, Int.reduceLE, Int.reduceEq, dt, df, eqt, eqf, net, nef, wi, wb, alen_str, idxs_at, tn_add, tn_nat, aix, get_hit, get_miss, set_hit, set_miss, H.floor_alloc, H.next_alloc, H.floor_set, H.next_set, stO_d, condO_t, fill_n, fill_c, fillS_s, bir_bslice, bir_alloc, bir_box, birB_s, repl_s, repl_z, List.map_cons, List.map_nil, setFrom_nil, setFrom_cons, allsc_nil, allsc_cons, Bool.and_true, Bool.true_and, Bool.and_self, List.append_nil, Option.map_some, Option.map_none, iadr_s, iadr_m, idP_s, idQ_s, bir_mksl, mkslB_s, alen_s, alen_n, alen_m, Bool.and_false, Bool.false_and, Bool.or_false, Bool.or_true, Bool.true_or, Bool.false_or, Bool.or_self, C_dregF, goD_s, goD2_t, stb_n, stb_c, stK_n, stK_c, stV_s, stB_f, beq_int, beq_bool, beq_tup0, beq_nils, beq_simm0, beq_str, beq_sobj, beq_pobj, opsD_nil, opsD_u, opsD_g, goOD_s, preD_t, preD_f, AOp.loud, AOp.births, st1_u, st1_g, Int.reduceAdd, Int.reduceSub, Int.reduceMul, Int.reduceNeg, Int.reduceToNat, eqbB_s, beq_refl, beqs_refl, stB_t, beO_s, stBv_t, stBv_p, stBv_o, st1b_alloc, st1b_box, st1b_bslice, st1b_mksl, AP.f96, hv, hn0, ← eh1, g0, rdA, k1]
end Ab
set_option linter.unusedSimpArgs false
set_option linter.unusedVariables false
set_option maxRecDepth 100000
namespace Ab
open Go
theorem app_empty {n : Nat} {h : H} {v : AV} {k : Nat} {cs : List AV} (r : RdN n h v k cs) (hfn : h.floor ≤ h.next) (hn : 0 < n) (hk : 0 < k) {z : Nat} (hr : roomy z k = true) (hc : AV.allsc cs = true) :
    aapp (h.alloc []) n z (.sobj h.next 0 0 n) v = some (.sobj (h.next + 1) 0 k n, ((h.alloc []).del h.next).alloc cs) := by
  have r2 : RdN n (h.alloc []) v k cs := r.mono fun i c q => by rw [H.get_alloc, if_neg (by have := h.lt _ _ q; omega)]; exact q
  unfold aapp
  rw [r2.1, Option.bind_some]
  have hkn : 0 < k * n := Nat.mul_pos hk hn
  unfold aappc
  rw [if_neg (by omega), if_neg (by simp [hc]; omega)]
  simp only [H.floor_alloc, hfn, and_self, if_true]
  rw [get_hit rfl, Option.bind_some, if_neg (by simp; omega), if_pos ⟨by simp, by simpa using hr⟩]
  simp
theorem app_empty0 {n : Nat} {h : H} {v : AV} {cs : List AV} (r : RdN n h v 0 cs) {z : Nat} : aapp (h.alloc []) n z (.sobj h.next 0 0 n) v = some (.sobj h.next 0 0 n, h.alloc []) := by
  have r2 : RdN n (h.alloc []) v 0 cs := r.mono fun i c q => by rw [H.get_alloc, if_neg (by have := h.lt _ _ q; omega)]; exact q
  unfold aapp
  rw [r2.1, Option.bind_some]
  rfl
theorem ints_allsc : ∀ l : List Int, AV.allsc (ints l) = true
  | [] => rfl
  | n :: l => by
    have := ints_allsc l
    show AV.allsc (I n :: ints l) = true
    rw [allsc_cons, this]; rfl
def ent0 : Ent := ⟨⟨#[]⟩, false, [], 0, 0, 0, ⟨#[]⟩, 0, 0⟩
abbrev Z9 : List AV := [.str ⟨#[]⟩, .bool false, .nils, .int .i64 0, .int .i64 0, .int .i64 0, .str ⟨#[]⟩, .int .i64 0, .int .i64 0]
end Ab
set_option linter.unusedSimpArgs false
set_option linter.unusedVariables false
set_option maxRecDepth 100000
namespace Ab
open Go
def smallE (name : ByteArray) (node : Nat) (stamp : Int) (text : ByteArray) : Ent := ⟨name, false, [0, 0, 0, 0].set node stamp, stamp, node, 0, text, text.size, crcA text⟩
theorem copyE_c (h : H) (hf : h.floor ≤ h.next) (e : Ent) (v : AV) (hv : v.sc = true) (ok : EOk h (e, v)) (hb : e.vec.length < 20000000000000) :
    ∃ h' v', callW AP.A 92 [.agg (entC e v)] h = some (.agg (entC e v'), h') ∧ v' = (if e.vec = [] then .sobj (h.next + 2) 0 0 1 else .sobj (h.next + 3) 0 e.vec.length 1) ∧ Rd h' v' (ints e.vec) ∧ h'.floor = h.floor ∧ h.next + 3 ≤ h'.next ∧ Ext h h' ∧ (0 < e.vec.length → h'.get (h.next + 3) = some (ints e.vec)) := by
  obtain ⟨h1, eh1⟩ : ∃ g, g = h.alloc (entC e v) := ⟨_, rfl⟩
  obtain ⟨h2, eh2⟩ : ∃ g, g = h1.alloc (entC ent0 .nils) := ⟨_, rfl⟩
  have n1 : h1.next = h.next + 1 := by rw [eh1]; simp
  have n2 : h2.next = h.next + 2 := by rw [eh2]; simp [n1]
  have f2 : h2.floor = h.floor := by rw [eh2, eh1]; simp
  have x2 : Ext h h2 := by rw [eh2, eh1]; exact ((Ext.refl h).alloc _).alloc _
  have ga2 : h2.get h.next = some (entC e v) := by rw [eh2, get_miss (by omega), eh1, get_hit rfl]
  have gz2 : h2.get (h.next + 1) = some (entC ent0 .nils) := by rw [eh2, get_hit (by omega)]
  have r2 := (ok.vec.mono fun i c q => x2 i c q).rdN
  rw [ints_length] at r2
  obtain ⟨v', h3, ap, hv', hcl, hsc, hrd, g3, f3, n3, hget, x3⟩ : ∃ v' h3, aapp (h2.alloc []) 1 8 (.sobj h2.next 0 0 1) v = some (v', h3) ∧ v' = (if e.vec = [] then .sobj (h.next + 2) 0 0 1 else .sobj (h.next + 3) 0 e.vec.length 1) ∧ v'.cells = [v'] ∧ v'.sc = true ∧ Rd h3 v' (ints e.vec) ∧
      (∀ i, i < h.next + 2 → h3.get i = h2.get i) ∧ h3.floor = h.floor ∧ h.next + 3 ≤ h3.next ∧ (0 < e.vec.length → h3.get (h.next + 3) = some (ints e.vec)) ∧ Ext h h3 := by
    by_cases c : e.vec = []
    · rw [c] at r2
      have := app_empty0 (z := 8) r2
      refine ⟨_, _, this, by rw [if_pos c, n2], rfl, rfl, ?_, fun i hi => ?_, by simp [f2], by simp [n2], fun q => by rw [c] at q; simp at q, x2.alloc _⟩
      · rw [c]
        refine ⟨?_, fun _ => by simp⟩
        simp only [srcCells, if_true]
        rw [get_hit (by omega)]; rfl
      · rw [get_miss (by omega)]
    · have hp : 0 < e.vec.length := List.length_pos_iff.2 c
      have := app_empty r2 (by omega) (by omega) hp (z := 8) (by simp [roomy]; omega) (ints_allsc e.vec)
      refine ⟨_, _, this, by rw [if_neg c, n2], rfl, rfl, ?_, fun i hi => ?_, by simp [f2], by simp [n2], fun _ => ?_, fun i d q => ?_⟩
      · refine ⟨?_, fun _ => by simp⟩
        simp only [srcCells, if_true]
        rw [get_hit (by simp), Option.bind_some, if_pos (by simp), List.drop_zero, List.take_of_length_le (by simp), ints_length]
      · rw [get_miss (by simp; omega), H.get_del, if_neg (by omega), get_miss (by omega)]
      · rw [get_hit (by simp [n2])]
      · have := h.lt _ _ q
        rw [get_miss (by simp; omega), H.get_del, if_neg (by omega), get_miss (by omega)]; exact x2 i d q
  obtain ⟨h4, eh4⟩ : ∃ g, g = h3.set h.next (entC e v') := ⟨_, rfl⟩
  obtain ⟨h5, eh5⟩ : ∃ g, g = h4.set (h.next + 1) (entC e v') := ⟨_, rfl⟩
  have ga3 : h3.get h.next = some (entC e v) := by rw [g3 _ (by omega), ga2]
  have gz3 : h3.get (h.next + 1) = some (entC ent0 .nils) := by rw [g3 _ (by omega), gz2]
  have ga4 : h4.get h.next = some (entC e v') := by rw [eh4, set_hit rfl, ga3]; rfl
  have gz4 : h4.get (h.next + 1) = some (entC ent0 .nils) := by rw [eh4, set_miss (by omega), gz3]
  have gz5 : h5.get (h.next + 1) = some (entC e v') := by rw [eh5, set_hit rfl, gz4]; rfl
  have st4 : stO h3 h.next 2 1 [v'] (some (entC e v)) = some h4 := by rw [stO_1 (by omega) (by show 2 < 9; omega) hsc, eh4]; rfl
  have st5 : stO h4 (h.next + 1) 0 9 (entC e v') (some (entC ent0 .nils)) = some h5 := by
    rw [eh5]; exact stO_all (by rw [eh4]; simp; omega) rfl rfl (by simp [entC, hsc])
  have e1 : h.alloc (entC e v) = h1 := eh1.symm
  have e2 : h1.alloc [.str ⟨#[]⟩, .bool false, .nils, .int .i64 0, .int .i64 0, .int .i64 0, .str ⟨#[]⟩, .int .i64 0, .int .i64 0] = h2 := eh2.symm
  have rr : rdc true 9 (entC e v') 0 = some (.agg (entC e v')) := rfl
  have lE : (entC e v).length = 9 := rfl
  have sE : AV.allsc (entC e v) = true := by simp [entC, hv]
  have c2 : (entC e v)[2]? = some v := rfl
  have hg : ∀ i, i ≠ h.next → i ≠ h.next + 1 → h5.get i = h3.get i := fun i q1 q2 => by rw [eh5, set_miss q2, eh4, set_miss q1]
  have x5 : Ext h3 h5 → True := fun _ => trivial
  refine ⟨h5, v', plain_c (fn := AP.f92) (h2 := h5) (e := [(2, .pobj (h.next + 1) 0)]) (vs := [.agg (entC e v')]) rfl rfl rfl ?_ ?_, hv', ?_, by rw [eh5, eh4]; simp [f3], by rw [eh5, eh4]; simpa using n3, ?_, fun q => by rw [hg _ (by omega) (by omega)]; exact hget q⟩
  · clear x5 hg x2 x3 g3 hrd hget r2 ok
    generalize entC e v = A at *
    generalize entC e v' = B at *
    simp (disch := omega) only [go_sem, abin_shl, abin_shr, Nat.reduceEqDiff, reduceIte, Nat.reduceAdd, Nat.reduceMul, Nat.reduceLT, Nat.reduceLeDiff, Int.reduceBEq, Int.reduceBNe, Int.reduceLT, Int.reduceLE, Int.reduceEq, dt, df, eqt, eqf, net, nef, wi, wb, alen_str, idxs_at, tn_add, tn_nat, aix, get_hit, get_miss, set_hit, set_miss, H.floor_alloc, H.next_alloc, H.floor_set, H.next_set, stO_d, condO_t, fill_n, fill_c, fillS_s, bir_bslice, bir_alloc, bir_box, birB_s, repl_s, repl_z, List.map_cons, List.map_nil, setFrom_nil, setFrom_cons, allsc_nil, allsc_cons, Bool.and_true, Bool.true_and, Bool.and_self, List.append_nil, Option.map_some, Option.map_none, iadr_s, iadr_m, idP_s, idQ_s, bir_mksl, mkslB_s, alen_s, alen_n, alen_m, Bool.and_false, Bool.false_and, Bool.or_false, Bool.or_true, Bool.true_or, Bool.false_or, Bool.or_self, C_dregF, goD_s, goD2_t, stb_n, stb_c, stK_n, stK_c, stV_s, stB_f, beq_int, beq_bool, beq_tup0, beq_nils, beq_simm0, beq_str, beq_sobj, beq_pobj, opsD_nil, opsD_u, opsD_g, goOD_s, preD_t, preD_f, AOp.loud, AOp.births, st1_u, st1_g, Int.reduceAdd, Int.reduceSub, Int.reduceMul, Int.reduceNeg, Int.reduceToNat, eqbB_s, beq_refl, beqs_refl, stB_t, beO_s, stBv_t, stBv_p, stBv_o, st1b_alloc, st1b_box, st1b_bslice, st1b_mksl, AP.f92, lE, sE, e1, n1, e2, ga2, get_miss, c2, ap, ga3, hcl, st4, ga4, rr, gz4, st5]
  · simp only [AP.f92, resAll, resOf, look_hit, load_o, gz5, rdO_s]; rfl
  · obtain ⟨q1, q2⟩ := hrd
    refine ⟨?_, q2⟩
    rw [← q1]
    rw [hv']
    by_cases c : e.vec = []
    · rw [if_pos c]; simp only [srcCells, if_true]; rw [hg _ (by omega) (by omega)]
    · rw [if_neg c]; simp only [srcCells, if_true]; rw [hg _ (by omega) (by omega)]
  · intro i d q
    have := h.lt _ _ q
    rw [hg _ (by omega) (by omega)]; exact x3 i d q
end Ab
set_option linter.unusedSimpArgs false
set_option linter.unusedVariables false
set_option maxRecDepth 100000
namespace Ab
open Go
def nA : ByteArray := ⟨#[97]⟩
def tHi : ByteArray := ⟨#[104, 105]⟩
theorem Rd.obj {h : H} {p n : Nat} {l : List Int} (hp : h.get p = some (ints l)) (hl : l.length = n) : Rd h (.sobj p 0 n 1) (ints l) :=
  ⟨by subst hl; simp only [srcCells, if_true, hp, Option.bind_some]; rw [if_pos (by simp), List.drop_zero, List.take_of_length_le (by simp), ints_length], fun s e => by cases e⟩
theorem EOk.obj {h : H} {e : Ent} {p n : Nat} {l : List Int} (hp : h.get p = some (ints l)) (hl : l.length = n) (he : e.vec = l := by rfl) (nl : e.name.size < 1125899906842624) (pl : e.packed.size < 1125899906842624) (hn : n < 1000000 := by decide) : EOk h (e, .sobj p 0 n 1) :=
  ⟨by show Rd h _ (ints e.vec); rw [he]; exact Rd.obj hp hl, by show e.vec.length < _; rw [he]; omega, by show e.name.size < _; omega, by show e.packed.size < _; omega⟩
theorem ent_sc {e : Ent} {v : AV} (h : v.sc = true) : AV.allsc (entC e v) = true := by simp [entC, h]
end Ab
set_option linter.unusedVariables false
namespace Ab
open Go
def intT : Ty := .int .i64
def intsT : Ty := .sl intT 1 8
def entT : Ty := .st [.str, .bool, intsT, intT, intT, intT, .str, intT, intT]
theorem sh_int {B : Nat} {as : List AV} (h : Sh B intT as) : ∃ n, as = [.int .i64 n] ∧ (-9223372036854775808 ≤ n ∧ n < 9223372036854775808) := by
  cases h with
  | int h => exact ⟨_, rfl, int_rng h⟩
theorem sh_bool {B : Nat} {as : List AV} (h : Sh B .bool as) : ∃ b, as = [.bool b] := by
  cases h with
  | bool b => exact ⟨b, rfl⟩
theorem sh_str {as : List AV} (h : Sh reachBytes .str as) : ∃ s : ByteArray, as = [.str s] ∧ s.size < 140737488355328 := by
  cases h with
  | str h => exact ⟨_, rfl, str_sz h⟩
theorem sh_list {B : Nat} {as : List AV} {ess : List (List AV)} (h : ∀ es, es ∈ ess → Sh B intT es) : ∃ l : List Int, l.length = ess.length ∧ ess.flatten = ints l := by
  induction ess with
  | nil => exact ⟨[], rfl, rfl⟩
  | cons x ess ih =>
    obtain ⟨n, rfl, _⟩ := sh_int (h x (by simp))
    obtain ⟨l, h1, h2⟩ := ih fun es q => h es (by simp [q])
    exact ⟨n :: l, by simp [h1], by rw [List.flatten_cons, h2]; rfl⟩
theorem sh_ints {as : List AV} (h : Sh reachBytes intsT as) : ∃ (v : AV) (l : List Int), as = [v] ∧ v.sc = true ∧ (∀ g, Rd g v (ints l)) ∧ l.length < 20000000000000 := by
  cases h with
  | nils => exact ⟨.nils, [], rfl, rfl, fun g => ⟨rfl, fun s e => by cases e⟩, by simp⟩
  | simm ess h hz hb =>
    obtain ⟨l, h1, h2⟩ := sh_list (as := []) h
    rw [h2, ← h1]
    refine ⟨_, l, rfl, rfl, fun g => ?_, ?_⟩
    · have := rd_imm g l
      unfold immI at this; exact this
    · rw [h1]; unfold reachBytes at hb; omega
theorem shA_cons {B : Nat} {f : Ty} {fs : List Ty} {as : List AV} (h : ShAll B (f :: fs) as) : ∃ a r, as = a ++ r ∧ Sh B f a ∧ ShAll B fs r := by
  cases h with
  | cons h hr => exact ⟨_, _, rfl, h, hr⟩
theorem shA_nil {B : Nat} {as : List AV} (h : ShAll B [] as) : as = [] := by
  cases h; rfl
theorem sh_st {B : Nat} {fs : List Ty} {as : List AV} (h : Sh B (.st fs) as) : ShAll B fs as := by
  cases h with
  | st h => exact h
theorem sh_ent {as : List AV} (h : Sh reachBytes entT as) : ∃ (e : Ent) (v : AV), as = entC e v ∧ v.sc = true ∧ (∀ g, EOk g (e, v)) ∧ e.vec.length < 20000000000000 := by
  obtain ⟨a1, r1, rfl, s1, h1⟩ := shA_cons (sh_st h)
  obtain ⟨a2, r2, rfl, s2, h2⟩ := shA_cons h1
  obtain ⟨a3, r3, rfl, s3, h3⟩ := shA_cons h2
  obtain ⟨a4, r4, rfl, s4, h4⟩ := shA_cons h3
  obtain ⟨a5, r5, rfl, s5, h5⟩ := shA_cons h4
  obtain ⟨a6, r6, rfl, s6, h6⟩ := shA_cons h5
  obtain ⟨a7, r7, rfl, s7, h7⟩ := shA_cons h6
  obtain ⟨a8, r8, rfl, s8, h8⟩ := shA_cons h7
  obtain ⟨a9, r9, rfl, s9, h9⟩ := shA_cons h8
  obtain rfl := shA_nil h9
  obtain ⟨n, rfl, z1⟩ := sh_str s1
  obtain ⟨g, rfl⟩ := sh_bool s2
  obtain ⟨v, l, rfl, hv, rd, z3⟩ := sh_ints s3
  obtain ⟨st, rfl, _⟩ := sh_int s4
  obtain ⟨no, rfl, _⟩ := sh_int s5
  obtain ⟨me, rfl, _⟩ := sh_int s6
  obtain ⟨pa, rfl, z7⟩ := sh_str s7
  obtain ⟨si, rfl, _⟩ := sh_int s8
  obtain ⟨cr, rfl, _⟩ := sh_int s9
  exact ⟨⟨n, g, l, st, no, me, pa, si, cr⟩, v, rfl, hv, fun g => ⟨rd g, by show l.length < _; omega, by show n.size < _; omega, by show pa.size < _; omega⟩, z3⟩
theorem row4 {P : Ty × List AV → Prop} {a b c d : Ty} {r : List (Ty × List AV)} (h : r.map (·.1) = [a, b, c, d]) (hp : ∀ x ∈ r, P x) : ∃ x y z w, r = [(a, x), (b, y), (c, z), (d, w)] ∧ P (a, x) ∧ P (b, y) ∧ P (c, z) ∧ P (d, w) := by
  match r, h with
  | [(a', x), (b', y), (c', z), (d', w)], h => simp at h; obtain ⟨rfl, rfl, rfl, rfl⟩ := h; exact ⟨x, y, z, w, rfl, hp _ (by simp), hp _ (by simp), hp _ (by simp), hp _ (by simp)⟩
end Ab
set_option linter.unusedSimpArgs false
set_option linter.unusedVariables false
set_option maxRecDepth 100000
namespace Ab
open Go
def toL (s : ByteArray) : List Nat := s.data.toList.map (·.toNat)
theorem toL_len (s : ByteArray) : (toL s).length = s.size := by unfold toL; rw [List.length_map, Array.length_toList]; rfl
theorem toL_app (a b : ByteArray) : toL (a ++ b) = toL a ++ toL b := by simp [toL]
theorem toL_lt (s : ByteArray) : ∀ b ∈ toL s, b < 256 := by
  intro b hb
  obtain ⟨x, _, rfl⟩ := List.mem_map.1 hb
  exact x.toNat_lt
theorem bytesOf_toL (s : ByteArray) : bytesOf (toL s) = s := by
  unfold toL bytesOf; rw [List.map_map]; apply ByteArray.ext; simp [Function.comp_def]
theorem toL_bytesOf {l : List Nat} (h : ∀ b ∈ l, b < 256) : toL (bytesOf l) = l := by
  simp only [toL, bytesOf, List.map_map]
  conv => rhs; rw [← List.map_id l]
  exact List.map_congr_left fun b hb => by simp [Function.comp, UInt8.toNat_ofNat_of_lt' (h b hb)]
theorem bytesOf_app (a b : List Nat) : bytesOf a ++ bytesOf b = bytesOf (a ++ b) := by
  apply ByteArray.ext; simp [bytesOf]
theorem lowL_lt (x k : Nat) : ∀ b ∈ lowL x k, b < 256 := by
  intro b hb
  obtain ⟨i, _, rfl⟩ := List.mem_map.1 hb
  exact Nat.mod_lt _ (by omega)
theorem str_add {a b : ByteArray} (h : a.size + b.size ≤ 9223372036854775807) : abin .add (.str a) (.str b) = some (.str (a ++ b)) := abin_strAdd h
theorem bytes_add {a b : List Nat} (h : a.length + b.length ≤ 9223372036854775807) : abin .add (.str (bytesOf a)) (.str (bytesOf b)) = some (.str (bytesOf (a ++ b))) := by
  rw [str_add (by rw [bytesOf_size, bytesOf_size]; exact h), bytesOf_app]
def crcL (c : Nat) (l : List Nat) : Nat := l.foldl crcByte c
theorem byN_toL {s : ByteArray} {i : Nat} {p q : List Nat} {b : Nat} (h : toL s = p ++ b :: q) (hi : p.length = i) : byN s i = b := by
  have : (toL s)[i]? = some b := by rw [h, ← hi]; simp
  unfold byN
  unfold toL at this
  rw [List.getElem?_map] at this
  have e : s[i]? = s.data.toList[i]? := by
    show s.data[i]? = _
    simp
  rw [e]
  cases hq : s.data.toList[i]? with
  | none => rw [hq] at this; cases this
  | some x => rw [hq] at this; simpa using this
theorem crcRun_eq (s : ByteArray) : ∀ (q p : List Nat) (c : Nat), toL s = p ++ q → crcRun s q.length p.length c = crcL c q
  | [], p, c, h => rfl
  | b :: q, p, c, h => by
    show crcRun s q.length (p.length + 1) (crcByte c (byN s p.length)) = _
    have := crcRun_eq s q (p ++ [b]) (crcByte c b) (by rw [h]; simp)
    rw [byN_toL h rfl]
    rw [List.length_append] at this
    exact this
theorem joinA_L (a : Nat) (s : ByteArray) : joinA a s = 4294967295 - crcL (4294967295 - a) (toL s) := by
  unfold joinA
  have := crcRun_eq s (toL s) [] (4294967295 - a) rfl
  rw [toL_len] at this
  rw [← this]; rfl
theorem crcL_lt : ∀ (l : List Nat) {c : Nat}, c < 4294967296 → (∀ b ∈ l, b < 256) → crcL c l < 4294967296
  | [], _, h, _ => h
  | b :: l, _, h, hb => crcL_lt l (crcByte_lt h (hb b (by simp))) (fun x hx => hb x (by simp [hx]))
theorem joinA_app {a : Nat} (s t : ByteArray) : joinA (joinA a s) t = joinA a (s ++ t) := by
  rw [joinA_L, joinA_L a, joinA_L a, toL_app]
  have := crcL_lt (toL s) (c := 4294967295 - a) (by omega) (toL_lt s)
  rw [show 4294967295 - (4294967295 - crcL (4294967295 - a) (toL s)) = crcL (4294967295 - a) (toL s) by omega]
  simp [crcL]
def sumL' (l : List Nat) : Nat := 4294967295 - crcL 4294967295 l
theorem crcA_L (s : ByteArray) : crcA s = sumL' (toL s) := joinA_L 0 s
theorem crcA_bytes {l : List Nat} (h : ∀ b ∈ l, b < 256) : crcA (bytesOf l) = sumL' l := by rw [crcA_L, toL_bytesOf h]
def vecL (l : List Int) : List Nat := l.flatMap fun n => lowL n.toNat 4
def putL (e : Ent) : List Nat := lowL 20592 2 ++ lowL 22 2 ++ vecL e.vec ++ lowL e.stamp.toNat 4 ++ lowL e.node.toNat 1 ++ lowL (if e.gone then 1 else 0) 1
theorem vecL_len (l : List Int) : (vecL l).length = 4 * l.length := by
  induction l with
  | nil => rfl
  | cons n l ih => unfold vecL at *; rw [List.flatMap_cons, List.length_append, lowL_len, ih, List.length_cons]; omega
theorem vecL_lt (l : List Int) : ∀ b ∈ vecL l, b < 256 := by
  intro b hb
  obtain ⟨n, _, hn⟩ := List.mem_flatMap.1 hb
  exact lowL_lt _ _ b hn
theorem putL_lt (e : Ent) : ∀ b ∈ putL e, b < 256 := by
  intro b hb
  unfold putL at hb
  simp only [List.mem_append] at hb
  rcases hb with ((((hb | hb) | hb) | hb) | hb) | hb
  · exact lowL_lt _ _ b hb
  · exact lowL_lt _ _ b hb
  · exact vecL_lt _ b hb
  · exact lowL_lt _ _ b hb
  · exact lowL_lt _ _ b hb
  · exact lowL_lt _ _ b hb
def putV (e : Ent) : AV := if headA e = true then .tup [.str (bytesOf (putL e)), .int .i64 0] else .tup [.str ⟨#[]⟩, .int .i64 1200]
theorem headA_facts {e : Ent} (h : headA e = true) : e.vec.length = 4 ∧ (∀ n ∈ e.vec, 0 ≤ n ∧ n ≤ 1048576) ∧ (1 ≤ e.stamp ∧ e.stamp ≤ 1048576) ∧ (0 ≤ e.node ∧ e.node < 4) := by
  simp only [headA, vecA, countA, nodeA, Bool.and_eq_true, decide_eq_true_eq, List.all_eq_true] at h
  exact ⟨h.1.1, h.1.2, ⟨h.2.1, h.2.2.1.2⟩, h.2.2.2⟩
theorem put_loop {v P : AV} {l : List Int} (hl : l.length < 1000000) (hn : ∀ n ∈ l, 0 ≤ n ∧ n ≤ 1048576) (h : H) (rd : Rd h v (ints l)) : ∀ (q p : List Int) (acc : List Nat), l = p ++ q → acc.length + 4 * q.length < 100000000 →
    ∃ e', Lp AP.A [1, 4, 14, 15, 16] AP.f102L0 [(1, P), (4, .str (bytesOf acc)), (14, v), (15, .int .i64 l.length), (16, .int .i64 p.length)] h = some (.exit 0, e', h) ∧ look e' 1 = P ∧ look e' 4 = .str (bytesOf (acc ++ vecL q))
  | [], p, acc, hp, ha => by
    refine ⟨[(1, P), (4, .str (bytesOf acc)), (14, v), (15, .int .i64 l.length), (16, .int .i64 p.length), (17, .bool false)], Lp_exit ?_, rfl, by simp [vecL, look]⟩
    have e : l.length = p.length := by rw [hp]; simp
    rw [e]
    simp (disch := first | omega | (simp only [H.next_alloc, H.next_set, nx_del, nx_fence, H.floor_alloc, H.floor_set, fl_del, fl_fence, List.length_cons, List.length_nil, Nat.zero_add, Nat.reduceAdd]; first | done | omega | fail) | (simp (disch := first | omega | (simp only [H.next_alloc, H.next_set, nx_del, nx_fence, H.floor_alloc, H.floor_set, fl_del, fl_fence, List.length_cons, List.length_nil, Nat.zero_add, Nat.reduceAdd]; first | done | omega | fail) | fail) only [H.next_alloc, H.next_set, nx_del, nx_fence, H.floor_alloc, H.floor_set, fl_del, fl_fence, List.length_cons, List.length_nil, Nat.zero_add, Nat.reduceAdd, get_hit, get_miss, set_hit, set_miss, del_miss, gt_fence, Option.map_some]; done) | fail) only [go_sem, abin_shl, abin_shr, Nat.reduceEqDiff, reduceIte, Nat.reduceAdd, Nat.reduceMul, Nat.reduceLT, Nat.reduceLeDiff, Int.reduceBEq, Int.reduceBNe, Int.reduceLT, Int.reduceLE, Int.reduceEq, dt, df, eqt, eqf, net, nef, wi, wb, alen_str, idxs_at, tn_add, tn_nat, aix, get_hit, get_miss, set_hit, set_miss, H.floor_alloc, H.next_alloc, H.floor_set, H.next_set, stO_d, condO_t, fill_n, fill_c, fillS_s, bir_bslice, bir_alloc, bir_box, birB_s, repl_s, repl_z, List.map_cons, List.map_nil, setFrom_nil, setFrom_cons, allsc_nil, allsc_cons, Bool.and_true, Bool.true_and, Bool.and_self, List.append_nil, Option.map_some, Option.map_none, iadr_s, iadr_m, idP_s, idQ_s, bir_mksl, mkslB_s, alen_s, alen_n, alen_m, Bool.and_false, Bool.false_and, Bool.or_false, Bool.or_true, Bool.true_or, Bool.false_or, Bool.or_self, C_dregF, goD_s, goD2_t, stb_n, stb_c, stK_n, stK_c, stV_s, stB_f, beq_int, beq_bool, beq_tup0, beq_nils, beq_simm0, beq_str, beq_sobj, beq_pobj, opsD_nil, opsD_u, opsD_g, goOD_s, preD_t, preD_f, AOp.loud, AOp.births, st1_u, st1_g, Int.reduceAdd, Int.reduceSub, Int.reduceMul, Int.reduceNeg, Int.reduceToNat, eqbB_s, beq_refl, beqs_refl, stB_t, beO_s, stBv_t, stBv_p, stBv_o, st1b_alloc, st1b_box, st1b_bslice, st1b_mksl, nx_fence, gt_fence, fl_fence, nx_del, fl_del, del_miss, rdT, List.take_succ_cons, List.take_zero, List.drop_zero, List.drop_succ_cons, selO_t, selO_f, srcO_s, src_o, src_m, src_n, src_s, appS_s, app_b, apO_s, apc_o, apc_n, roomy_t, Int.cast_ofNat_Int, Int.natCast_one, Int.natCast_zero, at_z, at_s, tl_z, tl_s, AP.f102L0]
  | n :: q, p, acc, hp, ha => by
    rw [List.length_cons] at ha
    obtain ⟨e', r1, r2, r3⟩ := put_loop (P := P) hl hn h rd q (p ++ [n]) (acc ++ lowL n.toNat 4) (by rw [hp]; simp) (by rw [List.length_append, lowL_len]; omega)
    obtain ⟨ad, a1, a2⟩ := rd.ints_at
    have hlen : l.length = p.length + (q.length + 1) := by rw [hp]; simp
    have i1 := a1 (p.length : Int) ⟨by omega, by omega⟩
    have i2 := a2 h (Ext.refl h) p.length n (by rw [hp]; simp)
    have bn := hn n (by rw [hp]; simp)
    have k1 := fun g => low_c g n.toNat 4 (by omega) (by omega)
    rw [show ((n.toNat : Nat) : Int) = n by omega] at k1
    have s1 : abin .add (.str (bytesOf acc)) (.str (lowA n.toNat 4)) = some (.str (bytesOf (acc ++ lowL n.toNat 4))) := bytes_add (by rw [lowL_len]; omega)
    have n1 : ((p.length + 1 : Nat) : Int) = (p.length : Int) + 1 := by omega
    rw [List.length_append, show [n].length = 1 from rfl, n1] at r1
    refine ⟨e', Lp_next ?_ r1, r2, by rw [r3]; simp [vecL]⟩
    have k1' : ∀ g : H, callW AP.A 104 [.int .i64 n, .int .i64 4] g = some (.str (lowA n.toNat 4), g) := k1
    simp (disch := first | omega | (simp only [H.next_alloc, H.next_set, nx_del, nx_fence, H.floor_alloc, H.floor_set, fl_del, fl_fence, List.length_cons, List.length_nil, Nat.zero_add, Nat.reduceAdd]; first | done | omega | fail) | (simp (disch := first | omega | (simp only [H.next_alloc, H.next_set, nx_del, nx_fence, H.floor_alloc, H.floor_set, fl_del, fl_fence, List.length_cons, List.length_nil, Nat.zero_add, Nat.reduceAdd]; first | done | omega | fail) | fail) only [H.next_alloc, H.next_set, nx_del, nx_fence, H.floor_alloc, H.floor_set, fl_del, fl_fence, List.length_cons, List.length_nil, Nat.zero_add, Nat.reduceAdd, get_hit, get_miss, set_hit, set_miss, del_miss, gt_fence, Option.map_some]; done) | fail) only [go_sem, abin_shl, abin_shr, Nat.reduceEqDiff, reduceIte, Nat.reduceAdd, Nat.reduceMul, Nat.reduceLT, Nat.reduceLeDiff, Int.reduceBEq, Int.reduceBNe, Int.reduceLT, Int.reduceLE, Int.reduceEq, dt, df, eqt, eqf, net, nef, wi, wb, alen_str, idxs_at, tn_add, tn_nat, aix, get_hit, get_miss, set_hit, set_miss, H.floor_alloc, H.next_alloc, H.floor_set, H.next_set, stO_d, condO_t, fill_n, fill_c, fillS_s, bir_bslice, bir_alloc, bir_box, birB_s, repl_s, repl_z, List.map_cons, List.map_nil, setFrom_nil, setFrom_cons, allsc_nil, allsc_cons, Bool.and_true, Bool.true_and, Bool.and_self, List.append_nil, Option.map_some, Option.map_none, iadr_s, iadr_m, idP_s, idQ_s, bir_mksl, mkslB_s, alen_s, alen_n, alen_m, Bool.and_false, Bool.false_and, Bool.or_false, Bool.or_true, Bool.true_or, Bool.false_or, Bool.or_self, C_dregF, goD_s, goD2_t, stb_n, stb_c, stK_n, stK_c, stV_s, stB_f, beq_int, beq_bool, beq_tup0, beq_nils, beq_simm0, beq_str, beq_sobj, beq_pobj, opsD_nil, opsD_u, opsD_g, goOD_s, preD_t, preD_f, AOp.loud, AOp.births, st1_u, st1_g, Int.reduceAdd, Int.reduceSub, Int.reduceMul, Int.reduceNeg, Int.reduceToNat, eqbB_s, beq_refl, beqs_refl, stB_t, beO_s, stBv_t, stBv_p, stBv_o, st1b_alloc, st1b_box, st1b_bslice, st1b_mksl, nx_fence, gt_fence, fl_fence, nx_del, fl_del, del_miss, rdT, List.take_succ_cons, List.take_zero, List.drop_zero, List.drop_succ_cons, selO_t, selO_f, srcO_s, src_o, src_m, src_n, src_s, appS_s, app_b, apO_s, apc_o, apc_n, roomy_t, Int.cast_ofNat_Int, Int.natCast_one, Int.natCast_zero, at_z, at_s, tl_z, tl_s, AP.f102L0, i1, i2, k1', s1]
theorem PE.obj {h : H} {id : Nat} {cs : List AV} (hg : h.get id = some cs) : PE h (.pobj id 0) cs :=
  ⟨fun g => rfl, fun k => .pobj id (0 + k), fun k => rfl, fun g hx k c hc => by
    show aload false 1 (.pobj id (0 + k)) g = _
    rw [Nat.zero_add]
    simp only [aload, hx _ _ hg, Option.bind_some, rdc, hc]; rfl⟩
theorem eput_c (h : H) (hf : h.floor ≤ h.next) (e : Ent) (v : AV) (hv : v.sc = true) (ok : EOk h (e, v)) : callW AP.A 102 [.agg (entC e v)] h = some (putV e, h) := by
  obtain ⟨A, hA⟩ : ∃ x, x = entC e v := ⟨_, rfl⟩
  have lA : A.length = 9 := by rw [hA]; rfl
  have cA : AV.allsc A = true := by rw [hA]; exact ent_sc hv
  have g2 : A[2]? = some v := by rw [hA]; rfl
  have g1 : A[1]? = some (.bool e.gone) := by rw [hA]; rfl
  have g3 : A[3]? = some (.int .i64 e.stamp) := by rw [hA]; rfl
  have g4 : A[4]? = some (.int .i64 e.node) := by rw [hA]; rfl
  have x1 : Ext h (h.fence.alloc A) := fun i c q => ((Ext.refl h.fence).alloc _) i c q
  have o1 := ok.mono x1
  have q1 : callW AP.A 112 [.pobj h.next 0] (h.fence.alloc A) = some (.bool (headA e), h.fence.alloc A) := by
    refine head_c (h.fence.alloc A) (.pobj h.next 0) v e ?_ o1.vec o1.vl
    rw [← hA]; exact PE.obj (get_hit (by simp))
  unfold putV
  cases hh : headA e with
  | false =>
    rw [hh] at q1
    rw [if_neg (by decide)]
    refine pure_c (fn := AP.f102) (h2 := h.fence.alloc A) (e := [(2, .str ⟨#[]⟩), (3, .int .i64 1200)]) rfl rfl rfl ?_ rfl rfl
    rw [← hA]
    simp (disch := first | omega | (simp only [H.next_alloc, H.next_set, nx_del, nx_fence, H.floor_alloc, H.floor_set, fl_del, fl_fence, List.length_cons, List.length_nil, Nat.zero_add, Nat.reduceAdd]; first | done | omega | fail) | (simp (disch := first | omega | (simp only [H.next_alloc, H.next_set, nx_del, nx_fence, H.floor_alloc, H.floor_set, fl_del, fl_fence, List.length_cons, List.length_nil, Nat.zero_add, Nat.reduceAdd]; first | done | omega | fail) | fail) only [H.next_alloc, H.next_set, nx_del, nx_fence, H.floor_alloc, H.floor_set, fl_del, fl_fence, List.length_cons, List.length_nil, Nat.zero_add, Nat.reduceAdd, get_hit, get_miss, set_hit, set_miss, del_miss, gt_fence, Option.map_some]; done) | fail) only [go_sem, abin_shl, abin_shr, Nat.reduceEqDiff, reduceIte, Nat.reduceAdd, Nat.reduceMul, Nat.reduceLT, Nat.reduceLeDiff, Int.reduceBEq, Int.reduceBNe, Int.reduceLT, Int.reduceLE, Int.reduceEq, dt, df, eqt, eqf, net, nef, wi, wb, alen_str, idxs_at, tn_add, tn_nat, aix, get_hit, get_miss, set_hit, set_miss, H.floor_alloc, H.next_alloc, H.floor_set, H.next_set, stO_d, condO_t, fill_n, fill_c, fillS_s, bir_bslice, bir_alloc, bir_box, birB_s, repl_s, repl_z, List.map_cons, List.map_nil, setFrom_nil, setFrom_cons, allsc_nil, allsc_cons, Bool.and_true, Bool.true_and, Bool.and_self, List.append_nil, Option.map_some, Option.map_none, iadr_s, iadr_m, idP_s, idQ_s, bir_mksl, mkslB_s, alen_s, alen_n, alen_m, Bool.and_false, Bool.false_and, Bool.or_false, Bool.or_true, Bool.true_or, Bool.false_or, Bool.or_self, C_dregF, goD_s, goD2_t, stb_n, stb_c, stK_n, stK_c, stV_s, stB_f, beq_int, beq_bool, beq_tup0, beq_nils, beq_simm0, beq_str, beq_sobj, beq_pobj, opsD_nil, opsD_u, opsD_g, goOD_s, preD_t, preD_f, AOp.loud, AOp.births, st1_u, st1_g, Int.reduceAdd, Int.reduceSub, Int.reduceMul, Int.reduceNeg, Int.reduceToNat, eqbB_s, beq_refl, beqs_refl, stB_t, beO_s, stBv_t, stBv_p, stBv_o, st1b_alloc, st1b_box, st1b_bslice, st1b_mksl, nx_fence, gt_fence, fl_fence, nx_del, fl_del, del_miss, rdT, List.take_succ_cons, List.take_zero, List.drop_zero, List.drop_succ_cons, selO_t, selO_f, srcO_s, src_o, src_m, src_n, src_s, appS_s, app_b, apO_s, apc_o, apc_n, roomy_t, Int.cast_ofNat_Int, Int.natCast_one, Int.natCast_zero, at_z, at_s, tl_z, tl_s, AP.f102, lA, cA, q1]
  | true =>
    rw [hh] at q1
    rw [if_pos rfl]
    obtain ⟨f1, f2, f3, f4⟩ := headA_facts hh
    have k1 : ∀ g, callW AP.A 104 [.int .i64 20592, .int .i64 2] g = some (.str (bytesOf (lowL 20592 2)), g) := fun g => low_c g 20592 2 (by omega) (by omega)
    have k2 : ∀ g, callW AP.A 104 [.int .i64 22, .int .i64 2] g = some (.str (bytesOf (lowL 22 2)), g) := fun g => low_c g 22 2 (by omega) (by omega)
    have k3 : ∀ g, callW AP.A 104 [.int .i64 e.stamp, .int .i64 4] g = some (.str (bytesOf (lowL e.stamp.toNat 4)), g) := fun g => by
      have := low_c g e.stamp.toNat 4 (by omega) (by omega)
      rw [show ((e.stamp.toNat : Nat) : Int) = e.stamp by omega] at this; exact this
    have k4 : ∀ g, callW AP.A 104 [.int .i64 e.node, .int .i64 1] g = some (.str (bytesOf (lowL e.node.toNat 1)), g) := fun g => by
      have := low_c g e.node.toNat 1 (by omega) (by omega)
      rw [show ((e.node.toNat : Nat) : Int) = e.node by omega] at this; exact this
    have k5 : ∀ g, callW AP.A 104 [.int .i64 0, .int .i64 1] g = some (.str (bytesOf (lowL 0 1)), g) := fun g => low_c g 0 1 (by omega) (by omega)
    have k6 : ∀ g, callW AP.A 104 [.int .i64 1, .int .i64 1] g = some (.str (bytesOf (lowL 1 1)), g) := fun g => low_c g 1 1 (by omega) (by omega)
    have ln := o1.vec.len
    rw [ints_length] at ln
    simp only [I] at ln
    obtain ⟨e', r1, r2, r3⟩ := put_loop (P := .pobj h.next 0) (by omega) f2 (h.fence.alloc A) o1.vec e.vec [] (lowL 20592 2 ++ lowL 22 2) rfl (by rw [List.length_append, lowL_len, lowL_len]; omega)
    have r1' : Lp AP.A [1, 4, 14, 15, 16] AP.f102L0 [(1, .pobj h.next 0), (4, .str (bytesOf (lowL 20592 2 ++ lowL 22 2))), (14, v), (15, .int .i64 e.vec.length), (16, .int .i64 0)] (h.fence.alloc A) = some (.exit 0, e', h.fence.alloc A) := r1
    clear r1
    have vl := vecL_len e.vec
    have s1 : abin .add (.str (bytesOf (lowL 20592 2))) (.str (bytesOf (lowL 22 2))) = some (.str (bytesOf (lowL 20592 2 ++ lowL 22 2))) := bytes_add (by rw [lowL_len, lowL_len]; omega)
    obtain ⟨L1, hL1⟩ : ∃ x, x = lowL 20592 2 ++ lowL 22 2 ++ vecL e.vec := ⟨_, rfl⟩
    have l1 : L1.length = 20 := by rw [hL1, List.length_append, List.length_append, lowL_len, lowL_len, vl, f1]
    obtain ⟨S1, h1⟩ : ∃ x, x = bytesOf L1 := ⟨_, rfl⟩
    obtain ⟨S2, h2⟩ : ∃ x, x = bytesOf (L1 ++ lowL e.stamp.toNat 4) := ⟨_, rfl⟩
    obtain ⟨S3, h3⟩ : ∃ x, x = bytesOf (L1 ++ lowL e.stamp.toNat 4 ++ lowL e.node.toNat 1) := ⟨_, rfl⟩
    obtain ⟨S4, h4⟩ : ∃ x, x = bytesOf (L1 ++ lowL e.stamp.toNat 4 ++ lowL e.node.toNat 1 ++ lowL (if e.gone then 1 else 0) 1) := ⟨_, rfl⟩
    have s2 : abin .add (.str S1) (.str (bytesOf (lowL e.stamp.toNat 4))) = some (.str S2) := by rw [h1, h2]; exact bytes_add (by rw [lowL_len]; omega)
    have s3 : abin .add (.str S2) (.str (bytesOf (lowL e.node.toNat 1))) = some (.str S3) := by rw [h2, h3]; exact bytes_add (by rw [List.length_append, lowL_len, lowL_len]; omega)
    have s4 : abin .add (.str S3) (.str (bytesOf (lowL (if e.gone then 1 else 0) 1))) = some (.str S4) := by rw [h3, h4]; exact bytes_add (by rw [List.length_append, List.length_append, lowL_len, lowL_len, lowL_len]; omega)
    rw [show lowL 20592 2 ++ lowL 22 2 ++ vecL e.vec = L1 from hL1.symm, ← h1] at r3
    unfold putL
    rw [← hL1, ← hA, ← h4]
    clear hL1 o1 x1 ok h1 h2 h3 h4
    refine pure_c (fn := AP.f102) (h2 := h.fence.alloc A) (e := [(2, .str S4), (3, .int .i64 0)]) rfl rfl rfl ?_ rfl rfl
    cases hg : e.gone with
    | true =>
      rw [hg] at g1 s4
      rw [if_pos rfl] at s4
      simp (disch := first | omega | (simp only [H.next_alloc, H.next_set, nx_del, nx_fence, H.floor_alloc, H.floor_set, fl_del, fl_fence, List.length_cons, List.length_nil, Nat.zero_add, Nat.reduceAdd]; first | done | omega | fail) | (simp (disch := first | omega | (simp only [H.next_alloc, H.next_set, nx_del, nx_fence, H.floor_alloc, H.floor_set, fl_del, fl_fence, List.length_cons, List.length_nil, Nat.zero_add, Nat.reduceAdd]; first | done | omega | fail) | fail) only [H.next_alloc, H.next_set, nx_del, nx_fence, H.floor_alloc, H.floor_set, fl_del, fl_fence, List.length_cons, List.length_nil, Nat.zero_add, Nat.reduceAdd, get_hit, get_miss, set_hit, set_miss, del_miss, gt_fence, Option.map_some]; done) | fail) only [go_sem, abin_shl, abin_shr, Nat.reduceEqDiff, reduceIte, Nat.reduceAdd, Nat.reduceMul, Nat.reduceLT, Nat.reduceLeDiff, Int.reduceBEq, Int.reduceBNe, Int.reduceLT, Int.reduceLE, Int.reduceEq, dt, df, eqt, eqf, net, nef, wi, wb, alen_str, idxs_at, tn_add, tn_nat, aix, get_hit, get_miss, set_hit, set_miss, H.floor_alloc, H.next_alloc, H.floor_set, H.next_set, stO_d, condO_t, fill_n, fill_c, fillS_s, bir_bslice, bir_alloc, bir_box, birB_s, repl_s, repl_z, List.map_cons, List.map_nil, setFrom_nil, setFrom_cons, allsc_nil, allsc_cons, Bool.and_true, Bool.true_and, Bool.and_self, List.append_nil, Option.map_some, Option.map_none, iadr_s, iadr_m, idP_s, idQ_s, bir_mksl, mkslB_s, alen_s, alen_n, alen_m, Bool.and_false, Bool.false_and, Bool.or_false, Bool.or_true, Bool.true_or, Bool.false_or, Bool.or_self, C_dregF, goD_s, goD2_t, stb_n, stb_c, stK_n, stK_c, stV_s, stB_f, beq_int, beq_bool, beq_tup0, beq_nils, beq_simm0, beq_str, beq_sobj, beq_pobj, opsD_nil, opsD_u, opsD_g, goOD_s, preD_t, preD_f, AOp.loud, AOp.births, st1_u, st1_g, Int.reduceAdd, Int.reduceSub, Int.reduceMul, Int.reduceNeg, Int.reduceToNat, eqbB_s, beq_refl, beqs_refl, stB_t, beO_s, stBv_t, stBv_p, stBv_o, st1b_alloc, st1b_box, st1b_bslice, st1b_mksl, nx_fence, gt_fence, fl_fence, nx_del, fl_del, del_miss, rdT, List.take_succ_cons, List.take_zero, List.drop_zero, List.drop_succ_cons, selO_t, selO_f, srcO_s, src_o, src_m, src_n, src_s, appS_s, app_b, apO_s, apc_o, apc_n, roomy_t, Int.cast_ofNat_Int, Int.natCast_one, Int.natCast_zero, at_z, at_s, tl_z, tl_s, AP.f102, lA, cA, q1, k1, k2, k3, k4, k5, k6, s1, s2, s3, s4, g1, g2, g3, g4, ln, evC_loop, r1', r2, r3]
    | false =>
      rw [hg] at g1 s4
      rw [if_neg (by decide)] at s4
      simp (disch := first | omega | (simp only [H.next_alloc, H.next_set, nx_del, nx_fence, H.floor_alloc, H.floor_set, fl_del, fl_fence, List.length_cons, List.length_nil, Nat.zero_add, Nat.reduceAdd]; first | done | omega | fail) | (simp (disch := first | omega | (simp only [H.next_alloc, H.next_set, nx_del, nx_fence, H.floor_alloc, H.floor_set, fl_del, fl_fence, List.length_cons, List.length_nil, Nat.zero_add, Nat.reduceAdd]; first | done | omega | fail) | fail) only [H.next_alloc, H.next_set, nx_del, nx_fence, H.floor_alloc, H.floor_set, fl_del, fl_fence, List.length_cons, List.length_nil, Nat.zero_add, Nat.reduceAdd, get_hit, get_miss, set_hit, set_miss, del_miss, gt_fence, Option.map_some]; done) | fail) only [go_sem, abin_shl, abin_shr, Nat.reduceEqDiff, reduceIte, Nat.reduceAdd, Nat.reduceMul, Nat.reduceLT, Nat.reduceLeDiff, Int.reduceBEq, Int.reduceBNe, Int.reduceLT, Int.reduceLE, Int.reduceEq, dt, df, eqt, eqf, net, nef, wi, wb, alen_str, idxs_at, tn_add, tn_nat, aix, get_hit, get_miss, set_hit, set_miss, H.floor_alloc, H.next_alloc, H.floor_set, H.next_set, stO_d, condO_t, fill_n, fill_c, fillS_s, bir_bslice, bir_alloc, bir_box, birB_s, repl_s, repl_z, List.map_cons, List.map_nil, setFrom_nil, setFrom_cons, allsc_nil, allsc_cons, Bool.and_true, Bool.true_and, Bool.and_self, List.append_nil, Option.map_some, Option.map_none, iadr_s, iadr_m, idP_s, idQ_s, bir_mksl, mkslB_s, alen_s, alen_n, alen_m, Bool.and_false, Bool.false_and, Bool.or_false, Bool.or_true, Bool.true_or, Bool.false_or, Bool.or_self, C_dregF, goD_s, goD2_t, stb_n, stb_c, stK_n, stK_c, stV_s, stB_f, beq_int, beq_bool, beq_tup0, beq_nils, beq_simm0, beq_str, beq_sobj, beq_pobj, opsD_nil, opsD_u, opsD_g, goOD_s, preD_t, preD_f, AOp.loud, AOp.births, st1_u, st1_g, Int.reduceAdd, Int.reduceSub, Int.reduceMul, Int.reduceNeg, Int.reduceToNat, eqbB_s, beq_refl, beqs_refl, stB_t, beO_s, stBv_t, stBv_p, stBv_o, st1b_alloc, st1b_box, st1b_bslice, st1b_mksl, nx_fence, gt_fence, fl_fence, nx_del, fl_del, del_miss, rdT, List.take_succ_cons, List.take_zero, List.drop_zero, List.drop_succ_cons, selO_t, selO_f, srcO_s, src_o, src_m, src_n, src_s, appS_s, app_b, apO_s, apc_o, apc_n, roomy_t, Int.cast_ofNat_Int, Int.natCast_one, Int.natCast_zero, at_z, at_s, tl_z, tl_s, AP.f102, lA, cA, q1, k1, k2, k3, k4, k5, k6, s1, s2, s3, s4, g1, g2, g3, g4, ln, evC_loop, r1', r2, r3]
def digL (e : Ent) : List Nat := lowL e.name.size 1 ++ toL e.name ++ putL e ++ lowL e.crc.toNat 4
def digA (e : Ent) : Option Nat := if mayE e = true then some (sumL' (digL e)) else none
def sumV : Option Nat → AV
  | some n => .tup [.int .i64 n, .int .i64 0]
  | none => .tup [.int .i64 0, .int .i64 1500]
theorem dg_loop (p : Nat) (ss : List ByteArray) (h : H) (hg : h.get p = some (ss.map AV.str)) (hs : ∀ s ∈ ss, s.size < 1125899906842624) (hl : ss.length < 1000000) : ∀ (q pr : List ByteArray) (a : Nat), ss = pr ++ q → a < 4294967296 →
    ∃ e', Lp AP.A [6, 7, 28, 29, 30] AP.f91L0 [(6, .fn 103 [] []), (7, .int .i64 a), (28, .sobj p 0 ss.length 1), (29, .int .i64 ss.length), (30, .int .i64 pr.length)] h = some (.exit 0, e', h) ∧ look e' 7 = .int .i64 (q.foldl joinA a : Nat)
  | [], pr, a, hp, ha => by
    have e : ss.length = pr.length := by rw [hp]; simp
    refine ⟨[(6, .fn 103 [] []), (7, .int .i64 a), (28, .sobj p 0 ss.length 1), (29, .int .i64 ss.length), (30, .int .i64 pr.length), (31, .bool false)], Lp_exit ?_, rfl⟩
    rw [e]
    simp (disch := first | omega | (simp only [H.next_alloc, H.next_set, nx_del, nx_fence, H.floor_alloc, H.floor_set, fl_del, fl_fence, List.length_cons, List.length_nil, Nat.zero_add, Nat.reduceAdd]; first | done | omega | fail) | (simp (disch := first | omega | (simp only [H.next_alloc, H.next_set, nx_del, nx_fence, H.floor_alloc, H.floor_set, fl_del, fl_fence, List.length_cons, List.length_nil, Nat.zero_add, Nat.reduceAdd]; first | done | omega | fail) | fail) only [H.next_alloc, H.next_set, nx_del, nx_fence, H.floor_alloc, H.floor_set, fl_del, fl_fence, List.length_cons, List.length_nil, Nat.zero_add, Nat.reduceAdd, get_hit, get_miss, set_hit, set_miss, del_miss, gt_fence, Option.map_some]; done) | fail) only [go_sem, abin_shl, abin_shr, Nat.reduceEqDiff, reduceIte, Nat.reduceAdd, Nat.reduceMul, Nat.reduceLT, Nat.reduceLeDiff, Int.reduceBEq, Int.reduceBNe, Int.reduceLT, Int.reduceLE, Int.reduceEq, dt, df, eqt, eqf, net, nef, wi, wb, alen_str, idxs_at, tn_add, tn_nat, aix, get_hit, get_miss, set_hit, set_miss, H.floor_alloc, H.next_alloc, H.floor_set, H.next_set, stO_d, condO_t, fill_n, fill_c, fillS_s, bir_bslice, bir_alloc, bir_box, birB_s, repl_s, repl_z, List.map_cons, List.map_nil, setFrom_nil, setFrom_cons, allsc_nil, allsc_cons, Bool.and_true, Bool.true_and, Bool.and_self, List.append_nil, Option.map_some, Option.map_none, iadr_s, iadr_m, idP_s, idQ_s, bir_mksl, mkslB_s, alen_s, alen_n, alen_m, Bool.and_false, Bool.false_and, Bool.or_false, Bool.or_true, Bool.true_or, Bool.false_or, Bool.or_self, C_dregF, goD_s, goD2_t, stb_n, stb_c, stK_n, stK_c, stV_s, stB_f, beq_int, beq_bool, beq_tup0, beq_nils, beq_simm0, beq_str, beq_sobj, beq_pobj, opsD_nil, opsD_u, opsD_g, goOD_s, preD_t, preD_f, AOp.loud, AOp.births, st1_u, st1_g, Int.reduceAdd, Int.reduceSub, Int.reduceMul, Int.reduceNeg, Int.reduceToNat, eqbB_s, beq_refl, beqs_refl, stB_t, beO_s, stBv_t, stBv_p, stBv_o, st1b_alloc, st1b_box, st1b_bslice, st1b_mksl, nx_fence, gt_fence, fl_fence, nx_del, fl_del, del_miss, rdT, List.take_succ_cons, List.take_zero, List.drop_zero, List.drop_succ_cons, selO_t, selO_f, srcO_s, src_o, src_m, src_n, src_s, appS_s, app_b, apO_s, apc_o, apc_n, roomy_t, Int.cast_ofNat_Int, Int.natCast_one, Int.natCast_zero, at_z, at_s, tl_z, tl_s, AP.f91L0]
  | s :: q, pr, a, hp, ha => by
    obtain ⟨e', r1, r2⟩ := dg_loop p ss h hg hs hl q (pr ++ [s]) (joinA a s) (by rw [hp]; simp) (joinA_lt a s)
    have hlen : ss.length = pr.length + (q.length + 1) := by rw [hp]; simp
    have k1 := join_c h s a ha (hs s (by rw [hp]; simp))
    have g1 : (ss.map AV.str)[pr.length]? = some (.str s) := by rw [hp]; simp
    have n1 : ((pr.length + 1 : Nat) : Int) = (pr.length : Int) + 1 := by omega
    rw [List.length_append, show [s].length = 1 from rfl, n1] at r1
    refine ⟨e', Lp_next ?_ r1, r2⟩
    simp (disch := first | omega | (simp only [H.next_alloc, H.next_set, nx_del, nx_fence, H.floor_alloc, H.floor_set, fl_del, fl_fence, List.length_cons, List.length_nil, Nat.zero_add, Nat.reduceAdd]; first | done | omega | fail) | (simp (disch := first | omega | (simp only [H.next_alloc, H.next_set, nx_del, nx_fence, H.floor_alloc, H.floor_set, fl_del, fl_fence, List.length_cons, List.length_nil, Nat.zero_add, Nat.reduceAdd]; first | done | omega | fail) | fail) only [H.next_alloc, H.next_set, nx_del, nx_fence, H.floor_alloc, H.floor_set, fl_del, fl_fence, List.length_cons, List.length_nil, Nat.zero_add, Nat.reduceAdd, get_hit, get_miss, set_hit, set_miss, del_miss, gt_fence, Option.map_some]; done) | fail) only [go_sem, abin_shl, abin_shr, Nat.reduceEqDiff, reduceIte, Nat.reduceAdd, Nat.reduceMul, Nat.reduceLT, Nat.reduceLeDiff, Int.reduceBEq, Int.reduceBNe, Int.reduceLT, Int.reduceLE, Int.reduceEq, dt, df, eqt, eqf, net, nef, wi, wb, alen_str, idxs_at, tn_add, tn_nat, aix, get_hit, get_miss, set_hit, set_miss, H.floor_alloc, H.next_alloc, H.floor_set, H.next_set, stO_d, condO_t, fill_n, fill_c, fillS_s, bir_bslice, bir_alloc, bir_box, birB_s, repl_s, repl_z, List.map_cons, List.map_nil, setFrom_nil, setFrom_cons, allsc_nil, allsc_cons, Bool.and_true, Bool.true_and, Bool.and_self, List.append_nil, Option.map_some, Option.map_none, iadr_s, iadr_m, idP_s, idQ_s, bir_mksl, mkslB_s, alen_s, alen_n, alen_m, Bool.and_false, Bool.false_and, Bool.or_false, Bool.or_true, Bool.true_or, Bool.false_or, Bool.or_self, C_dregF, goD_s, goD2_t, stb_n, stb_c, stK_n, stK_c, stV_s, stB_f, beq_int, beq_bool, beq_tup0, beq_nils, beq_simm0, beq_str, beq_sobj, beq_pobj, opsD_nil, opsD_u, opsD_g, goOD_s, preD_t, preD_f, AOp.loud, AOp.births, st1_u, st1_g, Int.reduceAdd, Int.reduceSub, Int.reduceMul, Int.reduceNeg, Int.reduceToNat, eqbB_s, beq_refl, beqs_refl, stB_t, beO_s, stBv_t, stBv_p, stBv_o, st1b_alloc, st1b_box, st1b_bslice, st1b_mksl, nx_fence, gt_fence, fl_fence, nx_del, fl_del, del_miss, rdT, List.take_succ_cons, List.take_zero, List.drop_zero, List.drop_succ_cons, selO_t, selO_f, srcO_s, src_o, src_m, src_n, src_s, appS_s, app_b, apO_s, apc_o, apc_n, roomy_t, Int.cast_ofNat_Int, Int.natCast_one, Int.natCast_zero, at_z, at_s, tl_z, tl_s, AP.f91L0, hg, k1, g1]
theorem joins4 (a b c d : ByteArray) : [a, b, c, d].foldl joinA 0 = crcA (a ++ b ++ c ++ d) := by
  show joinA (joinA (joinA (joinA 0 a) b) c) d = joinA 0 _
  rw [joinA_app, joinA_app, joinA_app]
  congr 1
  simp only [ByteArray.append_assoc]
theorem mayE_head {e : Ent} (h : mayE e = true) : headA e = true ∧ (1 ≤ e.name.size ∧ e.name.size ≤ 8) ∧ 0 ≤ e.crc ∧ e.crc ≤ 4294967295 := by
  unfold mayE entText at h
  split at h
  · cases h
  · rename_i hm
    have hm : mayF [e] = true := by cases q : mayF [e] with | true => rfl | false => exact absurd q hm
    simp only [mayF, mayL, entOk_n, Bool.and_eq_true, Bool.and_true] at hm
    obtain ⟨⟨h1, h2, h3⟩, _⟩ := hm
    refine ⟨h2, ?_, ?_⟩
    · simp only [nameA, Bool.and_eq_true, decide_eq_true_eq] at h1
      exact ⟨h1.1, h1.2.1⟩
    · unfold contA at h3
      split at h3
      · simp only [Bool.and_eq_true, decide_eq_true_eq] at h3; omega
      · simp only [Bool.and_eq_true, decide_eq_true_eq, isA] at h3; omega
theorem digL_lt (e : Ent) : ∀ b ∈ digL e, b < 256 := by
  intro b hb
  unfold digL at hb
  simp only [List.mem_append] at hb
  rcases hb with ((hb | hb) | hb) | hb
  · exact lowL_lt _ _ b hb
  · exact toL_lt _ b hb
  · exact putL_lt _ b hb
  · exact lowL_lt _ _ b hb
theorem dig_str (e : Ent) : bytesOf (lowL e.name.size 1) ++ e.name ++ bytesOf (putL e) ++ bytesOf (lowL e.crc.toNat 4) = bytesOf (digL e) := by
  unfold digL
  rw [← bytesOf_app, ← bytesOf_app, ← bytesOf_app, bytesOf_toL]
theorem putL_len {e : Ent} (h : headA e = true) : (putL e).length = 26 := by
  obtain ⟨f1, _⟩ := headA_facts h
  unfold putL
  simp only [List.length_append, lowL_len, vecL_len, f1]
set_option maxHeartbeats 1000000 in
theorem digest_c (h : H) (hf : h.floor ≤ h.next) (e : Ent) (v : AV) (hv : v.sc = true) (ok : EOk h (e, v)) : callW AP.A 91 [.agg (entC e v)] h = some (sumV (digA e), h) := by
  obtain ⟨A, hA⟩ : ∃ x, x = entC e v := ⟨_, rfl⟩
  have lA : A.length = 9 := by rw [hA]; rfl
  have cA : AV.allsc A = true := by rw [hA]; exact ent_sc hv
  have tA : List.take 9 A = A := by rw [hA]; rfl
  have g0 : A[0]? = some (.str e.name) := by rw [hA]; rfl
  have g8 : A[8]? = some (.int .i64 e.crc) := by rw [hA]; rfl
  have x1 : Ext h (h.fence.alloc A) := fun i c q => ((Ext.refl h.fence).alloc _) i c q
  have o1 := ok.mono x1
  have f1 : (h.fence.alloc A).floor ≤ (h.fence.alloc A).next := by simp
  have q1 : callW AP.A 96 [.agg A] (h.fence.alloc A) = some (.bool (mayE e), h.fence.alloc A) := by
    have := emay_c (h.fence.alloc A) f1 e v hv o1
    rw [← hA] at this; exact this
  unfold digA
  cases hm : mayE e with
  | false =>
    rw [hm] at q1
    rw [if_neg (by decide)]
    refine pure_c (fn := AP.f91) (h2 := h.fence.alloc A) (e := [(2, .int .i64 0), (3, .int .i64 1500)]) rfl rfl rfl ?_ rfl rfl
    rw [← hA]
    simp (disch := first | omega | (simp only [H.next_alloc, H.next_set, nx_del, nx_fence, H.floor_alloc, H.floor_set, fl_del, fl_fence, List.length_cons, List.length_nil, Nat.zero_add, Nat.reduceAdd]; first | done | omega | fail) | (simp (disch := first | omega | (simp only [H.next_alloc, H.next_set, nx_del, nx_fence, H.floor_alloc, H.floor_set, fl_del, fl_fence, List.length_cons, List.length_nil, Nat.zero_add, Nat.reduceAdd]; first | done | omega | fail) | fail) only [H.next_alloc, H.next_set, nx_del, nx_fence, H.floor_alloc, H.floor_set, fl_del, fl_fence, List.length_cons, List.length_nil, Nat.zero_add, Nat.reduceAdd, get_hit, get_miss, set_hit, set_miss, del_miss, gt_fence, Option.map_some]; done) | fail) only [go_sem, abin_shl, abin_shr, Nat.reduceEqDiff, reduceIte, Nat.reduceAdd, Nat.reduceMul, Nat.reduceLT, Nat.reduceLeDiff, Int.reduceBEq, Int.reduceBNe, Int.reduceLT, Int.reduceLE, Int.reduceEq, dt, df, eqt, eqf, net, nef, wi, wb, alen_str, idxs_at, tn_add, tn_nat, aix, get_hit, get_miss, set_hit, set_miss, H.floor_alloc, H.next_alloc, H.floor_set, H.next_set, stO_d, condO_t, fill_n, fill_c, fillS_s, bir_bslice, bir_alloc, bir_box, birB_s, repl_s, repl_z, List.map_cons, List.map_nil, setFrom_nil, setFrom_cons, allsc_nil, allsc_cons, Bool.and_true, Bool.true_and, Bool.and_self, List.append_nil, Option.map_some, Option.map_none, iadr_s, iadr_m, idP_s, idQ_s, bir_mksl, mkslB_s, alen_s, alen_n, alen_m, Bool.and_false, Bool.false_and, Bool.or_false, Bool.or_true, Bool.true_or, Bool.false_or, Bool.or_self, C_dregF, goD_s, goD2_t, stb_n, stb_c, stK_n, stK_c, stV_s, stB_f, beq_int, beq_bool, beq_tup0, beq_nils, beq_simm0, beq_str, beq_sobj, beq_pobj, opsD_nil, opsD_u, opsD_g, goOD_s, preD_t, preD_f, AOp.loud, AOp.births, st1_u, st1_g, Int.reduceAdd, Int.reduceSub, Int.reduceMul, Int.reduceNeg, Int.reduceToNat, eqbB_s, beq_refl, beqs_refl, stB_t, beO_s, stBv_t, stBv_p, stBv_o, st1b_alloc, st1b_box, st1b_bslice, st1b_mksl, nx_fence, gt_fence, fl_fence, nx_del, fl_del, del_miss, rdT, List.take_succ_cons, List.take_zero, List.drop_zero, List.drop_succ_cons, selO_t, selO_f, srcO_s, src_o, src_m, src_n, src_s, appS_s, app_b, apO_s, apc_o, apc_n, roomy_t, Int.cast_ofNat_Int, Int.natCast_one, Int.natCast_zero, at_z, at_s, tl_z, tl_s, AP.f91, lA, cA, tA, q1]
  | true =>
    rw [hm] at q1
    rw [if_pos rfl]
    obtain ⟨m1, m2, m3⟩ := mayE_head hm
    have q2 : callW AP.A 102 [.agg A] (h.fence.alloc A) = some (.tup [.str (bytesOf (putL e)), .int .i64 0], h.fence.alloc A) := by
      have := eput_c (h.fence.alloc A) f1 e v hv o1
      unfold putV at this
      rw [if_pos m1, ← hA] at this; exact this
    have q3 : ∀ g, callW AP.A 104 [.int .i64 e.name.size, .int .i64 1] g = some (.str (bytesOf (lowL e.name.size 1)), g) := fun g => low_c g e.name.size 1 (by omega) (by omega)
    have q4 : ∀ g, callW AP.A 104 [.int .i64 e.crc, .int .i64 4] g = some (.str (bytesOf (lowL e.crc.toNat 4)), g) := fun g => by
      have := low_c g e.crc.toNat 4 (by omega) (by omega)
      rw [show ((e.crc.toNat : Nat) : Int) = e.crc by omega] at this; exact this
    have pl := putL_len m1
    obtain ⟨T1, e1⟩ : ∃ x, x = bytesOf (lowL e.name.size 1) := ⟨_, rfl⟩
    obtain ⟨T3, e3⟩ : ∃ x, x = bytesOf (putL e) := ⟨_, rfl⟩
    obtain ⟨T4, e4⟩ : ∃ x, x = bytesOf (lowL e.crc.toNat 4) := ⟨_, rfl⟩
    have ds := dig_str e
    rw [← e1, ← e3, ← e4] at ds
    rw [← e3] at q2
    rw [← e1] at q3
    rw [← e4] at q4
    have t1 : T1.size = 1 := by rw [e1, bytesOf_size, lowL_len]
    have t3 : T3.size = 26 := by rw [e3, bytesOf_size, pl]
    have t4 : T4.size = 4 := by rw [e4, bytesOf_size, lowL_len]
    obtain ⟨e', r1, r2⟩ := dg_loop (h.next + 1) [T1, e.name, T3, T4] ((h.fence.alloc A).alloc [.str T1, .str e.name, .str T3, .str T4]) (get_hit (by simp)) (by
      intro s hs
      simp only [List.mem_cons, List.mem_nil_iff, or_false] at hs
      rcases hs with rfl | rfl | rfl | rfl <;> omega) (by simp) [T1, e.name, T3, T4] [] 0 rfl (by omega)
    rw [joins4, ds, crcA_bytes (digL_lt e)] at r2
    have r1' : Lp AP.A [6, 7, 28, 29, 30] AP.f91L0 [(6, .fn 103 [] []), (7, .int .i64 0), (28, .sobj (h.next + 1) 0 4 1), (29, .int .i64 4), (30, .int .i64 0)] ((h.fence.alloc A).alloc [.str T1, .str e.name, .str T3, .str T4]) = some (.exit 0, e', (h.fence.alloc A).alloc [.str T1, .str e.name, .str T3, .str T4]) := r1
    clear r1
    refine pure_c (fn := AP.f91) (h2 := (h.fence.alloc A).alloc [.str T1, .str e.name, .str T3, .str T4]) (e := [(2, .int .i64 (sumL' (digL e))), (3, .int .i64 0)]) rfl rfl rfl ?_ rfl rfl
    rw [← hA]
    clear ds e1 e3 e4 o1 x1 ok
    simp (disch := first | omega | (simp only [H.next_alloc, H.next_set, nx_del, nx_fence, H.floor_alloc, H.floor_set, fl_del, fl_fence, List.length_cons, List.length_nil, Nat.zero_add, Nat.reduceAdd]; first | done | omega | fail) | (simp (disch := first | omega | (simp only [H.next_alloc, H.next_set, nx_del, nx_fence, H.floor_alloc, H.floor_set, fl_del, fl_fence, List.length_cons, List.length_nil, Nat.zero_add, Nat.reduceAdd]; first | done | omega | fail) | fail) only [H.next_alloc, H.next_set, nx_del, nx_fence, H.floor_alloc, H.floor_set, fl_del, fl_fence, List.length_cons, List.length_nil, Nat.zero_add, Nat.reduceAdd, get_hit, get_miss, set_hit, set_miss, del_miss, gt_fence, Option.map_some]; done) | fail) only [go_sem, abin_shl, abin_shr, Nat.reduceEqDiff, reduceIte, Nat.reduceAdd, Nat.reduceMul, Nat.reduceLT, Nat.reduceLeDiff, Int.reduceBEq, Int.reduceBNe, Int.reduceLT, Int.reduceLE, Int.reduceEq, dt, df, eqt, eqf, net, nef, wi, wb, alen_str, idxs_at, tn_add, tn_nat, aix, get_hit, get_miss, set_hit, set_miss, H.floor_alloc, H.next_alloc, H.floor_set, H.next_set, stO_d, condO_t, fill_n, fill_c, fillS_s, bir_bslice, bir_alloc, bir_box, birB_s, repl_s, repl_z, List.map_cons, List.map_nil, setFrom_nil, setFrom_cons, allsc_nil, allsc_cons, Bool.and_true, Bool.true_and, Bool.and_self, List.append_nil, Option.map_some, Option.map_none, iadr_s, iadr_m, idP_s, idQ_s, bir_mksl, mkslB_s, alen_s, alen_n, alen_m, Bool.and_false, Bool.false_and, Bool.or_false, Bool.or_true, Bool.true_or, Bool.false_or, Bool.or_self, C_dregF, goD_s, goD2_t, stb_n, stb_c, stK_n, stK_c, stV_s, stB_f, beq_int, beq_bool, beq_tup0, beq_nils, beq_simm0, beq_str, beq_sobj, beq_pobj, opsD_nil, opsD_u, opsD_g, goOD_s, preD_t, preD_f, AOp.loud, AOp.births, st1_u, st1_g, Int.reduceAdd, Int.reduceSub, Int.reduceMul, Int.reduceNeg, Int.reduceToNat, eqbB_s, beq_refl, beqs_refl, stB_t, beO_s, stBv_t, stBv_p, stBv_o, st1b_alloc, st1b_box, st1b_bslice, st1b_mksl, nx_fence, gt_fence, fl_fence, nx_del, fl_del, del_miss, rdT, List.take_succ_cons, List.take_zero, List.drop_zero, List.drop_succ_cons, selO_t, selO_f, srcO_s, src_o, src_m, src_n, src_s, appS_s, app_b, apO_s, apc_o, apc_n, roomy_t, Int.cast_ofNat_Int, Int.natCast_one, Int.natCast_zero, at_z, at_s, tl_z, tl_s, AP.f91, lA, cA, tA, q1, q2, q3, q4, g0, g8, evC_loop, r1', r2]
def manyL (l : List Int) : List Nat := l.flatMap fun n => lowL n.toNat 4
def manyA (l : List Int) : Option Nat := if l.all isA = true then some (sumL' (manyL l)) else none
theorem manyL_lt (l : List Int) : ∀ b ∈ manyL l, b < 256 := vecL_lt l
theorem many_loop {v : AV} {l : List Int} (hl : l.length < 1125899906842624) (h : H) (rd : Rd h v (ints l)) : ∀ (q p : List Int) (a : Nat), l = p ++ q → a < 4294967296 →
    (q.all isA = true ∧ ∃ e', Lp AP.A [4, 7, 8, 9] AP.f93L0 [(4, .int .i64 a), (7, v), (8, .int .i64 l.length), (9, .int .i64 p.length)] h = some (.exit 0, e', h) ∧ look e' 4 = .int .i64 (joinA a (bytesOf (manyL q)) : Nat)) ∨
    (q.all isA = false ∧ ∃ e', Lp AP.A [4, 7, 8, 9] AP.f93L0 [(4, .int .i64 a), (7, v), (8, .int .i64 l.length), (9, .int .i64 p.length)] h = some (.ret, e', h) ∧ look e' 2 = .int .i64 0 ∧ look e' 3 = .int .i64 1500)
  | [], p, a, hp, ha => by
    left
    have e : l.length = p.length := by rw [hp]; simp
    refine ⟨rfl, [(4, .int .i64 a), (7, v), (8, .int .i64 l.length), (9, .int .i64 p.length), (10, .bool false)], Lp_exit ?_, ?_⟩
    · rw [e]
      simp (disch := first | omega | (simp only [H.next_alloc, H.next_set, nx_del, nx_fence, H.floor_alloc, H.floor_set, fl_del, fl_fence, List.length_cons, List.length_nil, Nat.zero_add, Nat.reduceAdd]; first | done | omega | fail) | (simp (disch := first | omega | (simp only [H.next_alloc, H.next_set, nx_del, nx_fence, H.floor_alloc, H.floor_set, fl_del, fl_fence, List.length_cons, List.length_nil, Nat.zero_add, Nat.reduceAdd]; first | done | omega | fail) | fail) only [H.next_alloc, H.next_set, nx_del, nx_fence, H.floor_alloc, H.floor_set, fl_del, fl_fence, List.length_cons, List.length_nil, Nat.zero_add, Nat.reduceAdd, get_hit, get_miss, set_hit, set_miss, del_miss, gt_fence, Option.map_some]; done) | fail) only [go_sem, abin_shl, abin_shr, Nat.reduceEqDiff, reduceIte, Nat.reduceAdd, Nat.reduceMul, Nat.reduceLT, Nat.reduceLeDiff, Int.reduceBEq, Int.reduceBNe, Int.reduceLT, Int.reduceLE, Int.reduceEq, dt, df, eqt, eqf, net, nef, wi, wb, alen_str, idxs_at, tn_add, tn_nat, aix, get_hit, get_miss, set_hit, set_miss, H.floor_alloc, H.next_alloc, H.floor_set, H.next_set, stO_d, condO_t, fill_n, fill_c, fillS_s, bir_bslice, bir_alloc, bir_box, birB_s, repl_s, repl_z, List.map_cons, List.map_nil, setFrom_nil, setFrom_cons, allsc_nil, allsc_cons, Bool.and_true, Bool.true_and, Bool.and_self, List.append_nil, Option.map_some, Option.map_none, iadr_s, iadr_m, idP_s, idQ_s, bir_mksl, mkslB_s, alen_s, alen_n, alen_m, Bool.and_false, Bool.false_and, Bool.or_false, Bool.or_true, Bool.true_or, Bool.false_or, Bool.or_self, C_dregF, goD_s, goD2_t, stb_n, stb_c, stK_n, stK_c, stV_s, stB_f, beq_int, beq_bool, beq_tup0, beq_nils, beq_simm0, beq_str, beq_sobj, beq_pobj, opsD_nil, opsD_u, opsD_g, goOD_s, preD_t, preD_f, AOp.loud, AOp.births, st1_u, st1_g, Int.reduceAdd, Int.reduceSub, Int.reduceMul, Int.reduceNeg, Int.reduceToNat, eqbB_s, beq_refl, beqs_refl, stB_t, beO_s, stBv_t, stBv_p, stBv_o, st1b_alloc, st1b_box, st1b_bslice, st1b_mksl, nx_fence, gt_fence, fl_fence, nx_del, fl_del, del_miss, rdT, List.take_succ_cons, List.take_zero, List.drop_zero, List.drop_succ_cons, selO_t, selO_f, srcO_s, src_o, src_m, src_n, src_s, appS_s, app_b, apO_s, apc_o, apc_n, roomy_t, Int.cast_ofNat_Int, Int.natCast_one, Int.natCast_zero, at_z, at_s, tl_z, tl_s, AP.f93L0]
    · show AV.int .i64 (a : Int) = .int .i64 ((joinA a (bytesOf []) : Nat) : Int)
      rw [joinA_L]
      have : crcL (4294967295 - a) (toL (bytesOf [])) = 4294967295 - a := rfl
      rw [this]; congr 1; omega
  | n :: q, p, a, hp, ha => by
    obtain ⟨ad, a1, a2⟩ := rd.ints_at
    have hlen : l.length = p.length + (q.length + 1) := by rw [hp]; simp
    have i1 := a1 (p.length : Int) ⟨by omega, by omega⟩
    have i2 := a2 h (Ext.refl h) p.length n (by rw [hp]; simp)
    have k1 := is_c h n
    rw [List.all_cons]
    cases hn : isA n with
    | false =>
      rw [hn] at k1
      right
      refine ⟨rfl, [(2, .int .i64 0), (3, .int .i64 1500)], Lp_ret ?_, rfl, rfl⟩
      simp (disch := first | omega | (simp only [H.next_alloc, H.next_set, nx_del, nx_fence, H.floor_alloc, H.floor_set, fl_del, fl_fence, List.length_cons, List.length_nil, Nat.zero_add, Nat.reduceAdd]; first | done | omega | fail) | (simp (disch := first | omega | (simp only [H.next_alloc, H.next_set, nx_del, nx_fence, H.floor_alloc, H.floor_set, fl_del, fl_fence, List.length_cons, List.length_nil, Nat.zero_add, Nat.reduceAdd]; first | done | omega | fail) | fail) only [H.next_alloc, H.next_set, nx_del, nx_fence, H.floor_alloc, H.floor_set, fl_del, fl_fence, List.length_cons, List.length_nil, Nat.zero_add, Nat.reduceAdd, get_hit, get_miss, set_hit, set_miss, del_miss, gt_fence, Option.map_some]; done) | fail) only [go_sem, abin_shl, abin_shr, Nat.reduceEqDiff, reduceIte, Nat.reduceAdd, Nat.reduceMul, Nat.reduceLT, Nat.reduceLeDiff, Int.reduceBEq, Int.reduceBNe, Int.reduceLT, Int.reduceLE, Int.reduceEq, dt, df, eqt, eqf, net, nef, wi, wb, alen_str, idxs_at, tn_add, tn_nat, aix, get_hit, get_miss, set_hit, set_miss, H.floor_alloc, H.next_alloc, H.floor_set, H.next_set, stO_d, condO_t, fill_n, fill_c, fillS_s, bir_bslice, bir_alloc, bir_box, birB_s, repl_s, repl_z, List.map_cons, List.map_nil, setFrom_nil, setFrom_cons, allsc_nil, allsc_cons, Bool.and_true, Bool.true_and, Bool.and_self, List.append_nil, Option.map_some, Option.map_none, iadr_s, iadr_m, idP_s, idQ_s, bir_mksl, mkslB_s, alen_s, alen_n, alen_m, Bool.and_false, Bool.false_and, Bool.or_false, Bool.or_true, Bool.true_or, Bool.false_or, Bool.or_self, C_dregF, goD_s, goD2_t, stb_n, stb_c, stK_n, stK_c, stV_s, stB_f, beq_int, beq_bool, beq_tup0, beq_nils, beq_simm0, beq_str, beq_sobj, beq_pobj, opsD_nil, opsD_u, opsD_g, goOD_s, preD_t, preD_f, AOp.loud, AOp.births, st1_u, st1_g, Int.reduceAdd, Int.reduceSub, Int.reduceMul, Int.reduceNeg, Int.reduceToNat, eqbB_s, beq_refl, beqs_refl, stB_t, beO_s, stBv_t, stBv_p, stBv_o, st1b_alloc, st1b_box, st1b_bslice, st1b_mksl, nx_fence, gt_fence, fl_fence, nx_del, fl_del, del_miss, rdT, List.take_succ_cons, List.take_zero, List.drop_zero, List.drop_succ_cons, selO_t, selO_f, srcO_s, src_o, src_m, src_n, src_s, appS_s, app_b, apO_s, apc_o, apc_n, roomy_t, Int.cast_ofNat_Int, Int.natCast_one, Int.natCast_zero, at_z, at_s, tl_z, tl_s, AP.f93L0, i1, i2, k1]
    | true =>
      rw [hn] at k1
      rw [Bool.true_and]
      simp only [isA, decide_eq_true_eq] at hn
      have k2 : ∀ g, callW AP.A 104 [.int .i64 n, .int .i64 4] g = some (.str (bytesOf (lowL n.toNat 4)), g) := fun g => by
        have := low_c g n.toNat 4 (by omega) (by omega)
        rw [show ((n.toNat : Nat) : Int) = n by omega] at this; exact this
      have k3 := join_c h (bytesOf (lowL n.toNat 4)) a ha (by rw [bytesOf_size, lowL_len]; omega)
      have n1 : ((p.length + 1 : Nat) : Int) = (p.length : Int) + 1 := by omega
      have ih := many_loop hl h rd q (p ++ [n]) (joinA a (bytesOf (lowL n.toNat 4))) (by rw [hp]; simp) (joinA_lt _ _)
      rw [List.length_append, show [n].length = 1 from rfl, n1, joinA_app, bytesOf_app] at ih
      rcases ih with ⟨g1, e', r1, r2⟩ | ⟨g1, e', r1, r2⟩
      · left
        refine ⟨g1, e', Lp_next ?_ r1, r2⟩
        simp (disch := first | omega | (simp only [H.next_alloc, H.next_set, nx_del, nx_fence, H.floor_alloc, H.floor_set, fl_del, fl_fence, List.length_cons, List.length_nil, Nat.zero_add, Nat.reduceAdd]; first | done | omega | fail) | (simp (disch := first | omega | (simp only [H.next_alloc, H.next_set, nx_del, nx_fence, H.floor_alloc, H.floor_set, fl_del, fl_fence, List.length_cons, List.length_nil, Nat.zero_add, Nat.reduceAdd]; first | done | omega | fail) | fail) only [H.next_alloc, H.next_set, nx_del, nx_fence, H.floor_alloc, H.floor_set, fl_del, fl_fence, List.length_cons, List.length_nil, Nat.zero_add, Nat.reduceAdd, get_hit, get_miss, set_hit, set_miss, del_miss, gt_fence, Option.map_some]; done) | fail) only [go_sem, abin_shl, abin_shr, Nat.reduceEqDiff, reduceIte, Nat.reduceAdd, Nat.reduceMul, Nat.reduceLT, Nat.reduceLeDiff, Int.reduceBEq, Int.reduceBNe, Int.reduceLT, Int.reduceLE, Int.reduceEq, dt, df, eqt, eqf, net, nef, wi, wb, alen_str, idxs_at, tn_add, tn_nat, aix, get_hit, get_miss, set_hit, set_miss, H.floor_alloc, H.next_alloc, H.floor_set, H.next_set, stO_d, condO_t, fill_n, fill_c, fillS_s, bir_bslice, bir_alloc, bir_box, birB_s, repl_s, repl_z, List.map_cons, List.map_nil, setFrom_nil, setFrom_cons, allsc_nil, allsc_cons, Bool.and_true, Bool.true_and, Bool.and_self, List.append_nil, Option.map_some, Option.map_none, iadr_s, iadr_m, idP_s, idQ_s, bir_mksl, mkslB_s, alen_s, alen_n, alen_m, Bool.and_false, Bool.false_and, Bool.or_false, Bool.or_true, Bool.true_or, Bool.false_or, Bool.or_self, C_dregF, goD_s, goD2_t, stb_n, stb_c, stK_n, stK_c, stV_s, stB_f, beq_int, beq_bool, beq_tup0, beq_nils, beq_simm0, beq_str, beq_sobj, beq_pobj, opsD_nil, opsD_u, opsD_g, goOD_s, preD_t, preD_f, AOp.loud, AOp.births, st1_u, st1_g, Int.reduceAdd, Int.reduceSub, Int.reduceMul, Int.reduceNeg, Int.reduceToNat, eqbB_s, beq_refl, beqs_refl, stB_t, beO_s, stBv_t, stBv_p, stBv_o, st1b_alloc, st1b_box, st1b_bslice, st1b_mksl, nx_fence, gt_fence, fl_fence, nx_del, fl_del, del_miss, rdT, List.take_succ_cons, List.take_zero, List.drop_zero, List.drop_succ_cons, selO_t, selO_f, srcO_s, src_o, src_m, src_n, src_s, appS_s, app_b, apO_s, apc_o, apc_n, roomy_t, Int.cast_ofNat_Int, Int.natCast_one, Int.natCast_zero, at_z, at_s, tl_z, tl_s, AP.f93L0, i1, i2, k1, k2, k3]
      · right
        refine ⟨g1, e', Lp_next ?_ r1, r2⟩
        simp (disch := first | omega | (simp only [H.next_alloc, H.next_set, nx_del, nx_fence, H.floor_alloc, H.floor_set, fl_del, fl_fence, List.length_cons, List.length_nil, Nat.zero_add, Nat.reduceAdd]; first | done | omega | fail) | (simp (disch := first | omega | (simp only [H.next_alloc, H.next_set, nx_del, nx_fence, H.floor_alloc, H.floor_set, fl_del, fl_fence, List.length_cons, List.length_nil, Nat.zero_add, Nat.reduceAdd]; first | done | omega | fail) | fail) only [H.next_alloc, H.next_set, nx_del, nx_fence, H.floor_alloc, H.floor_set, fl_del, fl_fence, List.length_cons, List.length_nil, Nat.zero_add, Nat.reduceAdd, get_hit, get_miss, set_hit, set_miss, del_miss, gt_fence, Option.map_some]; done) | fail) only [go_sem, abin_shl, abin_shr, Nat.reduceEqDiff, reduceIte, Nat.reduceAdd, Nat.reduceMul, Nat.reduceLT, Nat.reduceLeDiff, Int.reduceBEq, Int.reduceBNe, Int.reduceLT, Int.reduceLE, Int.reduceEq, dt, df, eqt, eqf, net, nef, wi, wb, alen_str, idxs_at, tn_add, tn_nat, aix, get_hit, get_miss, set_hit, set_miss, H.floor_alloc, H.next_alloc, H.floor_set, H.next_set, stO_d, condO_t, fill_n, fill_c, fillS_s, bir_bslice, bir_alloc, bir_box, birB_s, repl_s, repl_z, List.map_cons, List.map_nil, setFrom_nil, setFrom_cons, allsc_nil, allsc_cons, Bool.and_true, Bool.true_and, Bool.and_self, List.append_nil, Option.map_some, Option.map_none, iadr_s, iadr_m, idP_s, idQ_s, bir_mksl, mkslB_s, alen_s, alen_n, alen_m, Bool.and_false, Bool.false_and, Bool.or_false, Bool.or_true, Bool.true_or, Bool.false_or, Bool.or_self, C_dregF, goD_s, goD2_t, stb_n, stb_c, stK_n, stK_c, stV_s, stB_f, beq_int, beq_bool, beq_tup0, beq_nils, beq_simm0, beq_str, beq_sobj, beq_pobj, opsD_nil, opsD_u, opsD_g, goOD_s, preD_t, preD_f, AOp.loud, AOp.births, st1_u, st1_g, Int.reduceAdd, Int.reduceSub, Int.reduceMul, Int.reduceNeg, Int.reduceToNat, eqbB_s, beq_refl, beqs_refl, stB_t, beO_s, stBv_t, stBv_p, stBv_o, st1b_alloc, st1b_box, st1b_bslice, st1b_mksl, nx_fence, gt_fence, fl_fence, nx_del, fl_del, del_miss, rdT, List.take_succ_cons, List.take_zero, List.drop_zero, List.drop_succ_cons, selO_t, selO_f, srcO_s, src_o, src_m, src_n, src_s, appS_s, app_b, apO_s, apc_o, apc_n, roomy_t, Int.cast_ofNat_Int, Int.natCast_one, Int.natCast_zero, at_z, at_s, tl_z, tl_s, AP.f93L0, i1, i2, k1, k2, k3]
theorem many_c (h : H) (v : AV) (l : List Int) (rd : Rd h v (ints l)) (hl : l.length < 1125899906842624) : callW AP.A 93 [v] h = some (sumV (manyA l), h) := by
  have rd' := rd.mono (get_fence_mono h)
  have ln := rd'.len
  rw [ints_length] at ln
  simp only [I] at ln
  unfold manyA
  rcases many_loop hl h.fence rd' l [] 0 rfl (by omega) with ⟨g1, e', r1, r2⟩ | ⟨g1, e', r1, r2, r3⟩
  · rw [if_pos g1]
    have r1' : Lp AP.A [4, 7, 8, 9] AP.f93L0 [(4, .int .i64 0), (7, v), (8, .int .i64 l.length), (9, .int .i64 0)] h.fence = some (.exit 0, e', h.fence) := r1
    have r2' : look e' 4 = .int .i64 (sumL' (manyL l)) := by rw [r2, ← crcA_bytes (manyL_lt l)]; rfl
    refine pure_c (fn := AP.f93) (h2 := h.fence) (e := [(2, .int .i64 (sumL' (manyL l))), (3, .int .i64 0)]) rfl rfl rfl ?_ rfl rfl
    simp (disch := first | omega | (simp only [H.next_alloc, H.next_set, nx_del, nx_fence, H.floor_alloc, H.floor_set, fl_del, fl_fence, List.length_cons, List.length_nil, Nat.zero_add, Nat.reduceAdd]; first | done | omega | fail) | (simp (disch := first | omega | (simp only [H.next_alloc, H.next_set, nx_del, nx_fence, H.floor_alloc, H.floor_set, fl_del, fl_fence, List.length_cons, List.length_nil, Nat.zero_add, Nat.reduceAdd]; first | done | omega | fail) | fail) only [H.next_alloc, H.next_set, nx_del, nx_fence, H.floor_alloc, H.floor_set, fl_del, fl_fence, List.length_cons, List.length_nil, Nat.zero_add, Nat.reduceAdd, get_hit, get_miss, set_hit, set_miss, del_miss, gt_fence, Option.map_some]; done) | fail) only [go_sem, abin_shl, abin_shr, Nat.reduceEqDiff, reduceIte, Nat.reduceAdd, Nat.reduceMul, Nat.reduceLT, Nat.reduceLeDiff, Int.reduceBEq, Int.reduceBNe, Int.reduceLT, Int.reduceLE, Int.reduceEq, dt, df, eqt, eqf, net, nef, wi, wb, alen_str, idxs_at, tn_add, tn_nat, aix, get_hit, get_miss, set_hit, set_miss, H.floor_alloc, H.next_alloc, H.floor_set, H.next_set, stO_d, condO_t, fill_n, fill_c, fillS_s, bir_bslice, bir_alloc, bir_box, birB_s, repl_s, repl_z, List.map_cons, List.map_nil, setFrom_nil, setFrom_cons, allsc_nil, allsc_cons, Bool.and_true, Bool.true_and, Bool.and_self, List.append_nil, Option.map_some, Option.map_none, iadr_s, iadr_m, idP_s, idQ_s, bir_mksl, mkslB_s, alen_s, alen_n, alen_m, Bool.and_false, Bool.false_and, Bool.or_false, Bool.or_true, Bool.true_or, Bool.false_or, Bool.or_self, C_dregF, goD_s, goD2_t, stb_n, stb_c, stK_n, stK_c, stV_s, stB_f, beq_int, beq_bool, beq_tup0, beq_nils, beq_simm0, beq_str, beq_sobj, beq_pobj, opsD_nil, opsD_u, opsD_g, goOD_s, preD_t, preD_f, AOp.loud, AOp.births, st1_u, st1_g, Int.reduceAdd, Int.reduceSub, Int.reduceMul, Int.reduceNeg, Int.reduceToNat, eqbB_s, beq_refl, beqs_refl, stB_t, beO_s, stBv_t, stBv_p, stBv_o, st1b_alloc, st1b_box, st1b_bslice, st1b_mksl, nx_fence, gt_fence, fl_fence, nx_del, fl_del, del_miss, rdT, List.take_succ_cons, List.take_zero, List.drop_zero, List.drop_succ_cons, selO_t, selO_f, srcO_s, src_o, src_m, src_n, src_s, appS_s, app_b, apO_s, apc_o, apc_n, roomy_t, Int.cast_ofNat_Int, Int.natCast_one, Int.natCast_zero, at_z, at_s, tl_z, tl_s, AP.f93, ln, evC_loop, r1', r2']
  · rw [if_neg (by rw [g1]; decide)]
    have r1' : Lp AP.A [4, 7, 8, 9] AP.f93L0 [(4, .int .i64 0), (7, v), (8, .int .i64 l.length), (9, .int .i64 0)] h.fence = some (.ret, e', h.fence) := r1
    refine pure_c (fn := AP.f93) (h2 := h.fence) (e := e') rfl rfl rfl ?_ (by simp only [AP.f93, resAll, resOf, r2, r3]; rfl) rfl
    simp (disch := first | omega | (simp only [H.next_alloc, H.next_set, nx_del, nx_fence, H.floor_alloc, H.floor_set, fl_del, fl_fence, List.length_cons, List.length_nil, Nat.zero_add, Nat.reduceAdd]; first | done | omega | fail) | (simp (disch := first | omega | (simp only [H.next_alloc, H.next_set, nx_del, nx_fence, H.floor_alloc, H.floor_set, fl_del, fl_fence, List.length_cons, List.length_nil, Nat.zero_add, Nat.reduceAdd]; first | done | omega | fail) | fail) only [H.next_alloc, H.next_set, nx_del, nx_fence, H.floor_alloc, H.floor_set, fl_del, fl_fence, List.length_cons, List.length_nil, Nat.zero_add, Nat.reduceAdd, get_hit, get_miss, set_hit, set_miss, del_miss, gt_fence, Option.map_some]; done) | fail) only [go_sem, abin_shl, abin_shr, Nat.reduceEqDiff, reduceIte, Nat.reduceAdd, Nat.reduceMul, Nat.reduceLT, Nat.reduceLeDiff, Int.reduceBEq, Int.reduceBNe, Int.reduceLT, Int.reduceLE, Int.reduceEq, dt, df, eqt, eqf, net, nef, wi, wb, alen_str, idxs_at, tn_add, tn_nat, aix, get_hit, get_miss, set_hit, set_miss, H.floor_alloc, H.next_alloc, H.floor_set, H.next_set, stO_d, condO_t, fill_n, fill_c, fillS_s, bir_bslice, bir_alloc, bir_box, birB_s, repl_s, repl_z, List.map_cons, List.map_nil, setFrom_nil, setFrom_cons, allsc_nil, allsc_cons, Bool.and_true, Bool.true_and, Bool.and_self, List.append_nil, Option.map_some, Option.map_none, iadr_s, iadr_m, idP_s, idQ_s, bir_mksl, mkslB_s, alen_s, alen_n, alen_m, Bool.and_false, Bool.false_and, Bool.or_false, Bool.or_true, Bool.true_or, Bool.false_or, Bool.or_self, C_dregF, goD_s, goD2_t, stb_n, stb_c, stK_n, stK_c, stV_s, stB_f, beq_int, beq_bool, beq_tup0, beq_nils, beq_simm0, beq_str, beq_sobj, beq_pobj, opsD_nil, opsD_u, opsD_g, goOD_s, preD_t, preD_f, AOp.loud, AOp.births, st1_u, st1_g, Int.reduceAdd, Int.reduceSub, Int.reduceMul, Int.reduceNeg, Int.reduceToNat, eqbB_s, beq_refl, beqs_refl, stB_t, beO_s, stBv_t, stBv_p, stBv_o, st1b_alloc, st1b_box, st1b_bslice, st1b_mksl, nx_fence, gt_fence, fl_fence, nx_del, fl_del, del_miss, rdT, List.take_succ_cons, List.take_zero, List.drop_zero, List.drop_succ_cons, selO_t, selO_f, srcO_s, src_o, src_m, src_n, src_s, appS_s, app_b, apO_s, apc_o, apc_n, roomy_t, Int.cast_ofNat_Int, Int.natCast_one, Int.natCast_zero, at_z, at_s, tl_z, tl_s, AP.f93, ln, evC_loop, r1']
end Ab
set_option linter.unusedSimpArgs false
set_option linter.unusedVariables false
set_option maxRecDepth 100000
namespace Ab
open Go
theorem and_mask' (x : Int) (k : Nat) (hk : k ≤ 62) : bits .and .i64 x ((2 ^ k - 1 : Nat) : Int) = x % ((2 ^ k : Nat) : Int) := by
  have h2 : 2 ^ k ≤ 2 ^ 62 := Nat.pow_le_pow_right (by omega) hk
  have h3 : 0 < 2 ^ k := Nat.pow_pos (by omega)
  show IntKind.wrap .i64 (((BitVec.ofInt 64 x &&& BitVec.ofInt 64 ((2 ^ k - 1 : Nat) : Int)).toNat : Nat) : Int) = _
  rw [BitVec.toNat_and, bv_nat 64 (2 ^ k - 1) (by omega), BitVec.toNat_ofInt, Nat.and_two_pow_sub_one_eq_mod, wrap_nat64 (by
    have := Nat.mod_lt (x % ((2 ^ 64 : Nat) : Int)).toNat h3
    omega)]
  have e : (((x % ((2 ^ 64 : Nat) : Int)).toNat : Nat) : Int) = x % ((2 ^ 64 : Nat) : Int) := Int.toNat_of_nonneg (Int.emod_nonneg _ (by decide))
  rw [Int.natCast_emod, e]
  refine Int.emod_emod_of_dvd x ?_
  refine Int.natCast_dvd_natCast.2 (Nat.pow_dvd_pow 2 (by omega))
theorem and1023 (x : Int) : bits .and .i64 x 1023 = x % 1024 := and_mask' x 10 (by omega)
theorem and1 (x : Int) : bits .and .i64 x 1 = x % 2 := and_mask' x 1 (by omega)
theorem and65535 (x : Int) : bits .and .i64 x 65535 = x % 65536 := and_mask' x 16 (by omega)
theorem urem (x : Int) (n : Nat) (hn : 0 < n) : ∃ r : Nat, r < n ∧ (IntKind.wrap .u64 x).tmod (n : Int) = r := by
  have h0 : 0 ≤ IntKind.wrap .u64 x := by simp only [IntKind.wrap, IntKind.signed, IntKind.bits]; simp; omega
  obtain ⟨m, hm⟩ : ∃ m : Nat, IntKind.wrap .u64 x = m := ⟨(IntKind.wrap .u64 x).toNat, by omega⟩
  rw [hm]
  exact ⟨m % n, Nat.mod_lt _ hn, by rw [Int.tmod_eq_emod_of_nonneg (by omega)]; omega⟩
theorem small94_c (h : H) (hf : h.floor ≤ h.next) (name text : ByteArray) (node : Nat) (stamp : Int) (hn : node < 4) (ht : text.size < 1125899906842624) :
    callW AP.A 94 [.str name, .int .i64 node, .int .i64 stamp, .str text] h = some (.agg (entC (smallE name node stamp text) (.sobj (h.next + 1) 0 4 1)),
      (((h.alloc Z9).alloc (ints [0, 0, 0, 0])).set (h.next + 1) (ints ([0, 0, 0, 0].set node stamp))).set h.next (entC (smallE name node stamp text) (.sobj (h.next + 1) 0 4 1))) := by
  have kc := fun g => crc2_c g text ht
  refine plain_c (fn := AP.f94) (e := [(8, .pobj h.next 0)]) (vs := [.agg (entC (smallE name node stamp text) (.sobj (h.next + 1) 0 4 1))]) rfl rfl rfl ?_ ?_
  · match node, hn with
    | 0, _ => simp only [entC, smallE, ints, I, List.map, List.set]; simp (disch := first | omega | (simp only [H.next_alloc, H.next_set, nx_del, nx_fence, H.floor_alloc, H.floor_set, fl_del, fl_fence, List.length_cons, List.length_nil, Nat.zero_add, Nat.reduceAdd]; first | done | omega | fail) | (simp (disch := first | omega | (simp only [H.next_alloc, H.next_set, nx_del, nx_fence, H.floor_alloc, H.floor_set, fl_del, fl_fence, List.length_cons, List.length_nil, Nat.zero_add, Nat.reduceAdd]; first | done | omega | fail) | fail) only [H.next_alloc, H.next_set, nx_del, nx_fence, H.floor_alloc, H.floor_set, fl_del, fl_fence, List.length_cons, List.length_nil, Nat.zero_add, Nat.reduceAdd, get_hit, get_miss, set_hit, set_miss, del_miss, gt_fence, Option.map_some]; done) | fail) only [go_sem, abin_shl, abin_shr, Nat.reduceEqDiff, reduceIte, Nat.reduceAdd, Nat.reduceMul, Nat.reduceLT, Nat.reduceLeDiff, Int.reduceBEq, Int.reduceBNe, Int.reduceLT, Int.reduceLE, Int.reduceEq, dt, df, eqt, eqf, net, nef, wi, wb, alen_str, idxs_at, tn_add, tn_nat, aix, get_hit, get_miss, set_hit, set_miss, H.floor_alloc, H.next_alloc, H.floor_set, H.next_set, stO_d, condO_t, fill_n, fill_c, fillS_s, bir_bslice, bir_alloc, bir_box, birB_s, repl_s, repl_z, List.map_cons, List.map_nil, setFrom_nil, setFrom_cons, allsc_nil, allsc_cons, Bool.and_true, Bool.true_and, Bool.and_self, List.append_nil, Option.map_some, Option.map_none, iadr_s, iadr_m, idP_s, idQ_s, bir_mksl, mkslB_s, alen_s, alen_n, alen_m, Bool.and_false, Bool.false_and, Bool.or_false, Bool.or_true, Bool.true_or, Bool.false_or, Bool.or_self, C_dregF, goD_s, goD2_t, stb_n, stb_c, stK_n, stK_c, stV_s, stB_f, beq_int, beq_bool, beq_tup0, beq_nils, beq_simm0, beq_str, beq_sobj, beq_pobj, opsD_nil, opsD_u, opsD_g, goOD_s, preD_t, preD_f, AOp.loud, AOp.births, st1_u, st1_g, Int.reduceAdd, Int.reduceSub, Int.reduceMul, Int.reduceNeg, Int.reduceToNat, eqbB_s, beq_refl, beqs_refl, stB_t, beO_s, stBv_t, stBv_p, stBv_o, st1b_alloc, st1b_box, st1b_bslice, st1b_mksl, nx_fence, gt_fence, fl_fence, nx_del, fl_del, del_miss, rdT, List.take_succ_cons, List.take_zero, List.drop_zero, List.drop_succ_cons, selO_t, selO_f, srcO_s, src_o, src_m, src_n, src_s, appS_s, app_b, apO_s, apc_o, apc_n, roomy_t, Int.cast_ofNat_Int, Int.natCast_one, Int.natCast_zero, at_z, at_s, tl_z, tl_s, AP.f94, kc, replM, repl]
    | 1, _ => simp only [entC, smallE, ints, I, List.map, List.set]; simp (disch := first | omega | (simp only [H.next_alloc, H.next_set, nx_del, nx_fence, H.floor_alloc, H.floor_set, fl_del, fl_fence, List.length_cons, List.length_nil, Nat.zero_add, Nat.reduceAdd]; first | done | omega | fail) | (simp (disch := first | omega | (simp only [H.next_alloc, H.next_set, nx_del, nx_fence, H.floor_alloc, H.floor_set, fl_del, fl_fence, List.length_cons, List.length_nil, Nat.zero_add, Nat.reduceAdd]; first | done | omega | fail) | fail) only [H.next_alloc, H.next_set, nx_del, nx_fence, H.floor_alloc, H.floor_set, fl_del, fl_fence, List.length_cons, List.length_nil, Nat.zero_add, Nat.reduceAdd, get_hit, get_miss, set_hit, set_miss, del_miss, gt_fence, Option.map_some]; done) | fail) only [go_sem, abin_shl, abin_shr, Nat.reduceEqDiff, reduceIte, Nat.reduceAdd, Nat.reduceMul, Nat.reduceLT, Nat.reduceLeDiff, Int.reduceBEq, Int.reduceBNe, Int.reduceLT, Int.reduceLE, Int.reduceEq, dt, df, eqt, eqf, net, nef, wi, wb, alen_str, idxs_at, tn_add, tn_nat, aix, get_hit, get_miss, set_hit, set_miss, H.floor_alloc, H.next_alloc, H.floor_set, H.next_set, stO_d, condO_t, fill_n, fill_c, fillS_s, bir_bslice, bir_alloc, bir_box, birB_s, repl_s, repl_z, List.map_cons, List.map_nil, setFrom_nil, setFrom_cons, allsc_nil, allsc_cons, Bool.and_true, Bool.true_and, Bool.and_self, List.append_nil, Option.map_some, Option.map_none, iadr_s, iadr_m, idP_s, idQ_s, bir_mksl, mkslB_s, alen_s, alen_n, alen_m, Bool.and_false, Bool.false_and, Bool.or_false, Bool.or_true, Bool.true_or, Bool.false_or, Bool.or_self, C_dregF, goD_s, goD2_t, stb_n, stb_c, stK_n, stK_c, stV_s, stB_f, beq_int, beq_bool, beq_tup0, beq_nils, beq_simm0, beq_str, beq_sobj, beq_pobj, opsD_nil, opsD_u, opsD_g, goOD_s, preD_t, preD_f, AOp.loud, AOp.births, st1_u, st1_g, Int.reduceAdd, Int.reduceSub, Int.reduceMul, Int.reduceNeg, Int.reduceToNat, eqbB_s, beq_refl, beqs_refl, stB_t, beO_s, stBv_t, stBv_p, stBv_o, st1b_alloc, st1b_box, st1b_bslice, st1b_mksl, nx_fence, gt_fence, fl_fence, nx_del, fl_del, del_miss, rdT, List.take_succ_cons, List.take_zero, List.drop_zero, List.drop_succ_cons, selO_t, selO_f, srcO_s, src_o, src_m, src_n, src_s, appS_s, app_b, apO_s, apc_o, apc_n, roomy_t, Int.cast_ofNat_Int, Int.natCast_one, Int.natCast_zero, at_z, at_s, tl_z, tl_s, AP.f94, kc, replM, repl]
    | 2, _ => simp only [entC, smallE, ints, I, List.map, List.set]; simp (disch := first | omega | (simp only [H.next_alloc, H.next_set, nx_del, nx_fence, H.floor_alloc, H.floor_set, fl_del, fl_fence, List.length_cons, List.length_nil, Nat.zero_add, Nat.reduceAdd]; first | done | omega | fail) | (simp (disch := first | omega | (simp only [H.next_alloc, H.next_set, nx_del, nx_fence, H.floor_alloc, H.floor_set, fl_del, fl_fence, List.length_cons, List.length_nil, Nat.zero_add, Nat.reduceAdd]; first | done | omega | fail) | fail) only [H.next_alloc, H.next_set, nx_del, nx_fence, H.floor_alloc, H.floor_set, fl_del, fl_fence, List.length_cons, List.length_nil, Nat.zero_add, Nat.reduceAdd, get_hit, get_miss, set_hit, set_miss, del_miss, gt_fence, Option.map_some]; done) | fail) only [go_sem, abin_shl, abin_shr, Nat.reduceEqDiff, reduceIte, Nat.reduceAdd, Nat.reduceMul, Nat.reduceLT, Nat.reduceLeDiff, Int.reduceBEq, Int.reduceBNe, Int.reduceLT, Int.reduceLE, Int.reduceEq, dt, df, eqt, eqf, net, nef, wi, wb, alen_str, idxs_at, tn_add, tn_nat, aix, get_hit, get_miss, set_hit, set_miss, H.floor_alloc, H.next_alloc, H.floor_set, H.next_set, stO_d, condO_t, fill_n, fill_c, fillS_s, bir_bslice, bir_alloc, bir_box, birB_s, repl_s, repl_z, List.map_cons, List.map_nil, setFrom_nil, setFrom_cons, allsc_nil, allsc_cons, Bool.and_true, Bool.true_and, Bool.and_self, List.append_nil, Option.map_some, Option.map_none, iadr_s, iadr_m, idP_s, idQ_s, bir_mksl, mkslB_s, alen_s, alen_n, alen_m, Bool.and_false, Bool.false_and, Bool.or_false, Bool.or_true, Bool.true_or, Bool.false_or, Bool.or_self, C_dregF, goD_s, goD2_t, stb_n, stb_c, stK_n, stK_c, stV_s, stB_f, beq_int, beq_bool, beq_tup0, beq_nils, beq_simm0, beq_str, beq_sobj, beq_pobj, opsD_nil, opsD_u, opsD_g, goOD_s, preD_t, preD_f, AOp.loud, AOp.births, st1_u, st1_g, Int.reduceAdd, Int.reduceSub, Int.reduceMul, Int.reduceNeg, Int.reduceToNat, eqbB_s, beq_refl, beqs_refl, stB_t, beO_s, stBv_t, stBv_p, stBv_o, st1b_alloc, st1b_box, st1b_bslice, st1b_mksl, nx_fence, gt_fence, fl_fence, nx_del, fl_del, del_miss, rdT, List.take_succ_cons, List.take_zero, List.drop_zero, List.drop_succ_cons, selO_t, selO_f, srcO_s, src_o, src_m, src_n, src_s, appS_s, app_b, apO_s, apc_o, apc_n, roomy_t, Int.cast_ofNat_Int, Int.natCast_one, Int.natCast_zero, at_z, at_s, tl_z, tl_s, AP.f94, kc, replM, repl]
    | 3, _ => simp only [entC, smallE, ints, I, List.map, List.set]; simp (disch := first | omega | (simp only [H.next_alloc, H.next_set, nx_del, nx_fence, H.floor_alloc, H.floor_set, fl_del, fl_fence, List.length_cons, List.length_nil, Nat.zero_add, Nat.reduceAdd]; first | done | omega | fail) | (simp (disch := first | omega | (simp only [H.next_alloc, H.next_set, nx_del, nx_fence, H.floor_alloc, H.floor_set, fl_del, fl_fence, List.length_cons, List.length_nil, Nat.zero_add, Nat.reduceAdd]; first | done | omega | fail) | fail) only [H.next_alloc, H.next_set, nx_del, nx_fence, H.floor_alloc, H.floor_set, fl_del, fl_fence, List.length_cons, List.length_nil, Nat.zero_add, Nat.reduceAdd, get_hit, get_miss, set_hit, set_miss, del_miss, gt_fence, Option.map_some]; done) | fail) only [go_sem, abin_shl, abin_shr, Nat.reduceEqDiff, reduceIte, Nat.reduceAdd, Nat.reduceMul, Nat.reduceLT, Nat.reduceLeDiff, Int.reduceBEq, Int.reduceBNe, Int.reduceLT, Int.reduceLE, Int.reduceEq, dt, df, eqt, eqf, net, nef, wi, wb, alen_str, idxs_at, tn_add, tn_nat, aix, get_hit, get_miss, set_hit, set_miss, H.floor_alloc, H.next_alloc, H.floor_set, H.next_set, stO_d, condO_t, fill_n, fill_c, fillS_s, bir_bslice, bir_alloc, bir_box, birB_s, repl_s, repl_z, List.map_cons, List.map_nil, setFrom_nil, setFrom_cons, allsc_nil, allsc_cons, Bool.and_true, Bool.true_and, Bool.and_self, List.append_nil, Option.map_some, Option.map_none, iadr_s, iadr_m, idP_s, idQ_s, bir_mksl, mkslB_s, alen_s, alen_n, alen_m, Bool.and_false, Bool.false_and, Bool.or_false, Bool.or_true, Bool.true_or, Bool.false_or, Bool.or_self, C_dregF, goD_s, goD2_t, stb_n, stb_c, stK_n, stK_c, stV_s, stB_f, beq_int, beq_bool, beq_tup0, beq_nils, beq_simm0, beq_str, beq_sobj, beq_pobj, opsD_nil, opsD_u, opsD_g, goOD_s, preD_t, preD_f, AOp.loud, AOp.births, st1_u, st1_g, Int.reduceAdd, Int.reduceSub, Int.reduceMul, Int.reduceNeg, Int.reduceToNat, eqbB_s, beq_refl, beqs_refl, stB_t, beO_s, stBv_t, stBv_p, stBv_o, st1b_alloc, st1b_box, st1b_bslice, st1b_mksl, nx_fence, gt_fence, fl_fence, nx_del, fl_del, del_miss, rdT, List.take_succ_cons, List.take_zero, List.drop_zero, List.drop_succ_cons, selO_t, selO_f, srcO_s, src_o, src_m, src_n, src_s, appS_s, app_b, apO_s, apc_o, apc_n, roomy_t, Int.cast_ofNat_Int, Int.natCast_one, Int.natCast_zero, at_z, at_s, tl_z, tl_s, AP.f94, kc, replM, repl]
  · simp only [AP.f94, resAll, resOf, look_hit, load_o]
    rw [set_hit rfl, set_miss (by omega), get_miss (by simp), get_hit rfl]; rfl
theorem digest_o {g : H} {p : Nat} (hg : g.floor ≤ g.next) (e : Ent) (hp : g.get p = some (ints e.vec)) (hl : e.vec.length = 4) (nl : e.name.size < 1125899906842624) (pl : e.packed.size < 1125899906842624) : callW AP.A 91 [.agg (entC e (.sobj p 0 4 1))] g = some (sumV (digA e), g) :=
  digest_c g hg e (.sobj p 0 4 1) rfl (EOk.obj hp hl rfl nl pl (by omega))
def eS1 : Ent := smallE nA 0 1 tHi
def eS2 : Ent := smallE nA 0 2 tHi
theorem dS : digA eS1 = some (sumL' (digL eS1)) ∧ digA eS2 = some (sumL' (digL eS2)) ∧ sumL' (digL eS1) ≠ sumL' (digL eS2) ∧ digA ent0 = none ∧ manyA [] = some 0 ∧ manyA [258] = some (crcA ⟨#[2, 1, 0, 0]⟩) := by decide +kernel
theorem awake19_c (h : H) : callW AP.A 90 [] h = some (.bool true, h) := by
  obtain ⟨d1, d2, d3, d4, d5, d6⟩ := dS
  obtain ⟨K1, hK1⟩ : ∃ K, K = ((sumL' (digL eS1) : Nat) : Int) := ⟨_, rfl⟩
  obtain ⟨K2, hK2⟩ : ∃ K, K = ((sumL' (digL eS2) : Nat) : Int) := ⟨_, rfl⟩
  have ne : (K1 != K2) = true := by rw [bne_iff_ne, hK1, hK2]; omega
  obtain ⟨C, hC⟩ : ∃ K, K = ((crcA tHi : Nat) : Int) := ⟨_, rfl⟩
  obtain ⟨D, hD⟩ : ∃ K, K = ((crcA ⟨#[2, 1, 0, 0]⟩ : Nat) : Int) := ⟨_, rfl⟩
  have k1 : ∀ g : H, callW AP.A 93 [.nils] g = some (.tup [.int .i64 0, .int .i64 0], g) := fun g => by
    have := many_c g .nils [] ⟨rfl, fun s e => by cases e⟩ (by decide)
    rw [d5] at this; exact this
  have k2 : ∀ (g : H) (p : Nat), g.get p = some [.int .i64 258] → callW AP.A 93 [.sobj p 0 1 1] g = some (.tup [.int .i64 D, .int .i64 0], g) := fun g p hp => by
    have := many_c g (.sobj p 0 1 1) [258] (Rd.obj (l := [258]) hp rfl) (by decide)
    rw [d6] at this
    rw [hD]; exact this
  have k3 : ∀ (g : H), callW AP.A 101 [.str ⟨#[2, 1, 0, 0]⟩] g = some (.int .i64 D, g) := fun g => by rw [hD]; exact crc2_c g _ (by decide)
  have k4 : ∀ (g : H) (p : Nat), g.get p = some [.int .i64 (-1)] → callW AP.A 93 [.sobj p 0 1 1] g = some (.tup [.int .i64 0, .int .i64 1500], g) := fun g p hp => many_c g (.sobj p 0 1 1) [-1] (Rd.obj (l := [-1]) hp rfl) (by decide)
  have k5 : ∀ (g : H) (p : Nat), g.floor ≤ g.next → g.get p = some [.int .i64 1, .int .i64 0, .int .i64 0, .int .i64 0] → callW AP.A 91 [.agg [.str ⟨#[97]⟩, .bool false, .sobj p 0 4 1, .int .i64 1, .int .i64 0, .int .i64 0, .str ⟨#[104, 105]⟩, .int .i64 2, .int .i64 C]] g = some (.tup [.int .i64 K1, .int .i64 0], g) := fun g p hg hp => by
    have := digest_o hg eS1 hp rfl (by decide) (by decide)
    rw [d1] at this
    rw [hC, hK1]; exact this
  have k6 : ∀ (g : H) (p : Nat), g.floor ≤ g.next → g.get p = some [.int .i64 2, .int .i64 0, .int .i64 0, .int .i64 0] → callW AP.A 91 [.agg [.str ⟨#[97]⟩, .bool false, .sobj p 0 4 1, .int .i64 2, .int .i64 0, .int .i64 0, .str ⟨#[104, 105]⟩, .int .i64 2, .int .i64 C]] g = some (.tup [.int .i64 K2, .int .i64 0], g) := fun g p hg hp => by
    have := digest_o hg eS2 hp rfl (by decide) (by decide)
    rw [d2] at this
    rw [hC, hK2]; exact this
  have k7 : ∀ (g : H), g.floor ≤ g.next → callW AP.A 91 [.agg Z9] g = some (.tup [.int .i64 0, .int .i64 1500], g) := fun g hg => by
    have := digest_c g hg ent0 .nils rfl ⟨⟨rfl, fun s e => by cases e⟩, by decide, by decide, by decide⟩
    rw [d4] at this; exact this
  have k8 : ∀ (g : H) (stamp : Int), g.floor ≤ g.next → callW AP.A 94 [.str ⟨#[97]⟩, .int .i64 0, .int .i64 stamp, .str ⟨#[104, 105]⟩] g = some (.agg [.str ⟨#[97]⟩, .bool false, .sobj (g.next + 1) 0 4 1, .int .i64 stamp, .int .i64 0, .int .i64 0, .str ⟨#[104, 105]⟩, .int .i64 2, .int .i64 C],
      (((g.alloc Z9).alloc [.int .i64 0, .int .i64 0, .int .i64 0, .int .i64 0]).set (g.next + 1) [.int .i64 stamp, .int .i64 0, .int .i64 0, .int .i64 0]).set g.next [.str ⟨#[97]⟩, .bool false, .sobj (g.next + 1) 0 4 1, .int .i64 stamp, .int .i64 0, .int .i64 0, .str ⟨#[104, 105]⟩, .int .i64 2, .int .i64 C]) := fun g stamp hg => by
    rw [hC]; exact small94_c g hg nA tHi 0 stamp (by omega) (by decide)
  have k9 := fun (g : H) n => num_c g n
  simp only [I] at k9
  obtain ⟨h2, hh⟩ : ∃ h2, evC (callW AP.A) loopW AP.f90.body (params 0 []) h.fence = some (.ret, [(0, .bool true)], h2) := by
    refine ⟨?_, ?_⟩
    rotate_left
    simp (disch := first | omega | (simp only [H.next_alloc, H.next_set, nx_del, nx_fence, H.floor_alloc, H.floor_set, fl_del, fl_fence, List.length_cons, List.length_nil, Nat.zero_add, Nat.reduceAdd]; first | done | omega | fail) | (simp (disch := first | omega | (simp only [H.next_alloc, H.next_set, nx_del, nx_fence, H.floor_alloc, H.floor_set, fl_del, fl_fence, List.length_cons, List.length_nil, Nat.zero_add, Nat.reduceAdd]; first | done | omega | fail) | fail) only [H.next_alloc, H.next_set, nx_del, nx_fence, H.floor_alloc, H.floor_set, fl_del, fl_fence, List.length_cons, List.length_nil, Nat.zero_add, Nat.reduceAdd, get_hit, get_miss, set_hit, set_miss, del_miss, gt_fence, Option.map_some]; done) | fail) only [go_sem, abin_shl, abin_shr, Nat.reduceEqDiff, reduceIte, Nat.reduceAdd, Nat.reduceMul, Nat.reduceLT, Nat.reduceLeDiff, Int.reduceBEq, Int.reduceBNe, Int.reduceLT, Int.reduceLE, Int.reduceEq, dt, df, eqt, eqf, net, nef, wi, wb, alen_str, idxs_at, tn_add, tn_nat, aix, get_hit, get_miss, set_hit, set_miss, H.floor_alloc, H.next_alloc, H.floor_set, H.next_set, stO_d, condO_t, fill_n, fill_c, fillS_s, bir_bslice, bir_alloc, bir_box, birB_s, repl_s, repl_z, List.map_cons, List.map_nil, setFrom_nil, setFrom_cons, allsc_nil, allsc_cons, Bool.and_true, Bool.true_and, Bool.and_self, List.append_nil, Option.map_some, Option.map_none, iadr_s, iadr_m, idP_s, idQ_s, bir_mksl, mkslB_s, alen_s, alen_n, alen_m, Bool.and_false, Bool.false_and, Bool.or_false, Bool.or_true, Bool.true_or, Bool.false_or, Bool.or_self, C_dregF, goD_s, goD2_t, stb_n, stb_c, stK_n, stK_c, stV_s, stB_f, beq_int, beq_bool, beq_tup0, beq_nils, beq_simm0, beq_str, beq_sobj, beq_pobj, opsD_nil, opsD_u, opsD_g, goOD_s, preD_t, preD_f, AOp.loud, AOp.births, st1_u, st1_g, Int.reduceAdd, Int.reduceSub, Int.reduceMul, Int.reduceNeg, Int.reduceToNat, eqbB_s, beq_refl, beqs_refl, stB_t, beO_s, stBv_t, stBv_p, stBv_o, st1b_alloc, st1b_box, st1b_bslice, st1b_mksl, nx_fence, gt_fence, fl_fence, nx_del, fl_del, del_miss, rdT, List.take_succ_cons, List.take_zero, List.drop_zero, List.drop_succ_cons, selO_t, selO_f, srcO_s, src_o, src_m, src_n, src_s, appS_s, app_b, apO_s, apc_o, apc_n, roomy_t, Int.cast_ofNat_Int, Int.natCast_one, Int.natCast_zero, at_z, at_s, tl_z, tl_s, AP.f90, k1, k2, k3, k4, k5, k6, k7, k8, k9, ne]
    rfl
  exact pure_c (fn := AP.f90) (h2 := h2) (e := [(0, .bool true)]) rfl rfl rfl hh rfl rfl
theorem bits_xor_n {a d : Nat} (ha : a < 4294967296) (hd : d < 4294967296) : bits .xor .i64 (a : Int) (d : Int) = ((a ^^^ d : Nat) : Int) := by
  have h3 : a ^^^ d < 4294967296 := xor_lt32 ha hd
  show IntKind.wrap .i64 (((BitVec.ofInt 64 (a : Int) ^^^ BitVec.ofInt 64 (d : Int)).toNat : Nat) : Int) = _
  rw [BitVec.toNat_xor, bv_nat 64 a (by omega), bv_nat 64 d (by omega)]
  exact wrap_nat64 (by omega)
theorem xor_ne {a d : Nat} (hd : d ≠ 0) : a ^^^ d ≠ a := by
  intro h
  have : a ^^^ (a ^^^ d) = a ^^^ a := by rw [h]
  rw [← Nat.xor_assoc, Nat.xor_self, Nat.zero_xor] at this
  exact hd this
end Ab
set_option linter.unusedSimpArgs false
set_option linter.unusedVariables false
set_option maxRecDepth 100000
namespace Ab
open Go
end Ab
set_option linter.unusedSimpArgs false
set_option linter.unusedVariables false
namespace Ab
open Go
theorem par_xor (a b : Nat) : (a ^^^ b) % 2 = (a % 2) ^^^ (b % 2) := Nat.xor_mod_two_pow (n := 1)
theorem half_xor (a b : Nat) : (a ^^^ b) / 2 = (a / 2) ^^^ (b / 2) := Nat.xor_div_two_pow (n := 1)
theorem xor4 (a b p : Nat) : (a ^^^ p) ^^^ (b ^^^ p) = a ^^^ b := by
  rw [Nat.xor_assoc, ← Nat.xor_assoc p b p, Nat.xor_comm p b, Nat.xor_assoc b p p, Nat.xor_self, Nat.xor_zero]
theorem crcBit_xor (a b : Nat) : crcBit (a ^^^ b) = crcBit a ^^^ crcBit b := by
  unfold crcBit
  rw [par_xor, half_xor]
  rcases Nat.mod_two_eq_zero_or_one a with ha | ha <;> rcases Nat.mod_two_eq_zero_or_one b with hb | hb <;> rw [ha, hb]
  · simp
  · simp [Nat.xor_assoc]
  · simp only [Nat.xor_zero, if_true]
    rw [if_neg (by decide), Nat.xor_assoc, Nat.xor_comm (b / 2), ← Nat.xor_assoc]
  · simp only [Nat.xor_self, if_true]
    rw [if_neg (by decide), xor4]
theorem crcBits_xor : ∀ (n a b : Nat), crcBits n (a ^^^ b) = crcBits n a ^^^ crcBits n b
  | 0, _, _ => rfl
  | n + 1, a, b => by rw [crcBits, crcBits, crcBits, crcBit_xor, crcBits_xor n]
theorem crcBits_add : ∀ (n m c : Nat), crcBits (n + m) c = crcBits m (crcBits n c)
  | 0, m, c => by rw [Nat.zero_add]; rfl
  | n + 1, m, c => by rw [show n + 1 + m = (n + m) + 1 by omega, crcBits, crcBits_add n m]; rfl
theorem crcBits_shift : ∀ (n b : Nat), crcBits n (b * 2 ^ n) = b
  | 0, b => by simp [crcBits]
  | n + 1, b => by
    rw [crcBits]
    have : crcBit (b * 2 ^ (n + 1)) = b * 2 ^ n := by
      unfold crcBit
      rw [Nat.pow_succ, ← Nat.mul_assoc, if_neg (by omega)]; omega
    rw [this, crcBits_shift n]
def pk : List Nat → Nat
  | [] => 0
  | b :: l => b ^^^ (pk l * 2 ^ 8)
theorem crcL_pk : ∀ (l : List Nat) (c : Nat), crcL c l = crcBits (8 * l.length) (c ^^^ pk l)
  | [], c => by simp [crcL, pk, crcBits]
  | b :: l, c => by
    show crcL (crcByte c b) l = _
    rw [crcL_pk l, crcByte, List.length_cons, show 8 * (l.length + 1) = 8 + 8 * l.length by omega, crcBits_add, pk]
    congr 1
    rw [← Nat.xor_assoc, crcBits_xor 8 (c ^^^ b), crcBits_shift]
theorem xor_cancel {a b c : Nat} (h : a ^^^ b = a ^^^ c) : b = c := by
  have : a ^^^ (a ^^^ b) = a ^^^ (a ^^^ c) := by rw [h]
  rwa [← Nat.xor_assoc, ← Nat.xor_assoc, Nat.xor_self, Nat.zero_xor, Nat.zero_xor] at this
theorem pk_inj : ∀ {l m : List Nat}, l.length = m.length → (∀ b ∈ l, b < 256) → (∀ b ∈ m, b < 256) → pk l = pk m → l = m
  | [], [], _, _, _, _ => rfl
  | [], _ :: _, h, _, _, _ => by simp at h
  | _ :: _, [], h, _, _, _ => by simp at h
  | a :: l, b :: m, h, hl, hm, e => by
    have ha := hl a (by simp)
    have hb := hm b (by simp)
    have e1 : pk (a :: l) % 2 ^ 8 = pk (b :: m) % 2 ^ 8 := by rw [e]
    have e2 : pk (a :: l) / 2 ^ 8 = pk (b :: m) / 2 ^ 8 := by rw [e]
    unfold pk at e1 e2
    rw [Nat.xor_mod_two_pow, Nat.xor_mod_two_pow, Nat.mul_mod_left, Nat.mul_mod_left, Nat.xor_zero, Nat.xor_zero, Nat.mod_eq_of_lt ha, Nat.mod_eq_of_lt hb] at e1
    rw [Nat.xor_div_two_pow, Nat.xor_div_two_pow, Nat.mul_div_cancel _ (by decide), Nat.mul_div_cancel _ (by decide), Nat.div_eq_of_lt ha, Nat.div_eq_of_lt hb, Nat.zero_xor, Nat.zero_xor] at e2
    rw [e1, pk_inj (by simpa using h) (fun x hx => hl x (by simp [hx])) (fun x hx => hm x (by simp [hx])) e2]
theorem pk_lt : ∀ {l : List Nat}, (∀ b ∈ l, b < 256) → pk l < 2 ^ (8 * l.length)
  | [], _ => by simp [pk]
  | b :: l, h => by
    have ih := pk_lt (l := l) (fun x hx => h x (by simp [hx]))
    have hb := h b (by simp)
    rw [pk, List.length_cons, show 8 * (l.length + 1) = 8 + 8 * l.length by omega]
    refine Nat.xor_lt_two_pow (Nat.lt_of_lt_of_le hb ?_) ?_
    · exact Nat.le_trans (by decide : 256 ≤ 2 ^ 8) (Nat.pow_le_pow_right (by decide) (by omega))
    · rw [Nat.pow_add, Nat.mul_comm]; exact Nat.mul_lt_mul_of_pos_left ih (by decide)
theorem crcBit_hi {c : Nat} (h : c < 4294967296) : crcBit c / 2147483648 = c % 2 := by
  unfold crcBit
  split
  · rename_i q
    rw [show (2147483648 : Nat) = 2 ^ 31 from rfl, Nat.xor_div_two_pow, Nat.div_eq_of_lt (by omega), q]; rfl
  · omega
theorem crcBit_inj {a b : Nat} (ha : a < 4294967296) (hb : b < 4294967296) (h : crcBit a = crcBit b) : a = b := by
  have h1 := crcBit_hi ha
  have h2 := crcBit_hi hb
  rw [h] at h1
  have h3 : a % 2 = b % 2 := by omega
  unfold crcBit at h
  rw [h3] at h
  split at h
  · have : a / 2 = b / 2 := by
      rw [Nat.xor_comm (a / 2), Nat.xor_comm (b / 2)] at h
      exact xor_cancel h
    omega
  · omega
theorem crcBits_inj : ∀ (n : Nat) {a b : Nat}, a < 4294967296 → b < 4294967296 → crcBits n a = crcBits n b → a = b
  | 0, _, _, _, _, h => h
  | n + 1, _, _, ha, hb, h => crcBit_inj ha hb (crcBits_inj n (crcBit_lt ha) (crcBit_lt hb) h)
theorem crcL_inj : ∀ (l : List Nat) {a b : Nat}, a < 4294967296 → b < 4294967296 → (∀ x ∈ l, x < 256) → crcL a l = crcL b l → a = b
  | [], _, _, _, _, _, h => h
  | x :: l, a, b, ha, hb, hl, h => by
    have hx := hl x (by simp)
    have := crcL_inj l (crcByte_lt ha hx) (crcByte_lt hb hx) (fun y hy => hl y (by simp [hy])) h
    have := crcBits_inj 8 (xor_lt32 ha (by omega)) (xor_lt32 hb (by omega)) this
    rw [Nat.xor_comm a, Nat.xor_comm b] at this
    exact xor_cancel this
theorem sum_inj {p l m s : List Nat} (hl : l.length = m.length) (h4 : l.length ≤ 4) (bp : ∀ x ∈ p, x < 256) (bl : ∀ x ∈ l, x < 256) (bm : ∀ x ∈ m, x < 256) (bs : ∀ x ∈ s, x < 256) (h : sumL' (p ++ l ++ s) = sumL' (p ++ m ++ s)) : l = m := by
  have c0 := crcL_lt p (c := 4294967295) (by omega) bp
  have cl := crcL_lt l c0 bl
  have cm := crcL_lt m c0 bm
  unfold sumL' crcL at h
  simp only [List.foldl_append] at h
  have e : crcL (crcL (crcL 4294967295 p) l) s = crcL (crcL (crcL 4294967295 p) m) s := by
    have h1 := crcL_lt s cl bs
    have h2 := crcL_lt s cm bs
    unfold crcL at *
    omega
  have e2 := crcL_inj s cl cm bs e
  obtain ⟨c, hc⟩ : ∃ c, c = crcL 4294967295 p := ⟨_, rfl⟩
  rw [← hc] at e2 c0
  rw [crcL_pk l, crcL_pk m, hl] at e2
  have p1 := pk_lt bl
  have p2 := pk_lt bm
  have q : 2 ^ (8 * l.length) ≤ 4294967296 := by
    have : 2 ^ (8 * l.length) ≤ 2 ^ 32 := Nat.pow_le_pow_right (by decide) (by omega)
    exact this
  rw [← hl] at p2
  have e3 := crcBits_inj _ (xor_lt32 c0 (by omega)) (xor_lt32 c0 (by omega)) e2
  exact pk_inj hl bl bm (xor_cancel e3)
theorem low4_inj {x y : Nat} (hx : x < 4294967296) (hy : y < 4294967296) (h : lowL x 4 = lowL y 4) : x = y := by
  have e : ∀ z, lowL z 4 = [z / 1 % 256, z / 256 % 256, z / 65536 % 256, z / 16777216 % 256] := fun z => rfl
  rw [e, e] at h
  simp only [List.cons.injEq, and_true] at h
  omega
theorem low1_inj {x y : Nat} (hx : x < 256) (hy : y < 256) (h : lowL x 1 = lowL y 1) : x = y := by
  have e : ∀ z, lowL z 1 = [z / 1 % 256] := fun z => rfl
  rw [e, e] at h
  simp only [List.cons.injEq, and_true] at h
  omega
end Ab
