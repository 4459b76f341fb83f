/- Part C2. -/
import Derived.KernelRfl
import Derived.Test.YtbihdlhgfnoejaaDoorC1
set_option linter.unusedSimpArgs false
set_option linter.unusedVariables false
set_option maxRecDepth 100000
namespace Ab
open Go
theorem wrap_u32 {n : Nat} (h : n < 4294967296) : IntKind.wrap .u32 (n : Int) = n := by
  have e : IntKind.wrap .u32 (n : Int) = (n : Int) % 4294967296 := by simp [IntKind.wrap, IntKind.bits, IntKind.signed]
  rw [e]; omega
theorem wrap_u32' (n : Int) : IntKind.wrap .u32 n = n % 4294967296 := by simp [IntKind.wrap, IntKind.bits, IntKind.signed]
theorem wu {n : Int} (h : 0 ≤ n ∧ n < 4294967296) : IntKind.wrap .u32 n = n := by rw [wrap_u32']; omega
theorem xor_lt32 {a b : Nat} (ha : a < 4294967296) (hb : b < 4294967296) : a ^^^ b < 4294967296 := Nat.xor_lt_two_pow (n := 32) ha hb
theorem bits_xor32 {a b : Nat} (ha : a < 4294967296) (hb : b < 4294967296) : bits .xor .u32 (a : Int) (b : Int) = ((a ^^^ b : Nat) : Int) := by
  have h3 := xor_lt32 ha hb
  show IntKind.wrap .u32 (((BitVec.ofInt 32 (a : Int) ^^^ BitVec.ofInt 32 (b : Int)).toNat : Nat) : Int) = _
  rw [BitVec.toNat_xor, bv_nat 32 a (by omega), bv_nat 32 b (by omega)]
  exact wrap_u32 h3
theorem bits_and32 {a : Nat} (ha : a < 4294967296) : bits .and .u32 (a : Int) 1 = ((a % 2 : Nat) : Int) := by
  show IntKind.wrap .u32 (((BitVec.ofInt 32 (a : Int) &&& BitVec.ofInt 32 ((1 : Nat) : Int)).toNat : Nat) : Int) = _
  rw [BitVec.toNat_and, bv_nat 32 a (by omega), bv_nat 32 1 (by omega), Nat.and_one_is_mod]
  exact wrap_u32 (by omega)
theorem shr_u32 {a : Nat} (ha : a < 4294967296) : shft .shr .u32 (a : Int) 1 = some (.int .u32 ((a / 2 : Nat) : Int)) := by
  unfold shft
  rw [if_neg (by omega)]
  have e : (2 : Int) ^ min (Int.toNat 1) IntKind.u32.bits = 2 := by decide
  rw [e]
  show some (AV.int .u32 _) = _
  rw [Int.fdiv_eq_ediv_of_nonneg _ (by omega)]
  rfl
theorem inv_u32 {h : H} {a : Nat} (ha : a < 4294967296) : invI h (.int .u32 (a : Int)) = some (.int .u32 ((4294967295 - a : Nat) : Int), h) := by
  rw [invI_s]
  have e : (if IntKind.u32.signed then -1 else IntKind.u32.max) = ((4294967295 : Nat) : Int) := by decide
  rw [e, bits_xor32 (by omega) ha]
  have h2 : 4294967295 ^^^ a = 4294967295 - a := by
    have h1 : a < 2 ^ 32 := by simpa using ha
    have : 4294967295 - a = 2 ^ 32 - (a + 1) := by omega
    rw [this]
    apply Nat.eq_of_testBit_eq
    intro i
    rw [Nat.testBit_two_pow_sub_succ h1, Nat.testBit_xor, show 4294967295 = 2 ^ 32 - 1 from rfl, Nat.testBit_two_pow_sub_one]
    by_cases hi : i < 32
    · simp [hi]
    · have : a.testBit i = false := Nat.testBit_lt_two_pow (Nat.lt_of_lt_of_le h1 (Nat.pow_le_pow_right (by omega) (by omega)))
      simp [hi, this]
  rw [h2]
def crcBit (c : Nat) : Nat := if c % 2 = 1 then (c / 2) ^^^ 3988292384 else c / 2
def crcBits : Nat → Nat → Nat
  | 0, c => c
  | n + 1, c => crcBits n (crcBit c)
def crcByte (c b : Nat) : Nat := crcBits 8 (c ^^^ b)
def crcRun (s : ByteArray) : Nat → Nat → Nat → Nat
  | 0, _, c => c
  | n + 1, i, c => crcRun s n (i + 1) (crcByte c (byN s i))
theorem crcBit_lt {c : Nat} (h : c < 4294967296) : crcBit c < 4294967296 := by
  unfold crcBit; split
  · exact xor_lt32 (by omega) (by omega)
  · omega
theorem crcBits_lt : ∀ (n : Nat) {c : Nat}, c < 4294967296 → crcBits n c < 4294967296
  | 0, _, h => h
  | n + 1, _, h => crcBits_lt n (crcBit_lt h)
theorem crcByte_lt {c b : Nat} (hc : c < 4294967296) (hb : b < 256) : crcByte c b < 4294967296 := crcBits_lt 8 (xor_lt32 hc (by omega))
theorem crcRun_lt (s : ByteArray) : ∀ (n i : Nat) {c : Nat}, c < 4294967296 → crcRun s n i c < 4294967296
  | 0, _, _, h => h
  | n + 1, i, _, h => crcRun_lt s n (i + 1) (crcByte_lt h (byN_lt s i))
theorem join_bits (a b d : AV) (h : H) : ∀ (n c k : Nat), k + n = 8 → c < 4294967296 →
    ∃ e', Lp AP.A [1, 5, 12, 13, 22] AP.f103L0 [(1, a), (5, .int .u32 c), (12, b), (13, d), (22, .int .i64 k)] h = some (.exit 2, e', h) ∧ look e' 1 = a ∧ look e' 5 = .int .u32 (crcBits n c : Nat) ∧ look e' 12 = b ∧ look e' 13 = d
  | 0, c, k, hk, hc => by
    refine ⟨[(1, a), (5, .int .u32 c), (12, b), (13, d), (22, .int .i64 k), (23, .bool false)], Lp_exit ?_, rfl, rfl, rfl, rfl⟩
    simp (disch := omega) only [go_sem, abin_shl, abin_shr, Nat.reduceEqDiff, reduceIte, Nat.reduceAdd, Nat.reduceMul, Nat.reduceLT, Nat.reduceLeDiff, Int.reduceBEq, Int.reduceBNe, Int.reduceLT, Int.reduceLE, Int.reduceEq, dt, df, eqt, eqf, net, nef, wi, wb, alen_str, idxs_at, tn_add, tn_nat, aix, get_hit, get_miss, set_hit, set_miss, H.floor_alloc, H.next_alloc, H.floor_set, H.next_set, stO_d, condO_t, fill_n, fill_c, fillS_s, bir_bslice, bir_alloc, bir_box, birB_s, repl_s, repl_z, List.map_cons, List.map_nil, setFrom_nil, setFrom_cons, allsc_nil, allsc_cons, Bool.and_true, Bool.true_and, Bool.and_self, List.append_nil, Option.map_some, Option.map_none, iadr_s, iadr_m, idP_s, idQ_s, bir_mksl, mkslB_s, alen_s, alen_n, alen_m, Bool.and_false, Bool.false_and, Bool.or_false, Bool.or_true, Bool.true_or, Bool.false_or, Bool.or_self, C_dregF, goD_s, goD2_t, stb_n, stb_c, stK_n, stK_c, stV_s, stB_f, beq_int, beq_bool, beq_tup0, beq_nils, beq_simm0, beq_str, beq_sobj, beq_pobj, opsD_nil, opsD_u, opsD_g, goOD_s, preD_t, preD_f, AOp.loud, AOp.births, st1_u, st1_g, Int.reduceAdd, Int.reduceSub, Int.reduceMul, Int.reduceNeg, Int.reduceToNat, eqbB_s, beq_refl, beqs_refl, stB_t, beO_s, stBv_t, stBv_p, stBv_o, st1b_alloc, st1b_box, st1b_bslice, st1b_mksl, AP.f103L0]
  | n + 1, c, k, hk, hc => by
    obtain ⟨e', r1, r2, r3, r4, r5⟩ := join_bits a b d h n (crcBit c) (k + 1) (by omega) (crcBit_lt hc)
    have n1 : ((k + 1 : Nat) : Int) = (k : Int) + 1 := by omega
    have x1 := bits_xor32 (a := c / 2) (b := 3988292384) (by omega) (by omega)
    have a1 := bits_and32 hc
    have s1 := shr_u32 hc
    refine ⟨e', Lp_next ?_ r1, r2, r3, r4, r5⟩
    rw [n1]
    unfold crcBit
    by_cases p : c % 2 = 1
    · rw [if_pos p]
      rw [show ((3988292384 : Nat) : Int) = 3988292384 from rfl] at x1
      simp (disch := omega) only [go_sem, abin_shl, abin_shr, Nat.reduceEqDiff, reduceIte, Nat.reduceAdd, Nat.reduceMul, Nat.reduceLT, Nat.reduceLeDiff, Int.reduceBEq, Int.reduceBNe, Int.reduceLT, Int.reduceLE, Int.reduceEq, dt, df, eqt, eqf, net, nef, wi, wb, alen_str, idxs_at, tn_add, tn_nat, aix, get_hit, get_miss, set_hit, set_miss, H.floor_alloc, H.next_alloc, H.floor_set, H.next_set, stO_d, condO_t, fill_n, fill_c, fillS_s, bir_bslice, bir_alloc, bir_box, birB_s, repl_s, repl_z, List.map_cons, List.map_nil, setFrom_nil, setFrom_cons, allsc_nil, allsc_cons, Bool.and_true, Bool.true_and, Bool.and_self, List.append_nil, Option.map_some, Option.map_none, iadr_s, iadr_m, idP_s, idQ_s, bir_mksl, mkslB_s, alen_s, alen_n, alen_m, Bool.and_false, Bool.false_and, Bool.or_false, Bool.or_true, Bool.true_or, Bool.false_or, Bool.or_self, C_dregF, goD_s, goD2_t, stb_n, stb_c, stK_n, stK_c, stV_s, stB_f, beq_int, beq_bool, beq_tup0, beq_nils, beq_simm0, beq_str, beq_sobj, beq_pobj, opsD_nil, opsD_u, opsD_g, goOD_s, preD_t, preD_f, AOp.loud, AOp.births, st1_u, st1_g, Int.reduceAdd, Int.reduceSub, Int.reduceMul, Int.reduceNeg, Int.reduceToNat, eqbB_s, beq_refl, beqs_refl, stB_t, beO_s, stBv_t, stBv_p, stBv_o, st1b_alloc, st1b_box, st1b_bslice, st1b_mksl, AP.f103L0, a1, s1, x1]
    · rw [if_neg p]
      simp (disch := omega) only [go_sem, abin_shl, abin_shr, Nat.reduceEqDiff, reduceIte, Nat.reduceAdd, Nat.reduceMul, Nat.reduceLT, Nat.reduceLeDiff, Int.reduceBEq, Int.reduceBNe, Int.reduceLT, Int.reduceLE, Int.reduceEq, dt, df, eqt, eqf, net, nef, wi, wb, alen_str, idxs_at, tn_add, tn_nat, aix, get_hit, get_miss, set_hit, set_miss, H.floor_alloc, H.next_alloc, H.floor_set, H.next_set, stO_d, condO_t, fill_n, fill_c, fillS_s, bir_bslice, bir_alloc, bir_box, birB_s, repl_s, repl_z, List.map_cons, List.map_nil, setFrom_nil, setFrom_cons, allsc_nil, allsc_cons, Bool.and_true, Bool.true_and, Bool.and_self, List.append_nil, Option.map_some, Option.map_none, iadr_s, iadr_m, idP_s, idQ_s, bir_mksl, mkslB_s, alen_s, alen_n, alen_m, Bool.and_false, Bool.false_and, Bool.or_false, Bool.or_true, Bool.true_or, Bool.false_or, Bool.or_self, C_dregF, goD_s, goD2_t, stb_n, stb_c, stK_n, stK_c, stV_s, stB_f, beq_int, beq_bool, beq_tup0, beq_nils, beq_simm0, beq_str, beq_sobj, beq_pobj, opsD_nil, opsD_u, opsD_g, goOD_s, preD_t, preD_f, AOp.loud, AOp.births, st1_u, st1_g, Int.reduceAdd, Int.reduceSub, Int.reduceMul, Int.reduceNeg, Int.reduceToNat, eqbB_s, beq_refl, beqs_refl, stB_t, beO_s, stBv_t, stBv_p, stBv_o, st1b_alloc, st1b_box, st1b_bslice, st1b_mksl, AP.f103L0, a1, s1]
theorem join_loop (s : ByteArray) (hs : s.size < 1125899906842624) (h : H) : ∀ (n i c : Nat), i + n = s.size → c < 4294967296 →
    ∃ e', Lp AP.A [1, 5, 12, 13] AP.f103L1 [(1, .str s), (5, .int .u32 c), (12, .int .i64 s.size), (13, .int .i64 i)] h = some (.exit 0, e', h) ∧ look e' 5 = .int .u32 (crcRun s n i c : Nat)
  | 0, i, c, hi, hc => by
    refine ⟨[(1, .str s), (5, .int .u32 c), (12, .int .i64 s.size), (13, .int .i64 i), (14, .bool false)], Lp_exit ?_, rfl⟩
    simp (disch := omega) only [go_sem, abin_shl, abin_shr, Nat.reduceEqDiff, reduceIte, Nat.reduceAdd, Nat.reduceMul, Nat.reduceLT, Nat.reduceLeDiff, Int.reduceBEq, Int.reduceBNe, Int.reduceLT, Int.reduceLE, Int.reduceEq, dt, df, eqt, eqf, net, nef, wi, wb, alen_str, idxs_at, tn_add, tn_nat, aix, get_hit, get_miss, set_hit, set_miss, H.floor_alloc, H.next_alloc, H.floor_set, H.next_set, stO_d, condO_t, fill_n, fill_c, fillS_s, bir_bslice, bir_alloc, bir_box, birB_s, repl_s, repl_z, List.map_cons, List.map_nil, setFrom_nil, setFrom_cons, allsc_nil, allsc_cons, Bool.and_true, Bool.true_and, Bool.and_self, List.append_nil, Option.map_some, Option.map_none, iadr_s, iadr_m, idP_s, idQ_s, bir_mksl, mkslB_s, alen_s, alen_n, alen_m, Bool.and_false, Bool.false_and, Bool.or_false, Bool.or_true, Bool.true_or, Bool.false_or, Bool.or_self, C_dregF, goD_s, goD2_t, stb_n, stb_c, stK_n, stK_c, stV_s, stB_f, beq_int, beq_bool, beq_tup0, beq_nils, beq_simm0, beq_str, beq_sobj, beq_pobj, opsD_nil, opsD_u, opsD_g, goOD_s, preD_t, preD_f, AOp.loud, AOp.births, st1_u, st1_g, Int.reduceAdd, Int.reduceSub, Int.reduceMul, Int.reduceNeg, Int.reduceToNat, eqbB_s, beq_refl, beqs_refl, stB_t, beO_s, stBv_t, stBv_p, stBv_o, st1b_alloc, st1b_box, st1b_bslice, st1b_mksl, AP.f103L1]
  | n + 1, i, c, hi, hc => by
    have hb := byN_lt s i
    obtain ⟨e', r1, r2⟩ := join_loop s hs h n (i + 1) (crcByte c (byN s i)) (by omega) (crcByte_lt hc hb)
    obtain ⟨e1, q1, q2, q3, q4, q5⟩ := join_bits (.str s) (.int .i64 s.size) (.int .i64 i) h 8 (c ^^^ byN s i) 0 rfl (xor_lt32 hc (by omega))
    have q1' : Lp AP.A [1, 5, 12, 13, 22] AP.f103L0 [(1, .str s), (5, .int .u32 (c ^^^ byN s i : Nat)), (12, .int .i64 s.size), (13, .int .i64 i), (22, .int .i64 0)] h = some (.exit 2, e1, h) := q1
    clear q1
    have x1 := bits_xor32 hc (show byN s i < 4294967296 by omega)
    have n1 : ((i + 1 : Nat) : Int) = (i : Int) + 1 := by omega
    refine ⟨e', Lp_next ?_ r1, r2⟩
    rw [n1]
    unfold crcByte
    simp (disch := omega) only [go_sem, abin_shl, abin_shr, Nat.reduceEqDiff, reduceIte, Nat.reduceAdd, Nat.reduceMul, Nat.reduceLT, Nat.reduceLeDiff, Int.reduceBEq, Int.reduceBNe, Int.reduceLT, Int.reduceLE, Int.reduceEq, dt, df, eqt, eqf, net, nef, wi, wb, alen_str, idxs_at, tn_add, tn_nat, aix, get_hit, get_miss, set_hit, set_miss, H.floor_alloc, H.next_alloc, H.floor_set, H.next_set, stO_d, condO_t, fill_n, fill_c, fillS_s, bir_bslice, bir_alloc, bir_box, birB_s, repl_s, repl_z, List.map_cons, List.map_nil, setFrom_nil, setFrom_cons, allsc_nil, allsc_cons, Bool.and_true, Bool.true_and, Bool.and_self, List.append_nil, Option.map_some, Option.map_none, iadr_s, iadr_m, idP_s, idQ_s, bir_mksl, mkslB_s, alen_s, alen_n, alen_m, Bool.and_false, Bool.false_and, Bool.or_false, Bool.or_true, Bool.true_or, Bool.false_or, Bool.or_self, C_dregF, goD_s, goD2_t, stb_n, stb_c, stK_n, stK_c, stV_s, stB_f, beq_int, beq_bool, beq_tup0, beq_nils, beq_simm0, beq_str, beq_sobj, beq_pobj, opsD_nil, opsD_u, opsD_g, goOD_s, preD_t, preD_f, AOp.loud, AOp.births, st1_u, st1_g, Int.reduceAdd, Int.reduceSub, Int.reduceMul, Int.reduceNeg, Int.reduceToNat, eqbB_s, beq_refl, beqs_refl, stB_t, beO_s, stBv_t, stBv_p, stBv_o, st1b_alloc, st1b_box, st1b_bslice, st1b_mksl, AP.f103L1, wu, x1, evC_loop, q1', q2, q3, q4, q5]
def joinA (a : Nat) (s : ByteArray) : Nat := 4294967295 - crcRun s s.size 0 (4294967295 - a)
theorem joinA_lt (a : Nat) (s : ByteArray) : joinA a s < 4294967296 := by unfold joinA; omega
theorem join_c (h : H) (s : ByteArray) (a : Nat) (ha : a < 4294967296) (hs : s.size < 1125899906842624) : callW AP.A 103 [.int .i64 a, .str s] h = some (.int .i64 (joinA a s : Nat), h) := by
  obtain ⟨e', r1, r2⟩ := join_loop s hs h.fence s.size 0 (4294967295 - a) (by omega) (by omega)
  have r1' : Lp AP.A [1, 5, 12, 13] AP.f103L1 [(1, .str s), (5, .int .u32 (4294967295 - a : Nat)), (12, .int .i64 s.size), (13, .int .i64 0)] h.fence = some (.exit 0, e', h.fence) := r1
  clear r1
  have lt := crcRun_lt s s.size 0 (c := 4294967295 - a) (by omega)
  have v1 : ∀ g : H, invI g (.int .u32 (a : Int)) = some (.int .u32 ((4294967295 - a : Nat) : Int), g) := fun g => inv_u32 ha
  have v2 : ∀ g : H, invI g (.int .u32 (crcRun s s.size 0 (4294967295 - a) : Nat)) = some (.int .u32 ((4294967295 - crcRun s s.size 0 (4294967295 - a) : Nat) : Int), g) := fun g => inv_u32 lt
  refine pure_c (fn := AP.f103) (h2 := h.fence) (e := [(4, .int .i64 (joinA a s : Nat))]) rfl rfl rfl ?_ rfl rfl
  unfold joinA
  simp (disch := omega) only [go_sem, abin_shl, abin_shr, Nat.reduceEqDiff, reduceIte, Nat.reduceAdd, Nat.reduceMul, Nat.reduceLT, Nat.reduceLeDiff, Int.reduceBEq, Int.reduceBNe, Int.reduceLT, Int.reduceLE, Int.reduceEq, dt, df, eqt, eqf, net, nef, wi, wb, alen_str, idxs_at, tn_add, tn_nat, aix, get_hit, get_miss, set_hit, set_miss, H.floor_alloc, H.next_alloc, H.floor_set, H.next_set, stO_d, condO_t, fill_n, fill_c, fillS_s, bir_bslice, bir_alloc, bir_box, birB_s, repl_s, repl_z, List.map_cons, List.map_nil, setFrom_nil, setFrom_cons, allsc_nil, allsc_cons, Bool.and_true, Bool.true_and, Bool.and_self, List.append_nil, Option.map_some, Option.map_none, iadr_s, iadr_m, idP_s, idQ_s, bir_mksl, mkslB_s, alen_s, alen_n, alen_m, Bool.and_false, Bool.false_and, Bool.or_false, Bool.or_true, Bool.true_or, Bool.false_or, Bool.or_self, C_dregF, goD_s, goD2_t, stb_n, stb_c, stK_n, stK_c, stV_s, stB_f, beq_int, beq_bool, beq_tup0, beq_nils, beq_simm0, beq_str, beq_sobj, beq_pobj, opsD_nil, opsD_u, opsD_g, goOD_s, preD_t, preD_f, AOp.loud, AOp.births, st1_u, st1_g, Int.reduceAdd, Int.reduceSub, Int.reduceMul, Int.reduceNeg, Int.reduceToNat, eqbB_s, beq_refl, beqs_refl, stB_t, beO_s, stBv_t, stBv_p, stBv_o, st1b_alloc, st1b_box, st1b_bslice, st1b_mksl, AP.f103, wu, v1, v2, evC_loop, r1', r2]
def isA (x : Int) : Bool := decide (0 ≤ x ∧ x ≤ 4294967295)
theorem is_c (h : H) (x : Int) : callW AP.A 105 [.int .i64 x] h = some (.bool (isA x), h) := by
  refine pure_c (fn := AP.f105) (h2 := h.fence) (e := [(2, .bool (isA x))]) rfl rfl rfl ?_ rfl rfl
  unfold isA
  by_cases c1 : 0 ≤ x
  · by_cases c2 : x ≤ 4294967295
    · simp (disch := omega) only [go_sem, abin_shl, abin_shr, Nat.reduceEqDiff, reduceIte, Nat.reduceAdd, Nat.reduceMul, Nat.reduceLT, Nat.reduceLeDiff, Int.reduceBEq, Int.reduceBNe, Int.reduceLT, Int.reduceLE, Int.reduceEq, dt, df, eqt, eqf, net, nef, wi, wb, alen_str, idxs_at, tn_add, tn_nat, aix, get_hit, get_miss, set_hit, set_miss, H.floor_alloc, H.next_alloc, H.floor_set, H.next_set, stO_d, condO_t, fill_n, fill_c, fillS_s, bir_bslice, bir_alloc, bir_box, birB_s, repl_s, repl_z, List.map_cons, List.map_nil, setFrom_nil, setFrom_cons, allsc_nil, allsc_cons, Bool.and_true, Bool.true_and, Bool.and_self, List.append_nil, Option.map_some, Option.map_none, iadr_s, iadr_m, idP_s, idQ_s, bir_mksl, mkslB_s, alen_s, alen_n, alen_m, Bool.and_false, Bool.false_and, Bool.or_false, Bool.or_true, Bool.true_or, Bool.false_or, Bool.or_self, C_dregF, goD_s, goD2_t, stb_n, stb_c, stK_n, stK_c, stV_s, stB_f, beq_int, beq_bool, beq_tup0, beq_nils, beq_simm0, beq_str, beq_sobj, beq_pobj, opsD_nil, opsD_u, opsD_g, goOD_s, preD_t, preD_f, AOp.loud, AOp.births, st1_u, st1_g, Int.reduceAdd, Int.reduceSub, Int.reduceMul, Int.reduceNeg, Int.reduceToNat, eqbB_s, beq_refl, beqs_refl, stB_t, beO_s, stBv_t, stBv_p, stBv_o, st1b_alloc, st1b_box, st1b_bslice, st1b_mksl, AP.f105]
    · simp (disch := omega) only [go_sem, abin_shl, abin_shr, Nat.reduceEqDiff, reduceIte, Nat.reduceAdd, Nat.reduceMul, Nat.reduceLT, Nat.reduceLeDiff, Int.reduceBEq, Int.reduceBNe, Int.reduceLT, Int.reduceLE, Int.reduceEq, dt, df, eqt, eqf, net, nef, wi, wb, alen_str, idxs_at, tn_add, tn_nat, aix, get_hit, get_miss, set_hit, set_miss, H.floor_alloc, H.next_alloc, H.floor_set, H.next_set, stO_d, condO_t, fill_n, fill_c, fillS_s, bir_bslice, bir_alloc, bir_box, birB_s, repl_s, repl_z, List.map_cons, List.map_nil, setFrom_nil, setFrom_cons, allsc_nil, allsc_cons, Bool.and_true, Bool.true_and, Bool.and_self, List.append_nil, Option.map_some, Option.map_none, iadr_s, iadr_m, idP_s, idQ_s, bir_mksl, mkslB_s, alen_s, alen_n, alen_m, Bool.and_false, Bool.false_and, Bool.or_false, Bool.or_true, Bool.true_or, Bool.false_or, Bool.or_self, C_dregF, goD_s, goD2_t, stb_n, stb_c, stK_n, stK_c, stV_s, stB_f, beq_int, beq_bool, beq_tup0, beq_nils, beq_simm0, beq_str, beq_sobj, beq_pobj, opsD_nil, opsD_u, opsD_g, goOD_s, preD_t, preD_f, AOp.loud, AOp.births, st1_u, st1_g, Int.reduceAdd, Int.reduceSub, Int.reduceMul, Int.reduceNeg, Int.reduceToNat, eqbB_s, beq_refl, beqs_refl, stB_t, beO_s, stBv_t, stBv_p, stBv_o, st1b_alloc, st1b_box, st1b_bslice, st1b_mksl, AP.f105]
  · simp (disch := omega) only [go_sem, abin_shl, abin_shr, Nat.reduceEqDiff, reduceIte, Nat.reduceAdd, Nat.reduceMul, Nat.reduceLT, Nat.reduceLeDiff, Int.reduceBEq, Int.reduceBNe, Int.reduceLT, Int.reduceLE, Int.reduceEq, dt, df, eqt, eqf, net, nef, wi, wb, alen_str, idxs_at, tn_add, tn_nat, aix, get_hit, get_miss, set_hit, set_miss, H.floor_alloc, H.next_alloc, H.floor_set, H.next_set, stO_d, condO_t, fill_n, fill_c, fillS_s, bir_bslice, bir_alloc, bir_box, birB_s, repl_s, repl_z, List.map_cons, List.map_nil, setFrom_nil, setFrom_cons, allsc_nil, allsc_cons, Bool.and_true, Bool.true_and, Bool.and_self, List.append_nil, Option.map_some, Option.map_none, iadr_s, iadr_m, idP_s, idQ_s, bir_mksl, mkslB_s, alen_s, alen_n, alen_m, Bool.and_false, Bool.false_and, Bool.or_false, Bool.or_true, Bool.true_or, Bool.false_or, Bool.or_self, C_dregF, goD_s, goD2_t, stb_n, stb_c, stK_n, stK_c, stV_s, stB_f, beq_int, beq_bool, beq_tup0, beq_nils, beq_simm0, beq_str, beq_sobj, beq_pobj, opsD_nil, opsD_u, opsD_g, goOD_s, preD_t, preD_f, AOp.loud, AOp.births, st1_u, st1_g, Int.reduceAdd, Int.reduceSub, Int.reduceMul, Int.reduceNeg, Int.reduceToNat, eqbB_s, beq_refl, beqs_refl, stB_t, beO_s, stBv_t, stBv_p, stBv_o, st1b_alloc, st1b_box, st1b_bslice, st1b_mksl, AP.f105]
def crcA (s : ByteArray) : Nat := joinA 0 s
theorem of_crc_c (h : H) (s : ByteArray) (hs : s.size < 1125899906842624) : callW AP.A 115 [.str s] h = some (.int .i64 (crcA s : Nat), h) := by
  have k1 := join_c h.fence s 0 (by omega) hs
  have k1' : callW AP.A 103 [.int .i64 0, .str s] h.fence = some (.int .i64 (crcA s : Nat), h.fence) := k1
  refine pure_c (fn := AP.f115) (h2 := h.fence) (e := [(2, .int .i64 (crcA s : Nat))]) rfl rfl rfl ?_ rfl rfl
  simp (disch := omega) only [go_sem, abin_shl, abin_shr, Nat.reduceEqDiff, reduceIte, Nat.reduceAdd, Nat.reduceMul, Nat.reduceLT, Nat.reduceLeDiff, Int.reduceBEq, Int.reduceBNe, Int.reduceLT, Int.reduceLE, Int.reduceEq, dt, df, eqt, eqf, net, nef, wi, wb, alen_str, idxs_at, tn_add, tn_nat, aix, get_hit, get_miss, set_hit, set_miss, H.floor_alloc, H.next_alloc, H.floor_set, H.next_set, stO_d, condO_t, fill_n, fill_c, fillS_s, bir_bslice, bir_alloc, bir_box, birB_s, repl_s, repl_z, List.map_cons, List.map_nil, setFrom_nil, setFrom_cons, allsc_nil, allsc_cons, Bool.and_true, Bool.true_and, Bool.and_self, List.append_nil, Option.map_some, Option.map_none, iadr_s, iadr_m, idP_s, idQ_s, bir_mksl, mkslB_s, alen_s, alen_n, alen_m, Bool.and_false, Bool.false_and, Bool.or_false, Bool.or_true, Bool.true_or, Bool.false_or, Bool.or_self, C_dregF, goD_s, goD2_t, stb_n, stb_c, stK_n, stK_c, stV_s, stB_f, beq_int, beq_bool, beq_tup0, beq_nils, beq_simm0, beq_str, beq_sobj, beq_pobj, opsD_nil, opsD_u, opsD_g, goOD_s, preD_t, preD_f, AOp.loud, AOp.births, st1_u, st1_g, Int.reduceAdd, Int.reduceSub, Int.reduceMul, Int.reduceNeg, Int.reduceToNat, eqbB_s, beq_refl, beqs_refl, stB_t, beO_s, stBv_t, stBv_p, stBv_o, st1b_alloc, st1b_box, st1b_bslice, st1b_mksl, AP.f115, k1']
theorem turn_bits (a d : AV) (h : H) : ∀ (n c k : Nat), k + n = 8 → c < 4294967296 →
    ∃ e', Lp AP.A [0, 1, 5, 6] AP.f111L0 [(0, .int .u32 c), (1, a), (5, d), (6, .int .i64 k)] h = some (.exit 2, e', h) ∧ look e' 1 = a ∧ look e' 0 = .int .u32 (crcBits n c : Nat) ∧ look e' 5 = d
  | 0, c, k, hk, hc => by
    refine ⟨[(0, .int .u32 c), (1, a), (5, d), (6, .int .i64 k), (20, .bool false)], Lp_exit ?_, rfl, rfl, rfl⟩
    simp (disch := omega) only [go_sem, abin_shl, abin_shr, Nat.reduceEqDiff, reduceIte, Nat.reduceAdd, Nat.reduceMul, Nat.reduceLT, Nat.reduceLeDiff, Int.reduceBEq, Int.reduceBNe, Int.reduceLT, Int.reduceLE, Int.reduceEq, dt, df, eqt, eqf, net, nef, wi, wb, alen_str, idxs_at, tn_add, tn_nat, aix, get_hit, get_miss, set_hit, set_miss, H.floor_alloc, H.next_alloc, H.floor_set, H.next_set, stO_d, condO_t, fill_n, fill_c, fillS_s, bir_bslice, bir_alloc, bir_box, birB_s, repl_s, repl_z, List.map_cons, List.map_nil, setFrom_nil, setFrom_cons, allsc_nil, allsc_cons, Bool.and_true, Bool.true_and, Bool.and_self, List.append_nil, Option.map_some, Option.map_none, iadr_s, iadr_m, idP_s, idQ_s, bir_mksl, mkslB_s, alen_s, alen_n, alen_m, Bool.and_false, Bool.false_and, Bool.or_false, Bool.or_true, Bool.true_or, Bool.false_or, Bool.or_self, C_dregF, goD_s, goD2_t, stb_n, stb_c, stK_n, stK_c, stV_s, stB_f, beq_int, beq_bool, beq_tup0, beq_nils, beq_simm0, beq_str, beq_sobj, beq_pobj, opsD_nil, opsD_u, opsD_g, goOD_s, preD_t, preD_f, AOp.loud, AOp.births, st1_u, st1_g, Int.reduceAdd, Int.reduceSub, Int.reduceMul, Int.reduceNeg, Int.reduceToNat, eqbB_s, beq_refl, beqs_refl, stB_t, beO_s, stBv_t, stBv_p, stBv_o, st1b_alloc, st1b_box, st1b_bslice, st1b_mksl, AP.f111L0]
  | n + 1, c, k, hk, hc => by
    obtain ⟨e', r1, r2, r3, r4⟩ := turn_bits a d h n (crcBit c) (k + 1) (by omega) (crcBit_lt hc)
    have n1 : ((k + 1 : Nat) : Int) = (k : Int) + 1 := by omega
    have x1 := bits_xor32 (a := c / 2) (b := 3988292384) (by omega) (by omega)
    have a1 := bits_and32 hc
    have s1 := shr_u32 hc
    refine ⟨e', Lp_next ?_ r1, r2, r3, r4⟩
    rw [n1]
    unfold crcBit
    by_cases p : c % 2 = 1
    · rw [if_pos p]
      rw [show ((3988292384 : Nat) : Int) = 3988292384 from rfl] at x1
      simp (disch := omega) only [go_sem, abin_shl, abin_shr, Nat.reduceEqDiff, reduceIte, Nat.reduceAdd, Nat.reduceMul, Nat.reduceLT, Nat.reduceLeDiff, Int.reduceBEq, Int.reduceBNe, Int.reduceLT, Int.reduceLE, Int.reduceEq, dt, df, eqt, eqf, net, nef, wi, wb, alen_str, idxs_at, tn_add, tn_nat, aix, get_hit, get_miss, set_hit, set_miss, H.floor_alloc, H.next_alloc, H.floor_set, H.next_set, stO_d, condO_t, fill_n, fill_c, fillS_s, bir_bslice, bir_alloc, bir_box, birB_s, repl_s, repl_z, List.map_cons, List.map_nil, setFrom_nil, setFrom_cons, allsc_nil, allsc_cons, Bool.and_true, Bool.true_and, Bool.and_self, List.append_nil, Option.map_some, Option.map_none, iadr_s, iadr_m, idP_s, idQ_s, bir_mksl, mkslB_s, alen_s, alen_n, alen_m, Bool.and_false, Bool.false_and, Bool.or_false, Bool.or_true, Bool.true_or, Bool.false_or, Bool.or_self, C_dregF, goD_s, goD2_t, stb_n, stb_c, stK_n, stK_c, stV_s, stB_f, beq_int, beq_bool, beq_tup0, beq_nils, beq_simm0, beq_str, beq_sobj, beq_pobj, opsD_nil, opsD_u, opsD_g, goOD_s, preD_t, preD_f, AOp.loud, AOp.births, st1_u, st1_g, Int.reduceAdd, Int.reduceSub, Int.reduceMul, Int.reduceNeg, Int.reduceToNat, eqbB_s, beq_refl, beqs_refl, stB_t, beO_s, stBv_t, stBv_p, stBv_o, st1b_alloc, st1b_box, st1b_bslice, st1b_mksl, AP.f111L0, a1, s1, x1]
    · rw [if_neg p]
      simp (disch := omega) only [go_sem, abin_shl, abin_shr, Nat.reduceEqDiff, reduceIte, Nat.reduceAdd, Nat.reduceMul, Nat.reduceLT, Nat.reduceLeDiff, Int.reduceBEq, Int.reduceBNe, Int.reduceLT, Int.reduceLE, Int.reduceEq, dt, df, eqt, eqf, net, nef, wi, wb, alen_str, idxs_at, tn_add, tn_nat, aix, get_hit, get_miss, set_hit, set_miss, H.floor_alloc, H.next_alloc, H.floor_set, H.next_set, stO_d, condO_t, fill_n, fill_c, fillS_s, bir_bslice, bir_alloc, bir_box, birB_s, repl_s, repl_z, List.map_cons, List.map_nil, setFrom_nil, setFrom_cons, allsc_nil, allsc_cons, Bool.and_true, Bool.true_and, Bool.and_self, List.append_nil, Option.map_some, Option.map_none, iadr_s, iadr_m, idP_s, idQ_s, bir_mksl, mkslB_s, alen_s, alen_n, alen_m, Bool.and_false, Bool.false_and, Bool.or_false, Bool.or_true, Bool.true_or, Bool.false_or, Bool.or_self, C_dregF, goD_s, goD2_t, stb_n, stb_c, stK_n, stK_c, stV_s, stB_f, beq_int, beq_bool, beq_tup0, beq_nils, beq_simm0, beq_str, beq_sobj, beq_pobj, opsD_nil, opsD_u, opsD_g, goOD_s, preD_t, preD_f, AOp.loud, AOp.births, st1_u, st1_g, Int.reduceAdd, Int.reduceSub, Int.reduceMul, Int.reduceNeg, Int.reduceToNat, eqbB_s, beq_refl, beqs_refl, stB_t, beO_s, stBv_t, stBv_p, stBv_o, st1b_alloc, st1b_box, st1b_bslice, st1b_mksl, AP.f111L0, a1, s1]
theorem turn_loop (s : ByteArray) (hs : s.size < 1125899906842624) (h : H) : ∀ (n i c : Nat), i + n = s.size → c < 4294967296 →
    ∃ e', Lp AP.A [0, 1, 5] AP.f111L1 [(0, .int .u32 c), (1, .str s), (5, .int .i64 i)] h = some (.exit 0, e', h) ∧ look e' 0 = .int .u32 (crcRun s n i c : Nat)
  | 0, i, c, hi, hc => by
    refine ⟨[(0, .int .u32 c), (1, .str s), (5, .int .i64 i), (10, .bool false)], Lp_exit ?_, rfl⟩
    simp (disch := omega) only [go_sem, abin_shl, abin_shr, Nat.reduceEqDiff, reduceIte, Nat.reduceAdd, Nat.reduceMul, Nat.reduceLT, Nat.reduceLeDiff, Int.reduceBEq, Int.reduceBNe, Int.reduceLT, Int.reduceLE, Int.reduceEq, dt, df, eqt, eqf, net, nef, wi, wb, alen_str, idxs_at, tn_add, tn_nat, aix, get_hit, get_miss, set_hit, set_miss, H.floor_alloc, H.next_alloc, H.floor_set, H.next_set, stO_d, condO_t, fill_n, fill_c, fillS_s, bir_bslice, bir_alloc, bir_box, birB_s, repl_s, repl_z, List.map_cons, List.map_nil, setFrom_nil, setFrom_cons, allsc_nil, allsc_cons, Bool.and_true, Bool.true_and, Bool.and_self, List.append_nil, Option.map_some, Option.map_none, iadr_s, iadr_m, idP_s, idQ_s, bir_mksl, mkslB_s, alen_s, alen_n, alen_m, Bool.and_false, Bool.false_and, Bool.or_false, Bool.or_true, Bool.true_or, Bool.false_or, Bool.or_self, C_dregF, goD_s, goD2_t, stb_n, stb_c, stK_n, stK_c, stV_s, stB_f, beq_int, beq_bool, beq_tup0, beq_nils, beq_simm0, beq_str, beq_sobj, beq_pobj, opsD_nil, opsD_u, opsD_g, goOD_s, preD_t, preD_f, AOp.loud, AOp.births, st1_u, st1_g, Int.reduceAdd, Int.reduceSub, Int.reduceMul, Int.reduceNeg, Int.reduceToNat, eqbB_s, beq_refl, beqs_refl, stB_t, beO_s, stBv_t, stBv_p, stBv_o, st1b_alloc, st1b_box, st1b_bslice, st1b_mksl, AP.f111L1]
  | n + 1, i, c, hi, hc => by
    have hb := byN_lt s i
    obtain ⟨e', r1, r2⟩ := turn_loop s hs h n (i + 1) (crcByte c (byN s i)) (by omega) (crcByte_lt hc hb)
    obtain ⟨e1, q1, q2, q3, q4⟩ := turn_bits (.str s) (.int .i64 i) h 8 (c ^^^ byN s i) 0 rfl (xor_lt32 hc (by omega))
    have q1' : Lp AP.A [0, 1, 5, 6] AP.f111L0 [(0, .int .u32 (c ^^^ byN s i : Nat)), (1, .str s), (5, .int .i64 i), (6, .int .i64 0)] h = some (.exit 2, e1, h) := q1
    clear q1
    have x1 := bits_xor32 hc (show byN s i < 4294967296 by omega)
    have n1 : ((i + 1 : Nat) : Int) = (i : Int) + 1 := by omega
    refine ⟨e', Lp_next ?_ r1, r2⟩
    rw [n1]
    unfold crcByte
    simp (disch := omega) only [go_sem, abin_shl, abin_shr, Nat.reduceEqDiff, reduceIte, Nat.reduceAdd, Nat.reduceMul, Nat.reduceLT, Nat.reduceLeDiff, Int.reduceBEq, Int.reduceBNe, Int.reduceLT, Int.reduceLE, Int.reduceEq, dt, df, eqt, eqf, net, nef, wi, wb, alen_str, idxs_at, tn_add, tn_nat, aix, get_hit, get_miss, set_hit, set_miss, H.floor_alloc, H.next_alloc, H.floor_set, H.next_set, stO_d, condO_t, fill_n, fill_c, fillS_s, bir_bslice, bir_alloc, bir_box, birB_s, repl_s, repl_z, List.map_cons, List.map_nil, setFrom_nil, setFrom_cons, allsc_nil, allsc_cons, Bool.and_true, Bool.true_and, Bool.and_self, List.append_nil, Option.map_some, Option.map_none, iadr_s, iadr_m, idP_s, idQ_s, bir_mksl, mkslB_s, alen_s, alen_n, alen_m, Bool.and_false, Bool.false_and, Bool.or_false, Bool.or_true, Bool.true_or, Bool.false_or, Bool.or_self, C_dregF, goD_s, goD2_t, stb_n, stb_c, stK_n, stK_c, stV_s, stB_f, beq_int, beq_bool, beq_tup0, beq_nils, beq_simm0, beq_str, beq_sobj, beq_pobj, opsD_nil, opsD_u, opsD_g, goOD_s, preD_t, preD_f, AOp.loud, AOp.births, st1_u, st1_g, Int.reduceAdd, Int.reduceSub, Int.reduceMul, Int.reduceNeg, Int.reduceToNat, eqbB_s, beq_refl, beqs_refl, stB_t, beO_s, stBv_t, stBv_p, stBv_o, st1b_alloc, st1b_box, st1b_bslice, st1b_mksl, AP.f111L1, wu, x1, evC_loop, q1', q2, q3, q4]
theorem turn_c (h : H) (s : ByteArray) (c : Nat) (hc : c < 4294967296) (hs : s.size < 1125899906842624) : callW AP.A 111 [.int .u32 c, .str s] h = some (.int .u32 (crcRun s s.size 0 c : Nat), h) := by
  obtain ⟨e', r1, r2⟩ := turn_loop s hs h.fence s.size 0 c (by omega) hc
  have r1' : Lp AP.A [0, 1, 5] AP.f111L1 [(0, .int .u32 c), (1, .str s), (5, .int .i64 0)] h.fence = some (.exit 0, e', h.fence) := r1
  clear r1
  refine pure_c (fn := AP.f111) (h2 := h.fence) (e := [(4, .int .u32 (crcRun s s.size 0 c : Nat))]) rfl rfl rfl ?_ rfl rfl
  simp (disch := omega) only [go_sem, abin_shl, abin_shr, Nat.reduceEqDiff, reduceIte, Nat.reduceAdd, Nat.reduceMul, Nat.reduceLT, Nat.reduceLeDiff, Int.reduceBEq, Int.reduceBNe, Int.reduceLT, Int.reduceLE, Int.reduceEq, dt, df, eqt, eqf, net, nef, wi, wb, alen_str, idxs_at, tn_add, tn_nat, aix, get_hit, get_miss, set_hit, set_miss, H.floor_alloc, H.next_alloc, H.floor_set, H.next_set, stO_d, condO_t, fill_n, fill_c, fillS_s, bir_bslice, bir_alloc, bir_box, birB_s, repl_s, repl_z, List.map_cons, List.map_nil, setFrom_nil, setFrom_cons, allsc_nil, allsc_cons, Bool.and_true, Bool.true_and, Bool.and_self, List.append_nil, Option.map_some, Option.map_none, iadr_s, iadr_m, idP_s, idQ_s, bir_mksl, mkslB_s, alen_s, alen_n, alen_m, Bool.and_false, Bool.false_and, Bool.or_false, Bool.or_true, Bool.true_or, Bool.false_or, Bool.or_self, C_dregF, goD_s, goD2_t, stb_n, stb_c, stK_n, stK_c, stV_s, stB_f, beq_int, beq_bool, beq_tup0, beq_nils, beq_simm0, beq_str, beq_sobj, beq_pobj, opsD_nil, opsD_u, opsD_g, goOD_s, preD_t, preD_f, AOp.loud, AOp.births, st1_u, st1_g, Int.reduceAdd, Int.reduceSub, Int.reduceMul, Int.reduceNeg, Int.reduceToNat, eqbB_s, beq_refl, beqs_refl, stB_t, beO_s, stBv_t, stBv_p, stBv_o, st1b_alloc, st1b_box, st1b_bslice, st1b_mksl, AP.f111, evC_loop, r1', r2]
theorem crc2_c (h : H) (s : ByteArray) (hs : s.size < 1125899906842624) : callW AP.A 101 [.str s] h = some (.int .i64 (crcA s : Nat), h) := by
  have k1 := turn_c h.fence s 4294967295 (by omega) hs
  have k1' : callW AP.A 111 [.int .u32 4294967295, .str s] h.fence = some (.int .u32 (crcRun s s.size 0 4294967295 : Nat), h.fence) := k1
  have lt := crcRun_lt s s.size 0 (c := 4294967295) (by omega)
  have v2 : ∀ g : H, invI g (.int .u32 (crcRun s s.size 0 4294967295 : Nat)) = some (.int .u32 (crcA s : Nat), g) := fun g => inv_u32 lt
  have lt2 := joinA_lt 0 s
  unfold crcA at v2 ⊢
  refine pure_c (fn := AP.f101) (h2 := h.fence) (e := [(2, .int .i64 (joinA 0 s : Nat))]) rfl rfl rfl ?_ rfl rfl
  simp (disch := omega) only [go_sem, abin_shl, abin_shr, Nat.reduceEqDiff, reduceIte, Nat.reduceAdd, Nat.reduceMul, Nat.reduceLT, Nat.reduceLeDiff, Int.reduceBEq, Int.reduceBNe, Int.reduceLT, Int.reduceLE, Int.reduceEq, dt, df, eqt, eqf, net, nef, wi, wb, alen_str, idxs_at, tn_add, tn_nat, aix, get_hit, get_miss, set_hit, set_miss, H.floor_alloc, H.next_alloc, H.floor_set, H.next_set, stO_d, condO_t, fill_n, fill_c, fillS_s, bir_bslice, bir_alloc, bir_box, birB_s, repl_s, repl_z, List.map_cons, List.map_nil, setFrom_nil, setFrom_cons, allsc_nil, allsc_cons, Bool.and_true, Bool.true_and, Bool.and_self, List.append_nil, Option.map_some, Option.map_none, iadr_s, iadr_m, idP_s, idQ_s, bir_mksl, mkslB_s, alen_s, alen_n, alen_m, Bool.and_false, Bool.false_and, Bool.or_false, Bool.or_true, Bool.true_or, Bool.false_or, Bool.or_self, C_dregF, goD_s, goD2_t, stb_n, stb_c, stK_n, stK_c, stV_s, stB_f, beq_int, beq_bool, beq_tup0, beq_nils, beq_simm0, beq_str, beq_sobj, beq_pobj, opsD_nil, opsD_u, opsD_g, goOD_s, preD_t, preD_f, AOp.loud, AOp.births, st1_u, st1_g, Int.reduceAdd, Int.reduceSub, Int.reduceMul, Int.reduceNeg, Int.reduceToNat, eqbB_s, beq_refl, beqs_refl, stB_t, beO_s, stBv_t, stBv_p, stBv_o, st1b_alloc, st1b_box, st1b_bslice, st1b_mksl, AP.f101, k1', v2]
end Ab
set_option linter.unusedSimpArgs false
set_option linter.unusedVariables false
set_option maxRecDepth 100000
namespace Ab
open Go
end Ab
set_option linter.unusedSimpArgs false
set_option linter.unusedVariables false
namespace Ab
open Go
theorem toList_data (a : ByteArray) : a.toList = a.data.toList := by
  have key : ∀ (n i : Nat) (r : List UInt8), a.size - i = n → ByteArray.toList.loop a i r = r.reverse ++ a.data.toList.drop i := by
    intro n
    induction n with
    | zero =>
      intro i r h
      unfold ByteArray.toList.loop
      rw [if_neg (by omega), List.drop_eq_nil_of_le (by show a.data.toList.length ≤ i; have : a.data.toList.length = a.size := rfl; omega)]; simp
    | succ n ih =>
      intro i r h
      unfold ByteArray.toList.loop
      have hi : i < a.data.toList.length := by show i < a.size; omega
      rw [if_pos (by omega), ih (i + 1) _ (by omega), List.drop_eq_getElem_cons hi]
      have hi' : i < a.data.size := hi
      simp [ByteArray.get!, getElem!_pos a.data i hi']
  unfold ByteArray.toList
  rw [key a.size 0 [] (by omega)]; simp
theorem str_eql (a b : ByteArray) : abin .eql (.str a) (.str b) = some (.bool (a.data.toList == b.data.toList)) := by
  simp only [abin, binStr, toList_data]
theorem str_neq (a b : ByteArray) : abin .neq (.str a) (.str b) = some (.bool (!(a.data.toList == b.data.toList))) := by
  simp only [abin, binStr, toList_data]
theorem num_c (h : H) (n : Int) : callW AP.A 9 [I n] h = some (I n, h) := by
  refine pure_c (fn := AP.f9) (h2 := h.fence) (e := [(2, I n)]) rfl rfl rfl ?_ rfl rfl
  simp only [I] at *
  simp only [AP.f9, go_sem, abin_shl, abin_shr, Nat.reduceEqDiff, reduceIte, Nat.reduceAdd, Nat.reduceMul, Nat.reduceLT, Nat.reduceLeDiff, Int.reduceBEq, Int.reduceBNe, Int.reduceLT, Int.reduceLE, Int.reduceEq]
end Ab
set_option linter.unusedSimpArgs false
set_option linter.unusedVariables false
namespace Ab
open Go
theorem Own.set {h : H} {v : AV} {cs : List AV} (o : Own h v cs) {i : Nat} (hi : i < cs.length) (x : AV) : ∃ id, v = .sobj id 0 cs.length 1 ∧ h.get id = some cs ∧ h.floor ≤ id ∧ Own (h.set id (cs.set i x)) v (cs.set i x) := by
  rcases o with ⟨rfl, rfl⟩ | ⟨id, rfl, h1, h2, h3⟩
  · simp at hi
  · exact ⟨id, rfl, h1, h2, .inr ⟨id, by simp, by rw [H.get_set, if_pos rfl, h1]; rfl, by simpa using h2, by intro e; apply h3; have := congrArg List.length e; simpa using this⟩⟩
end Ab
set_option linter.unusedSimpArgs false
set_option linter.unusedVariables false
namespace Ab
open Go
end Ab
set_option linter.unusedSimpArgs false
set_option linter.unusedVariables false
namespace Ab
open Go
structure Pre (a t : ByteArray) : Prop where
  sz : a.size ≤ t.size
  bit : ∀ i, i < 8 * a.size → bitAt a i = bitAt t i
section
variable {a t : ByteArray} (h : Pre a t)
include h
end
end Ab
set_option linter.unusedSimpArgs false
set_option linter.unusedVariables false
namespace Ab
open Go
variable {t : ByteArray} {most most' : Int}
end Ab
set_option linter.unusedSimpArgs false
set_option linter.unusedVariables false
namespace Ab
open Go
theorem asls_hi {s : ByteArray} {n : Nat} (hn : n ≤ s.size) : asls (.str s) none (some (I n)) = some (.str (s.extract 0 n)) := by
  have : sbound (I n) s.size = some n := sb_of hn
  simp [asls, osbound, this]
theorem bytesOf_size (l : List Nat) : (bytesOf l).size = l.length := by
  show (l.map UInt8.ofNat).toArray.size = _
  simp
end Ab
set_option linter.unusedSimpArgs false
set_option linter.unusedVariables false
set_option maxRecDepth 100000
namespace Ab
open Go
theorem aixk {k : IntKind} {i : Int} {n : Nat} (h : 0 ≤ i ∧ i < n) : aidx (.int k i) n = some i.toNat := by simp [aidx, asI, h]
def okB (b : Nat) : Bool := decide (97 ≤ b ∧ b ≤ 122 ∨ 48 ≤ b ∧ b ≤ 57 ∨ b = 46 ∨ b = 45 ∨ b = 95)
def setB (s : ByteArray) : Nat → Nat → Bool
  | 0, _ => false
  | n + 1, i => decide (i = byN s n) || setB s n i
def ofS : ByteArray := ⟨#[97, 98, 99, 100, 101, 102, 103, 104, 105, 106, 107, 108, 109, 110, 111, 112, 113, 114, 115, 116, 117, 118, 119, 120, 121, 122, 48, 49, 50, 51, 52, 53, 54, 55, 56, 57, 46, 45, 95]⟩
def bT (P : Nat → Bool) : List AV := tab 256 fun i => .bool (P i)
theorem bT_len (P : Nat → Bool) : (bT P).length = 256 := by simp [bT]
theorem bT_get (P : Nat → Bool) {i : Nat} (h : i < 256) : (bT P)[i]? = some (.bool (P i)) := tab_get h
theorem bT_set (s : ByteArray) (n : Nat) : (bT (setB s n)).set (byN s n) (.bool true) = bT (setB s (n + 1)) := by
  unfold bT
  rw [tab_set (byN_lt s n)]
  congr 1
  funext i
  have e : setB s (n + 1) i = (decide (i = byN s n) || setB s n i) := rfl
  rw [e]
  unfold upd
  by_cases h : i = byN s n
  · simp [h]
  · simp [h]
theorem bT_of : bT (setB ofS 39) = bT okB := by
  unfold bT tab
  refine List.map_congr_left fun i hi => ?_
  have hi' : i < 256 := List.mem_range.1 hi
  have : ∀ i, i < 256 → setB ofS 39 i = okB i := by decide +kernel
  rw [this i hi']
theorem mapO_bools (g : Nat → Option (List AV)) (fl n : Nat) (t : Bool) : ∀ l : List Bool, mapO (snap g fl (n + 1) t) (l.map .bool) = some (l.map .bool)
  | [] => rfl
  | b :: l => by
    have := mapO_bools g fl n t l
    simp only [List.map_cons, mapO, this]; rfl
theorem mapO_bT (g : Nat → Option (List AV)) (fl n : Nat) (t : Bool) (P : Nat → Bool) : mapO (snap g fl (n + 1) t) (bT P) = some (bT P) := by
  have e : bT P = ((List.range 256).map P).map .bool := by unfold bT tab; rw [List.map_map]; rfl
  rw [e]; exact mapO_bools g fl n t _
theorem bir_al (e : Env) : birth e (.alloc [.bool false, .bool false, .bool false, .bool false, .bool false, .bool false, .bool false, .bool false, .bool false, .bool false, .bool false, .bool false, .bool false, .bool false, .bool false, .bool false, .bool false, .bool false, .bool false, .bool false, .bool false, .bool false, .bool false, .bool false, .bool false, .bool false, .bool false, .bool false, .bool false, .bool false, .bool false, .bool false, .bool false, .bool false, .bool false, .bool false, .bool false, .bool false, .bool false, .bool false, .bool false, .bool false, .bool false, .bool false, .bool false, .bool false, .bool false, .bool false, .bool false, .bool false, .bool false, .bool false, .bool false, .bool false, .bool false, .bool false, .bool false, .bool false, .bool false, .bool false, .bool false, .bool false, .bool false, .bool false, .bool false, .bool false, .bool false, .bool false, .bool false, .bool false, .bool false, .bool false, .bool false, .bool false, .bool false, .bool false, .bool false, .bool false, .bool false, .bool false, .bool false, .bool false, .bool false, .bool false, .bool false, .bool false, .bool false, .bool false, .bool false, .bool false, .bool false, .bool false, .bool false, .bool false, .bool false, .bool false, .bool false, .bool false, .bool false, .bool false, .bool false, .bool false, .bool false, .bool false, .bool false, .bool false, .bool false, .bool false, .bool false, .bool false, .bool false, .bool false, .bool false, .bool false, .bool false, .bool false, .bool false, .bool false, .bool false, .bool false, .bool false, .bool false, .bool false, .bool false, .bool false, .bool false, .bool false, .bool false, .bool false, .bool false, .bool false, .bool false, .bool false, .bool false, .bool false, .bool false, .bool false, .bool false, .bool false, .bool false, .bool false, .bool false, .bool false, .bool false, .bool false, .bool false, .bool false, .bool false, .bool false, .bool false, .bool false, .bool false, .bool false, .bool false, .bool false, .bool false, .bool false, .bool false, .bool false, .bool false, .bool false, .bool false, .bool false, .bool false, .bool false, .bool false, .bool false, .bool false, .bool false, .bool false, .bool false, .bool false, .bool false, .bool false, .bool false, .bool false, .bool false, .bool false, .bool false, .bool false, .bool false, .bool false, .bool false, .bool false, .bool false, .bool false, .bool false, .bool false, .bool false, .bool false, .bool false, .bool false, .bool false, .bool false, .bool false, .bool false, .bool false, .bool false, .bool false, .bool false, .bool false, .bool false, .bool false, .bool false, .bool false, .bool false, .bool false, .bool false, .bool false, .bool false, .bool false, .bool false, .bool false, .bool false, .bool false, .bool false, .bool false, .bool false, .bool false, .bool false, .bool false, .bool false, .bool false, .bool false, .bool false, .bool false, .bool false, .bool false, .bool false, .bool false, .bool false, .bool false, .bool false, .bool false, .bool false, .bool false, .bool false, .bool false, .bool false, .bool false, .bool false, .bool false, .bool false, .bool false, .bool false, .bool false, .bool false, .bool false, .bool false, .bool false, .bool false, .bool false, .bool false, .bool false, .bool false, .bool false]) = some (bT fun _ => false, fun i => .pobj i 0) := rfl
theorem mk_loop (s : ByteArray) (hs : s.size < 100000) (h7 : ∀ i, i < s.size → byN s i < 128) (id : Nat) : ∀ (m n : Nat) (h : H), n + m = s.size → h.get id = some (bT (setB s n)) → h.floor ≤ id →
    ∃ e' h', Lp AP.A [0, 2, 4] AP.f127L0 [(0, .str s), (2, .pobj id 0), (4, .int .i64 n)] h = some (.exit 0, e', h') ∧ look e' 2 = .pobj id 0 ∧ h'.get id = some (bT (setB s s.size)) ∧ h'.floor = h.floor
  | 0, n, h, hn, hg, hf => by
    obtain rfl : n = s.size := by omega
    refine ⟨[(0, .str s), (2, .pobj id 0), (4, .int .i64 s.size), (9, .bool false)], h, Lp_exit ?_, rfl, hg, rfl⟩
    simp (disch := omega) only [go_sem, abin_shl, abin_shr, Nat.reduceEqDiff, reduceIte, Nat.reduceAdd, Nat.reduceMul, Nat.reduceLT, Nat.reduceLeDiff, Int.reduceBEq, Int.reduceBNe, Int.reduceLT, Int.reduceLE, Int.reduceEq, dt, df, eqt, eqf, net, nef, wi, wb, alen_str, idxs_at, tn_add, tn_nat, aix, get_hit, get_miss, set_hit, set_miss, H.floor_alloc, H.next_alloc, H.floor_set, H.next_set, stO_d, condO_t, fill_n, fill_c, fillS_s, bir_bslice, bir_alloc, bir_box, birB_s, repl_s, repl_z, List.map_cons, List.map_nil, setFrom_nil, setFrom_cons, allsc_nil, allsc_cons, Bool.and_true, Bool.true_and, Bool.and_self, List.append_nil, Option.map_some, Option.map_none, iadr_s, iadr_m, idP_s, idQ_s, bir_mksl, mkslB_s, alen_s, alen_n, alen_m, Bool.and_false, Bool.false_and, Bool.or_false, Bool.or_true, Bool.true_or, Bool.false_or, Bool.or_self, C_dregF, goD_s, goD2_t, stb_n, stb_c, stK_n, stK_c, stV_s, stB_f, beq_int, beq_bool, beq_tup0, beq_nils, beq_simm0, beq_str, beq_sobj, beq_pobj, opsD_nil, opsD_u, opsD_g, goOD_s, preD_t, preD_f, AOp.loud, AOp.births, st1_u, st1_g, Int.reduceAdd, Int.reduceSub, Int.reduceMul, Int.reduceNeg, Int.reduceToNat, eqbB_s, beq_refl, beqs_refl, stB_t, beO_s, stBv_t, stBv_p, stBv_o, st1b_alloc, st1b_box, st1b_bslice, st1b_mksl, AP.f127L0]
  | m + 1, n, h, hn, hg, hf => by
    have g2 : (h.set id (bT (setB s (n + 1)))).get id = some (bT (setB s (n + 1))) := by rw [set_hit rfl, hg]; rfl
    obtain ⟨e', h', r1, r2, r3, r4⟩ := mk_loop s hs h7 id m (n + 1) _ (by omega) g2 (by simpa using hf)
    have n1 : ((n + 1 : Nat) : Int) = (n : Int) + 1 := by omega
    have hb := byN_lt s n
    have hb7 := h7 n (by omega)
    have ia : aidx (.int .u8 (byN s n : Nat)) 256 = some (byN s n) := by rw [aixk (by omega)]; rfl
    have st : stO h id (byN s n) 1 [.bool true] (some (bT (setB s n))) = some (h.set id (bT (setB s (n + 1)))) := by rw [stO_1 hf (by rw [bT_len]; exact hb) rfl, bT_set]
    refine ⟨e', h', Lp_next ?_ r1, r2, r3, by rw [r4]; simp⟩
    rw [n1]
    generalize bT (setB s n) = T at *
    generalize bT (setB s (n + 1)) = T2 at *
    simp (disch := omega) only [go_sem, abin_shl, abin_shr, Nat.reduceEqDiff, reduceIte, Nat.reduceAdd, Nat.reduceMul, Nat.reduceLT, Nat.reduceLeDiff, Int.reduceBEq, Int.reduceBNe, Int.reduceLT, Int.reduceLE, Int.reduceEq, dt, df, eqt, eqf, net, nef, wi, wb, alen_str, idxs_at, tn_add, tn_nat, aix, get_hit, get_miss, set_hit, set_miss, H.floor_alloc, H.next_alloc, H.floor_set, H.next_set, stO_d, condO_t, fill_n, fill_c, fillS_s, bir_bslice, bir_alloc, bir_box, birB_s, repl_s, repl_z, List.map_cons, List.map_nil, setFrom_nil, setFrom_cons, allsc_nil, allsc_cons, Bool.and_true, Bool.true_and, Bool.and_self, List.append_nil, Option.map_some, Option.map_none, iadr_s, iadr_m, idP_s, idQ_s, bir_mksl, mkslB_s, alen_s, alen_n, alen_m, Bool.and_false, Bool.false_and, Bool.or_false, Bool.or_true, Bool.true_or, Bool.false_or, Bool.or_self, C_dregF, goD_s, goD2_t, stb_n, stb_c, stK_n, stK_c, stV_s, stB_f, beq_int, beq_bool, beq_tup0, beq_nils, beq_simm0, beq_str, beq_sobj, beq_pobj, opsD_nil, opsD_u, opsD_g, goOD_s, preD_t, preD_f, AOp.loud, AOp.births, st1_u, st1_g, Int.reduceAdd, Int.reduceSub, Int.reduceMul, Int.reduceNeg, Int.reduceToNat, eqbB_s, beq_refl, beqs_refl, stB_t, beO_s, stBv_t, stBv_p, stBv_o, st1b_alloc, st1b_box, st1b_bslice, st1b_mksl, AP.f127L0, ia, hg, st]
theorem stO_all {h : H} {id n : Nat} {v cs : List AV} (hf : h.floor ≤ id) (hv : v.length = n) (hc : cs.length = n) (hs : AV.allsc v = true) : stO h id 0 n v (some cs) = some (h.set id v) := by
  rw [stO_d]
  have e : setFrom cs 0 v = v := by
    have := setFrom_mid cs v [] [] (by omega)
    simpa using this
  simp [hf, hv, hc, hs, e, condO]
theorem bT_sc (P : Nat → Bool) : AV.allsc (bT P) = true := by
  have e : bT P = ((List.range 256).map P).map .bool := by unfold bT tab; rw [List.map_map]; rfl
  rw [e]
  generalize (List.range 256).map P = l
  induction l with
  | nil => rfl
  | cons b l ih => simp [ih]
theorem rdc_bT (P : Nat → Bool) : rdc true 256 (bT P) 0 = some (.agg (bT P)) := by
  simp only [rdc, if_true]
  rw [if_pos (by rw [bT_len]; omega), List.drop_zero, List.take_of_length_le (by rw [bT_len]; omega)]
theorem mkset_c (h : H) (s : ByteArray) (hs : s.size < 100000) (h7 : ∀ i, i < s.size → byN s i < 128) : callW AP.A 127 [.str s] h = some (.tup [.agg (bT (setB s s.size)), .bool true], h) := by
  obtain ⟨h1, eh1⟩ : ∃ g, g = h.fence.alloc (bT fun _ => false) := ⟨_, rfl⟩
  have g1 : h1.get h.next = some (bT (setB s 0)) := by rw [eh1, get_hit (by simp)]; rfl
  obtain ⟨e', h', r1, r2, r3, r4⟩ := mk_loop s hs h7 h.next s.size 0 h1 (by omega) g1 (by rw [eh1]; simp)
  have r1' : Lp AP.A [0, 2, 4] AP.f127L0 [(0, .str s), (2, .pobj h.next 0), (4, .int .i64 0)] h1 = some (.exit 0, e', h') := r1
  clear r1
  obtain ⟨h2, eh2⟩ : ∃ g, g = h'.set h.next (bT (setB s s.size)) := ⟨_, rfl⟩
  have st : stO h' h.next 0 256 (bT (setB s s.size)) (some (bT (setB s s.size))) = some h2 := by
    rw [stO_all (by rw [r4, eh1]; simp) (bT_len _) (bT_len _) (bT_sc _), eh2]
  have g2 : h2.get h.next = some (bT (setB s s.size)) := by rw [eh2, set_hit rfl, r3]; rfl
  have hn : h.fence.next = h.next := rfl
  have rd := rdc_bT (setB s s.size)
  refine pure_c (fn := AP.f127) (h2 := h2) (e := [(2, .pobj h.next 0), (3, .bool true)]) (vs := [.agg (bT (setB s s.size)), .bool true]) rfl rfl rfl ?_ ?_ ?_
  · generalize bT (setB s s.size) = T at *
    simp (disch := omega) only [go_sem, abin_shl, abin_shr, Nat.reduceEqDiff, reduceIte, Nat.reduceAdd, Nat.reduceMul, Nat.reduceLT, Nat.reduceLeDiff, Int.reduceBEq, Int.reduceBNe, Int.reduceLT, Int.reduceLE, Int.reduceEq, AP.f127, bir_al, hn, ← eh1, evC_loop, r1', r2, r3, rd, st]
  · simp only [AP.f127, resAll, resOf, look_hit, load_o, g2, rdO_s, rd, look_miss, ne_eq, Nat.reduceEqDiff, not_false_eq_true]
    rfl
  · show (mapO (snap h2.get h.next 15 true) [.agg (bT (setB s s.size)), .bool true]).bind _ = _
    have m1 : snap h2.get h.next 15 true (.agg (bT (setB s s.size))) = some (.agg (bT (setB s s.size))) := by
      unfold snap; rw [mapO_bT]; rfl
    simp only [mapO, m1]; rfl
theorem has_c (h : H) (id b : Nat) (P : Nat → Bool) (hg : h.get id = some (bT P)) (hb : b < 256) : callW AP.A 132 [.pobj id 0, .int .u8 b] h = some (.bool (P b), h) := by
  have ia : aidx (.int .u8 b) 256 = some b := by rw [aixk (by omega)]; congr 1
  have g := bT_get P hb
  refine plain_c (fn := AP.f132) (h2 := h) (e := [(4, .bool (P b))]) (vs := [.bool (P b)]) rfl rfl rfl ?_ rfl
  generalize bT P = T at *
  simp (disch := omega) only [go_sem, abin_shl, abin_shr, Nat.reduceEqDiff, reduceIte, Nat.reduceAdd, Nat.reduceMul, Nat.reduceLT, Nat.reduceLeDiff, Int.reduceBEq, Int.reduceBNe, Int.reduceLT, Int.reduceLE, Int.reduceEq, dt, df, eqt, eqf, net, nef, wi, wb, alen_str, idxs_at, tn_add, tn_nat, aix, get_hit, get_miss, set_hit, set_miss, H.floor_alloc, H.next_alloc, H.floor_set, H.next_set, stO_d, condO_t, fill_n, fill_c, fillS_s, bir_bslice, bir_alloc, bir_box, birB_s, repl_s, repl_z, List.map_cons, List.map_nil, setFrom_nil, setFrom_cons, allsc_nil, allsc_cons, Bool.and_true, Bool.true_and, Bool.and_self, List.append_nil, Option.map_some, Option.map_none, iadr_s, iadr_m, idP_s, idQ_s, bir_mksl, mkslB_s, alen_s, alen_n, alen_m, Bool.and_false, Bool.false_and, Bool.or_false, Bool.or_true, Bool.true_or, Bool.false_or, Bool.or_self, C_dregF, goD_s, goD2_t, stb_n, stb_c, stK_n, stK_c, stV_s, stB_f, beq_int, beq_bool, beq_tup0, beq_nils, beq_simm0, beq_str, beq_sobj, beq_pobj, opsD_nil, opsD_u, opsD_g, goOD_s, preD_t, preD_f, AOp.loud, AOp.births, st1_u, st1_g, Int.reduceAdd, Int.reduceSub, Int.reduceMul, Int.reduceNeg, Int.reduceToNat, eqbB_s, beq_refl, beqs_refl, stB_t, beO_s, stBv_t, stBv_p, stBv_o, st1b_alloc, st1b_box, st1b_bslice, st1b_mksl, AP.f132, ia, hg, g]
theorem asls_hi' {s : ByteArray} {n : Nat} (hn : n ≤ s.size) : asls (.str s) none (some (.int .i64 n)) = some (.str (s.extract 0 n)) := asls_hi hn
theorem asls_lo {s : ByteArray} {n : Nat} (hn : n ≤ s.size) : asls (.str s) (some (.int .i64 n)) none = some (.str (s.extract n s.size)) := by
  have : sbound (.int .i64 n) s.size = some n := sb_of hn
  simp [asls, osbound, this]
theorem byN_ext {s : ByteArray} {a b i : Nat} (hb : b ≤ s.size) (hi : a + i < b) : byN (s.extract a b) i = byN s (a + i) := by
  have e : (s.extract a b)[i]? = s[a + i]? := by
    show (s.extract a b).data[i]? = s.data[a + i]?
    rw [ByteArray.data_extract, Array.getElem?_extract]
    have : s.data.size = s.size := rfl
    rw [if_pos (by omega)]
  unfold byN; rw [e]
theorem size_ext {s : ByteArray} {a b : Nat} (hb : b ≤ s.size) : (s.extract a b).size = b - a := by simp [ByteArray.size_extract]; omega
theorem ext_all (s : ByteArray) : s.extract 0 s.size = s := by
  apply ByteArray.ext
  rw [ByteArray.data_extract]
  exact Array.extract_size
theorem ext_ext (s : ByteArray) {n m : Nat} (hm : m ≤ n) : (s.extract 0 n).extract 0 m = s.extract 0 m := by
  apply ByteArray.ext
  rw [ByteArray.data_extract, ByteArray.data_extract, ByteArray.data_extract, Array.extract_extract]
  simp [hm]
theorem right_loop (id : Nat) (P : Nat → Bool) (h : H) (hg : h.get id = some (bT P)) : ∀ (n : Nat) (s : ByteArray), s.size = n → n < 100000 →
    ∃ e' m, Lp AP.A [0, 1] AP.f129L0 [(0, .str s), (1, .pobj id 0)] h = some (.exit 0, e', h) ∧ look e' 0 = .str (s.extract 0 m) ∧ m ≤ s.size ∧ (∀ i, m ≤ i → i < s.size → P (byN s i) = true) ∧ (0 < m → P (byN s (m - 1)) = false)
  | 0, s, hs, hn => by
    refine ⟨[(0, .str s), (1, .pobj id 0), (7, .bool false)], 0, Lp_exit ?_, ?_, by omega, fun i h1 h2 => by omega, fun q => by omega⟩
    · simp (disch := omega) only [go_sem, abin_shl, abin_shr, Nat.reduceEqDiff, reduceIte, Nat.reduceAdd, Nat.reduceMul, Nat.reduceLT, Nat.reduceLeDiff, Int.reduceBEq, Int.reduceBNe, Int.reduceLT, Int.reduceLE, Int.reduceEq, dt, df, eqt, eqf, net, nef, wi, wb, alen_str, idxs_at, tn_add, tn_nat, aix, get_hit, get_miss, set_hit, set_miss, H.floor_alloc, H.next_alloc, H.floor_set, H.next_set, stO_d, condO_t, fill_n, fill_c, fillS_s, bir_bslice, bir_alloc, bir_box, birB_s, repl_s, repl_z, List.map_cons, List.map_nil, setFrom_nil, setFrom_cons, allsc_nil, allsc_cons, Bool.and_true, Bool.true_and, Bool.and_self, List.append_nil, Option.map_some, Option.map_none, iadr_s, iadr_m, idP_s, idQ_s, bir_mksl, mkslB_s, alen_s, alen_n, alen_m, Bool.and_false, Bool.false_and, Bool.or_false, Bool.or_true, Bool.true_or, Bool.false_or, Bool.or_self, C_dregF, goD_s, goD2_t, stb_n, stb_c, stK_n, stK_c, stV_s, stB_f, beq_int, beq_bool, beq_tup0, beq_nils, beq_simm0, beq_str, beq_sobj, beq_pobj, opsD_nil, opsD_u, opsD_g, goOD_s, preD_t, preD_f, AOp.loud, AOp.births, st1_u, st1_g, Int.reduceAdd, Int.reduceSub, Int.reduceMul, Int.reduceNeg, Int.reduceToNat, eqbB_s, beq_refl, beqs_refl, stB_t, beO_s, stBv_t, stBv_p, stBv_o, st1b_alloc, st1b_box, st1b_bslice, st1b_mksl, AP.f129L0]
    · show AV.str s = _
      congr 1
      have := ext_all s
      rw [hs] at this
      exact this.symm
  | n + 1, s, hs, hn => by
    have hb := byN_lt s n
    have k1 := has_c h id (byN s n) P hg hb
    have n1 : (s.size : Int) - 1 = (n : Int) := by omega
    have sl := asls_hi' (s := s) (n := n) (by omega)
    by_cases c : P (byN s n) = true
    · rw [c] at k1
      obtain ⟨e', m, r1, r2, r3, r4, r5⟩ := right_loop id P h hg n (s.extract 0 n) (by rw [size_ext (by omega)]; omega) (by omega)
      rw [size_ext (by omega)] at r3 r4
      refine ⟨e', m, Lp_next ?_ r1, ?_, by omega, fun i h1 h2 => ?_, fun q => ?_⟩
      · simp (disch := omega) only [go_sem, abin_shl, abin_shr, Nat.reduceEqDiff, reduceIte, Nat.reduceAdd, Nat.reduceMul, Nat.reduceLT, Nat.reduceLeDiff, Int.reduceBEq, Int.reduceBNe, Int.reduceLT, Int.reduceLE, Int.reduceEq, dt, df, eqt, eqf, net, nef, wi, wb, alen_str, idxs_at, tn_add, tn_nat, aix, get_hit, get_miss, set_hit, set_miss, H.floor_alloc, H.next_alloc, H.floor_set, H.next_set, stO_d, condO_t, fill_n, fill_c, fillS_s, bir_bslice, bir_alloc, bir_box, birB_s, repl_s, repl_z, List.map_cons, List.map_nil, setFrom_nil, setFrom_cons, allsc_nil, allsc_cons, Bool.and_true, Bool.true_and, Bool.and_self, List.append_nil, Option.map_some, Option.map_none, iadr_s, iadr_m, idP_s, idQ_s, bir_mksl, mkslB_s, alen_s, alen_n, alen_m, Bool.and_false, Bool.false_and, Bool.or_false, Bool.or_true, Bool.true_or, Bool.false_or, Bool.or_self, C_dregF, goD_s, goD2_t, stb_n, stb_c, stK_n, stK_c, stV_s, stB_f, beq_int, beq_bool, beq_tup0, beq_nils, beq_simm0, beq_str, beq_sobj, beq_pobj, opsD_nil, opsD_u, opsD_g, goOD_s, preD_t, preD_f, AOp.loud, AOp.births, st1_u, st1_g, Int.reduceAdd, Int.reduceSub, Int.reduceMul, Int.reduceNeg, Int.reduceToNat, eqbB_s, beq_refl, beqs_refl, stB_t, beO_s, stBv_t, stBv_p, stBv_o, st1b_alloc, st1b_box, st1b_bslice, st1b_mksl, AP.f129L0, n1, k1, sl]
      · rw [r2]; congr 1; exact ext_ext s r3
      · by_cases hi : i = n
        · rw [hi]; exact c
        · have := r4 i h1 (by omega)
          rwa [byN_ext (by omega) (by omega), Nat.zero_add] at this
      · have := r5 q
        rwa [byN_ext (by omega) (by omega), Nat.zero_add] at this
    · have c' : P (byN s n) = false := by simpa using c
      rw [c'] at k1
      refine ⟨[(0, .str s), (1, .pobj id 0), (15, .bool true)], s.size, Lp_exit ?_, ?_, Nat.le_refl _, fun i h1 h2 => by omega, fun q => by rw [hs]; exact c'⟩
      · simp (disch := omega) only [go_sem, abin_shl, abin_shr, Nat.reduceEqDiff, reduceIte, Nat.reduceAdd, Nat.reduceMul, Nat.reduceLT, Nat.reduceLeDiff, Int.reduceBEq, Int.reduceBNe, Int.reduceLT, Int.reduceLE, Int.reduceEq, dt, df, eqt, eqf, net, nef, wi, wb, alen_str, idxs_at, tn_add, tn_nat, aix, get_hit, get_miss, set_hit, set_miss, H.floor_alloc, H.next_alloc, H.floor_set, H.next_set, stO_d, condO_t, fill_n, fill_c, fillS_s, bir_bslice, bir_alloc, bir_box, birB_s, repl_s, repl_z, List.map_cons, List.map_nil, setFrom_nil, setFrom_cons, allsc_nil, allsc_cons, Bool.and_true, Bool.true_and, Bool.and_self, List.append_nil, Option.map_some, Option.map_none, iadr_s, iadr_m, idP_s, idQ_s, bir_mksl, mkslB_s, alen_s, alen_n, alen_m, Bool.and_false, Bool.false_and, Bool.or_false, Bool.or_true, Bool.true_or, Bool.false_or, Bool.or_self, C_dregF, goD_s, goD2_t, stb_n, stb_c, stK_n, stK_c, stV_s, stB_f, beq_int, beq_bool, beq_tup0, beq_nils, beq_simm0, beq_str, beq_sobj, beq_pobj, opsD_nil, opsD_u, opsD_g, goOD_s, preD_t, preD_f, AOp.loud, AOp.births, st1_u, st1_g, Int.reduceAdd, Int.reduceSub, Int.reduceMul, Int.reduceNeg, Int.reduceToNat, eqbB_s, beq_refl, beqs_refl, stB_t, beO_s, stBv_t, stBv_p, stBv_o, st1b_alloc, st1b_box, st1b_bslice, st1b_mksl, AP.f129L0, n1, k1]
      · show AV.str s = _
        congr 1
        exact (ext_all s).symm
theorem ext_lo (s : ByteArray) {n : Nat} (h : s.size = n + 1) : (s.extract 1 s.size).size = n := by rw [size_ext (Nat.le_refl _)]; omega
theorem left_loop (id : Nat) (P : Nat → Bool) (h : H) (hg : h.get id = some (bT P)) : ∀ (n : Nat) (s : ByteArray), s.size = n → n < 100000 → (0 < n → P (byN s (n - 1)) = false) →
    ∃ e' r, Lp AP.A [0, 1] AP.f128L0 [(0, .str s), (1, .pobj id 0)] h = some (.exit 0, e', h) ∧ look e' 0 = .str r ∧ (r.size = 0 ↔ n = 0)
  | 0, s, hs, hn, hp => by
    refine ⟨[(0, .str s), (1, .pobj id 0), (7, .bool false)], s, Lp_exit ?_, rfl, by omega⟩
    simp (disch := omega) only [go_sem, abin_shl, abin_shr, Nat.reduceEqDiff, reduceIte, Nat.reduceAdd, Nat.reduceMul, Nat.reduceLT, Nat.reduceLeDiff, Int.reduceBEq, Int.reduceBNe, Int.reduceLT, Int.reduceLE, Int.reduceEq, dt, df, eqt, eqf, net, nef, wi, wb, alen_str, idxs_at, tn_add, tn_nat, aix, get_hit, get_miss, set_hit, set_miss, H.floor_alloc, H.next_alloc, H.floor_set, H.next_set, stO_d, condO_t, fill_n, fill_c, fillS_s, bir_bslice, bir_alloc, bir_box, birB_s, repl_s, repl_z, List.map_cons, List.map_nil, setFrom_nil, setFrom_cons, allsc_nil, allsc_cons, Bool.and_true, Bool.true_and, Bool.and_self, List.append_nil, Option.map_some, Option.map_none, iadr_s, iadr_m, idP_s, idQ_s, bir_mksl, mkslB_s, alen_s, alen_n, alen_m, Bool.and_false, Bool.false_and, Bool.or_false, Bool.or_true, Bool.true_or, Bool.false_or, Bool.or_self, C_dregF, goD_s, goD2_t, stb_n, stb_c, stK_n, stK_c, stV_s, stB_f, beq_int, beq_bool, beq_tup0, beq_nils, beq_simm0, beq_str, beq_sobj, beq_pobj, opsD_nil, opsD_u, opsD_g, goOD_s, preD_t, preD_f, AOp.loud, AOp.births, st1_u, st1_g, Int.reduceAdd, Int.reduceSub, Int.reduceMul, Int.reduceNeg, Int.reduceToNat, eqbB_s, beq_refl, beqs_refl, stB_t, beO_s, stBv_t, stBv_p, stBv_o, st1b_alloc, st1b_box, st1b_bslice, st1b_mksl, AP.f128L0]
  | n + 1, s, hs, hn, hp => by
    have hb := byN_lt s 0
    have k1 := has_c h id (byN s 0) P hg hb
    have sl : asls (.str s) (some (.int .i64 1)) none = some (.str (s.extract 1 s.size)) := asls_lo (s := s) (n := 1) (by omega)
    have ix : aidxs (.str s) (.int .i64 0) = some (.int .u8 (byN s 0 : Nat)) := idxs_at (by omega)
    by_cases c : P (byN s 0) = true
    · rw [c] at k1
      have hn0 : n ≠ 0 := fun e => by subst e; have := hp (by omega); simp only [Nat.zero_add, Nat.sub_self] at this; rw [c] at this; cases this
      obtain ⟨e', r, r1, r2, r3⟩ := left_loop id P h hg n (s.extract 1 s.size) (ext_lo s hs) (by omega) (fun q => by
        rw [byN_ext (Nat.le_refl _) (by omega), show 1 + (n - 1) = n + 1 - 1 by omega]; exact hp (by omega))
      refine ⟨e', r, Lp_next ?_ r1, r2, by omega⟩
      clear hp
      simp (disch := omega) only [go_sem, abin_shl, abin_shr, Nat.reduceEqDiff, reduceIte, Nat.reduceAdd, Nat.reduceMul, Nat.reduceLT, Nat.reduceLeDiff, Int.reduceBEq, Int.reduceBNe, Int.reduceLT, Int.reduceLE, Int.reduceEq, dt, df, alen_str, AP.f128L0, k1, sl, ix, Option.map_some, Option.map_none]
    · have c' : P (byN s 0) = false := by simpa using c
      rw [c'] at k1
      refine ⟨[(0, .str s), (1, .pobj id 0), (12, .bool true)], s, Lp_exit ?_, rfl, by omega⟩
      clear hp
      simp (disch := omega) only [go_sem, abin_shl, abin_shr, Nat.reduceEqDiff, reduceIte, Nat.reduceAdd, Nat.reduceMul, Nat.reduceLT, Nat.reduceLeDiff, Int.reduceBEq, Int.reduceBNe, Int.reduceLT, Int.reduceLE, Int.reduceEq, dt, df, alen_str, AP.f128L0, k1, sl, ix, Option.map_some, Option.map_none]
def allOk (s : ByteArray) : Bool := (List.range s.size).all fun i => okB (byN s i)
theorem ofS_size : ofS.size = 39 := rfl
theorem bT_ofS : bT (setB ofS ofS.size) = bT okB := bT_of
theorem tl_c (h : H) (s : ByteArray) (id : Nat) (P : Nat → Bool) (hg : h.get id = some (bT P)) (hs : s.size < 100000) (hp : 0 < s.size → P (byN s (s.size - 1)) = false) : ∃ r, callW AP.A 128 [.str s, .pobj id 0] h = some (.str r, h) ∧ (r.size = 0 ↔ s.size = 0) := by
  obtain ⟨e', r, r1, r2, r3⟩ := left_loop id P h hg s.size s rfl hs hp
  refine ⟨r, plain_c (fn := AP.f128) (h2 := h) (e := [(4, .str r)]) (vs := [.str r]) rfl rfl rfl ?_ rfl, r3⟩
  clear hp
  simp only [go_sem, abin_shl, abin_shr, Nat.reduceEqDiff, reduceIte, Nat.reduceAdd, Nat.reduceMul, Nat.reduceLT, Nat.reduceLeDiff, Int.reduceBEq, Int.reduceBNe, Int.reduceLT, Int.reduceLE, Int.reduceEq, AP.f128, evC_loop, r1, r2]
theorem tr_c (h : H) (s : ByteArray) (id : Nat) (P : Nat → Bool) (hg : h.get id = some (bT P)) (hs : s.size < 100000) :
    ∃ m, callW AP.A 129 [.str s, .pobj id 0] h = some (.str (s.extract 0 m), h) ∧ m ≤ s.size ∧ (∀ i, m ≤ i → i < s.size → P (byN s i) = true) ∧ (0 < m → P (byN s (m - 1)) = false) := by
  obtain ⟨e', m, r1, r2, r3, r4, r5⟩ := right_loop id P h hg s.size s rfl hs
  refine ⟨m, plain_c (fn := AP.f129) (h2 := h) (e := [(4, .str (s.extract 0 m))]) (vs := [.str (s.extract 0 m)]) rfl rfl rfl ?_ rfl, r3, r4, r5⟩
  simp only [go_sem, abin_shl, abin_shr, Nat.reduceEqDiff, reduceIte, Nat.reduceAdd, Nat.reduceMul, Nat.reduceLT, Nat.reduceLeDiff, Int.reduceBEq, Int.reduceBNe, Int.reduceLT, Int.reduceLE, Int.reduceEq, AP.f129, evC_loop, r1, r2]
theorem str_ne {a b : ByteArray} (h : a ≠ b) : (a.data.toList == b.data.toList) = false := by
  rw [beq_eq_false_iff_ne]
  intro e
  apply h
  apply ByteArray.ext
  exact Array.toList_inj.1 e
theorem str_same (a : ByteArray) : (a.data.toList == a.data.toList) = true := by simp
theorem trim_c (h : H) (s : ByteArray) (h0 : 0 < s.size) (hs : s.size < 100000) : ∃ r, callW AP.A 124 [.str s, .str ofS] h = some (.str r, h) ∧ (r.size = 0 ↔ allOk s = true) := by
  have m1 := mkset_c h.fence ofS (by rw [ofS_size]; omega) (by rw [ofS_size]; decide +kernel)
  rw [bT_ofS] at m1
  obtain ⟨h1, eh1⟩ : ∃ g, g = h.fence.alloc (bT fun _ => false) := ⟨_, rfl⟩
  have hn : h.fence.next = h.next := rfl
  have g1 : h1.get h.next = some (bT fun _ => false) := by rw [eh1, get_hit (by simp)]
  obtain ⟨h2, eh2⟩ : ∃ g, g = h1.set h.next (bT okB) := ⟨_, rfl⟩
  have st : stO h1 h.next 0 256 (bT okB) (some (bT fun _ => false)) = some h2 := by
    rw [stO_all (by rw [eh1]; simp) (bT_len _) (bT_len _) (bT_sc _), eh2]
  have g2 : h2.get h.next = some (bT okB) := by rw [eh2, set_hit rfl, g1]; rfl
  obtain ⟨m, a1, a2, a3, a4⟩ := tr_c h2 s h.next okB g2 hs
  have sz := size_ext (s := s) (a := 0) (b := m) a2
  obtain ⟨r, b1, b2⟩ := tl_c h2 (s.extract 0 m) h.next okB g2 (by omega) (fun q => by
    rw [sz, Nat.sub_zero, byN_ext a2 (by omega), Nat.zero_add]; exact a4 (by omega))
  refine ⟨r, ?_, ?_⟩
  · have e1 : abin .eql (.str s) (.str ⟨#[]⟩) = some (.bool false) := by
      rw [str_eql, str_ne]; intro e; rw [e] at h0; exact absurd h0 (by decide)
    have e2 : abin .eql (.str ofS) (.str ⟨#[]⟩) = some (.bool false) := by
      rw [str_eql, str_ne]; intro e; have := ofS_size; rw [e] at this; exact absurd this (by decide)
    have l2 : alen true (.str ofS) = some (.int .i64 39) := rfl
    refine pure_c (fn := AP.f124) (h2 := h2) (e := [(4, .str r)]) rfl rfl rfl ?_ rfl rfl
    clear a3 a4
    generalize bT okB = T at *
    generalize hT : (bT fun _ => false) = T0 at *
    have ba : ∀ e : Env, birth e (.alloc [.bool false, .bool false, .bool false, .bool false, .bool false, .bool false, .bool false, .bool false, .bool false, .bool false, .bool false, .bool false, .bool false, .bool false, .bool false, .bool false, .bool false, .bool false, .bool false, .bool false, .bool false, .bool false, .bool false, .bool false, .bool false, .bool false, .bool false, .bool false, .bool false, .bool false, .bool false, .bool false, .bool false, .bool false, .bool false, .bool false, .bool false, .bool false, .bool false, .bool false, .bool false, .bool false, .bool false, .bool false, .bool false, .bool false, .bool false, .bool false, .bool false, .bool false, .bool false, .bool false, .bool false, .bool false, .bool false, .bool false, .bool false, .bool false, .bool false, .bool false, .bool false, .bool false, .bool false, .bool false, .bool false, .bool false, .bool false, .bool false, .bool false, .bool false, .bool false, .bool false, .bool false, .bool false, .bool false, .bool false, .bool false, .bool false, .bool false, .bool false, .bool false, .bool false, .bool false, .bool false, .bool false, .bool false, .bool false, .bool false, .bool false, .bool false, .bool false, .bool false, .bool false, .bool false, .bool false, .bool false, .bool false, .bool false, .bool false, .bool false, .bool false, .bool false, .bool false, .bool false, .bool false, .bool false, .bool false, .bool false, .bool false, .bool false, .bool false, .bool false, .bool false, .bool false, .bool false, .bool false, .bool false, .bool false, .bool false, .bool false, .bool false, .bool false, .bool false, .bool false, .bool false, .bool false, .bool false, .bool false, .bool false, .bool false, .bool false, .bool false, .bool false, .bool false, .bool false, .bool false, .bool false, .bool false, .bool false, .bool false, .bool false, .bool false, .bool false, .bool false, .bool false, .bool false, .bool false, .bool false, .bool false, .bool false, .bool false, .bool false, .bool false, .bool false, .bool false, .bool false, .bool false, .bool false, .bool false, .bool false, .bool false, .bool false, .bool false, .bool false, .bool false, .bool false, .bool false, .bool false, .bool false, .bool false, .bool false, .bool false, .bool false, .bool false, .bool false, .bool false, .bool false, .bool false, .bool false, .bool false, .bool false, .bool false, .bool false, .bool false, .bool false, .bool false, .bool false, .bool false, .bool false, .bool false, .bool false, .bool false, .bool false, .bool false, .bool false, .bool false, .bool false, .bool false, .bool false, .bool false, .bool false, .bool false, .bool false, .bool false, .bool false, .bool false, .bool false, .bool false, .bool false, .bool false, .bool false, .bool false, .bool false, .bool false, .bool false, .bool false, .bool false, .bool false, .bool false, .bool false, .bool false, .bool false, .bool false, .bool false, .bool false, .bool false, .bool false, .bool false, .bool false, .bool false, .bool false, .bool false, .bool false, .bool false, .bool false, .bool false, .bool false, .bool false, .bool false, .bool false, .bool false, .bool false, .bool false, .bool false, .bool false, .bool false, .bool false, .bool false, .bool false, .bool false, .bool false, .bool false, .bool false, .bool false, .bool false, .bool false]) = some (T0, fun i => .pobj i 0) := fun e => by rw [bir_al, hT]
    simp (disch := omega) only [go_sem, abin_shl, abin_shr, Nat.reduceEqDiff, reduceIte, Nat.reduceAdd, Nat.reduceMul, Nat.reduceLT, Nat.reduceLeDiff, Int.reduceBEq, Int.reduceBNe, Int.reduceLT, Int.reduceLE, Int.reduceEq, AP.f124, ba, hn, ← eh1, e1, e2, l2, eqf, m1, g1, st, a1, b1]
  · rw [b2, sz]
    unfold allOk
    rw [List.all_eq_true]
    constructor
    · intro q i hi
      exact a3 i (by omega) (List.mem_range.1 hi)
    · intro q
      by_cases hm : m = 0
      · omega
      · have := a4 (by omega)
        rw [q (m - 1) (List.mem_range.2 (by omega))] at this
        cases this
def dotS : ByteArray := ⟨#[46]⟩
def dotsS : ByteArray := ⟨#[46, 46]⟩
def nameA (s : ByteArray) : Bool := decide (1 ≤ s.size) && (decide (s.size ≤ 8) && (allOk s && (!(s.data.toList == dotS.data.toList) && !(s.data.toList == dotsS.data.toList))))
theorem name_c (h : H) (s : ByteArray) (hs : s.size < 1125899906842624) : callW AP.A 121 [.str s] h = some (.bool (nameA s), h) := by
  refine pure_c (fn := AP.f121) (h2 := h.fence) (e := [(2, .bool (nameA s))]) rfl rfl rfl ?_ rfl rfl
  unfold nameA
  by_cases c1 : 1 ≤ s.size
  · by_cases c2 : s.size ≤ 8
    · obtain ⟨r, t1, t2⟩ := trim_c h.fence s (by omega) (by omega)
      have t1' : callW AP.A 124 [.str s, .str ⟨#[97, 98, 99, 100, 101, 102, 103, 104, 105, 106, 107, 108, 109, 110, 111, 112, 113, 114, 115, 116, 117, 118, 119, 120, 121, 122, 48, 49, 50, 51, 52, 53, 54, 55, 56, 57, 46, 45, 95]⟩] h.fence = some (.str r, h.fence) := t1
      have e1 : abin .eql (.str r) (.str ⟨#[]⟩) = some (.bool (allOk s)) := by
        rw [str_eql]
        by_cases q : allOk s = true
        · rw [q]
          have : r = ⟨#[]⟩ := by
            apply ByteArray.ext
            exact Array.size_eq_zero_iff.1 (t2.2 q)
          rw [this, str_same]
        · have q' : allOk s = false := by simpa using q
          rw [q', str_ne]
          intro e
          rw [e] at t2
          exact q (t2.1 rfl)
      have e2 : abin .neq (.str s) (.str ⟨#[46]⟩) = some (.bool (!(s.data.toList == dotS.data.toList))) := str_neq _ _
      have e3 : abin .neq (.str s) (.str ⟨#[46, 46]⟩) = some (.bool (!(s.data.toList == dotsS.data.toList))) := str_neq _ _
      clear t1 t2
      generalize (!(s.data.toList == dotS.data.toList)) = B2 at *
      generalize (!(s.data.toList == dotsS.data.toList)) = B3 at *
      generalize allOk s = B1 at *
      cases B1 <;> cases B2 <;> cases B3 <;> simp (disch := omega) only [go_sem, abin_shl, abin_shr, Nat.reduceEqDiff, reduceIte, Nat.reduceAdd, Nat.reduceMul, Nat.reduceLT, Nat.reduceLeDiff, Int.reduceBEq, Int.reduceBNe, Int.reduceLT, Int.reduceLE, Int.reduceEq, dt, df, eqt, eqf, net, nef, wi, wb, alen_str, idxs_at, tn_add, tn_nat, aix, get_hit, get_miss, set_hit, set_miss, H.floor_alloc, H.next_alloc, H.floor_set, H.next_set, stO_d, condO_t, fill_n, fill_c, fillS_s, bir_bslice, bir_alloc, bir_box, birB_s, repl_s, repl_z, List.map_cons, List.map_nil, setFrom_nil, setFrom_cons, allsc_nil, allsc_cons, Bool.and_true, Bool.true_and, Bool.and_self, List.append_nil, Option.map_some, Option.map_none, iadr_s, iadr_m, idP_s, idQ_s, bir_mksl, mkslB_s, alen_s, alen_n, alen_m, Bool.and_false, Bool.false_and, Bool.or_false, Bool.or_true, Bool.true_or, Bool.false_or, Bool.or_self, C_dregF, goD_s, goD2_t, stb_n, stb_c, stK_n, stK_c, stV_s, stB_f, beq_int, beq_bool, beq_tup0, beq_nils, beq_simm0, beq_str, beq_sobj, beq_pobj, opsD_nil, opsD_u, opsD_g, goOD_s, preD_t, preD_f, AOp.loud, AOp.births, st1_u, st1_g, Int.reduceAdd, Int.reduceSub, Int.reduceMul, Int.reduceNeg, Int.reduceToNat, eqbB_s, beq_refl, beqs_refl, stB_t, beO_s, stBv_t, stBv_p, stBv_o, st1b_alloc, st1b_box, st1b_bslice, st1b_mksl, AP.f121, t1', e1, e2, e3]
    · simp (disch := omega) only [go_sem, abin_shl, abin_shr, Nat.reduceEqDiff, reduceIte, Nat.reduceAdd, Nat.reduceMul, Nat.reduceLT, Nat.reduceLeDiff, Int.reduceBEq, Int.reduceBNe, Int.reduceLT, Int.reduceLE, Int.reduceEq, dt, df, eqt, eqf, net, nef, wi, wb, alen_str, idxs_at, tn_add, tn_nat, aix, get_hit, get_miss, set_hit, set_miss, H.floor_alloc, H.next_alloc, H.floor_set, H.next_set, stO_d, condO_t, fill_n, fill_c, fillS_s, bir_bslice, bir_alloc, bir_box, birB_s, repl_s, repl_z, List.map_cons, List.map_nil, setFrom_nil, setFrom_cons, allsc_nil, allsc_cons, Bool.and_true, Bool.true_and, Bool.and_self, List.append_nil, Option.map_some, Option.map_none, iadr_s, iadr_m, idP_s, idQ_s, bir_mksl, mkslB_s, alen_s, alen_n, alen_m, Bool.and_false, Bool.false_and, Bool.or_false, Bool.or_true, Bool.true_or, Bool.false_or, Bool.or_self, C_dregF, goD_s, goD2_t, stb_n, stb_c, stK_n, stK_c, stV_s, stB_f, beq_int, beq_bool, beq_tup0, beq_nils, beq_simm0, beq_str, beq_sobj, beq_pobj, opsD_nil, opsD_u, opsD_g, goOD_s, preD_t, preD_f, AOp.loud, AOp.births, st1_u, st1_g, Int.reduceAdd, Int.reduceSub, Int.reduceMul, Int.reduceNeg, Int.reduceToNat, eqbB_s, beq_refl, beqs_refl, stB_t, beO_s, stBv_t, stBv_p, stBv_o, st1b_alloc, st1b_box, st1b_bslice, st1b_mksl, AP.f121]
  · simp (disch := omega) only [go_sem, abin_shl, abin_shr, Nat.reduceEqDiff, reduceIte, Nat.reduceAdd, Nat.reduceMul, Nat.reduceLT, Nat.reduceLeDiff, Int.reduceBEq, Int.reduceBNe, Int.reduceLT, Int.reduceLE, Int.reduceEq, dt, df, eqt, eqf, net, nef, wi, wb, alen_str, idxs_at, tn_add, tn_nat, aix, get_hit, get_miss, set_hit, set_miss, H.floor_alloc, H.next_alloc, H.floor_set, H.next_set, stO_d, condO_t, fill_n, fill_c, fillS_s, bir_bslice, bir_alloc, bir_box, birB_s, repl_s, repl_z, List.map_cons, List.map_nil, setFrom_nil, setFrom_cons, allsc_nil, allsc_cons, Bool.and_true, Bool.true_and, Bool.and_self, List.append_nil, Option.map_some, Option.map_none, iadr_s, iadr_m, idP_s, idQ_s, bir_mksl, mkslB_s, alen_s, alen_n, alen_m, Bool.and_false, Bool.false_and, Bool.or_false, Bool.or_true, Bool.true_or, Bool.false_or, Bool.or_self, C_dregF, goD_s, goD2_t, stb_n, stb_c, stK_n, stK_c, stV_s, stB_f, beq_int, beq_bool, beq_tup0, beq_nils, beq_simm0, beq_str, beq_sobj, beq_pobj, opsD_nil, opsD_u, opsD_g, goOD_s, preD_t, preD_f, AOp.loud, AOp.births, st1_u, st1_g, Int.reduceAdd, Int.reduceSub, Int.reduceMul, Int.reduceNeg, Int.reduceToNat, eqbB_s, beq_refl, beqs_refl, stB_t, beO_s, stBv_t, stBv_p, stBv_o, st1b_alloc, st1b_box, st1b_bslice, st1b_mksl, AP.f121]
end Ab
set_option linter.unusedSimpArgs false
set_option linter.unusedVariables false
set_option maxRecDepth 100000
namespace Ab
open Go
structure Tok where
  lit : Int
  len : Int
  dist : Int
deriving DecidableEq
end Ab
set_option linter.unusedSimpArgs false
set_option linter.unusedVariables false
namespace Ab
open Go
structure FC where
  f : Nat
  text : ByteArray
  most : Int
structure Ft (c : FC) (S : SS) (h : H) (ov : AV) : Prop where
  gf : h.get c.f = some [.str c.text, I S.at_, ov, I c.most, I S.e]
  own : Own h ov (bys S.out)
  ff : h.floor ≤ c.f
  of : ov.id? ≠ some c.f
  nx : h.floor ≤ h.next
  sz : c.text.size < 1125899906842624
  at_le : S.at_ ≤ 8 * c.text.size
  ol : (S.out.length : Int) ≤ c.most
  ml : c.most ≤ 900000
structure FF (c : FC) (h : H) (ov : AV) (h' : H) (ov' : AV) : Prop where
  fl : h'.floor = h.floor
  nx : h.next ≤ h'.next
  oth : ∀ id, id < h.next → id ≠ c.f → ov.id? ≠ some id → h'.get id = h.get id
  nb : ∀ i, ov'.id? = some i → ov.id? = some i ∨ h.next ≤ i
theorem FF.refl (c : FC) (h : H) (ov : AV) : FF c h ov h ov := ⟨rfl, Nat.le_refl _, fun _ _ _ _ => rfl, fun _ q => .inl q⟩
theorem FF.trans {c : FC} {h1 h2 h3 : H} {o1 o2 o3 : AV} (a : FF c h1 o1 h2 o2) (b : FF c h2 o2 h3 o3) : FF c h1 o1 h3 o3 := by
  refine ⟨b.fl.trans a.fl, Nat.le_trans a.nx b.nx, fun id h4 h5 h7 => ?_, fun i hi => ?_⟩
  · rw [b.oth id (Nat.lt_of_lt_of_le h4 a.nx) h5 (fun q => ?_), a.oth id h4 h5 h7]
    rcases a.nb id q with q | q
    · exact h7 q
    · omega
  · rcases b.nb i hi with q | q
    · exact a.nb i q
    · exact .inr (Nat.le_trans a.nx q)
theorem Ft.keep {c : FC} {S : SS} {h h' : H} {ov : AV} (st : Ft c S h ov) (hf : h'.floor = h.floor) (hn : h.next ≤ h'.next) (hg : ∀ i, i = c.f ∨ ov.id? = some i → h'.get i = h.get i) : Ft c S h' ov :=
  ⟨by rw [hg _ (.inl rfl)]; exact st.gf, st.own.mono hf fun i hi => hg i (.inr hi), by rw [hf]; exact st.ff, st.of, by rw [hf]; exact Nat.le_trans st.nx hn, st.sz, st.at_le, st.ol, st.ml⟩
theorem Ft.lt {c : FC} {S : SS} {h : H} {ov : AV} (st : Ft c S h ov) {i : Nat} (hi : i = c.f ∨ ov.id? = some i) : i < h.next := by
  rcases hi with rfl | hi
  · exact h.lt _ _ st.gf
  · exact st.own.lt hi
theorem Ft.alloc {c : FC} {S : SS} {h : H} {ov : AV} (st : Ft c S h ov) (cs : List AV) : Ft c S (h.alloc cs) ov ∧ FF c h ov (h.alloc cs) ov := by
  refine ⟨st.keep (by simp) (by simp) fun i hi => ?_, ⟨by simp, by simp, fun id h1 _ _ => ?_, fun _ q => .inl q⟩⟩
  · have := st.lt hi; rw [H.get_alloc, if_neg (by omega)]
  · rw [H.get_alloc, if_neg (by omega)]
end Ab
set_option linter.unusedSimpArgs false
set_option linter.unusedVariables false
namespace Ab
open Go
structure Bkr (h0 h : H) (b : Nat) (D : Nat → AV) (k : Nat) (p S0 : List Int) : Prop where
  get : h.get b = some (tab 17 D)
  fl : h.floor = h0.next
  fb : h0.next ≤ b
  nx : h.floor ≤ h.next
  low : ∀ id, id < h0.next → h.get id = h0.get id
  ck : D k = I (cnt p k)
  own : Own h (D 16) (ints (S0 ++ syms p k))
  nb : (D 16).id? ≠ some b
end Ab
set_option linter.unusedSimpArgs false
set_option linter.unusedVariables false
namespace Ab
open Go
end Ab
set_option linter.unusedSimpArgs false
set_option linter.unusedVariables false
namespace Ab
open Go
end Ab
set_option linter.unusedSimpArgs false
set_option linter.unusedVariables false
set_option maxRecDepth 100000
namespace Ab
open Go
def Ext (h g : H) : Prop := ∀ id c, h.get id = some c → g.get id = some c
theorem Ext.refl (h : H) : Ext h h := fun _ _ q => q
theorem Ext.trans {a b c : H} (x : Ext a b) (y : Ext b c) : Ext a c := fun i d q => y i d (x i d q)
theorem Ext.alloc {a h : H} (x : Ext a h) (cs : List AV) : Ext a (h.alloc cs) := fun i d q => by
  have := h.lt _ _ (x i d q)
  rw [H.get_alloc, if_neg (by omega)]; exact x i d q
theorem Ext.set {a h : H} (x : Ext a h) {id : Nat} (hid : a.next ≤ id) (cs : List AV) : Ext a (h.set id cs) := fun i d q => by
  have := a.lt _ _ q
  rw [H.get_set, if_neg (by omega)]; exact x i d q
end Ab
set_option linter.unusedSimpArgs false
set_option linter.unusedVariables false
set_option maxRecDepth 100000
namespace Ab
open Go
def countA (n : Int) : Bool := decide (0 ≤ n) && decide (n ≤ 1048576)
theorem count_c (h : H) (n : Int) : callW AP.A 119 [.int .i64 n] h = some (.bool (countA n), h) := by
  refine pure_c (fn := AP.f119) (h2 := h.fence) (e := [(2, .bool (countA n))]) rfl rfl rfl ?_ rfl rfl
  unfold countA
  by_cases c1 : 0 ≤ n <;> by_cases c2 : n ≤ 1048576 <;> simp (disch := omega) only [go_sem, abin_shl, abin_shr, Nat.reduceEqDiff, reduceIte, Nat.reduceAdd, Nat.reduceMul, Nat.reduceLT, Nat.reduceLeDiff, Int.reduceBEq, Int.reduceBNe, Int.reduceLT, Int.reduceLE, Int.reduceEq, dt, df, eqt, eqf, net, nef, wi, wb, alen_str, idxs_at, tn_add, tn_nat, aix, get_hit, get_miss, set_hit, set_miss, H.floor_alloc, H.next_alloc, H.floor_set, H.next_set, stO_d, condO_t, fill_n, fill_c, fillS_s, bir_bslice, bir_alloc, bir_box, birB_s, repl_s, repl_z, List.map_cons, List.map_nil, setFrom_nil, setFrom_cons, allsc_nil, allsc_cons, Bool.and_true, Bool.true_and, Bool.and_self, List.append_nil, Option.map_some, Option.map_none, iadr_s, iadr_m, idP_s, idQ_s, bir_mksl, mkslB_s, alen_s, alen_n, alen_m, Bool.and_false, Bool.false_and, Bool.or_false, Bool.or_true, Bool.true_or, Bool.false_or, Bool.or_self, C_dregF, goD_s, goD2_t, stb_n, stb_c, stK_n, stK_c, stV_s, stB_f, beq_int, beq_bool, beq_tup0, beq_nils, beq_simm0, beq_str, beq_sobj, beq_pobj, opsD_nil, opsD_u, opsD_g, goOD_s, preD_t, preD_f, AOp.loud, AOp.births, st1_u, st1_g, Int.reduceAdd, Int.reduceSub, Int.reduceMul, Int.reduceNeg, Int.reduceToNat, eqbB_s, beq_refl, beqs_refl, stB_t, beO_s, stBv_t, stBv_p, stBv_o, st1b_alloc, st1b_box, st1b_bslice, st1b_mksl, AP.f119]
def nodeA (n : Int) : Bool := decide (0 ≤ n) && decide (n < 4)
theorem node_c (h : H) (n : Int) : callW AP.A 120 [.int .i64 n] h = some (.bool (nodeA n), h) := by
  refine pure_c (fn := AP.f120) (h2 := h.fence) (e := [(2, .bool (nodeA n))]) rfl rfl rfl ?_ rfl rfl
  unfold nodeA
  by_cases c1 : 0 ≤ n <;> by_cases c2 : n < 4 <;> simp (disch := omega) only [go_sem, abin_shl, abin_shr, Nat.reduceEqDiff, reduceIte, Nat.reduceAdd, Nat.reduceMul, Nat.reduceLT, Nat.reduceLeDiff, Int.reduceBEq, Int.reduceBNe, Int.reduceLT, Int.reduceLE, Int.reduceEq, dt, df, eqt, eqf, net, nef, wi, wb, alen_str, idxs_at, tn_add, tn_nat, aix, get_hit, get_miss, set_hit, set_miss, H.floor_alloc, H.next_alloc, H.floor_set, H.next_set, stO_d, condO_t, fill_n, fill_c, fillS_s, bir_bslice, bir_alloc, bir_box, birB_s, repl_s, repl_z, List.map_cons, List.map_nil, setFrom_nil, setFrom_cons, allsc_nil, allsc_cons, Bool.and_true, Bool.true_and, Bool.and_self, List.append_nil, Option.map_some, Option.map_none, iadr_s, iadr_m, idP_s, idQ_s, bir_mksl, mkslB_s, alen_s, alen_n, alen_m, Bool.and_false, Bool.false_and, Bool.or_false, Bool.or_true, Bool.true_or, Bool.false_or, Bool.or_self, C_dregF, goD_s, goD2_t, stb_n, stb_c, stK_n, stK_c, stV_s, stB_f, beq_int, beq_bool, beq_tup0, beq_nils, beq_simm0, beq_str, beq_sobj, beq_pobj, opsD_nil, opsD_u, opsD_g, goOD_s, preD_t, preD_f, AOp.loud, AOp.births, st1_u, st1_g, Int.reduceAdd, Int.reduceSub, Int.reduceMul, Int.reduceNeg, Int.reduceToNat, eqbB_s, beq_refl, beqs_refl, stB_t, beO_s, stBv_t, stBv_p, stBv_o, st1b_alloc, st1b_box, st1b_bslice, st1b_mksl, AP.f120]
def uncount (v : AV) : Bool := match v with | .int .i64 n => !countA n | _ => false
theorem uncount_c (h : H) (n : Int) : callW AP.A 123 [.int .i64 n] h = some (.bool (!countA n), h) := by
  have k1 := count_c h.fence n
  refine pure_c (fn := AP.f123) (h2 := h.fence) (e := [(2, .bool (!countA n))]) rfl rfl rfl ?_ rfl rfl
  simp (disch := omega) only [go_sem, abin_shl, abin_shr, Nat.reduceEqDiff, reduceIte, Nat.reduceAdd, Nat.reduceMul, Nat.reduceLT, Nat.reduceLeDiff, Int.reduceBEq, Int.reduceBNe, Int.reduceLT, Int.reduceLE, Int.reduceEq, dt, df, eqt, eqf, net, nef, wi, wb, alen_str, idxs_at, tn_add, tn_nat, aix, get_hit, get_miss, set_hit, set_miss, H.floor_alloc, H.next_alloc, H.floor_set, H.next_set, stO_d, condO_t, fill_n, fill_c, fillS_s, bir_bslice, bir_alloc, bir_box, birB_s, repl_s, repl_z, List.map_cons, List.map_nil, setFrom_nil, setFrom_cons, allsc_nil, allsc_cons, Bool.and_true, Bool.true_and, Bool.and_self, List.append_nil, Option.map_some, Option.map_none, iadr_s, iadr_m, idP_s, idQ_s, bir_mksl, mkslB_s, alen_s, alen_n, alen_m, Bool.and_false, Bool.false_and, Bool.or_false, Bool.or_true, Bool.true_or, Bool.false_or, Bool.or_self, C_dregF, goD_s, goD2_t, stb_n, stb_c, stK_n, stK_c, stV_s, stB_f, beq_int, beq_bool, beq_tup0, beq_nils, beq_simm0, beq_str, beq_sobj, beq_pobj, opsD_nil, opsD_u, opsD_g, goOD_s, preD_t, preD_f, AOp.loud, AOp.births, st1_u, st1_g, Int.reduceAdd, Int.reduceSub, Int.reduceMul, Int.reduceNeg, Int.reduceToNat, eqbB_s, beq_refl, beqs_refl, stB_t, beO_s, stBv_t, stBv_p, stBv_o, st1b_alloc, st1b_box, st1b_bslice, st1b_mksl, AP.f123, k1]
def vecA (l : List Int) : Bool := decide (l.length = 4) && l.all countA
theorem any_uncount : ∀ l : List Int, (ints l).any uncount = !l.all countA
  | [] => rfl
  | n :: l => by
    have := any_uncount l
    simp only [ints, List.map_cons, List.any_cons, List.all_cons, Bool.not_and] at *
    rw [this]; rfl
theorem vec_c (h : H) (v : AV) (l : List Int) (rd : Rd h v (ints l)) (hl : l.length < 1125899906842624) : callW AP.A 117 [v] h = some (.bool (vecA l), h) := by
  have rd' := rd.mono (get_fence_mono h)
  have ln := rd'.len
  rw [ints_length] at ln
  simp only [I] at ln
  refine pure_c (fn := AP.f117) (h2 := h.fence) (e := [(2, .bool (vecA l))]) rfl rfl rfl ?_ rfl rfl
  unfold vecA
  by_cases c : l.length = 4
  · have k1 := contains_c (fv := .fn 123 [] []) uncount (fun x hx g => by
      obtain ⟨n, hn, rfl⟩ := List.mem_map.1 hx
      rw [callF_s]; exact uncount_c g n) (by simp; omega) h.fence rd'
    rw [any_uncount] at k1
    have c' : (l.length : Int) = 4 := by omega
    simp (disch := omega) only [go_sem, abin_shl, abin_shr, Nat.reduceEqDiff, reduceIte, Nat.reduceAdd, Nat.reduceMul, Nat.reduceLT, Nat.reduceLeDiff, Int.reduceBEq, Int.reduceBNe, Int.reduceLT, Int.reduceLE, Int.reduceEq, dt, df, eqt, eqf, net, nef, wi, wb, alen_str, idxs_at, tn_add, tn_nat, aix, get_hit, get_miss, set_hit, set_miss, H.floor_alloc, H.next_alloc, H.floor_set, H.next_set, stO_d, condO_t, fill_n, fill_c, fillS_s, bir_bslice, bir_alloc, bir_box, birB_s, repl_s, repl_z, List.map_cons, List.map_nil, setFrom_nil, setFrom_cons, allsc_nil, allsc_cons, Bool.and_true, Bool.true_and, Bool.and_self, List.append_nil, Option.map_some, Option.map_none, iadr_s, iadr_m, idP_s, idQ_s, bir_mksl, mkslB_s, alen_s, alen_n, alen_m, Bool.and_false, Bool.false_and, Bool.or_false, Bool.or_true, Bool.true_or, Bool.false_or, Bool.or_self, C_dregF, goD_s, goD2_t, stb_n, stb_c, stK_n, stK_c, stV_s, stB_f, beq_int, beq_bool, beq_tup0, beq_nils, beq_simm0, beq_str, beq_sobj, beq_pobj, opsD_nil, opsD_u, opsD_g, goOD_s, preD_t, preD_f, AOp.loud, AOp.births, st1_u, st1_g, Int.reduceAdd, Int.reduceSub, Int.reduceMul, Int.reduceNeg, Int.reduceToNat, eqbB_s, beq_refl, beqs_refl, stB_t, beO_s, stBv_t, stBv_p, stBv_o, st1b_alloc, st1b_box, st1b_bslice, st1b_mksl, AP.f117, ln, k1, Bool.not_not]
  · have c' : ¬ (l.length : Int) = 4 := by omega
    simp (disch := omega) only [go_sem, abin_shl, abin_shr, Nat.reduceEqDiff, reduceIte, Nat.reduceAdd, Nat.reduceMul, Nat.reduceLT, Nat.reduceLeDiff, Int.reduceBEq, Int.reduceBNe, Int.reduceLT, Int.reduceLE, Int.reduceEq, dt, df, eqt, eqf, net, nef, wi, wb, alen_str, idxs_at, tn_add, tn_nat, aix, get_hit, get_miss, set_hit, set_miss, H.floor_alloc, H.next_alloc, H.floor_set, H.next_set, stO_d, condO_t, fill_n, fill_c, fillS_s, bir_bslice, bir_alloc, bir_box, birB_s, repl_s, repl_z, List.map_cons, List.map_nil, setFrom_nil, setFrom_cons, allsc_nil, allsc_cons, Bool.and_true, Bool.true_and, Bool.and_self, List.append_nil, Option.map_some, Option.map_none, iadr_s, iadr_m, idP_s, idQ_s, bir_mksl, mkslB_s, alen_s, alen_n, alen_m, Bool.and_false, Bool.false_and, Bool.or_false, Bool.or_true, Bool.true_or, Bool.false_or, Bool.or_self, C_dregF, goD_s, goD2_t, stb_n, stb_c, stK_n, stK_c, stV_s, stB_f, beq_int, beq_bool, beq_tup0, beq_nils, beq_simm0, beq_str, beq_sobj, beq_pobj, opsD_nil, opsD_u, opsD_g, goOD_s, preD_t, preD_f, AOp.loud, AOp.births, st1_u, st1_g, Int.reduceAdd, Int.reduceSub, Int.reduceMul, Int.reduceNeg, Int.reduceToNat, eqbB_s, beq_refl, beqs_refl, stB_t, beO_s, stBv_t, stBv_p, stBv_o, st1b_alloc, st1b_box, st1b_bslice, st1b_mksl, AP.f117, ln]
theorem Rd.ints_at {h : H} {v : AV} {l : List Int} (r : Rd h v (ints l)) : ∃ ad : Int → AV, (∀ i : Int, 0 ≤ i ∧ i < l.length → aiadr 1 v (.int .i64 i) = some (ad i)) ∧
    ∀ g : H, Ext h g → ∀ (i : Nat) (n : Int), l[i]? = some n → aload false 1 (ad i) g = some (.int .i64 n) := by
  have r2 := r.rdN
  rw [ints_length] at r2
  obtain ⟨ad, a1, _, _, a3⟩ := r2.at_
  refine ⟨fun i => ad i 0, a1, fun g hg i n hn => ?_⟩
  have hi : i < l.length := (List.getElem?_eq_some_iff.1 hn).1
  refine (a3 g hg).1 i 0 _ ⟨by omega, by omega⟩ ?_
  rw [tn_nat, Nat.mul_one, Nat.add_zero]
  exact ints_get hn
structure Ent where
  name : ByteArray
  gone : Bool
  vec : List Int
  stamp : Int
  node : Int
  method : Int
  packed : ByteArray
  size : Int
  crc : Int
def entC (e : Ent) (v : AV) : List AV := [.str e.name, .bool e.gone, v, .int .i64 e.stamp, .int .i64 e.node, .int .i64 e.method, .str e.packed, .int .i64 e.size, .int .i64 e.crc]
def headA (e : Ent) : Bool := vecA e.vec && (decide (1 ≤ e.stamp) && (countA e.stamp && nodeA e.node))
structure PE (h : H) (p : AV) (cs : List AV) : Prop where
  nil : ∀ g : H, nilcB g p = some (p, g)
  fld : ∃ q : Nat → AV, (∀ k, afadr k p = some (q k)) ∧ ∀ g : H, Ext h g → ∀ (k : Nat) (c : AV), cs[k]? = some c → aload false 1 (q k) g = some c
theorem head_c (h : H) (p v : AV) (e : Ent) (pe : PE h p (entC e v)) (rd : Rd h v (ints e.vec)) (hl : e.vec.length < 1125899906842624) : callW AP.A 112 [p] h = some (.bool (headA e), h) := by
  have nl := pe.nil
  obtain ⟨q, f1, f2⟩ := pe.fld
  have l2 := f2 h (Ext.refl h) 2 v rfl
  have l3 := f2 h (Ext.refl h) 3 _ rfl
  have l4 := f2 h (Ext.refl h) 4 _ rfl
  have k1 := vec_c h v e.vec rd hl
  have k2 := count_c h e.stamp
  have k3 := node_c h e.node
  have c2 : countA e.stamp = true → 1 ≤ e.stamp → True := fun _ _ => trivial
  refine plain_c (fn := AP.f112) (h2 := h) (e := [(2, .bool (headA e))]) (vs := [.bool (headA e)]) rfl rfl rfl ?_ rfl
  unfold headA
  clear pe f2 rd c2
  generalize vecA e.vec = B1 at *
  generalize countA e.stamp = B2 at *
  generalize nodeA e.node = B3 at *
  by_cases c1 : 1 ≤ e.stamp <;> cases B1 <;> cases B2 <;> cases B3 <;> simp (disch := omega) only [go_sem, abin_shl, abin_shr, Nat.reduceEqDiff, reduceIte, Nat.reduceAdd, Nat.reduceMul, Nat.reduceLT, Nat.reduceLeDiff, Int.reduceBEq, Int.reduceBNe, Int.reduceLT, Int.reduceLE, Int.reduceEq, dt, df, eqt, eqf, net, nef, wi, wb, alen_str, idxs_at, tn_add, tn_nat, aix, get_hit, get_miss, set_hit, set_miss, H.floor_alloc, H.next_alloc, H.floor_set, H.next_set, stO_d, condO_t, fill_n, fill_c, fillS_s, bir_bslice, bir_alloc, bir_box, birB_s, repl_s, repl_z, List.map_cons, List.map_nil, setFrom_nil, setFrom_cons, allsc_nil, allsc_cons, Bool.and_true, Bool.true_and, Bool.and_self, List.append_nil, Option.map_some, Option.map_none, iadr_s, iadr_m, idP_s, idQ_s, bir_mksl, mkslB_s, alen_s, alen_n, alen_m, Bool.and_false, Bool.false_and, Bool.or_false, Bool.or_true, Bool.true_or, Bool.false_or, Bool.or_self, C_dregF, goD_s, goD2_t, stb_n, stb_c, stK_n, stK_c, stV_s, stB_f, beq_int, beq_bool, beq_tup0, beq_nils, beq_simm0, beq_str, beq_sobj, beq_pobj, opsD_nil, opsD_u, opsD_g, goOD_s, preD_t, preD_f, AOp.loud, AOp.births, st1_u, st1_g, Int.reduceAdd, Int.reduceSub, Int.reduceMul, Int.reduceNeg, Int.reduceToNat, eqbB_s, beq_refl, beqs_refl, stB_t, beO_s, stBv_t, stBv_p, stBv_o, st1b_alloc, st1b_box, st1b_bslice, st1b_mksl, AP.f112, nl, f1, l2, l3, l4, k1, k2, k3]
end Ab
set_option linter.unusedSimpArgs false
set_option linter.unusedVariables false
set_option maxRecDepth 100000
namespace Ab
open Go
def isEmp (s : ByteArray) : Bool := s.data.toList == (⟨#[]⟩ : ByteArray).data.toList
def contA (e : Ent) : Bool :=
  if e.gone then decide (e.method = 0) && (isEmp e.packed && (decide (e.size = 0) && decide (e.crc = 0)))
  else (decide (0 ≤ e.size) && (decide (e.size ≤ 300) && isA e.crc)) && (decide (e.method = 0) && decide ((e.packed.size : Int) = e.size) || decide (e.method = 8) && decide (e.packed.size ≤ 300))
theorem content_c (h : H) (p v : AV) (e : Ent) (pe : PE h p (entC e v)) : callW AP.A 122 [p] h = some (.bool (contA e), h) := by
  have nl := pe.nil
  obtain ⟨q, f1, f2⟩ := pe.fld
  have l1 := f2 h (Ext.refl h) 1 _ rfl
  have l5 := f2 h (Ext.refl h) 5 _ rfl
  have l6 := f2 h (Ext.refl h) 6 _ rfl
  have l7 := f2 h (Ext.refl h) 7 _ rfl
  have l8 := f2 h (Ext.refl h) 8 _ rfl
  have k1 := is_c h e.crc
  have e1 : abin .eql (.str e.packed) (.str ⟨#[]⟩) = some (.bool (isEmp e.packed)) := str_eql _ _
  refine plain_c (fn := AP.f122) (h2 := h) (e := [(2, .bool (contA e))]) (vs := [.bool (contA e)]) rfl rfl rfl ?_ rfl
  unfold contA
  clear pe f2
  generalize isEmp e.packed = B1 at *
  generalize isA e.crc = B2 at *
  cases hg : e.gone with
  | true =>
    rw [hg] at l1
    rw [if_pos rfl]
    by_cases c1 : e.method = 0
    · cases B1 with
      | false => simp (disch := omega) only [go_sem, abin_shl, abin_shr, Nat.reduceEqDiff, reduceIte, Nat.reduceAdd, Nat.reduceMul, Nat.reduceLT, Nat.reduceLeDiff, Int.reduceBEq, Int.reduceBNe, Int.reduceLT, Int.reduceLE, Int.reduceEq, dt, df, eqt, eqf, net, nef, wi, wb, alen_str, idxs_at, tn_add, tn_nat, aix, get_hit, get_miss, set_hit, set_miss, H.floor_alloc, H.next_alloc, H.floor_set, H.next_set, stO_d, condO_t, fill_n, fill_c, fillS_s, bir_bslice, bir_alloc, bir_box, birB_s, repl_s, repl_z, List.map_cons, List.map_nil, setFrom_nil, setFrom_cons, allsc_nil, allsc_cons, Bool.and_true, Bool.true_and, Bool.and_self, List.append_nil, Option.map_some, Option.map_none, iadr_s, iadr_m, idP_s, idQ_s, bir_mksl, mkslB_s, alen_s, alen_n, alen_m, Bool.and_false, Bool.false_and, Bool.or_false, Bool.or_true, Bool.true_or, Bool.false_or, Bool.or_self, C_dregF, goD_s, goD2_t, stb_n, stb_c, stK_n, stK_c, stV_s, stB_f, beq_int, beq_bool, beq_tup0, beq_nils, beq_simm0, beq_str, beq_sobj, beq_pobj, opsD_nil, opsD_u, opsD_g, goOD_s, preD_t, preD_f, AOp.loud, AOp.births, st1_u, st1_g, Int.reduceAdd, Int.reduceSub, Int.reduceMul, Int.reduceNeg, Int.reduceToNat, eqbB_s, beq_refl, beqs_refl, stB_t, beO_s, stBv_t, stBv_p, stBv_o, st1b_alloc, st1b_box, st1b_bslice, st1b_mksl, AP.f122, nl, f1, l1, l5, l6, l7, l8, e1]
      | true =>
        by_cases c2 : e.size = 0
        · by_cases c3 : e.crc = 0 <;> simp (disch := omega) only [go_sem, abin_shl, abin_shr, Nat.reduceEqDiff, reduceIte, Nat.reduceAdd, Nat.reduceMul, Nat.reduceLT, Nat.reduceLeDiff, Int.reduceBEq, Int.reduceBNe, Int.reduceLT, Int.reduceLE, Int.reduceEq, dt, df, eqt, eqf, net, nef, wi, wb, alen_str, idxs_at, tn_add, tn_nat, aix, get_hit, get_miss, set_hit, set_miss, H.floor_alloc, H.next_alloc, H.floor_set, H.next_set, stO_d, condO_t, fill_n, fill_c, fillS_s, bir_bslice, bir_alloc, bir_box, birB_s, repl_s, repl_z, List.map_cons, List.map_nil, setFrom_nil, setFrom_cons, allsc_nil, allsc_cons, Bool.and_true, Bool.true_and, Bool.and_self, List.append_nil, Option.map_some, Option.map_none, iadr_s, iadr_m, idP_s, idQ_s, bir_mksl, mkslB_s, alen_s, alen_n, alen_m, Bool.and_false, Bool.false_and, Bool.or_false, Bool.or_true, Bool.true_or, Bool.false_or, Bool.or_self, C_dregF, goD_s, goD2_t, stb_n, stb_c, stK_n, stK_c, stV_s, stB_f, beq_int, beq_bool, beq_tup0, beq_nils, beq_simm0, beq_str, beq_sobj, beq_pobj, opsD_nil, opsD_u, opsD_g, goOD_s, preD_t, preD_f, AOp.loud, AOp.births, st1_u, st1_g, Int.reduceAdd, Int.reduceSub, Int.reduceMul, Int.reduceNeg, Int.reduceToNat, eqbB_s, beq_refl, beqs_refl, stB_t, beO_s, stBv_t, stBv_p, stBv_o, st1b_alloc, st1b_box, st1b_bslice, st1b_mksl, AP.f122, nl, f1, l1, l5, l6, l7, l8, e1]
        · simp (disch := omega) only [go_sem, abin_shl, abin_shr, Nat.reduceEqDiff, reduceIte, Nat.reduceAdd, Nat.reduceMul, Nat.reduceLT, Nat.reduceLeDiff, Int.reduceBEq, Int.reduceBNe, Int.reduceLT, Int.reduceLE, Int.reduceEq, dt, df, eqt, eqf, net, nef, wi, wb, alen_str, idxs_at, tn_add, tn_nat, aix, get_hit, get_miss, set_hit, set_miss, H.floor_alloc, H.next_alloc, H.floor_set, H.next_set, stO_d, condO_t, fill_n, fill_c, fillS_s, bir_bslice, bir_alloc, bir_box, birB_s, repl_s, repl_z, List.map_cons, List.map_nil, setFrom_nil, setFrom_cons, allsc_nil, allsc_cons, Bool.and_true, Bool.true_and, Bool.and_self, List.append_nil, Option.map_some, Option.map_none, iadr_s, iadr_m, idP_s, idQ_s, bir_mksl, mkslB_s, alen_s, alen_n, alen_m, Bool.and_false, Bool.false_and, Bool.or_false, Bool.or_true, Bool.true_or, Bool.false_or, Bool.or_self, C_dregF, goD_s, goD2_t, stb_n, stb_c, stK_n, stK_c, stV_s, stB_f, beq_int, beq_bool, beq_tup0, beq_nils, beq_simm0, beq_str, beq_sobj, beq_pobj, opsD_nil, opsD_u, opsD_g, goOD_s, preD_t, preD_f, AOp.loud, AOp.births, st1_u, st1_g, Int.reduceAdd, Int.reduceSub, Int.reduceMul, Int.reduceNeg, Int.reduceToNat, eqbB_s, beq_refl, beqs_refl, stB_t, beO_s, stBv_t, stBv_p, stBv_o, st1b_alloc, st1b_box, st1b_bslice, st1b_mksl, AP.f122, nl, f1, l1, l5, l6, l7, l8, e1]
    · simp (disch := omega) only [go_sem, abin_shl, abin_shr, Nat.reduceEqDiff, reduceIte, Nat.reduceAdd, Nat.reduceMul, Nat.reduceLT, Nat.reduceLeDiff, Int.reduceBEq, Int.reduceBNe, Int.reduceLT, Int.reduceLE, Int.reduceEq, dt, df, eqt, eqf, net, nef, wi, wb, alen_str, idxs_at, tn_add, tn_nat, aix, get_hit, get_miss, set_hit, set_miss, H.floor_alloc, H.next_alloc, H.floor_set, H.next_set, stO_d, condO_t, fill_n, fill_c, fillS_s, bir_bslice, bir_alloc, bir_box, birB_s, repl_s, repl_z, List.map_cons, List.map_nil, setFrom_nil, setFrom_cons, allsc_nil, allsc_cons, Bool.and_true, Bool.true_and, Bool.and_self, List.append_nil, Option.map_some, Option.map_none, iadr_s, iadr_m, idP_s, idQ_s, bir_mksl, mkslB_s, alen_s, alen_n, alen_m, Bool.and_false, Bool.false_and, Bool.or_false, Bool.or_true, Bool.true_or, Bool.false_or, Bool.or_self, C_dregF, goD_s, goD2_t, stb_n, stb_c, stK_n, stK_c, stV_s, stB_f, beq_int, beq_bool, beq_tup0, beq_nils, beq_simm0, beq_str, beq_sobj, beq_pobj, opsD_nil, opsD_u, opsD_g, goOD_s, preD_t, preD_f, AOp.loud, AOp.births, st1_u, st1_g, Int.reduceAdd, Int.reduceSub, Int.reduceMul, Int.reduceNeg, Int.reduceToNat, eqbB_s, beq_refl, beqs_refl, stB_t, beO_s, stBv_t, stBv_p, stBv_o, st1b_alloc, st1b_box, st1b_bslice, st1b_mksl, AP.f122, nl, f1, l1, l5, l6, l7, l8, e1]
  | false =>
    rw [hg] at l1
    rw [if_neg (by decide)]
    by_cases c1 : e.method = 0
    · have c1' : ¬ e.method = 8 := by omega
      by_cases c2 : (e.packed.size : Int) = e.size
      · by_cases c3 : 0 ≤ e.size
        · by_cases c4 : e.size ≤ 300
          · cases B2 <;> simp (disch := omega) only [go_sem, abin_shl, abin_shr, Nat.reduceEqDiff, reduceIte, Nat.reduceAdd, Nat.reduceMul, Nat.reduceLT, Nat.reduceLeDiff, Int.reduceBEq, Int.reduceBNe, Int.reduceLT, Int.reduceLE, Int.reduceEq, dt, df, eqt, eqf, net, nef, wi, wb, alen_str, idxs_at, tn_add, tn_nat, aix, get_hit, get_miss, set_hit, set_miss, H.floor_alloc, H.next_alloc, H.floor_set, H.next_set, stO_d, condO_t, fill_n, fill_c, fillS_s, bir_bslice, bir_alloc, bir_box, birB_s, repl_s, repl_z, List.map_cons, List.map_nil, setFrom_nil, setFrom_cons, allsc_nil, allsc_cons, Bool.and_true, Bool.true_and, Bool.and_self, List.append_nil, Option.map_some, Option.map_none, iadr_s, iadr_m, idP_s, idQ_s, bir_mksl, mkslB_s, alen_s, alen_n, alen_m, Bool.and_false, Bool.false_and, Bool.or_false, Bool.or_true, Bool.true_or, Bool.false_or, Bool.or_self, C_dregF, goD_s, goD2_t, stb_n, stb_c, stK_n, stK_c, stV_s, stB_f, beq_int, beq_bool, beq_tup0, beq_nils, beq_simm0, beq_str, beq_sobj, beq_pobj, opsD_nil, opsD_u, opsD_g, goOD_s, preD_t, preD_f, AOp.loud, AOp.births, st1_u, st1_g, Int.reduceAdd, Int.reduceSub, Int.reduceMul, Int.reduceNeg, Int.reduceToNat, eqbB_s, beq_refl, beqs_refl, stB_t, beO_s, stBv_t, stBv_p, stBv_o, st1b_alloc, st1b_box, st1b_bslice, st1b_mksl, AP.f122, nl, f1, l1, l5, l6, l7, l8, e1, k1]
          · simp (disch := omega) only [go_sem, abin_shl, abin_shr, Nat.reduceEqDiff, reduceIte, Nat.reduceAdd, Nat.reduceMul, Nat.reduceLT, Nat.reduceLeDiff, Int.reduceBEq, Int.reduceBNe, Int.reduceLT, Int.reduceLE, Int.reduceEq, dt, df, eqt, eqf, net, nef, wi, wb, alen_str, idxs_at, tn_add, tn_nat, aix, get_hit, get_miss, set_hit, set_miss, H.floor_alloc, H.next_alloc, H.floor_set, H.next_set, stO_d, condO_t, fill_n, fill_c, fillS_s, bir_bslice, bir_alloc, bir_box, birB_s, repl_s, repl_z, List.map_cons, List.map_nil, setFrom_nil, setFrom_cons, allsc_nil, allsc_cons, Bool.and_true, Bool.true_and, Bool.and_self, List.append_nil, Option.map_some, Option.map_none, iadr_s, iadr_m, idP_s, idQ_s, bir_mksl, mkslB_s, alen_s, alen_n, alen_m, Bool.and_false, Bool.false_and, Bool.or_false, Bool.or_true, Bool.true_or, Bool.false_or, Bool.or_self, C_dregF, goD_s, goD2_t, stb_n, stb_c, stK_n, stK_c, stV_s, stB_f, beq_int, beq_bool, beq_tup0, beq_nils, beq_simm0, beq_str, beq_sobj, beq_pobj, opsD_nil, opsD_u, opsD_g, goOD_s, preD_t, preD_f, AOp.loud, AOp.births, st1_u, st1_g, Int.reduceAdd, Int.reduceSub, Int.reduceMul, Int.reduceNeg, Int.reduceToNat, eqbB_s, beq_refl, beqs_refl, stB_t, beO_s, stBv_t, stBv_p, stBv_o, st1b_alloc, st1b_box, st1b_bslice, st1b_mksl, AP.f122, nl, f1, l1, l5, l6, l7, l8, e1, k1]
        · exfalso; omega
      · simp (disch := omega) only [go_sem, abin_shl, abin_shr, Nat.reduceEqDiff, reduceIte, Nat.reduceAdd, Nat.reduceMul, Nat.reduceLT, Nat.reduceLeDiff, Int.reduceBEq, Int.reduceBNe, Int.reduceLT, Int.reduceLE, Int.reduceEq, dt, df, eqt, eqf, net, nef, wi, wb, alen_str, idxs_at, tn_add, tn_nat, aix, get_hit, get_miss, set_hit, set_miss, H.floor_alloc, H.next_alloc, H.floor_set, H.next_set, stO_d, condO_t, fill_n, fill_c, fillS_s, bir_bslice, bir_alloc, bir_box, birB_s, repl_s, repl_z, List.map_cons, List.map_nil, setFrom_nil, setFrom_cons, allsc_nil, allsc_cons, Bool.and_true, Bool.true_and, Bool.and_self, List.append_nil, Option.map_some, Option.map_none, iadr_s, iadr_m, idP_s, idQ_s, bir_mksl, mkslB_s, alen_s, alen_n, alen_m, Bool.and_false, Bool.false_and, Bool.or_false, Bool.or_true, Bool.true_or, Bool.false_or, Bool.or_self, C_dregF, goD_s, goD2_t, stb_n, stb_c, stK_n, stK_c, stV_s, stB_f, beq_int, beq_bool, beq_tup0, beq_nils, beq_simm0, beq_str, beq_sobj, beq_pobj, opsD_nil, opsD_u, opsD_g, goOD_s, preD_t, preD_f, AOp.loud, AOp.births, st1_u, st1_g, Int.reduceAdd, Int.reduceSub, Int.reduceMul, Int.reduceNeg, Int.reduceToNat, eqbB_s, beq_refl, beqs_refl, stB_t, beO_s, stBv_t, stBv_p, stBv_o, st1b_alloc, st1b_box, st1b_bslice, st1b_mksl, AP.f122, nl, f1, l1, l5, l6, l7, l8, e1, k1]
    · by_cases c0 : e.method = 8
      · by_cases c2 : e.packed.size ≤ 300
        · by_cases c3 : 0 ≤ e.size
          · by_cases c4 : e.size ≤ 300
            · cases B2 <;> simp (disch := omega) only [go_sem, abin_shl, abin_shr, Nat.reduceEqDiff, reduceIte, Nat.reduceAdd, Nat.reduceMul, Nat.reduceLT, Nat.reduceLeDiff, Int.reduceBEq, Int.reduceBNe, Int.reduceLT, Int.reduceLE, Int.reduceEq, dt, df, eqt, eqf, net, nef, wi, wb, alen_str, idxs_at, tn_add, tn_nat, aix, get_hit, get_miss, set_hit, set_miss, H.floor_alloc, H.next_alloc, H.floor_set, H.next_set, stO_d, condO_t, fill_n, fill_c, fillS_s, bir_bslice, bir_alloc, bir_box, birB_s, repl_s, repl_z, List.map_cons, List.map_nil, setFrom_nil, setFrom_cons, allsc_nil, allsc_cons, Bool.and_true, Bool.true_and, Bool.and_self, List.append_nil, Option.map_some, Option.map_none, iadr_s, iadr_m, idP_s, idQ_s, bir_mksl, mkslB_s, alen_s, alen_n, alen_m, Bool.and_false, Bool.false_and, Bool.or_false, Bool.or_true, Bool.true_or, Bool.false_or, Bool.or_self, C_dregF, goD_s, goD2_t, stb_n, stb_c, stK_n, stK_c, stV_s, stB_f, beq_int, beq_bool, beq_tup0, beq_nils, beq_simm0, beq_str, beq_sobj, beq_pobj, opsD_nil, opsD_u, opsD_g, goOD_s, preD_t, preD_f, AOp.loud, AOp.births, st1_u, st1_g, Int.reduceAdd, Int.reduceSub, Int.reduceMul, Int.reduceNeg, Int.reduceToNat, eqbB_s, beq_refl, beqs_refl, stB_t, beO_s, stBv_t, stBv_p, stBv_o, st1b_alloc, st1b_box, st1b_bslice, st1b_mksl, AP.f122, nl, f1, l1, l5, l6, l7, l8, e1, k1]
            · simp (disch := omega) only [go_sem, abin_shl, abin_shr, Nat.reduceEqDiff, reduceIte, Nat.reduceAdd, Nat.reduceMul, Nat.reduceLT, Nat.reduceLeDiff, Int.reduceBEq, Int.reduceBNe, Int.reduceLT, Int.reduceLE, Int.reduceEq, dt, df, eqt, eqf, net, nef, wi, wb, alen_str, idxs_at, tn_add, tn_nat, aix, get_hit, get_miss, set_hit, set_miss, H.floor_alloc, H.next_alloc, H.floor_set, H.next_set, stO_d, condO_t, fill_n, fill_c, fillS_s, bir_bslice, bir_alloc, bir_box, birB_s, repl_s, repl_z, List.map_cons, List.map_nil, setFrom_nil, setFrom_cons, allsc_nil, allsc_cons, Bool.and_true, Bool.true_and, Bool.and_self, List.append_nil, Option.map_some, Option.map_none, iadr_s, iadr_m, idP_s, idQ_s, bir_mksl, mkslB_s, alen_s, alen_n, alen_m, Bool.and_false, Bool.false_and, Bool.or_false, Bool.or_true, Bool.true_or, Bool.false_or, Bool.or_self, C_dregF, goD_s, goD2_t, stb_n, stb_c, stK_n, stK_c, stV_s, stB_f, beq_int, beq_bool, beq_tup0, beq_nils, beq_simm0, beq_str, beq_sobj, beq_pobj, opsD_nil, opsD_u, opsD_g, goOD_s, preD_t, preD_f, AOp.loud, AOp.births, st1_u, st1_g, Int.reduceAdd, Int.reduceSub, Int.reduceMul, Int.reduceNeg, Int.reduceToNat, eqbB_s, beq_refl, beqs_refl, stB_t, beO_s, stBv_t, stBv_p, stBv_o, st1b_alloc, st1b_box, st1b_bslice, st1b_mksl, AP.f122, nl, f1, l1, l5, l6, l7, l8, e1, k1]
          · simp (disch := omega) only [go_sem, abin_shl, abin_shr, Nat.reduceEqDiff, reduceIte, Nat.reduceAdd, Nat.reduceMul, Nat.reduceLT, Nat.reduceLeDiff, Int.reduceBEq, Int.reduceBNe, Int.reduceLT, Int.reduceLE, Int.reduceEq, dt, df, eqt, eqf, net, nef, wi, wb, alen_str, idxs_at, tn_add, tn_nat, aix, get_hit, get_miss, set_hit, set_miss, H.floor_alloc, H.next_alloc, H.floor_set, H.next_set, stO_d, condO_t, fill_n, fill_c, fillS_s, bir_bslice, bir_alloc, bir_box, birB_s, repl_s, repl_z, List.map_cons, List.map_nil, setFrom_nil, setFrom_cons, allsc_nil, allsc_cons, Bool.and_true, Bool.true_and, Bool.and_self, List.append_nil, Option.map_some, Option.map_none, iadr_s, iadr_m, idP_s, idQ_s, bir_mksl, mkslB_s, alen_s, alen_n, alen_m, Bool.and_false, Bool.false_and, Bool.or_false, Bool.or_true, Bool.true_or, Bool.false_or, Bool.or_self, C_dregF, goD_s, goD2_t, stb_n, stb_c, stK_n, stK_c, stV_s, stB_f, beq_int, beq_bool, beq_tup0, beq_nils, beq_simm0, beq_str, beq_sobj, beq_pobj, opsD_nil, opsD_u, opsD_g, goOD_s, preD_t, preD_f, AOp.loud, AOp.births, st1_u, st1_g, Int.reduceAdd, Int.reduceSub, Int.reduceMul, Int.reduceNeg, Int.reduceToNat, eqbB_s, beq_refl, beqs_refl, stB_t, beO_s, stBv_t, stBv_p, stBv_o, st1b_alloc, st1b_box, st1b_bslice, st1b_mksl, AP.f122, nl, f1, l1, l5, l6, l7, l8, e1, k1]
        · simp (disch := omega) only [go_sem, abin_shl, abin_shr, Nat.reduceEqDiff, reduceIte, Nat.reduceAdd, Nat.reduceMul, Nat.reduceLT, Nat.reduceLeDiff, Int.reduceBEq, Int.reduceBNe, Int.reduceLT, Int.reduceLE, Int.reduceEq, dt, df, eqt, eqf, net, nef, wi, wb, alen_str, idxs_at, tn_add, tn_nat, aix, get_hit, get_miss, set_hit, set_miss, H.floor_alloc, H.next_alloc, H.floor_set, H.next_set, stO_d, condO_t, fill_n, fill_c, fillS_s, bir_bslice, bir_alloc, bir_box, birB_s, repl_s, repl_z, List.map_cons, List.map_nil, setFrom_nil, setFrom_cons, allsc_nil, allsc_cons, Bool.and_true, Bool.true_and, Bool.and_self, List.append_nil, Option.map_some, Option.map_none, iadr_s, iadr_m, idP_s, idQ_s, bir_mksl, mkslB_s, alen_s, alen_n, alen_m, Bool.and_false, Bool.false_and, Bool.or_false, Bool.or_true, Bool.true_or, Bool.false_or, Bool.or_self, C_dregF, goD_s, goD2_t, stb_n, stb_c, stK_n, stK_c, stV_s, stB_f, beq_int, beq_bool, beq_tup0, beq_nils, beq_simm0, beq_str, beq_sobj, beq_pobj, opsD_nil, opsD_u, opsD_g, goOD_s, preD_t, preD_f, AOp.loud, AOp.births, st1_u, st1_g, Int.reduceAdd, Int.reduceSub, Int.reduceMul, Int.reduceNeg, Int.reduceToNat, eqbB_s, beq_refl, beqs_refl, stB_t, beO_s, stBv_t, stBv_p, stBv_o, st1b_alloc, st1b_box, st1b_bslice, st1b_mksl, AP.f122, nl, f1, l1, l5, l6, l7, l8, e1, k1]
      · simp (disch := omega) only [go_sem, abin_shl, abin_shr, Nat.reduceEqDiff, reduceIte, Nat.reduceAdd, Nat.reduceMul, Nat.reduceLT, Nat.reduceLeDiff, Int.reduceBEq, Int.reduceBNe, Int.reduceLT, Int.reduceLE, Int.reduceEq, dt, df, eqt, eqf, net, nef, wi, wb, alen_str, idxs_at, tn_add, tn_nat, aix, get_hit, get_miss, set_hit, set_miss, H.floor_alloc, H.next_alloc, H.floor_set, H.next_set, stO_d, condO_t, fill_n, fill_c, fillS_s, bir_bslice, bir_alloc, bir_box, birB_s, repl_s, repl_z, List.map_cons, List.map_nil, setFrom_nil, setFrom_cons, allsc_nil, allsc_cons, Bool.and_true, Bool.true_and, Bool.and_self, List.append_nil, Option.map_some, Option.map_none, iadr_s, iadr_m, idP_s, idQ_s, bir_mksl, mkslB_s, alen_s, alen_n, alen_m, Bool.and_false, Bool.false_and, Bool.or_false, Bool.or_true, Bool.true_or, Bool.false_or, Bool.or_self, C_dregF, goD_s, goD2_t, stb_n, stb_c, stK_n, stK_c, stV_s, stB_f, beq_int, beq_bool, beq_tup0, beq_nils, beq_simm0, beq_str, beq_sobj, beq_pobj, opsD_nil, opsD_u, opsD_g, goOD_s, preD_t, preD_f, AOp.loud, AOp.births, st1_u, st1_g, Int.reduceAdd, Int.reduceSub, Int.reduceMul, Int.reduceNeg, Int.reduceToNat, eqbB_s, beq_refl, beqs_refl, stB_t, beO_s, stBv_t, stBv_p, stBv_o, st1b_alloc, st1b_box, st1b_bslice, st1b_mksl, AP.f122, nl, f1, l1, l5, l6, l7, l8, e1, k1]
def entOk (prev : Option Ent) (e : Ent) : Bool := nameA e.name && ((match prev with | none => true | some p => Op.bytesLess p.name.toList e.name.toList) && (headA e && contA e))
theorem entOk_n (e : Ent) : entOk none e = (nameA e.name && (headA e && contA e)) := by simp [entOk]
theorem entOk_s (p e : Ent) : entOk (some p) e = (nameA e.name && (Op.bytesLess p.name.toList e.name.toList && (headA e && contA e))) := rfl
def mayL : Option Ent → List Ent → Bool
  | _, [] => true
  | p, e :: r => entOk p e && mayL (some e) r
abbrev EntP := Ent × AV
def epC (x : EntP) : List AV := entC x.1 x.2
def entsC (l : List EntP) : List AV := l.flatMap epC
theorem epC_len (x : EntP) : (epC x).length = 9 := rfl
structure EOk (h : H) (x : EntP) : Prop where
  vec : Rd h x.2 (ints x.1.vec)
  vl : x.1.vec.length < 1125899906842624
  nl : x.1.name.size < 1125899906842624
  pl : x.1.packed.size < 1125899906842624
theorem EOk.mono {h g : H} {x : EntP} (o : EOk h x) (e : Ext h g) : EOk g x := ⟨o.vec.mono fun i c q => e i c q, o.vl, o.nl, o.pl⟩
theorem zm_loop {v : AV} {l : List EntP} (hn : l.length < 1125899906842624) (h : H) (b : Nat) (hb : h.get b = some [v]) (rd : RdN 9 h v l.length (entsC l)) (hv : ∀ x ∈ l, EOk h x) : ∀ (q p : List EntP), l = p ++ q →
    (∃ e', Lp AP.A [1, 7, 8] AP.f113L0 [(1, .pobj b 0), (7, .int .i64 l.length), (8, .int .i64 p.length)] h = some (.exit 0, e', h) ∧ look e' 1 = .pobj b 0 ∧ mayL (p.getLast?.map (·.1)) (q.map (·.1)) = true) ∨
    (∃ e', Lp AP.A [1, 7, 8] AP.f113L0 [(1, .pobj b 0), (7, .int .i64 l.length), (8, .int .i64 p.length)] h = some (.ret, e', h) ∧ look e' 2 = .bool false ∧ mayL (p.getLast?.map (·.1)) (q.map (·.1)) = false)
  | [], p, hp => by
    left
    rw [List.append_nil] at hp; subst hp
    refine ⟨[(1, .pobj b 0), (7, .int .i64 l.length), (8, .int .i64 l.length), (9, .bool false)], Lp_exit ?_, rfl, rfl⟩
    simp (disch := omega) only [go_sem, abin_shl, abin_shr, Nat.reduceEqDiff, reduceIte, Nat.reduceAdd, Nat.reduceMul, Nat.reduceLT, Nat.reduceLeDiff, Int.reduceBEq, Int.reduceBNe, Int.reduceLT, Int.reduceLE, Int.reduceEq, dt, df, eqt, eqf, net, nef, wi, wb, alen_str, idxs_at, tn_add, tn_nat, aix, get_hit, get_miss, set_hit, set_miss, H.floor_alloc, H.next_alloc, H.floor_set, H.next_set, stO_d, condO_t, fill_n, fill_c, fillS_s, bir_bslice, bir_alloc, bir_box, birB_s, repl_s, repl_z, List.map_cons, List.map_nil, setFrom_nil, setFrom_cons, allsc_nil, allsc_cons, Bool.and_true, Bool.true_and, Bool.and_self, List.append_nil, Option.map_some, Option.map_none, iadr_s, iadr_m, idP_s, idQ_s, bir_mksl, mkslB_s, alen_s, alen_n, alen_m, Bool.and_false, Bool.false_and, Bool.or_false, Bool.or_true, Bool.true_or, Bool.false_or, Bool.or_self, C_dregF, goD_s, goD2_t, stb_n, stb_c, stK_n, stK_c, stV_s, stB_f, beq_int, beq_bool, beq_tup0, beq_nils, beq_simm0, beq_str, beq_sobj, beq_pobj, opsD_nil, opsD_u, opsD_g, goOD_s, preD_t, preD_f, AOp.loud, AOp.births, st1_u, st1_g, Int.reduceAdd, Int.reduceSub, Int.reduceMul, Int.reduceNeg, Int.reduceToNat, eqbB_s, beq_refl, beqs_refl, stB_t, beO_s, stBv_t, stBv_p, stBv_o, st1b_alloc, st1b_box, st1b_bslice, st1b_mksl, AP.f113L0]
  | x :: q, p, hp => by
    have hlen : l.length = p.length + (q.length + 1) := by rw [hp]; simp
    have hx : l[p.length]? = some x := by rw [hp]; simp
    have ho := hv x (by rw [hp]; simp)
    obtain ⟨ad, a1, a2, a4, a3⟩ := rd.at_
    have hI : (0 : Int) ≤ (p.length : Int) ∧ (p.length : Int) < l.length := ⟨by omega, by omega⟩
    have b1 := a1 _ hI
    have pe : PE h (ad p.length 0) (entC x.1 x.2) := by
      refine ⟨fun g => a4 _ 0 g hI, fun k => ad p.length (0 + k), fun k => a2 _ 0 k hI, fun g hg k c hc => ?_⟩
      have hk : k < 9 := (List.getElem?_eq_some_iff.1 hc).1
      refine (a3 g hg).1 _ _ _ hI ?_
      rw [tn_nat, Nat.zero_add, show entsC l = l.flatMap epC from rfl, fm_get epC_len hx hk]; exact hc
    have k1 := name_c h x.1.name ho.nl
    have k2 := head_c h _ _ x.1 pe ho.vec ho.vl
    have k3 := content_c h _ _ x.1 pe
    have nl := pe.nil
    obtain ⟨qq, f1, f2⟩ := pe.fld
    have l0 := f2 h (Ext.refl h) 0 _ rfl
    have ih := zm_loop hn h b hb rd hv q (p ++ [x]) (by rw [hp]; simp)
    have w1 : (((p ++ [x]).length : Nat) : Int) = (p.length : Int) + 1 := by simp
    rw [w1, List.getLast?_concat] at ih
    have step : evC (callW AP.A) loopW AP.f113L0 (restr [(1, .pobj b 0), (7, .int .i64 l.length), (8, .int .i64 p.length)] [1, 7, 8]) h = if entOk (p.getLast?.map (·.1)) x.1 then some (.normal, [(1, .pobj b 0), (7, .int .i64 l.length), (8, .int .i64 ((p.length : Int) + 1))], h) else some (.ret, [(2, .bool false)], h) := by
      cases hl : p.getLast? with
      | none =>
        have hp0 : p = [] := List.getLast?_eq_none_iff.1 hl
        have hp1 : p.length = 0 := by rw [hp0]; rfl
        clear ih w1 pe f2 a1 a2 a3 a4 hl hv hp ho hx
        rw [Option.map_none, entOk_n]
        generalize nameA x.1.name = B1 at *
        generalize headA x.1 = B3 at *
        generalize contA x.1 = B4 at *
        cases B1 with
        | false =>
          rw [Bool.false_and, if_neg (by decide)]
          simp (disch := omega) only [go_sem, abin_shl, abin_shr, Nat.reduceEqDiff, reduceIte, Nat.reduceAdd, Nat.reduceMul, Nat.reduceLT, Nat.reduceLeDiff, Int.reduceBEq, Int.reduceBNe, Int.reduceLT, Int.reduceLE, Int.reduceEq, dt, df, eqt, eqf, net, nef, wi, wb, alen_str, idxs_at, tn_add, tn_nat, aix, get_hit, get_miss, set_hit, set_miss, H.floor_alloc, H.next_alloc, H.floor_set, H.next_set, stO_d, condO_t, fill_n, fill_c, fillS_s, bir_bslice, bir_alloc, bir_box, birB_s, repl_s, repl_z, List.map_cons, List.map_nil, setFrom_nil, setFrom_cons, allsc_nil, allsc_cons, Bool.and_true, Bool.true_and, Bool.and_self, List.append_nil, Option.map_some, Option.map_none, iadr_s, iadr_m, idP_s, idQ_s, bir_mksl, mkslB_s, alen_s, alen_n, alen_m, Bool.and_false, Bool.false_and, Bool.or_false, Bool.or_true, Bool.true_or, Bool.false_or, Bool.or_self, C_dregF, goD_s, goD2_t, stb_n, stb_c, stK_n, stK_c, stV_s, stB_f, beq_int, beq_bool, beq_tup0, beq_nils, beq_simm0, beq_str, beq_sobj, beq_pobj, opsD_nil, opsD_u, opsD_g, goOD_s, preD_t, preD_f, AOp.loud, AOp.births, st1_u, st1_g, Int.reduceAdd, Int.reduceSub, Int.reduceMul, Int.reduceNeg, Int.reduceToNat, eqbB_s, beq_refl, beqs_refl, stB_t, beO_s, stBv_t, stBv_p, stBv_o, st1b_alloc, st1b_box, st1b_bslice, st1b_mksl, AP.f113L0, hb, b1, nl, f1, l0, k1, k2, k3]
        | true =>
          cases B3 with
          | false =>
            rw [Bool.false_and, Bool.and_false, if_neg (by decide)]
            simp (disch := omega) only [go_sem, abin_shl, abin_shr, Nat.reduceEqDiff, reduceIte, Nat.reduceAdd, Nat.reduceMul, Nat.reduceLT, Nat.reduceLeDiff, Int.reduceBEq, Int.reduceBNe, Int.reduceLT, Int.reduceLE, Int.reduceEq, dt, df, eqt, eqf, net, nef, wi, wb, alen_str, idxs_at, tn_add, tn_nat, aix, get_hit, get_miss, set_hit, set_miss, H.floor_alloc, H.next_alloc, H.floor_set, H.next_set, stO_d, condO_t, fill_n, fill_c, fillS_s, bir_bslice, bir_alloc, bir_box, birB_s, repl_s, repl_z, List.map_cons, List.map_nil, setFrom_nil, setFrom_cons, allsc_nil, allsc_cons, Bool.and_true, Bool.true_and, Bool.and_self, List.append_nil, Option.map_some, Option.map_none, iadr_s, iadr_m, idP_s, idQ_s, bir_mksl, mkslB_s, alen_s, alen_n, alen_m, Bool.and_false, Bool.false_and, Bool.or_false, Bool.or_true, Bool.true_or, Bool.false_or, Bool.or_self, C_dregF, goD_s, goD2_t, stb_n, stb_c, stK_n, stK_c, stV_s, stB_f, beq_int, beq_bool, beq_tup0, beq_nils, beq_simm0, beq_str, beq_sobj, beq_pobj, opsD_nil, opsD_u, opsD_g, goOD_s, preD_t, preD_f, AOp.loud, AOp.births, st1_u, st1_g, Int.reduceAdd, Int.reduceSub, Int.reduceMul, Int.reduceNeg, Int.reduceToNat, eqbB_s, beq_refl, beqs_refl, stB_t, beO_s, stBv_t, stBv_p, stBv_o, st1b_alloc, st1b_box, st1b_bslice, st1b_mksl, AP.f113L0, hb, b1, nl, f1, l0, k1, k2, k3]
          | true =>
            cases B4 with
            | false =>
              rw [Bool.and_false, Bool.and_false, if_neg (by decide)]
              simp (disch := omega) only [go_sem, abin_shl, abin_shr, Nat.reduceEqDiff, reduceIte, Nat.reduceAdd, Nat.reduceMul, Nat.reduceLT, Nat.reduceLeDiff, Int.reduceBEq, Int.reduceBNe, Int.reduceLT, Int.reduceLE, Int.reduceEq, dt, df, eqt, eqf, net, nef, wi, wb, alen_str, idxs_at, tn_add, tn_nat, aix, get_hit, get_miss, set_hit, set_miss, H.floor_alloc, H.next_alloc, H.floor_set, H.next_set, stO_d, condO_t, fill_n, fill_c, fillS_s, bir_bslice, bir_alloc, bir_box, birB_s, repl_s, repl_z, List.map_cons, List.map_nil, setFrom_nil, setFrom_cons, allsc_nil, allsc_cons, Bool.and_true, Bool.true_and, Bool.and_self, List.append_nil, Option.map_some, Option.map_none, iadr_s, iadr_m, idP_s, idQ_s, bir_mksl, mkslB_s, alen_s, alen_n, alen_m, Bool.and_false, Bool.false_and, Bool.or_false, Bool.or_true, Bool.true_or, Bool.false_or, Bool.or_self, C_dregF, goD_s, goD2_t, stb_n, stb_c, stK_n, stK_c, stV_s, stB_f, beq_int, beq_bool, beq_tup0, beq_nils, beq_simm0, beq_str, beq_sobj, beq_pobj, opsD_nil, opsD_u, opsD_g, goOD_s, preD_t, preD_f, AOp.loud, AOp.births, st1_u, st1_g, Int.reduceAdd, Int.reduceSub, Int.reduceMul, Int.reduceNeg, Int.reduceToNat, eqbB_s, beq_refl, beqs_refl, stB_t, beO_s, stBv_t, stBv_p, stBv_o, st1b_alloc, st1b_box, st1b_bslice, st1b_mksl, AP.f113L0, hb, b1, nl, f1, l0, k1, k2, k3]
            | true =>
              rw [Bool.and_self, Bool.and_self, if_pos rfl]
              simp (disch := omega) only [go_sem, abin_shl, abin_shr, Nat.reduceEqDiff, reduceIte, Nat.reduceAdd, Nat.reduceMul, Nat.reduceLT, Nat.reduceLeDiff, Int.reduceBEq, Int.reduceBNe, Int.reduceLT, Int.reduceLE, Int.reduceEq, dt, df, eqt, eqf, net, nef, wi, wb, alen_str, idxs_at, tn_add, tn_nat, aix, get_hit, get_miss, set_hit, set_miss, H.floor_alloc, H.next_alloc, H.floor_set, H.next_set, stO_d, condO_t, fill_n, fill_c, fillS_s, bir_bslice, bir_alloc, bir_box, birB_s, repl_s, repl_z, List.map_cons, List.map_nil, setFrom_nil, setFrom_cons, allsc_nil, allsc_cons, Bool.and_true, Bool.true_and, Bool.and_self, List.append_nil, Option.map_some, Option.map_none, iadr_s, iadr_m, idP_s, idQ_s, bir_mksl, mkslB_s, alen_s, alen_n, alen_m, Bool.and_false, Bool.false_and, Bool.or_false, Bool.or_true, Bool.true_or, Bool.false_or, Bool.or_self, C_dregF, goD_s, goD2_t, stb_n, stb_c, stK_n, stK_c, stV_s, stB_f, beq_int, beq_bool, beq_tup0, beq_nils, beq_simm0, beq_str, beq_sobj, beq_pobj, opsD_nil, opsD_u, opsD_g, goOD_s, preD_t, preD_f, AOp.loud, AOp.births, st1_u, st1_g, Int.reduceAdd, Int.reduceSub, Int.reduceMul, Int.reduceNeg, Int.reduceToNat, eqbB_s, beq_refl, beqs_refl, stB_t, beO_s, stBv_t, stBv_p, stBv_o, st1b_alloc, st1b_box, st1b_bslice, st1b_mksl, AP.f113L0, hb, b1, nl, f1, l0, k1, k2, k3]
      | some y =>
        obtain ⟨p', rfl⟩ : ∃ p', p = p' ++ [y] := List.getLast?_eq_some_iff.1 hl
        have hpl : (p' ++ [y]).length = p'.length + 1 := by simp
        have hy : l[p'.length]? = some y := by rw [hp]; simp
        have hJ : (0 : Int) ≤ (p'.length : Int) ∧ (p'.length : Int) < l.length := ⟨by omega, by omega⟩
        have bj := a1 _ hJ
        have fj := a2 _ 0 0 hJ
        have lj := (a3 h (Ext.refl h)).1 p'.length (0 + 0) (.str y.1.name) hJ (by
          rw [tn_nat, show entsC l = l.flatMap epC from rfl, Nat.zero_add, fm_get epC_len hy (by omega)]; rfl)
        have cmp : abin .geq (.str y.1.name) (.str x.1.name) = some (.bool (!(Op.bytesLess y.1.name.toList x.1.name.toList))) := rfl
        have n2 : (((p' ++ [y]).length : Nat) : Int) - 1 = (p'.length : Int) := by rw [hpl]; omega
        clear ih w1 pe f2 a1 a2 a3 a4 hl hv hp ho hx hy
        rw [Option.map_some, entOk_s]
        simp only [Nat.add_zero] at fj lj
        generalize Op.bytesLess y.1.name.toList x.1.name.toList = B2 at *
        generalize nameA x.1.name = B1 at *
        generalize headA x.1 = B3 at *
        generalize contA x.1 = B4 at *
        generalize (p' ++ [y]).length = pl at *
        cases B1 with
        | false =>
          rw [Bool.false_and, if_neg (by decide)]
          simp (disch := omega) only [go_sem, abin_shl, abin_shr, Nat.reduceEqDiff, reduceIte, Nat.reduceAdd, Nat.reduceMul, Nat.reduceLT, Nat.reduceLeDiff, Int.reduceBEq, Int.reduceBNe, Int.reduceLT, Int.reduceLE, Int.reduceEq, dt, df, eqt, eqf, net, nef, wi, wb, alen_str, idxs_at, tn_add, tn_nat, aix, get_hit, get_miss, set_hit, set_miss, H.floor_alloc, H.next_alloc, H.floor_set, H.next_set, stO_d, condO_t, fill_n, fill_c, fillS_s, bir_bslice, bir_alloc, bir_box, birB_s, repl_s, repl_z, List.map_cons, List.map_nil, setFrom_nil, setFrom_cons, allsc_nil, allsc_cons, Bool.and_true, Bool.true_and, Bool.and_self, List.append_nil, Option.map_some, Option.map_none, iadr_s, iadr_m, idP_s, idQ_s, bir_mksl, mkslB_s, alen_s, alen_n, alen_m, Bool.and_false, Bool.false_and, Bool.or_false, Bool.or_true, Bool.true_or, Bool.false_or, Bool.or_self, C_dregF, goD_s, goD2_t, stb_n, stb_c, stK_n, stK_c, stV_s, stB_f, beq_int, beq_bool, beq_tup0, beq_nils, beq_simm0, beq_str, beq_sobj, beq_pobj, opsD_nil, opsD_u, opsD_g, goOD_s, preD_t, preD_f, AOp.loud, AOp.births, st1_u, st1_g, Int.reduceAdd, Int.reduceSub, Int.reduceMul, Int.reduceNeg, Int.reduceToNat, eqbB_s, beq_refl, beqs_refl, stB_t, beO_s, stBv_t, stBv_p, stBv_o, st1b_alloc, st1b_box, st1b_bslice, st1b_mksl, AP.f113L0, hb, b1, nl, f1, l0, k1, k2, k3, bj, fj, lj, cmp, n2]
        | true =>
          cases B2 with
          | false =>
            rw [Bool.false_and, Bool.and_false, if_neg (by decide)]
            simp (disch := omega) only [go_sem, abin_shl, abin_shr, Nat.reduceEqDiff, reduceIte, Nat.reduceAdd, Nat.reduceMul, Nat.reduceLT, Nat.reduceLeDiff, Int.reduceBEq, Int.reduceBNe, Int.reduceLT, Int.reduceLE, Int.reduceEq, dt, df, eqt, eqf, net, nef, wi, wb, alen_str, idxs_at, tn_add, tn_nat, aix, get_hit, get_miss, set_hit, set_miss, H.floor_alloc, H.next_alloc, H.floor_set, H.next_set, stO_d, condO_t, fill_n, fill_c, fillS_s, bir_bslice, bir_alloc, bir_box, birB_s, repl_s, repl_z, List.map_cons, List.map_nil, setFrom_nil, setFrom_cons, allsc_nil, allsc_cons, Bool.and_true, Bool.true_and, Bool.and_self, List.append_nil, Option.map_some, Option.map_none, iadr_s, iadr_m, idP_s, idQ_s, bir_mksl, mkslB_s, alen_s, alen_n, alen_m, Bool.and_false, Bool.false_and, Bool.or_false, Bool.or_true, Bool.true_or, Bool.false_or, Bool.or_self, C_dregF, goD_s, goD2_t, stb_n, stb_c, stK_n, stK_c, stV_s, stB_f, beq_int, beq_bool, beq_tup0, beq_nils, beq_simm0, beq_str, beq_sobj, beq_pobj, opsD_nil, opsD_u, opsD_g, goOD_s, preD_t, preD_f, AOp.loud, AOp.births, st1_u, st1_g, Int.reduceAdd, Int.reduceSub, Int.reduceMul, Int.reduceNeg, Int.reduceToNat, eqbB_s, beq_refl, beqs_refl, stB_t, beO_s, stBv_t, stBv_p, stBv_o, st1b_alloc, st1b_box, st1b_bslice, st1b_mksl, AP.f113L0, hb, b1, nl, f1, l0, k1, k2, k3, bj, fj, lj, cmp, n2]
          | true =>
            cases B3 with
            | false =>
              rw [Bool.false_and, Bool.and_false, Bool.and_false, if_neg (by decide)]
              simp (disch := omega) only [go_sem, abin_shl, abin_shr, Nat.reduceEqDiff, reduceIte, Nat.reduceAdd, Nat.reduceMul, Nat.reduceLT, Nat.reduceLeDiff, Int.reduceBEq, Int.reduceBNe, Int.reduceLT, Int.reduceLE, Int.reduceEq, dt, df, eqt, eqf, net, nef, wi, wb, alen_str, idxs_at, tn_add, tn_nat, aix, get_hit, get_miss, set_hit, set_miss, H.floor_alloc, H.next_alloc, H.floor_set, H.next_set, stO_d, condO_t, fill_n, fill_c, fillS_s, bir_bslice, bir_alloc, bir_box, birB_s, repl_s, repl_z, List.map_cons, List.map_nil, setFrom_nil, setFrom_cons, allsc_nil, allsc_cons, Bool.and_true, Bool.true_and, Bool.and_self, List.append_nil, Option.map_some, Option.map_none, iadr_s, iadr_m, idP_s, idQ_s, bir_mksl, mkslB_s, alen_s, alen_n, alen_m, Bool.and_false, Bool.false_and, Bool.or_false, Bool.or_true, Bool.true_or, Bool.false_or, Bool.or_self, C_dregF, goD_s, goD2_t, stb_n, stb_c, stK_n, stK_c, stV_s, stB_f, beq_int, beq_bool, beq_tup0, beq_nils, beq_simm0, beq_str, beq_sobj, beq_pobj, opsD_nil, opsD_u, opsD_g, goOD_s, preD_t, preD_f, AOp.loud, AOp.births, st1_u, st1_g, Int.reduceAdd, Int.reduceSub, Int.reduceMul, Int.reduceNeg, Int.reduceToNat, eqbB_s, beq_refl, beqs_refl, stB_t, beO_s, stBv_t, stBv_p, stBv_o, st1b_alloc, st1b_box, st1b_bslice, st1b_mksl, AP.f113L0, hb, b1, nl, f1, l0, k1, k2, k3, bj, fj, lj, cmp, n2]
            | true =>
              cases B4 with
              | false =>
                rw [Bool.and_false, Bool.and_false, Bool.and_false, if_neg (by decide)]
                simp (disch := omega) only [go_sem, abin_shl, abin_shr, Nat.reduceEqDiff, reduceIte, Nat.reduceAdd, Nat.reduceMul, Nat.reduceLT, Nat.reduceLeDiff, Int.reduceBEq, Int.reduceBNe, Int.reduceLT, Int.reduceLE, Int.reduceEq, dt, df, eqt, eqf, net, nef, wi, wb, alen_str, idxs_at, tn_add, tn_nat, aix, get_hit, get_miss, set_hit, set_miss, H.floor_alloc, H.next_alloc, H.floor_set, H.next_set, stO_d, condO_t, fill_n, fill_c, fillS_s, bir_bslice, bir_alloc, bir_box, birB_s, repl_s, repl_z, List.map_cons, List.map_nil, setFrom_nil, setFrom_cons, allsc_nil, allsc_cons, Bool.and_true, Bool.true_and, Bool.and_self, List.append_nil, Option.map_some, Option.map_none, iadr_s, iadr_m, idP_s, idQ_s, bir_mksl, mkslB_s, alen_s, alen_n, alen_m, Bool.and_false, Bool.false_and, Bool.or_false, Bool.or_true, Bool.true_or, Bool.false_or, Bool.or_self, C_dregF, goD_s, goD2_t, stb_n, stb_c, stK_n, stK_c, stV_s, stB_f, beq_int, beq_bool, beq_tup0, beq_nils, beq_simm0, beq_str, beq_sobj, beq_pobj, opsD_nil, opsD_u, opsD_g, goOD_s, preD_t, preD_f, AOp.loud, AOp.births, st1_u, st1_g, Int.reduceAdd, Int.reduceSub, Int.reduceMul, Int.reduceNeg, Int.reduceToNat, eqbB_s, beq_refl, beqs_refl, stB_t, beO_s, stBv_t, stBv_p, stBv_o, st1b_alloc, st1b_box, st1b_bslice, st1b_mksl, AP.f113L0, hb, b1, nl, f1, l0, k1, k2, k3, bj, fj, lj, cmp, n2]
              | true =>
                rw [Bool.and_self, Bool.and_self, Bool.and_self, if_pos rfl]
                simp (disch := omega) only [go_sem, abin_shl, abin_shr, Nat.reduceEqDiff, reduceIte, Nat.reduceAdd, Nat.reduceMul, Nat.reduceLT, Nat.reduceLeDiff, Int.reduceBEq, Int.reduceBNe, Int.reduceLT, Int.reduceLE, Int.reduceEq, dt, df, eqt, eqf, net, nef, wi, wb, alen_str, idxs_at, tn_add, tn_nat, aix, get_hit, get_miss, set_hit, set_miss, H.floor_alloc, H.next_alloc, H.floor_set, H.next_set, stO_d, condO_t, fill_n, fill_c, fillS_s, bir_bslice, bir_alloc, bir_box, birB_s, repl_s, repl_z, List.map_cons, List.map_nil, setFrom_nil, setFrom_cons, allsc_nil, allsc_cons, Bool.and_true, Bool.true_and, Bool.and_self, List.append_nil, Option.map_some, Option.map_none, iadr_s, iadr_m, idP_s, idQ_s, bir_mksl, mkslB_s, alen_s, alen_n, alen_m, Bool.and_false, Bool.false_and, Bool.or_false, Bool.or_true, Bool.true_or, Bool.false_or, Bool.or_self, C_dregF, goD_s, goD2_t, stb_n, stb_c, stK_n, stK_c, stV_s, stB_f, beq_int, beq_bool, beq_tup0, beq_nils, beq_simm0, beq_str, beq_sobj, beq_pobj, opsD_nil, opsD_u, opsD_g, goOD_s, preD_t, preD_f, AOp.loud, AOp.births, st1_u, st1_g, Int.reduceAdd, Int.reduceSub, Int.reduceMul, Int.reduceNeg, Int.reduceToNat, eqbB_s, beq_refl, beqs_refl, stB_t, beO_s, stBv_t, stBv_p, stBv_o, st1b_alloc, st1b_box, st1b_bslice, st1b_mksl, AP.f113L0, hb, b1, nl, f1, l0, k1, k2, k3, bj, fj, lj, cmp, n2]
    have hmay : mayL (p.getLast?.map (·.1)) ((x :: q).map (·.1)) = (entOk (p.getLast?.map (·.1)) x.1 && mayL (some x.1) (q.map (·.1))) := rfl
    rw [hmay]
    by_cases hok : entOk (p.getLast?.map (·.1)) x.1 = true
    · rw [if_pos hok] at step
      rw [hok, Bool.true_and]
      rcases ih with ⟨e', r1, r2, r3⟩ | ⟨e', r1, r2, r3⟩
      · exact .inl ⟨e', Lp_next step r1, r2, r3⟩
      · exact .inr ⟨e', Lp_next step r1, r2, r3⟩
    · have hok' : entOk (p.getLast?.map (·.1)) x.1 = false := by simpa using hok
      rw [if_neg hok] at step
      rw [hok', Bool.false_and]
      exact .inr ⟨_, Lp_ret step, rfl, rfl⟩
def mayF (l : List Ent) : Bool := mayL none l && decide (l.length ≤ 6)
theorem zmay_c (h : H) (v : AV) (l : List EntP) (hvs : v.sc = true) (hn : l.length < 1125899906842624) (rd : RdN 9 h v l.length (entsC l)) (hv : ∀ x ∈ l, EOk h x) : callW AP.A 113 [.agg [v]] h = some (.bool (mayF (l.map (·.1))), h) := by
  obtain ⟨h1, eh1⟩ : ∃ g, g = h.fence.alloc [v] := ⟨_, rfl⟩
  have hx : Ext h.fence h1 := by rw [eh1]; exact (Ext.refl _).alloc _
  have hx0 : Ext h h1 := fun i c q => hx i c q
  have hn0 : h.fence.next = h.next := rfl
  have g1 : h1.get h.next = some [v] := by rw [eh1]; exact get_hit rfl
  have rd1 := rd.mono fun i c q => hx0 i c q
  have ln := rd1.len
  have hb : ∀ ev : Env, look ev 0 = .agg [v] → birth ev (.box 1 (.t 0)) = some ([v], fun i => .pobj i 0) := by
    intro ev q
    simp only [birth, ev_t', q, cells_agg]
    rw [if_pos ⟨rfl, by simp [hvs]⟩]
  unfold mayF
  rcases zm_loop hn h1 h.next g1 rd1 (fun x hx => (hv x hx).mono hx0) l [] rfl with ⟨e', r1, r2, r3⟩ | ⟨e', r1, r2, r3⟩
  · have r1' : Lp AP.A [1, 7, 8] AP.f113L0 [(1, .pobj h.next 0), (7, .int .i64 l.length), (8, .int .i64 0)] h1 = some (.exit 0, e', h1) := r1
    clear r1
    have r3' : mayL none (l.map (·.1)) = true := r3
    rw [r3', Bool.true_and, List.length_map]
    refine pure_c (fn := AP.f113) (h2 := h1) (e := [(2, .bool (decide (l.length ≤ 6)))]) rfl rfl rfl ?_ rfl rfl
    clear rd rd1 hv hx hx0 r3 r3'
    simp only [params_c, params_n, AP.f113]
    rw [C_seq, C_reg, ops_u, op_birth_box, hb _ rfl]
    simp only [birthH_s, hn0, ← eh1]
    by_cases c : l.length ≤ 6
    · simp (disch := omega) only [go_sem, abin_shl, abin_shr, Nat.reduceEqDiff, reduceIte, Nat.reduceAdd, Nat.reduceMul, Nat.reduceLT, Nat.reduceLeDiff, Int.reduceBEq, Int.reduceBNe, Int.reduceLT, Int.reduceLE, Int.reduceEq, dt, df, eqt, eqf, net, nef, wi, wb, alen_str, idxs_at, tn_add, tn_nat, aix, get_hit, get_miss, set_hit, set_miss, H.floor_alloc, H.next_alloc, H.floor_set, H.next_set, stO_d, condO_t, fill_n, fill_c, fillS_s, bir_bslice, bir_alloc, bir_box, birB_s, repl_s, repl_z, List.map_cons, List.map_nil, setFrom_nil, setFrom_cons, allsc_nil, allsc_cons, Bool.and_true, Bool.true_and, Bool.and_self, List.append_nil, Option.map_some, Option.map_none, iadr_s, iadr_m, idP_s, idQ_s, bir_mksl, mkslB_s, alen_s, alen_n, alen_m, Bool.and_false, Bool.false_and, Bool.or_false, Bool.or_true, Bool.true_or, Bool.false_or, Bool.or_self, C_dregF, goD_s, goD2_t, stb_n, stb_c, stK_n, stK_c, stV_s, stB_f, beq_int, beq_bool, beq_tup0, beq_nils, beq_simm0, beq_str, beq_sobj, beq_pobj, opsD_nil, opsD_u, opsD_g, goOD_s, preD_t, preD_f, AOp.loud, AOp.births, st1_u, st1_g, Int.reduceAdd, Int.reduceSub, Int.reduceMul, Int.reduceNeg, Int.reduceToNat, eqbB_s, beq_refl, beqs_refl, stB_t, beO_s, stBv_t, stBv_p, stBv_o, st1b_alloc, st1b_box, st1b_bslice, st1b_mksl, g1, ln, evC_loop, r1', r2]
    · simp (disch := omega) only [go_sem, abin_shl, abin_shr, Nat.reduceEqDiff, reduceIte, Nat.reduceAdd, Nat.reduceMul, Nat.reduceLT, Nat.reduceLeDiff, Int.reduceBEq, Int.reduceBNe, Int.reduceLT, Int.reduceLE, Int.reduceEq, dt, df, eqt, eqf, net, nef, wi, wb, alen_str, idxs_at, tn_add, tn_nat, aix, get_hit, get_miss, set_hit, set_miss, H.floor_alloc, H.next_alloc, H.floor_set, H.next_set, stO_d, condO_t, fill_n, fill_c, fillS_s, bir_bslice, bir_alloc, bir_box, birB_s, repl_s, repl_z, List.map_cons, List.map_nil, setFrom_nil, setFrom_cons, allsc_nil, allsc_cons, Bool.and_true, Bool.true_and, Bool.and_self, List.append_nil, Option.map_some, Option.map_none, iadr_s, iadr_m, idP_s, idQ_s, bir_mksl, mkslB_s, alen_s, alen_n, alen_m, Bool.and_false, Bool.false_and, Bool.or_false, Bool.or_true, Bool.true_or, Bool.false_or, Bool.or_self, C_dregF, goD_s, goD2_t, stb_n, stb_c, stK_n, stK_c, stV_s, stB_f, beq_int, beq_bool, beq_tup0, beq_nils, beq_simm0, beq_str, beq_sobj, beq_pobj, opsD_nil, opsD_u, opsD_g, goOD_s, preD_t, preD_f, AOp.loud, AOp.births, st1_u, st1_g, Int.reduceAdd, Int.reduceSub, Int.reduceMul, Int.reduceNeg, Int.reduceToNat, eqbB_s, beq_refl, beqs_refl, stB_t, beO_s, stBv_t, stBv_p, stBv_o, st1b_alloc, st1b_box, st1b_bslice, st1b_mksl, g1, ln, evC_loop, r1', r2]
  · have r1' : Lp AP.A [1, 7, 8] AP.f113L0 [(1, .pobj h.next 0), (7, .int .i64 l.length), (8, .int .i64 0)] h1 = some (.ret, e', h1) := r1
    clear r1
    have r3' : mayL none (l.map (·.1)) = false := r3
    rw [r3', Bool.false_and]
    refine pure_c (fn := AP.f113) (h2 := h1) (e := e') (vs := [.bool false]) rfl rfl rfl ?_ (by simp only [AP.f113, resAll, resOf, r2]; rfl) rfl
    clear rd rd1 hv hx hx0 r3 r3'
    simp only [params_c, params_n, AP.f113]
    rw [C_seq, C_reg, ops_u, op_birth_box, hb _ rfl]
    simp only [birthH_s, hn0, ← eh1]
    simp (disch := omega) only [go_sem, abin_shl, abin_shr, Nat.reduceEqDiff, reduceIte, Nat.reduceAdd, Nat.reduceMul, Nat.reduceLT, Nat.reduceLeDiff, Int.reduceBEq, Int.reduceBNe, Int.reduceLT, Int.reduceLE, Int.reduceEq, dt, df, eqt, eqf, net, nef, wi, wb, alen_str, idxs_at, tn_add, tn_nat, aix, get_hit, get_miss, set_hit, set_miss, H.floor_alloc, H.next_alloc, H.floor_set, H.next_set, stO_d, condO_t, fill_n, fill_c, fillS_s, bir_bslice, bir_alloc, bir_box, birB_s, repl_s, repl_z, List.map_cons, List.map_nil, setFrom_nil, setFrom_cons, allsc_nil, allsc_cons, Bool.and_true, Bool.true_and, Bool.and_self, List.append_nil, Option.map_some, Option.map_none, iadr_s, iadr_m, idP_s, idQ_s, bir_mksl, mkslB_s, alen_s, alen_n, alen_m, Bool.and_false, Bool.false_and, Bool.or_false, Bool.or_true, Bool.true_or, Bool.false_or, Bool.or_self, C_dregF, goD_s, goD2_t, stb_n, stb_c, stK_n, stK_c, stV_s, stB_f, beq_int, beq_bool, beq_tup0, beq_nils, beq_simm0, beq_str, beq_sobj, beq_pobj, opsD_nil, opsD_u, opsD_g, goOD_s, preD_t, preD_f, AOp.loud, AOp.births, st1_u, st1_g, Int.reduceAdd, Int.reduceSub, Int.reduceMul, Int.reduceNeg, Int.reduceToNat, eqbB_s, beq_refl, beqs_refl, stB_t, beO_s, stBv_t, stBv_p, stBv_o, st1b_alloc, st1b_box, st1b_bslice, st1b_mksl, g1, ln, evC_loop, r1']
end Ab
set_option linter.unusedSimpArgs false
set_option linter.unusedVariables false
namespace Ab
open Go
end Ab
set_option linter.unusedSimpArgs false
set_option linter.unusedVariables false
namespace Ab
open Go
theorem snap_ints {h : H} {v : AV} {l : List Int} {fl : Nat} (o : Own h v (ints l)) (hf : fl ≤ h.floor) (hl : l ≠ []) : snap h.get fl 16 true v = some (immI l) := by
  rcases o with ⟨_, q⟩ | ⟨id, rfl, q, h2, _⟩
  · exact absurd (List.map_eq_nil_iff.1 q) hl
  · unfold snap
    rw [if_neg (by omega), q, Option.bind_some, if_pos (by omega)]
    rw [List.drop_zero, Nat.mul_one, List.take_length, mapO_ints]
    simp [immI]
end Ab
set_option linter.unusedSimpArgs false
set_option linter.unusedVariables false
namespace Ab
open Go
end Ab
set_option linter.unusedSimpArgs false
set_option linter.unusedVariables false
namespace Ab
open Go
end Ab
set_option linter.unusedSimpArgs false
set_option linter.unusedVariables false
namespace Ab
open Go
end Ab
set_option linter.unusedSimpArgs false
set_option linter.unusedVariables false
namespace Ab
open Go
abbrev E7 (k : Int) : Prop := k = 700 ∨ k = 701
theorem storeA_err {t : ByteArray} {most k : Int} : ∀ {n p : Nat} {out : List Nat}, storeA t most n p out = .error k → E7 k
  | 0, p, out, h => by cases h
  | n + 1, p, out, h => by
    unfold storeA at h
    split at h
    · split at h
      · cases h; exact .inr rfl
      · exact storeA_err h
    · cases h; exact .inl rfl
theorem storedA_err {t : ByteArray} {most k : Int} {p : Nat} {out : List Nat} (h : storedA t most p out = .error k) : E7 k := by
  unfold storedA at h
  dsimp only at h
  split at h
  · split at h
    · exact storeA_err h
    · cases h; exact .inl rfl
  · cases h; exact .inl rfl
theorem copyL_err {most k : Int} {d : Nat} : ∀ {n : Nat} {out : List Nat}, copyL most d n out = .error k → E7 k
  | 0, out, h => by cases h
  | n + 1, out, h => by
    unfold copyL at h
    split at h
    · cases h; exact .inr rfl
    · exact copyL_err h
theorem copyA_err {t : ByteArray} {most k : Int} {dl : List Int} {y p : Nat} {out : List Nat} (h : copyA t most dl y p out = .error k) : E7 k := by
  unfold copyA at h
  split at h
  · cases h; exact .inl rfl
  · split at h
    · split at h
      · cases h; exact .inl rfl
      · split at h
        · cases h; exact .inl rfl
        · split at h
          · split at h
            · cases h
            · rename_i q; cases h; exact copyL_err q
          · cases h; exact .inl rfl
    · cases h; exact .inl rfl
theorem codedA_err {t : ByteArray} {most k : Int} {ll dl : List Int} : ∀ {n p : Nat} {out : List Nat}, codedA t most ll dl n p out = .error k → E7 k
  | 0, p, out, h => by cases h; exact .inl rfl
  | n + 1, p, out, h => by
    unfold codedA at h
    split at h
    · cases h; exact .inl rfl
    · split at h
      · split at h
        · cases h; exact .inr rfl
        · exact codedA_err h
      · split at h
        · cases h
        · split at h
          · exact codedA_err h
          · rename_i q; cases h; exact copyA_err q
theorem dynA_err {t : ByteArray} {most k : Int} {p : Nat} {out : List Nat} (h : dynA t most p out = .error k) : E7 k := by
  unfold dynA at h
  dsimp only at h
  split at h
  · split at h
    · cases h; exact .inl rfl
    · split at h
      · cases h; exact .inl rfl
      · split at h
        · cases h; exact .inl rfl
        · exact codedA_err h
  · cases h; exact .inl rfl
theorem blockA_err {t : ByteArray} {most k : Int} {p : Nat} {out : List Nat} (h : blockA t most p out = .error k) : E7 k := by
  unfold blockA at h
  dsimp only at h
  split at h
  · split at h
    · cases h
    · rename_i q
      cases h
      split at q
      · exact storedA_err q
      · split at q
        · exact codedA_err q
        · split at q
          · exact dynA_err q
          · cases q; exact .inl rfl
  · cases h; exact .inl rfl
theorem infLoop_err {t : ByteArray} {most k : Int} : ∀ {n p : Nat} {out : List Nat}, infLoop t most n p out = .error k → E7 k
  | 0, p, out, h => by
    unfold infLoop at h
    cases h; exact .inl rfl
  | n + 1, p, out, h => by
    unfold infLoop at h
    split at h
    · rename_i q; cases h; exact blockA_err q
    · split at h
      · cases h
      · exact infLoop_err h
theorem inflateA_err {t : ByteArray} {most k : Int} (h : inflateA t most = .error k) : E7 k := by
  unfold inflateA at h
  split at h
  · cases h; exact .inl rfl
  · split at h
    · cases h
    · rename_i q; cases h; exact infLoop_err q
end Ab
set_option linter.unusedSimpArgs false
set_option linter.unusedVariables false
set_option maxRecDepth 100000
namespace Ab
open Go
def unpackA (method : Int) (s : ByteArray) (size : Int) : Option ByteArray :=
  if size < 0 ∨ 300 < size then none
  else if method = 0 then (if (s.size : Int) = size then some s else none)
  else if method = 8 then (match inflateA s size with
    | .ok (o, took) => if (o.length : Int) = size ∧ took = s.size then some (bytesOf o) else none
    | .error _ => none)
  else none
theorem unpackA_size {m : Int} {s : ByteArray} {z : Int} {t : ByteArray} (h : unpackA m s z = some t) : (t.size : Int) = z ∧ 0 ≤ z ∧ z ≤ 300 := by
  unfold unpackA at h
  split at h
  · cases h
  · rename_i q
    split at h
    · split at h
      · rename_i q2; obtain rfl := Option.some.inj h; omega
      · cases h
    · split at h
      · split at h
        · split at h
          · rename_i q2
            obtain rfl := Option.some.inj h
            rw [bytesOf_size]; omega
          · cases h
        · cases h
      · cases h
def unpV : Option ByteArray → AV
  | some t => .tup [.str t, .int .i64 0]
  | none => .tup [.str ⟨#[]⟩, .int .i64 900]
theorem unpack_c (h : H) (hf : h.floor ≤ h.next) (m : Int) (s : ByteArray) (z : Int) (hs : s.size < 1125899906842624) : callW AP.A 114 [.int .i64 m, .str s, .int .i64 z] h = some (unpV (unpackA m s z), h) := by
  unfold unpackA
  by_cases c1 : z < 0
  · rw [if_pos (.inl c1)]
    refine pure_c (fn := AP.f114) (h2 := h.fence) (e := [(6, .str ⟨#[]⟩), (7, .int .i64 900)]) rfl rfl rfl ?_ rfl rfl
    simp (disch := omega) only [go_sem, abin_shl, abin_shr, Nat.reduceEqDiff, reduceIte, Nat.reduceAdd, Nat.reduceMul, Nat.reduceLT, Nat.reduceLeDiff, Int.reduceBEq, Int.reduceBNe, Int.reduceLT, Int.reduceLE, Int.reduceEq, dt, df, eqt, eqf, net, nef, wi, wb, alen_str, idxs_at, tn_add, tn_nat, aix, get_hit, get_miss, set_hit, set_miss, H.floor_alloc, H.next_alloc, H.floor_set, H.next_set, stO_d, condO_t, fill_n, fill_c, fillS_s, bir_bslice, bir_alloc, bir_box, birB_s, repl_s, repl_z, List.map_cons, List.map_nil, setFrom_nil, setFrom_cons, allsc_nil, allsc_cons, Bool.and_true, Bool.true_and, Bool.and_self, List.append_nil, Option.map_some, Option.map_none, iadr_s, iadr_m, idP_s, idQ_s, bir_mksl, mkslB_s, alen_s, alen_n, alen_m, Bool.and_false, Bool.false_and, Bool.or_false, Bool.or_true, Bool.true_or, Bool.false_or, Bool.or_self, C_dregF, goD_s, goD2_t, stb_n, stb_c, stK_n, stK_c, stV_s, stB_f, beq_int, beq_bool, beq_tup0, beq_nils, beq_simm0, beq_str, beq_sobj, beq_pobj, opsD_nil, opsD_u, opsD_g, goOD_s, preD_t, preD_f, AOp.loud, AOp.births, st1_u, st1_g, Int.reduceAdd, Int.reduceSub, Int.reduceMul, Int.reduceNeg, Int.reduceToNat, eqbB_s, beq_refl, beqs_refl, stB_t, beO_s, stBv_t, stBv_p, stBv_o, st1b_alloc, st1b_box, st1b_bslice, st1b_mksl, AP.f114]
  by_cases c2 : 300 < z
  · rw [if_pos (.inr c2)]
    refine pure_c (fn := AP.f114) (h2 := h.fence) (e := [(6, .str ⟨#[]⟩), (7, .int .i64 900)]) rfl rfl rfl ?_ rfl rfl
    simp (disch := omega) only [go_sem, abin_shl, abin_shr, Nat.reduceEqDiff, reduceIte, Nat.reduceAdd, Nat.reduceMul, Nat.reduceLT, Nat.reduceLeDiff, Int.reduceBEq, Int.reduceBNe, Int.reduceLT, Int.reduceLE, Int.reduceEq, dt, df, eqt, eqf, net, nef, wi, wb, alen_str, idxs_at, tn_add, tn_nat, aix, get_hit, get_miss, set_hit, set_miss, H.floor_alloc, H.next_alloc, H.floor_set, H.next_set, stO_d, condO_t, fill_n, fill_c, fillS_s, bir_bslice, bir_alloc, bir_box, birB_s, repl_s, repl_z, List.map_cons, List.map_nil, setFrom_nil, setFrom_cons, allsc_nil, allsc_cons, Bool.and_true, Bool.true_and, Bool.and_self, List.append_nil, Option.map_some, Option.map_none, iadr_s, iadr_m, idP_s, idQ_s, bir_mksl, mkslB_s, alen_s, alen_n, alen_m, Bool.and_false, Bool.false_and, Bool.or_false, Bool.or_true, Bool.true_or, Bool.false_or, Bool.or_self, C_dregF, goD_s, goD2_t, stb_n, stb_c, stK_n, stK_c, stV_s, stB_f, beq_int, beq_bool, beq_tup0, beq_nils, beq_simm0, beq_str, beq_sobj, beq_pobj, opsD_nil, opsD_u, opsD_g, goOD_s, preD_t, preD_f, AOp.loud, AOp.births, st1_u, st1_g, Int.reduceAdd, Int.reduceSub, Int.reduceMul, Int.reduceNeg, Int.reduceToNat, eqbB_s, beq_refl, beqs_refl, stB_t, beO_s, stBv_t, stBv_p, stBv_o, st1b_alloc, st1b_box, st1b_bslice, st1b_mksl, AP.f114]
  rw [if_neg (by omega)]
  by_cases c3 : m = 0
  · rw [if_pos c3]
    by_cases c4 : (s.size : Int) = z
    · rw [if_pos c4]
      refine pure_c (fn := AP.f114) (h2 := h.fence) (e := [(6, .str s), (7, .int .i64 0)]) rfl rfl rfl ?_ rfl rfl
      simp (disch := omega) only [go_sem, abin_shl, abin_shr, Nat.reduceEqDiff, reduceIte, Nat.reduceAdd, Nat.reduceMul, Nat.reduceLT, Nat.reduceLeDiff, Int.reduceBEq, Int.reduceBNe, Int.reduceLT, Int.reduceLE, Int.reduceEq, dt, df, eqt, eqf, net, nef, wi, wb, alen_str, idxs_at, tn_add, tn_nat, aix, get_hit, get_miss, set_hit, set_miss, H.floor_alloc, H.next_alloc, H.floor_set, H.next_set, stO_d, condO_t, fill_n, fill_c, fillS_s, bir_bslice, bir_alloc, bir_box, birB_s, repl_s, repl_z, List.map_cons, List.map_nil, setFrom_nil, setFrom_cons, allsc_nil, allsc_cons, Bool.and_true, Bool.true_and, Bool.and_self, List.append_nil, Option.map_some, Option.map_none, iadr_s, iadr_m, idP_s, idQ_s, bir_mksl, mkslB_s, alen_s, alen_n, alen_m, Bool.and_false, Bool.false_and, Bool.or_false, Bool.or_true, Bool.true_or, Bool.false_or, Bool.or_self, C_dregF, goD_s, goD2_t, stb_n, stb_c, stK_n, stK_c, stV_s, stB_f, beq_int, beq_bool, beq_tup0, beq_nils, beq_simm0, beq_str, beq_sobj, beq_pobj, opsD_nil, opsD_u, opsD_g, goOD_s, preD_t, preD_f, AOp.loud, AOp.births, st1_u, st1_g, Int.reduceAdd, Int.reduceSub, Int.reduceMul, Int.reduceNeg, Int.reduceToNat, eqbB_s, beq_refl, beqs_refl, stB_t, beO_s, stBv_t, stBv_p, stBv_o, st1b_alloc, st1b_box, st1b_bslice, st1b_mksl, AP.f114]
    · rw [if_neg c4]
      refine pure_c (fn := AP.f114) (h2 := h.fence) (e := [(6, .str ⟨#[]⟩), (7, .int .i64 900)]) rfl rfl rfl ?_ rfl rfl
      simp (disch := omega) only [go_sem, abin_shl, abin_shr, Nat.reduceEqDiff, reduceIte, Nat.reduceAdd, Nat.reduceMul, Nat.reduceLT, Nat.reduceLeDiff, Int.reduceBEq, Int.reduceBNe, Int.reduceLT, Int.reduceLE, Int.reduceEq, dt, df, eqt, eqf, net, nef, wi, wb, alen_str, idxs_at, tn_add, tn_nat, aix, get_hit, get_miss, set_hit, set_miss, H.floor_alloc, H.next_alloc, H.floor_set, H.next_set, stO_d, condO_t, fill_n, fill_c, fillS_s, bir_bslice, bir_alloc, bir_box, birB_s, repl_s, repl_z, List.map_cons, List.map_nil, setFrom_nil, setFrom_cons, allsc_nil, allsc_cons, Bool.and_true, Bool.true_and, Bool.and_self, List.append_nil, Option.map_some, Option.map_none, iadr_s, iadr_m, idP_s, idQ_s, bir_mksl, mkslB_s, alen_s, alen_n, alen_m, Bool.and_false, Bool.false_and, Bool.or_false, Bool.or_true, Bool.true_or, Bool.false_or, Bool.or_self, C_dregF, goD_s, goD2_t, stb_n, stb_c, stK_n, stK_c, stV_s, stB_f, beq_int, beq_bool, beq_tup0, beq_nils, beq_simm0, beq_str, beq_sobj, beq_pobj, opsD_nil, opsD_u, opsD_g, goOD_s, preD_t, preD_f, AOp.loud, AOp.births, st1_u, st1_g, Int.reduceAdd, Int.reduceSub, Int.reduceMul, Int.reduceNeg, Int.reduceToNat, eqbB_s, beq_refl, beqs_refl, stB_t, beO_s, stBv_t, stBv_p, stBv_o, st1b_alloc, st1b_box, st1b_bslice, st1b_mksl, AP.f114]
  rw [if_neg c3]
  by_cases c5 : m = 8
  · rw [if_pos c5]
    have k1 := inflate_c h.fence (by simp) s z hs
    simp only [I] at k1
    cases hi : inflateA s z with
    | error k =>
      rw [hi] at k1
      simp only [infV, I] at k1
      have hk := inflateA_err hi
      have hk' : ¬ k = 0 := by rcases hk with rfl | rfl <;> decide
      clear hk
      refine pure_c (fn := AP.f114) (h2 := h.fence) (e := [(6, .str ⟨#[]⟩), (7, .int .i64 900)]) rfl rfl rfl ?_ rfl rfl
      simp (disch := omega) only [go_sem, abin_shl, abin_shr, Nat.reduceEqDiff, reduceIte, Nat.reduceAdd, Nat.reduceMul, Nat.reduceLT, Nat.reduceLeDiff, Int.reduceBEq, Int.reduceBNe, Int.reduceLT, Int.reduceLE, Int.reduceEq, dt, df, eqt, eqf, net, nef, wi, wb, alen_str, idxs_at, tn_add, tn_nat, aix, get_hit, get_miss, set_hit, set_miss, H.floor_alloc, H.next_alloc, H.floor_set, H.next_set, stO_d, condO_t, fill_n, fill_c, fillS_s, bir_bslice, bir_alloc, bir_box, birB_s, repl_s, repl_z, List.map_cons, List.map_nil, setFrom_nil, setFrom_cons, allsc_nil, allsc_cons, Bool.and_true, Bool.true_and, Bool.and_self, List.append_nil, Option.map_some, Option.map_none, iadr_s, iadr_m, idP_s, idQ_s, bir_mksl, mkslB_s, alen_s, alen_n, alen_m, Bool.and_false, Bool.false_and, Bool.or_false, Bool.or_true, Bool.true_or, Bool.false_or, Bool.or_self, C_dregF, goD_s, goD2_t, stb_n, stb_c, stK_n, stK_c, stV_s, stB_f, beq_int, beq_bool, beq_tup0, beq_nils, beq_simm0, beq_str, beq_sobj, beq_pobj, opsD_nil, opsD_u, opsD_g, goOD_s, preD_t, preD_f, AOp.loud, AOp.births, st1_u, st1_g, Int.reduceAdd, Int.reduceSub, Int.reduceMul, Int.reduceNeg, Int.reduceToNat, eqbB_s, beq_refl, beqs_refl, stB_t, beO_s, stBv_t, stBv_p, stBv_o, st1b_alloc, st1b_box, st1b_bslice, st1b_mksl, AP.f114, k1]
    | ok r =>
      obtain ⟨o, took⟩ := r
      rw [hi] at k1
      simp only [infV, I] at k1
      dsimp only
      have sz := bytesOf_size o
      by_cases c6 : (o.length : Int) = z
      · by_cases c7 : took = s.size
        · rw [if_pos ⟨c6, c7⟩]
          refine pure_c (fn := AP.f114) (h2 := h.fence) (e := [(6, .str (bytesOf o)), (7, .int .i64 0)]) rfl rfl rfl ?_ rfl rfl
          simp (disch := omega) only [go_sem, abin_shl, abin_shr, Nat.reduceEqDiff, reduceIte, Nat.reduceAdd, Nat.reduceMul, Nat.reduceLT, Nat.reduceLeDiff, Int.reduceBEq, Int.reduceBNe, Int.reduceLT, Int.reduceLE, Int.reduceEq, dt, df, eqt, eqf, net, nef, wi, wb, alen_str, idxs_at, tn_add, tn_nat, aix, get_hit, get_miss, set_hit, set_miss, H.floor_alloc, H.next_alloc, H.floor_set, H.next_set, stO_d, condO_t, fill_n, fill_c, fillS_s, bir_bslice, bir_alloc, bir_box, birB_s, repl_s, repl_z, List.map_cons, List.map_nil, setFrom_nil, setFrom_cons, allsc_nil, allsc_cons, Bool.and_true, Bool.true_and, Bool.and_self, List.append_nil, Option.map_some, Option.map_none, iadr_s, iadr_m, idP_s, idQ_s, bir_mksl, mkslB_s, alen_s, alen_n, alen_m, Bool.and_false, Bool.false_and, Bool.or_false, Bool.or_true, Bool.true_or, Bool.false_or, Bool.or_self, C_dregF, goD_s, goD2_t, stb_n, stb_c, stK_n, stK_c, stV_s, stB_f, beq_int, beq_bool, beq_tup0, beq_nils, beq_simm0, beq_str, beq_sobj, beq_pobj, opsD_nil, opsD_u, opsD_g, goOD_s, preD_t, preD_f, AOp.loud, AOp.births, st1_u, st1_g, Int.reduceAdd, Int.reduceSub, Int.reduceMul, Int.reduceNeg, Int.reduceToNat, eqbB_s, beq_refl, beqs_refl, stB_t, beO_s, stBv_t, stBv_p, stBv_o, st1b_alloc, st1b_box, st1b_bslice, st1b_mksl, AP.f114, k1, sz]
        · rw [if_neg (fun q => c7 q.2)]
          refine pure_c (fn := AP.f114) (h2 := h.fence) (e := [(6, .str ⟨#[]⟩), (7, .int .i64 900)]) rfl rfl rfl ?_ rfl rfl
          simp (disch := omega) only [go_sem, abin_shl, abin_shr, Nat.reduceEqDiff, reduceIte, Nat.reduceAdd, Nat.reduceMul, Nat.reduceLT, Nat.reduceLeDiff, Int.reduceBEq, Int.reduceBNe, Int.reduceLT, Int.reduceLE, Int.reduceEq, dt, df, eqt, eqf, net, nef, wi, wb, alen_str, idxs_at, tn_add, tn_nat, aix, get_hit, get_miss, set_hit, set_miss, H.floor_alloc, H.next_alloc, H.floor_set, H.next_set, stO_d, condO_t, fill_n, fill_c, fillS_s, bir_bslice, bir_alloc, bir_box, birB_s, repl_s, repl_z, List.map_cons, List.map_nil, setFrom_nil, setFrom_cons, allsc_nil, allsc_cons, Bool.and_true, Bool.true_and, Bool.and_self, List.append_nil, Option.map_some, Option.map_none, iadr_s, iadr_m, idP_s, idQ_s, bir_mksl, mkslB_s, alen_s, alen_n, alen_m, Bool.and_false, Bool.false_and, Bool.or_false, Bool.or_true, Bool.true_or, Bool.false_or, Bool.or_self, C_dregF, goD_s, goD2_t, stb_n, stb_c, stK_n, stK_c, stV_s, stB_f, beq_int, beq_bool, beq_tup0, beq_nils, beq_simm0, beq_str, beq_sobj, beq_pobj, opsD_nil, opsD_u, opsD_g, goOD_s, preD_t, preD_f, AOp.loud, AOp.births, st1_u, st1_g, Int.reduceAdd, Int.reduceSub, Int.reduceMul, Int.reduceNeg, Int.reduceToNat, eqbB_s, beq_refl, beqs_refl, stB_t, beO_s, stBv_t, stBv_p, stBv_o, st1b_alloc, st1b_box, st1b_bslice, st1b_mksl, AP.f114, k1, sz]
      · rw [if_neg (fun q => c6 q.1)]
        refine pure_c (fn := AP.f114) (h2 := h.fence) (e := [(6, .str ⟨#[]⟩), (7, .int .i64 900)]) rfl rfl rfl ?_ rfl rfl
        simp (disch := omega) only [go_sem, abin_shl, abin_shr, Nat.reduceEqDiff, reduceIte, Nat.reduceAdd, Nat.reduceMul, Nat.reduceLT, Nat.reduceLeDiff, Int.reduceBEq, Int.reduceBNe, Int.reduceLT, Int.reduceLE, Int.reduceEq, dt, df, eqt, eqf, net, nef, wi, wb, alen_str, idxs_at, tn_add, tn_nat, aix, get_hit, get_miss, set_hit, set_miss, H.floor_alloc, H.next_alloc, H.floor_set, H.next_set, stO_d, condO_t, fill_n, fill_c, fillS_s, bir_bslice, bir_alloc, bir_box, birB_s, repl_s, repl_z, List.map_cons, List.map_nil, setFrom_nil, setFrom_cons, allsc_nil, allsc_cons, Bool.and_true, Bool.true_and, Bool.and_self, List.append_nil, Option.map_some, Option.map_none, iadr_s, iadr_m, idP_s, idQ_s, bir_mksl, mkslB_s, alen_s, alen_n, alen_m, Bool.and_false, Bool.false_and, Bool.or_false, Bool.or_true, Bool.true_or, Bool.false_or, Bool.or_self, C_dregF, goD_s, goD2_t, stb_n, stb_c, stK_n, stK_c, stV_s, stB_f, beq_int, beq_bool, beq_tup0, beq_nils, beq_simm0, beq_str, beq_sobj, beq_pobj, opsD_nil, opsD_u, opsD_g, goOD_s, preD_t, preD_f, AOp.loud, AOp.births, st1_u, st1_g, Int.reduceAdd, Int.reduceSub, Int.reduceMul, Int.reduceNeg, Int.reduceToNat, eqbB_s, beq_refl, beqs_refl, stB_t, beO_s, stBv_t, stBv_p, stBv_o, st1b_alloc, st1b_box, st1b_bslice, st1b_mksl, AP.f114, k1, sz]
  · rw [if_neg c5]
    refine pure_c (fn := AP.f114) (h2 := h.fence) (e := [(6, .str ⟨#[]⟩), (7, .int .i64 900)]) rfl rfl rfl ?_ rfl rfl
    simp (disch := omega) only [go_sem, abin_shl, abin_shr, Nat.reduceEqDiff, reduceIte, Nat.reduceAdd, Nat.reduceMul, Nat.reduceLT, Nat.reduceLeDiff, Int.reduceBEq, Int.reduceBNe, Int.reduceLT, Int.reduceLE, Int.reduceEq, dt, df, eqt, eqf, net, nef, wi, wb, alen_str, idxs_at, tn_add, tn_nat, aix, get_hit, get_miss, set_hit, set_miss, H.floor_alloc, H.next_alloc, H.floor_set, H.next_set, stO_d, condO_t, fill_n, fill_c, fillS_s, bir_bslice, bir_alloc, bir_box, birB_s, repl_s, repl_z, List.map_cons, List.map_nil, setFrom_nil, setFrom_cons, allsc_nil, allsc_cons, Bool.and_true, Bool.true_and, Bool.and_self, List.append_nil, Option.map_some, Option.map_none, iadr_s, iadr_m, idP_s, idQ_s, bir_mksl, mkslB_s, alen_s, alen_n, alen_m, Bool.and_false, Bool.false_and, Bool.or_false, Bool.or_true, Bool.true_or, Bool.false_or, Bool.or_self, C_dregF, goD_s, goD2_t, stb_n, stb_c, stK_n, stK_c, stV_s, stB_f, beq_int, beq_bool, beq_tup0, beq_nils, beq_simm0, beq_str, beq_sobj, beq_pobj, opsD_nil, opsD_u, opsD_g, goOD_s, preD_t, preD_f, AOp.loud, AOp.births, st1_u, st1_g, Int.reduceAdd, Int.reduceSub, Int.reduceMul, Int.reduceNeg, Int.reduceToNat, eqbB_s, beq_refl, beqs_refl, stB_t, beO_s, stBv_t, stBv_p, stBv_o, st1b_alloc, st1b_box, st1b_bslice, st1b_mksl, AP.f114]
def entText (e : Ent) : Option ByteArray :=
  if mayF [e] = false then none
  else if e.gone then some ⟨#[]⟩
  else match unpackA e.method e.packed e.size with
    | some t => if (crcA t : Int) = e.crc then some t else none
    | none => none
theorem text_c (h : H) (hf : h.floor ≤ h.next) (e : Ent) (v : AV) (hv : v.sc = true) (ok : EOk h (e, v)) : ∃ t, callW AP.A 107 [.agg (entC e v)] h = some (.tup [.str t, .bool (entText e).isSome], h) ∧ (∀ u, entText e = some u → t = u) := by
  obtain ⟨h1, eh1⟩ : ∃ g, g = h.fence.alloc (entC e v) := ⟨_, rfl⟩
  obtain ⟨h2, eh2⟩ : ∃ g, g = h1.alloc (entC e v) := ⟨_, rfl⟩
  have hx1 : Ext h h1 := fun i c q => by rw [eh1]; exact ((Ext.refl h.fence).alloc _) i c q
  have hx2 : Ext h h2 := by rw [eh2]; exact hx1.alloc _
  have hn0 : h.fence.next = h.next := rfl
  have hn1 : h1.next = h.next + 1 := by rw [eh1]; simp
  have g1 : h2.get h.next = some (entC e v) := by rw [eh2, get_miss (by omega), eh1, get_hit (by simp)]
  have g0 : h1.get h.next = some (entC e v) := by rw [eh1, get_hit (by simp)]
  have o : RdN 9 h2 (.sobj (h.next + 1) 0 1 9) 1 (entsC [(e, v)]) := by
    refine ⟨?_, rfl, fun _ => by simp⟩
    simp only [srcCells, if_true]
    rw [eh2, get_hit (by omega)]
    rfl
  have k1 := zmay_c h2 (.sobj (h.next + 1) 0 1 9) [(e, v)] rfl (by simp) o (fun x hx => by
    obtain rfl : x = (e, v) := by simpa using hx
    exact ok.mono hx2)
  have k1' : callW AP.A 113 [.agg [.sobj (h.next + 1) 0 1 9]] h2 = some (.bool (mayF [e]), h2) := k1
  have hf2 : h2.floor ≤ h2.next := by rw [eh2, eh1]; simp; omega
  have k2 := unpack_c h2 hf2 e.method e.packed e.size ok.pl
  have rdA : rdc true 9 (entC e v) 0 = some (.agg (entC e v)) := rfl
  have cr : ∀ t : ByteArray, t.size < 1125899906842624 → callW AP.A 115 [.str t] h2 = some (.int .i64 (crcA t : Nat), h2) := fun t ht => of_crc_c h2 t ht
  clear k1 o hx1 hx2
  unfold entText
  simp only [entC] at *
  cases hm : mayF [e] with
  | false =>
    rw [hm] at k1'
    refine ⟨⟨#[]⟩, ?_, fun u q => by simp at q⟩
    rw [if_pos rfl]
    refine pure_c (fn := AP.f107) (h2 := h2) (e := [(2, .str ⟨#[]⟩), (3, .bool false)]) rfl rfl rfl ?_ rfl rfl
    simp (disch := omega) only [go_sem, abin_shl, abin_shr, Nat.reduceEqDiff, reduceIte, Nat.reduceAdd, Nat.reduceMul, Nat.reduceLT, Nat.reduceLeDiff, Int.reduceBEq, Int.reduceBNe, Int.reduceLT, Int.reduceLE, Int.reduceEq, dt, df, eqt, eqf, net, nef, wi, wb, alen_str, idxs_at, tn_add, tn_nat, aix, get_hit, get_miss, set_hit, set_miss, H.floor_alloc, H.next_alloc, H.floor_set, H.next_set, stO_d, condO_t, fill_n, fill_c, fillS_s, bir_bslice, bir_alloc, bir_box, birB_s, repl_s, repl_z, List.map_cons, List.map_nil, setFrom_nil, setFrom_cons, allsc_nil, allsc_cons, Bool.and_true, Bool.true_and, Bool.and_self, List.append_nil, Option.map_some, Option.map_none, iadr_s, iadr_m, idP_s, idQ_s, bir_mksl, mkslB_s, alen_s, alen_n, alen_m, Bool.and_false, Bool.false_and, Bool.or_false, Bool.or_true, Bool.true_or, Bool.false_or, Bool.or_self, C_dregF, goD_s, goD2_t, stb_n, stb_c, stK_n, stK_c, stV_s, stB_f, beq_int, beq_bool, beq_tup0, beq_nils, beq_simm0, beq_str, beq_sobj, beq_pobj, opsD_nil, opsD_u, opsD_g, goOD_s, preD_t, preD_f, AOp.loud, AOp.births, st1_u, st1_g, Int.reduceAdd, Int.reduceSub, Int.reduceMul, Int.reduceNeg, Int.reduceToNat, eqbB_s, beq_refl, beqs_refl, stB_t, beO_s, stBv_t, stBv_p, stBv_o, st1b_alloc, st1b_box, st1b_bslice, st1b_mksl, AP.f107, hv, hn0, ← eh1, g0, rdA, hn1, ← eh2, k1']
  | true =>
    rw [hm] at k1'
    rw [if_neg (by decide)]
    cases hg : e.gone with
    | true =>
      rw [hg] at g1 g0 eh1 eh2 rdA
      refine ⟨⟨#[]⟩, ?_, fun u q => by simpa using q⟩
      refine pure_c (fn := AP.f107) (h2 := h2) (e := [(2, .str ⟨#[]⟩), (3, .bool true)]) rfl rfl rfl ?_ rfl rfl
      simp (disch := omega) only [go_sem, abin_shl, abin_shr, Nat.reduceEqDiff, reduceIte, Nat.reduceAdd, Nat.reduceMul, Nat.reduceLT, Nat.reduceLeDiff, Int.reduceBEq, Int.reduceBNe, Int.reduceLT, Int.reduceLE, Int.reduceEq, dt, df, eqt, eqf, net, nef, wi, wb, alen_str, idxs_at, tn_add, tn_nat, aix, get_hit, get_miss, set_hit, set_miss, H.floor_alloc, H.next_alloc, H.floor_set, H.next_set, stO_d, condO_t, fill_n, fill_c, fillS_s, bir_bslice, bir_alloc, bir_box, birB_s, repl_s, repl_z, List.map_cons, List.map_nil, setFrom_nil, setFrom_cons, allsc_nil, allsc_cons, Bool.and_true, Bool.true_and, Bool.and_self, List.append_nil, Option.map_some, Option.map_none, iadr_s, iadr_m, idP_s, idQ_s, bir_mksl, mkslB_s, alen_s, alen_n, alen_m, Bool.and_false, Bool.false_and, Bool.or_false, Bool.or_true, Bool.true_or, Bool.false_or, Bool.or_self, C_dregF, goD_s, goD2_t, stb_n, stb_c, stK_n, stK_c, stV_s, stB_f, beq_int, beq_bool, beq_tup0, beq_nils, beq_simm0, beq_str, beq_sobj, beq_pobj, opsD_nil, opsD_u, opsD_g, goOD_s, preD_t, preD_f, AOp.loud, AOp.births, st1_u, st1_g, Int.reduceAdd, Int.reduceSub, Int.reduceMul, Int.reduceNeg, Int.reduceToNat, eqbB_s, beq_refl, beqs_refl, stB_t, beO_s, stBv_t, stBv_p, stBv_o, st1b_alloc, st1b_box, st1b_bslice, st1b_mksl, AP.f107, hv, hn0, ← eh1, g0, g1, rdA, hn1, ← eh2, k1']
    | false =>
      rw [hg] at g1 g0 eh1 eh2 rdA
      rw [if_neg (by decide)]
      cases hu : unpackA e.method e.packed e.size with
      | none =>
        rw [hu] at k2
        simp only [unpV] at k2
        refine ⟨⟨#[]⟩, ?_, fun u q => by simp at q⟩
        refine pure_c (fn := AP.f107) (h2 := h2) (e := [(2, .str ⟨#[]⟩), (3, .bool false)]) rfl rfl rfl ?_ rfl rfl
        simp (disch := omega) only [go_sem, abin_shl, abin_shr, Nat.reduceEqDiff, reduceIte, Nat.reduceAdd, Nat.reduceMul, Nat.reduceLT, Nat.reduceLeDiff, Int.reduceBEq, Int.reduceBNe, Int.reduceLT, Int.reduceLE, Int.reduceEq, dt, df, eqt, eqf, net, nef, wi, wb, alen_str, idxs_at, tn_add, tn_nat, aix, get_hit, get_miss, set_hit, set_miss, H.floor_alloc, H.next_alloc, H.floor_set, H.next_set, stO_d, condO_t, fill_n, fill_c, fillS_s, bir_bslice, bir_alloc, bir_box, birB_s, repl_s, repl_z, List.map_cons, List.map_nil, setFrom_nil, setFrom_cons, allsc_nil, allsc_cons, Bool.and_true, Bool.true_and, Bool.and_self, List.append_nil, Option.map_some, Option.map_none, iadr_s, iadr_m, idP_s, idQ_s, bir_mksl, mkslB_s, alen_s, alen_n, alen_m, Bool.and_false, Bool.false_and, Bool.or_false, Bool.or_true, Bool.true_or, Bool.false_or, Bool.or_self, C_dregF, goD_s, goD2_t, stb_n, stb_c, stK_n, stK_c, stV_s, stB_f, beq_int, beq_bool, beq_tup0, beq_nils, beq_simm0, beq_str, beq_sobj, beq_pobj, opsD_nil, opsD_u, opsD_g, goOD_s, preD_t, preD_f, AOp.loud, AOp.births, st1_u, st1_g, Int.reduceAdd, Int.reduceSub, Int.reduceMul, Int.reduceNeg, Int.reduceToNat, eqbB_s, beq_refl, beqs_refl, stB_t, beO_s, stBv_t, stBv_p, stBv_o, st1b_alloc, st1b_box, st1b_bslice, st1b_mksl, AP.f107, hv, hn0, ← eh1, g0, g1, rdA, hn1, ← eh2, k1', k2]
      | some t =>
        rw [hu] at k2
        simp only [unpV] at k2
        have kc := cr t (by have := unpackA_size hu; omega)
        dsimp only
        by_cases c : (crcA t : Int) = e.crc
        · rw [if_pos c]
          refine ⟨t, ?_, fun u q => Option.some.inj q⟩
          refine pure_c (fn := AP.f107) (h2 := h2) (e := [(2, .str t), (3, .bool true)]) rfl rfl rfl ?_ rfl rfl
          simp (disch := omega) only [go_sem, abin_shl, abin_shr, Nat.reduceEqDiff, reduceIte, Nat.reduceAdd, Nat.reduceMul, Nat.reduceLT, Nat.reduceLeDiff, Int.reduceBEq, Int.reduceBNe, Int.reduceLT, Int.reduceLE, Int.reduceEq, dt, df, eqt, eqf, net, nef, wi, wb, alen_str, idxs_at, tn_add, tn_nat, aix, get_hit, get_miss, set_hit, set_miss, H.floor_alloc, H.next_alloc, H.floor_set, H.next_set, stO_d, condO_t, fill_n, fill_c, fillS_s, bir_bslice, bir_alloc, bir_box, birB_s, repl_s, repl_z, List.map_cons, List.map_nil, setFrom_nil, setFrom_cons, allsc_nil, allsc_cons, Bool.and_true, Bool.true_and, Bool.and_self, List.append_nil, Option.map_some, Option.map_none, iadr_s, iadr_m, idP_s, idQ_s, bir_mksl, mkslB_s, alen_s, alen_n, alen_m, Bool.and_false, Bool.false_and, Bool.or_false, Bool.or_true, Bool.true_or, Bool.false_or, Bool.or_self, C_dregF, goD_s, goD2_t, stb_n, stb_c, stK_n, stK_c, stV_s, stB_f, beq_int, beq_bool, beq_tup0, beq_nils, beq_simm0, beq_str, beq_sobj, beq_pobj, opsD_nil, opsD_u, opsD_g, goOD_s, preD_t, preD_f, AOp.loud, AOp.births, st1_u, st1_g, Int.reduceAdd, Int.reduceSub, Int.reduceMul, Int.reduceNeg, Int.reduceToNat, eqbB_s, beq_refl, beqs_refl, stB_t, beO_s, stBv_t, stBv_p, stBv_o, st1b_alloc, st1b_box, st1b_bslice, st1b_mksl, AP.f107, hv, hn0, ← eh1, g0, g1, rdA, hn1, ← eh2, k1', k2, kc]
        · rw [if_neg c]
          refine ⟨t, ?_, fun u q => by simp at q⟩
          refine pure_c (fn := AP.f107) (h2 := h2) (e := [(2, .str t), (3, .bool false)]) rfl rfl rfl ?_ rfl rfl
          simp (disch := omega) only [go_sem, abin_shl, abin_shr, Nat.reduceEqDiff, reduceIte, Nat.reduceAdd, Nat.reduceMul, Nat.reduceLT, Nat.reduceLeDiff, Int.reduceBEq, Int.reduceBNe, Int.reduceLT, Int.reduceLE, Int.reduceEq, dt, df, eqt, eqf, net, nef, wi, wb, alen_str, idxs_at, tn_add, tn_nat, aix, get_hit, get_miss, set_hit, set_miss, H.floor_alloc, H.next_alloc, H.floor_set, H.next_set, stO_d, condO_t, fill_n, fill_c, fillS_s, bir_bslice, bir_alloc, bir_box, birB_s, repl_s, repl_z, List.map_cons, List.map_nil, setFrom_nil, setFrom_cons, allsc_nil, allsc_cons, Bool.and_true, Bool.true_and, Bool.and_self, List.append_nil, Option.map_some, Option.map_none, iadr_s, iadr_m, idP_s, idQ_s, bir_mksl, mkslB_s, alen_s, alen_n, alen_m, Bool.and_false, Bool.false_and, Bool.or_false, Bool.or_true, Bool.true_or, Bool.false_or, Bool.or_self, C_dregF, goD_s, goD2_t, stb_n, stb_c, stK_n, stK_c, stV_s, stB_f, beq_int, beq_bool, beq_tup0, beq_nils, beq_simm0, beq_str, beq_sobj, beq_pobj, opsD_nil, opsD_u, opsD_g, goOD_s, preD_t, preD_f, AOp.loud, AOp.births, st1_u, st1_g, Int.reduceAdd, Int.reduceSub, Int.reduceMul, Int.reduceNeg, Int.reduceToNat, eqbB_s, beq_refl, beqs_refl, stB_t, beO_s, stBv_t, stBv_p, stBv_o, st1b_alloc, st1b_box, st1b_bslice, st1b_mksl, AP.f107, hv, hn0, ← eh1, g0, g1, rdA, hn1, ← eh2, k1', k2, kc]
def mayE (e : Ent) : Bool := (entText e).isSome
theorem emay_c (h : H) (hf : h.floor ≤ h.next) (e : Ent) (v : AV) (hv : v.sc = true) (ok : EOk h (e, v)) : callW AP.A 96 [.agg (entC e v)] h = some (.bool (mayE e), h) := by
  obtain ⟨h1, eh1⟩ : ∃ g, g = h.fence.alloc (entC e v) := ⟨_, rfl⟩
  have hx1 : Ext h h1 := fun i c q => by rw [eh1]; exact ((Ext.refl h.fence).alloc _) i c q
  have hn0 : h.fence.next = h.next := rfl
  have g0 : h1.get h.next = some (entC e v) := by rw [eh1, get_hit (by simp)]
  obtain ⟨t, k1, _⟩ := text_c h1 (by rw [eh1]; simp) e v hv (ok.mono hx1)
  have rdA : rdc true 9 (entC e v) 0 = some (.agg (entC e v)) := rfl
  refine pure_c (fn := AP.f96) (h2 := h1) (e := [(2, .bool (mayE e))]) rfl rfl rfl ?_ rfl rfl
  clear hx1
  unfold mayE
  simp only [entC] at *
  simp (disch := omega) only [go_sem, abin_shl, abin_shr, Nat.reduceEqDiff, reduceIte, Nat.reduceAdd, Nat.reduceMul, Nat.reduceLT, Nat.reduceLeDiff, Int.reduceBEq, Int.reduceBNe, Int.reduceLT, Int.reduceLE, Int.reduceEq, dt, df, eqt, eqf, net, nef, wi, wb, alen_str, idxs_at, tn_add, tn_nat, aix, get_hit, get_miss, set_hit, set_miss, H.floor_alloc, H.next_alloc, H.floor_set, H.next_set, stO_d, condO_t, fill_n, fill_c, fillS_s, bir_bslice, bir_alloc, bir_box, birB_s, repl_s, repl_z, List.map_cons, List.map_nil, setFrom_nil, setFrom_cons, allsc_nil, allsc_cons, Bool.and_true, Bool.true_and, Bool.and_self, List.append_nil, Option.map_some, Option.map_none, iadr_s, iadr_m, idP_s, idQ_s, bir_mksl, mkslB_s, alen_s, alen_n, alen_m, Bool.and_false, Bool.false_and, Bool.or_false, Bool.or_true, Bool.true_or, Bool.false_or, Bool.or_self, C_dregF, goD_s, goD2_t, stb_n, stb_c, stK_n, stK_c, stV_s, stB_f, beq_int, beq_bool, beq_tup0, beq_nils, beq_simm0, beq_str, beq_sobj, beq_pobj, opsD_nil, opsD_u, opsD_g, goOD_s, preD_t, preD_f, AOp.loud, AOp.births, st1_u, st1_g, Int.reduceAdd, Int.reduceSub, Int.reduceMul, Int.reduceNeg, Int.reduceToNat, eqbB_s, beq_refl, beqs_refl, stB_t, beO_s, stBv_t, stBv_p, stBv_o, st1b_alloc, st1b_box, st1b_bslice, st1b_mksl, AP.f96, hv, hn0, ← eh1, g0, rdA, k1]
def txtV (e : Ent) : AV := match entText e with
  | none => .tup [.str ⟨#[]⟩, .int .i64 1500]
  | some t => if e.gone then .tup [.str ⟨#[]⟩, .int .i64 1501] else .tup [.str t, .int .i64 0]
theorem etext_c (h : H) (hf : h.floor ≤ h.next) (e : Ent) (v : AV) (hv : v.sc = true) (ok : EOk h (e, v)) : callW AP.A 100 [.agg (entC e v)] h = some (txtV e, h) := by
  obtain ⟨h1, eh1⟩ : ∃ g, g = h.fence.alloc (entC e v) := ⟨_, rfl⟩
  have hx1 : Ext h h1 := fun i c q => by rw [eh1]; exact ((Ext.refl h.fence).alloc _) i c q
  have hn0 : h.fence.next = h.next := rfl
  have g0 : h1.get h.next = some (entC e v) := by rw [eh1, get_hit (by simp)]
  obtain ⟨t, k1, kt⟩ := text_c h1 (by rw [eh1]; simp) e v hv (ok.mono hx1)
  have rdA : rdc true 9 (entC e v) 0 = some (.agg (entC e v)) := rfl
  unfold txtV
  clear hx1
  cases ht : entText e with
  | none =>
    rw [ht] at k1
    refine pure_c (fn := AP.f100) (h2 := h1) (e := [(2, .str ⟨#[]⟩), (3, .int .i64 1500)]) rfl rfl rfl ?_ rfl rfl
    simp only [entC, Option.isSome_none] at *
    simp (disch := omega) only [go_sem, abin_shl, abin_shr, Nat.reduceEqDiff, reduceIte, Nat.reduceAdd, Nat.reduceMul, Nat.reduceLT, Nat.reduceLeDiff, Int.reduceBEq, Int.reduceBNe, Int.reduceLT, Int.reduceLE, Int.reduceEq, dt, df, eqt, eqf, net, nef, wi, wb, alen_str, idxs_at, tn_add, tn_nat, aix, get_hit, get_miss, set_hit, set_miss, H.floor_alloc, H.next_alloc, H.floor_set, H.next_set, stO_d, condO_t, fill_n, fill_c, fillS_s, bir_bslice, bir_alloc, bir_box, birB_s, repl_s, repl_z, List.map_cons, List.map_nil, setFrom_nil, setFrom_cons, allsc_nil, allsc_cons, Bool.and_true, Bool.true_and, Bool.and_self, List.append_nil, Option.map_some, Option.map_none, iadr_s, iadr_m, idP_s, idQ_s, bir_mksl, mkslB_s, alen_s, alen_n, alen_m, Bool.and_false, Bool.false_and, Bool.or_false, Bool.or_true, Bool.true_or, Bool.false_or, Bool.or_self, C_dregF, goD_s, goD2_t, stb_n, stb_c, stK_n, stK_c, stV_s, stB_f, beq_int, beq_bool, beq_tup0, beq_nils, beq_simm0, beq_str, beq_sobj, beq_pobj, opsD_nil, opsD_u, opsD_g, goOD_s, preD_t, preD_f, AOp.loud, AOp.births, st1_u, st1_g, Int.reduceAdd, Int.reduceSub, Int.reduceMul, Int.reduceNeg, Int.reduceToNat, eqbB_s, beq_refl, beqs_refl, stB_t, beO_s, stBv_t, stBv_p, stBv_o, st1b_alloc, st1b_box, st1b_bslice, st1b_mksl, AP.f100, hv, hn0, ← eh1, g0, rdA, k1]
  | some u =>
    rw [ht] at k1
    obtain rfl := kt u ht
    cases hg : e.gone with
    | true =>
      refine pure_c (fn := AP.f100) (h2 := h1) (e := [(2, .str ⟨#[]⟩), (3, .int .i64 1501)]) rfl rfl rfl ?_ rfl rfl
      simp only [entC, Option.isSome_some, hg] at *
      simp (disch := omega) only [go_sem, abin_shl, abin_shr, Nat.reduceEqDiff, reduceIte, Nat.reduceAdd, Nat.reduceMul, Nat.reduceLT, Nat.reduceLeDiff, Int.reduceBEq, Int.reduceBNe, Int.reduceLT, Int.reduceLE, Int.reduceEq, dt, df, eqt, eqf, net, nef, wi, wb, alen_str, idxs_at, tn_add, tn_nat, aix, get_hit, get_miss, set_hit, set_miss, H.floor_alloc, H.next_alloc, H.floor_set, H.next_set, stO_d, condO_t, fill_n, fill_c, fillS_s, bir_bslice, bir_alloc, bir_box, birB_s, repl_s, repl_z, List.map_cons, List.map_nil, setFrom_nil, setFrom_cons, allsc_nil, allsc_cons, Bool.and_true, Bool.true_and, Bool.and_self, List.append_nil, Option.map_some, Option.map_none, iadr_s, iadr_m, idP_s, idQ_s, bir_mksl, mkslB_s, alen_s, alen_n, alen_m, Bool.and_false, Bool.false_and, Bool.or_false, Bool.or_true, Bool.true_or, Bool.false_or, Bool.or_self, C_dregF, goD_s, goD2_t, stb_n, stb_c, stK_n, stK_c, stV_s, stB_f, beq_int, beq_bool, beq_tup0, beq_nils, beq_simm0, beq_str, beq_sobj, beq_pobj, opsD_nil, opsD_u, opsD_g, goOD_s, preD_t, preD_f, AOp.loud, AOp.births, st1_u, st1_g, Int.reduceAdd, Int.reduceSub, Int.reduceMul, Int.reduceNeg, Int.reduceToNat, eqbB_s, beq_refl, beqs_refl, stB_t, beO_s, stBv_t, stBv_p, stBv_o, st1b_alloc, st1b_box, st1b_bslice, st1b_mksl, AP.f100, hv, hn0, ← eh1, g0, rdA, k1]
    | false =>
      refine pure_c (fn := AP.f100) (h2 := h1) (e := [(2, .str t), (3, .int .i64 0)]) rfl rfl rfl ?_ rfl rfl
      simp only [entC, Option.isSome_some, hg] at *
      simp (disch := omega) only [go_sem, abin_shl, abin_shr, Nat.reduceEqDiff, reduceIte, Nat.reduceAdd, Nat.reduceMul, Nat.reduceLT, Nat.reduceLeDiff, Int.reduceBEq, Int.reduceBNe, Int.reduceLT, Int.reduceLE, Int.reduceEq, dt, df, eqt, eqf, net, nef, wi, wb, alen_str, idxs_at, tn_add, tn_nat, aix, get_hit, get_miss, set_hit, set_miss, H.floor_alloc, H.next_alloc, H.floor_set, H.next_set, stO_d, condO_t, fill_n, fill_c, fillS_s, bir_bslice, bir_alloc, bir_box, birB_s, repl_s, repl_z, List.map_cons, List.map_nil, setFrom_nil, setFrom_cons, allsc_nil, allsc_cons, Bool.and_true, Bool.true_and, Bool.and_self, List.append_nil, Option.map_some, Option.map_none, iadr_s, iadr_m, idP_s, idQ_s, bir_mksl, mkslB_s, alen_s, alen_n, alen_m, Bool.and_false, Bool.false_and, Bool.or_false, Bool.or_true, Bool.true_or, Bool.false_or, Bool.or_self, C_dregF, goD_s, goD2_t, stb_n, stb_c, stK_n, stK_c, stV_s, stB_f, beq_int, beq_bool, beq_tup0, beq_nils, beq_simm0, beq_str, beq_sobj, beq_pobj, opsD_nil, opsD_u, opsD_g, goOD_s, preD_t, preD_f, AOp.loud, AOp.births, st1_u, st1_g, Int.reduceAdd, Int.reduceSub, Int.reduceMul, Int.reduceNeg, Int.reduceToNat, eqbB_s, beq_refl, beqs_refl, stB_t, beO_s, stBv_t, stBv_p, stBv_o, st1b_alloc, st1b_box, st1b_bslice, st1b_mksl, AP.f100, hv, hn0, ← eh1, g0, rdA, k1]
theorem mayF1 (e : Ent) : mayF [e] = (nameA e.name && (headA e && contA e)) := by
  unfold mayF mayL
  rw [entOk_n]
  simp [mayL]
end Ab
set_option linter.unusedSimpArgs false
set_option linter.unusedVariables false
set_option maxRecDepth 100000
namespace Ab
open Go
theorem op_mx2 (c : CallT) (e : Env) (h : H) (x y : X) : evOp c e h (.mx [x, y]) = ret1 h (amax2 (x.ev e) (y.ev e)) := by
  simp only [evOp, evArgs, List.map_cons, List.map_nil, fold2]
  cases amax2 (x.ev e) (y.ev e) <;> rfl
def maxI (a b : Int) : Int := if a < b then b else a
theorem amax2_s (k : IntKind) (a b : Int) : amax2 (.int k a) (.int k b) = some (.int k (maxI a b)) := rfl
def joinL (a b : List Int) : List Int := List.zipWith maxI a b
theorem Rd.nnil {h : H} {v : AV} {cs : List AV} (r : Rd h v cs) (hc : cs ≠ []) : aeqn 1 v .nils = some false := by
  obtain ⟨r, hs⟩ := r
  unfold srcCells at r
  split at r
  · obtain ⟨_, h2⟩ := Prod.mk.inj (Option.some.inj r); exact absurd h2.symm hc
  · exact absurd rfl (hs _)
  · rfl
  · rfl
  · cases r
theorem app_empty {n : Nat} {h : H} {v : AV} {k : Nat} {cs : List AV} (r : RdN n h v k cs) (hfn : h.floor ≤ h.next) (hn : 0 < n) (hk : 0 < k) {z : Nat} (hr : roomy z k = true) (hc : AV.allsc cs = true) :
    aapp (h.alloc []) n z (.sobj h.next 0 0 n) v = some (.sobj (h.next + 1) 0 k n, ((h.alloc []).del h.next).alloc cs) := by
  have r2 : RdN n (h.alloc []) v k cs := r.mono fun i c q => by rw [H.get_alloc, if_neg (by have := h.lt _ _ q; omega)]; exact q
  unfold aapp
  rw [r2.1, Option.bind_some]
  have hkn : 0 < k * n := Nat.mul_pos hk hn
  unfold aappc
  rw [if_neg (by omega), if_neg (by simp [hc]; omega)]
  simp only [H.floor_alloc, hfn, and_self, if_true]
  rw [get_hit rfl, Option.bind_some, if_neg (by simp; omega), if_pos ⟨by simp, by simpa using hr⟩]
  simp
theorem app_empty0 {n : Nat} {h : H} {v : AV} {cs : List AV} (r : RdN n h v 0 cs) {z : Nat} : aapp (h.alloc []) n z (.sobj h.next 0 0 n) v = some (.sobj h.next 0 0 n, h.alloc []) := by
  have r2 : RdN n (h.alloc []) v 0 cs := r.mono fun i c q => by rw [H.get_alloc, if_neg (by have := h.lt _ _ q; omega)]; exact q
  unfold aapp
  rw [r2.1, Option.bind_some]
  rfl
theorem ints_allsc : ∀ l : List Int, AV.allsc (ints l) = true
  | [] => rfl
  | n :: l => by
    have := ints_allsc l
    show AV.allsc (I n :: ints l) = true
    rw [allsc_cons, this]; rfl
theorem clone_c (h : H) (v : AV) (l : List Int) (rd : Rd h v (ints l)) (hl : 0 < l.length) (hb : l.length < 1000000) (hfn : h.floor ≤ h.next) : callW AP.A 118 [v] h = some (.sobj (h.next + 1) 0 l.length 1, ((h.alloc []).del h.next).alloc (ints l)) := by
  have r2 := rd.rdN
  rw [ints_length] at r2
  have ap := app_empty r2 hfn (by omega) hl (z := 8) (by simp [roomy]; omega) (ints_allsc l)
  have nn := rd.nnil (fun q => by
    have q2 : (ints l).length = 0 := by rw [q]; rfl
    rw [ints_length] at q2
    omega)
  refine plain_c (fn := AP.f118) (h2 := ((h.alloc []).del h.next).alloc (ints l)) (e := [(2, .sobj (h.next + 1) 0 l.length 1)]) (vs := [.sobj (h.next + 1) 0 l.length 1]) rfl rfl rfl ?_ rfl
  clear rd r2
  simp (disch := omega) only [go_sem, abin_shl, abin_shr, Nat.reduceEqDiff, reduceIte, Nat.reduceAdd, Nat.reduceMul, Nat.reduceLT, Nat.reduceLeDiff, Int.reduceBEq, Int.reduceBNe, Int.reduceLT, Int.reduceLE, Int.reduceEq, dt, df, eqt, eqf, net, nef, wi, wb, alen_str, idxs_at, tn_add, tn_nat, aix, get_hit, get_miss, set_hit, set_miss, H.floor_alloc, H.next_alloc, H.floor_set, H.next_set, stO_d, condO_t, fill_n, fill_c, fillS_s, bir_bslice, bir_alloc, bir_box, birB_s, repl_s, repl_z, List.map_cons, List.map_nil, setFrom_nil, setFrom_cons, allsc_nil, allsc_cons, Bool.and_true, Bool.true_and, Bool.and_self, List.append_nil, Option.map_some, Option.map_none, iadr_s, iadr_m, idP_s, idQ_s, bir_mksl, mkslB_s, alen_s, alen_n, alen_m, Bool.and_false, Bool.false_and, Bool.or_false, Bool.or_true, Bool.true_or, Bool.false_or, Bool.or_self, C_dregF, goD_s, goD2_t, stb_n, stb_c, stK_n, stK_c, stV_s, stB_f, beq_int, beq_bool, beq_tup0, beq_nils, beq_simm0, beq_str, beq_sobj, beq_pobj, opsD_nil, opsD_u, opsD_g, goOD_s, preD_t, preD_f, AOp.loud, AOp.births, st1_u, st1_g, Int.reduceAdd, Int.reduceSub, Int.reduceMul, Int.reduceNeg, Int.reduceToNat, eqbB_s, beq_refl, beqs_refl, stB_t, beO_s, stBv_t, stBv_p, stBv_o, st1b_alloc, st1b_box, st1b_bslice, st1b_mksl, AP.f118, nn, ap]
theorem list4 {l : List Int} (h : l.length = 4) : ∃ a b c d, l = [a, b, c, d] := by
  match l, h with
  | [a, b, c, d], _ => exact ⟨a, b, c, d, rfl⟩
def vecV (l : List Int) : AV := slN 1 l.length (ints l)
theorem join_step (h : H) (id : Nat) (b0 : AV) (adv : Int → AV) (i : Nat) (x y : Int) (cs : List AV) (hi : i < 4) (hg : h.get id = some cs) (hl : cs.length = 4) (hx : cs[i]? = some (.int .i64 x)) (hf : h.floor ≤ id)
    (a1 : aiadr 1 b0 (.int .i64 i) = some (adv i)) (a2 : aload false 1 (adv i) h = some (.int .i64 y)) :
    evC (callW AP.A) loopW AP.f110L0 (restr [(6, .sobj id 0 4 1), (19, b0), (20, .int .i64 4), (21, .int .i64 i)] [6, 19, 20, 21]) h = some (.normal, [(6, .sobj id 0 4 1), (19, b0), (20, .int .i64 4), (21, .int .i64 ((i : Int) + 1))], h.set id (cs.set i (.int .i64 (maxI x y)))) := by
  have st := stO_1 (h := h) (id := id) (off := i) (v := .int .i64 (maxI x y)) (cs := cs) hf (by omega) rfl
  simp (disch := omega) only [go_sem, abin_shl, abin_shr, Nat.reduceEqDiff, reduceIte, Nat.reduceAdd, Nat.reduceMul, Nat.reduceLT, Nat.reduceLeDiff, Int.reduceBEq, Int.reduceBNe, Int.reduceLT, Int.reduceLE, Int.reduceEq, dt, df, eqt, eqf, net, nef, wi, wb, alen_str, idxs_at, tn_add, tn_nat, aix, get_hit, get_miss, set_hit, set_miss, H.floor_alloc, H.next_alloc, H.floor_set, H.next_set, stO_d, condO_t, fill_n, fill_c, fillS_s, bir_bslice, bir_alloc, bir_box, birB_s, repl_s, repl_z, List.map_cons, List.map_nil, setFrom_nil, setFrom_cons, allsc_nil, allsc_cons, Bool.and_true, Bool.true_and, Bool.and_self, List.append_nil, Option.map_some, Option.map_none, iadr_s, iadr_m, idP_s, idQ_s, bir_mksl, mkslB_s, alen_s, alen_n, alen_m, Bool.and_false, Bool.false_and, Bool.or_false, Bool.or_true, Bool.true_or, Bool.false_or, Bool.or_self, C_dregF, goD_s, goD2_t, stb_n, stb_c, stK_n, stK_c, stV_s, stB_f, beq_int, beq_bool, beq_tup0, beq_nils, beq_simm0, beq_str, beq_sobj, beq_pobj, opsD_nil, opsD_u, opsD_g, goOD_s, preD_t, preD_f, AOp.loud, AOp.births, st1_u, st1_g, Int.reduceAdd, Int.reduceSub, Int.reduceMul, Int.reduceNeg, Int.reduceToNat, eqbB_s, beq_refl, beqs_refl, stB_t, beO_s, stBv_t, stBv_p, stBv_o, st1b_alloc, st1b_box, st1b_bslice, st1b_mksl, AP.f110L0, a1, a2, hg, hx, op_mx2, amax2_s, st]
theorem joinv_c (h : H) (v w : AV) (a b : List Int) (ra : Rd h v (ints a)) (rb : Rd h w (ints b)) (ha : vecA a = true) (hb : vecA b = true) (hfn : h.floor ≤ h.next) : callW AP.A 110 [v, w] h = some (.tup [vecV (joinL a b), .int .i64 0], h) := by
  have la : a.length = 4 := by unfold vecA at ha; simp only [Bool.and_eq_true, decide_eq_true_eq] at ha; exact ha.1
  have lb : b.length = 4 := by unfold vecA at hb; simp only [Bool.and_eq_true, decide_eq_true_eq] at hb; exact hb.1
  have ra' := ra.mono (get_fence_mono h)
  have rb' := rb.mono (get_fence_mono h)
  have k1 := vec_c h.fence v a ra' (by omega)
  have k2 := vec_c h.fence w b rb' (by omega)
  rw [ha] at k1; rw [hb] at k2
  have k3 := clone_c h.fence v a ra' (by omega) (by omega) (by simp)
  rw [la] at k3
  have hn : h.fence.next = h.next := rfl
  rw [hn] at k3
  obtain ⟨h1, eh1⟩ : ∃ g, g = ((h.fence.alloc []).del h.next).alloc (ints a) := ⟨_, rfl⟩
  rw [← eh1] at k3
  have n1 : h1.next = h.next + 2 := by rw [eh1]; simp
  have f1 : h1.floor = h.next := by rw [eh1]; simp
  have g1 : h1.get (h.next + 1) = some (ints a) := by rw [eh1]; exact get_hit (by simp)
  have e1 : Ext h h1 := fun i c q => by
    have := h.lt _ _ q
    rw [eh1, H.get_alloc, if_neg (by simp; omega), H.get_del, if_neg (by omega), H.get_alloc, if_neg (by simp; omega)]; exact q
  have ln := (rb.mono fun i c q => e1 i c q).len
  rw [ints_length, lb] at ln
  obtain ⟨adv, a1, a2⟩ := rb.ints_at
  obtain ⟨a0, b0, c0, d0, rfl⟩ := list4 la
  obtain ⟨p0, p1, p2, p3, rfl⟩ := list4 lb
  obtain ⟨h2, eh2⟩ : ∃ g, g = h1.set (h.next + 1) (ints [maxI a0 p0, b0, c0, d0]) := ⟨_, rfl⟩
  obtain ⟨h3, eh3⟩ : ∃ g, g = h2.set (h.next + 1) (ints [maxI a0 p0, maxI b0 p1, c0, d0]) := ⟨_, rfl⟩
  obtain ⟨h4, eh4⟩ : ∃ g, g = h3.set (h.next + 1) (ints [maxI a0 p0, maxI b0 p1, maxI c0 p2, d0]) := ⟨_, rfl⟩
  obtain ⟨h5, eh5⟩ : ∃ g, g = h4.set (h.next + 1) (ints [maxI a0 p0, maxI b0 p1, maxI c0 p2, maxI d0 p3]) := ⟨_, rfl⟩
  have g2 : h2.get (h.next + 1) = some (ints [maxI a0 p0, b0, c0, d0]) := by rw [eh2, set_hit rfl, g1]; rfl
  have g3 : h3.get (h.next + 1) = some (ints [maxI a0 p0, maxI b0 p1, c0, d0]) := by rw [eh3, set_hit rfl, g2]; rfl
  have g4 : h4.get (h.next + 1) = some (ints [maxI a0 p0, maxI b0 p1, maxI c0 p2, d0]) := by rw [eh4, set_hit rfl, g3]; rfl
  have g5 : h5.get (h.next + 1) = some (ints [maxI a0 p0, maxI b0 p1, maxI c0 p2, maxI d0 p3]) := by rw [eh5, set_hit rfl, g4]; rfl
  have e2 : Ext h h2 := by rw [eh2]; exact e1.set (by omega) _
  have e3 : Ext h h3 := by rw [eh3]; exact e2.set (by omega) _
  have e4 : Ext h h4 := by rw [eh4]; exact e3.set (by omega) _
  have s0 := join_step h1 (h.next + 1) w adv 0 a0 p0 _ (by omega) g1 rfl rfl (by omega) (a1 0 (by simp)) (a2 h1 e1 0 _ rfl)
  have s1 := join_step h2 (h.next + 1) w adv 1 b0 p1 _ (by omega) g2 rfl rfl (by rw [eh2]; simp; omega) (a1 1 (by simp)) (a2 h2 e2 1 _ rfl)
  have s2 := join_step h3 (h.next + 1) w adv 2 c0 p2 _ (by omega) g3 rfl rfl (by rw [eh3, eh2]; simp; omega) (a1 2 (by simp)) (a2 h3 e3 2 _ rfl)
  have s3 := join_step h4 (h.next + 1) w adv 3 d0 p3 _ (by omega) g4 rfl rfl (by rw [eh4, eh3, eh2]; simp; omega) (a1 3 (by simp)) (a2 h4 e4 3 _ rfl)
  have st0 : h1.set (h.next + 1) ((ints [a0, b0, c0, d0]).set 0 (.int .i64 (maxI a0 p0))) = h2 := eh2.symm
  have st1 : h2.set (h.next + 1) ((ints [maxI a0 p0, b0, c0, d0]).set 1 (.int .i64 (maxI b0 p1))) = h3 := eh3.symm
  have st2 : h3.set (h.next + 1) ((ints [maxI a0 p0, maxI b0 p1, c0, d0]).set 2 (.int .i64 (maxI c0 p2))) = h4 := eh4.symm
  have st3 : h4.set (h.next + 1) ((ints [maxI a0 p0, maxI b0 p1, maxI c0 p2, d0]).set 3 (.int .i64 (maxI d0 p3))) = h5 := eh5.symm
  rw [st0] at s0; rw [st1] at s1; rw [st2] at s2; rw [st3] at s3
  have fin : Lp AP.A [6, 19, 20, 21] AP.f110L0 [(6, .sobj (h.next + 1) 0 4 1), (19, w), (20, .int .i64 4), (21, .int .i64 4)] h5 = some (.exit 0, [(6, .sobj (h.next + 1) 0 4 1), (19, w), (20, .int .i64 4), (21, .int .i64 4), (22, .bool false)], h5) := by
    refine Lp_exit ?_
    simp (disch := omega) only [go_sem, abin_shl, abin_shr, Nat.reduceEqDiff, reduceIte, Nat.reduceAdd, Nat.reduceMul, Nat.reduceLT, Nat.reduceLeDiff, Int.reduceBEq, Int.reduceBNe, Int.reduceLT, Int.reduceLE, Int.reduceEq, dt, df, eqt, eqf, net, nef, wi, wb, alen_str, idxs_at, tn_add, tn_nat, aix, get_hit, get_miss, set_hit, set_miss, H.floor_alloc, H.next_alloc, H.floor_set, H.next_set, stO_d, condO_t, fill_n, fill_c, fillS_s, bir_bslice, bir_alloc, bir_box, birB_s, repl_s, repl_z, List.map_cons, List.map_nil, setFrom_nil, setFrom_cons, allsc_nil, allsc_cons, Bool.and_true, Bool.true_and, Bool.and_self, List.append_nil, Option.map_some, Option.map_none, iadr_s, iadr_m, idP_s, idQ_s, bir_mksl, mkslB_s, alen_s, alen_n, alen_m, Bool.and_false, Bool.false_and, Bool.or_false, Bool.or_true, Bool.true_or, Bool.false_or, Bool.or_self, C_dregF, goD_s, goD2_t, stb_n, stb_c, stK_n, stK_c, stV_s, stB_f, beq_int, beq_bool, beq_tup0, beq_nils, beq_simm0, beq_str, beq_sobj, beq_pobj, opsD_nil, opsD_u, opsD_g, goOD_s, preD_t, preD_f, AOp.loud, AOp.births, st1_u, st1_g, Int.reduceAdd, Int.reduceSub, Int.reduceMul, Int.reduceNeg, Int.reduceToNat, eqbB_s, beq_refl, beqs_refl, stB_t, beO_s, stBv_t, stBv_p, stBv_o, st1b_alloc, st1b_box, st1b_bslice, st1b_mksl, AP.f110L0]
  have lp : Lp AP.A [6, 19, 20, 21] AP.f110L0 [(6, .sobj (h.next + 1) 0 4 1), (19, w), (20, .int .i64 4), (21, .int .i64 0)] h1 = some (.exit 0, [(6, .sobj (h.next + 1) 0 4 1), (19, w), (20, .int .i64 4), (21, .int .i64 4), (22, .bool false)], h5) :=
    Lp_next s0 (Lp_next s1 (Lp_next s2 (Lp_next s3 fin)))
  simp only [I] at ln
  have ln' : alen false w = some (.int .i64 4) := ln
  refine pure_c (fn := AP.f110) (h2 := h5) (e := [(4, .sobj (h.next + 1) 0 4 1), (5, .int .i64 0)]) (vs := [.sobj (h.next + 1) 0 4 1, .int .i64 0]) rfl rfl rfl ?_ rfl ?_
  · clear a1 a2 e1 e2 e3 e4 s0 s1 s2 s3 ra rb ra' rb' fin ha hb
    simp (disch := omega) only [go_sem, abin_shl, abin_shr, Nat.reduceEqDiff, reduceIte, Nat.reduceAdd, Nat.reduceMul, Nat.reduceLT, Nat.reduceLeDiff, Int.reduceBEq, Int.reduceBNe, Int.reduceLT, Int.reduceLE, Int.reduceEq, dt, df, eqt, eqf, net, nef, wi, wb, alen_str, idxs_at, tn_add, tn_nat, aix, get_hit, get_miss, set_hit, set_miss, H.floor_alloc, H.next_alloc, H.floor_set, H.next_set, stO_d, condO_t, fill_n, fill_c, fillS_s, bir_bslice, bir_alloc, bir_box, birB_s, repl_s, repl_z, List.map_cons, List.map_nil, setFrom_nil, setFrom_cons, allsc_nil, allsc_cons, Bool.and_true, Bool.true_and, Bool.and_self, List.append_nil, Option.map_some, Option.map_none, iadr_s, iadr_m, idP_s, idQ_s, bir_mksl, mkslB_s, alen_s, alen_n, alen_m, Bool.and_false, Bool.false_and, Bool.or_false, Bool.or_true, Bool.true_or, Bool.false_or, Bool.or_self, C_dregF, goD_s, goD2_t, stb_n, stb_c, stK_n, stK_c, stV_s, stB_f, beq_int, beq_bool, beq_tup0, beq_nils, beq_simm0, beq_str, beq_sobj, beq_pobj, opsD_nil, opsD_u, opsD_g, goOD_s, preD_t, preD_f, AOp.loud, AOp.births, st1_u, st1_g, Int.reduceAdd, Int.reduceSub, Int.reduceMul, Int.reduceNeg, Int.reduceToNat, eqbB_s, beq_refl, beqs_refl, stB_t, beO_s, stBv_t, stBv_p, stBv_o, st1b_alloc, st1b_box, st1b_bslice, st1b_mksl, AP.f110, k1, k2, k3, ln', evC_loop, lp]
  · have o : OwnN 1 h5 (.sobj (h.next + 1) 0 4 1) 4 (ints [maxI a0 p0, maxI b0 p1, maxI c0 p2, maxI d0 p3]) := ⟨rfl, .inr ⟨_, rfl, g5, by rw [eh5, eh4, eh3, eh2]; simp; omega, by omega⟩⟩
    have s := o.snap_ints (fl := h.next) (m := 13) (t := true) (by rw [eh5, eh4, eh3, eh2]; simp [f1])
    show (mapO (snap h5.get h.next 15 true) [.sobj (h.next + 1) 0 4 1, .int .i64 0]).bind _ = _
    simp only [mapO, s, Option.bind_some]
    rfl
def cmpI (a b : Int) : Int := if a < b then -1 else if b < a then 1 else 0
theorem nan_c (h : H) (a : Int) : callW AP.A 116 [.int .i64 a] h = some (.bool false, h) := by
  refine pure_c (fn := AP.f116) (h2 := h.fence) (e := [(2, .bool false)]) rfl rfl rfl ?_ rfl rfl
  simp (disch := omega) only [go_sem, abin_shl, abin_shr, Nat.reduceEqDiff, reduceIte, Nat.reduceAdd, Nat.reduceMul, Nat.reduceLT, Nat.reduceLeDiff, Int.reduceBEq, Int.reduceBNe, Int.reduceLT, Int.reduceLE, Int.reduceEq, dt, df, eqt, eqf, net, nef, wi, wb, alen_str, idxs_at, tn_add, tn_nat, aix, get_hit, get_miss, set_hit, set_miss, H.floor_alloc, H.next_alloc, H.floor_set, H.next_set, stO_d, condO_t, fill_n, fill_c, fillS_s, bir_bslice, bir_alloc, bir_box, birB_s, repl_s, repl_z, List.map_cons, List.map_nil, setFrom_nil, setFrom_cons, allsc_nil, allsc_cons, Bool.and_true, Bool.true_and, Bool.and_self, List.append_nil, Option.map_some, Option.map_none, iadr_s, iadr_m, idP_s, idQ_s, bir_mksl, mkslB_s, alen_s, alen_n, alen_m, Bool.and_false, Bool.false_and, Bool.or_false, Bool.or_true, Bool.true_or, Bool.false_or, Bool.or_self, C_dregF, goD_s, goD2_t, stb_n, stb_c, stK_n, stK_c, stV_s, stB_f, beq_int, beq_bool, beq_tup0, beq_nils, beq_simm0, beq_str, beq_sobj, beq_pobj, opsD_nil, opsD_u, opsD_g, goOD_s, preD_t, preD_f, AOp.loud, AOp.births, st1_u, st1_g, Int.reduceAdd, Int.reduceSub, Int.reduceMul, Int.reduceNeg, Int.reduceToNat, eqbB_s, beq_refl, beqs_refl, stB_t, beO_s, stBv_t, stBv_p, stBv_o, st1b_alloc, st1b_box, st1b_bslice, st1b_mksl, AP.f116]
theorem cmp_c (h : H) (a b : Int) : callW AP.A 109 [.int .i64 a, .int .i64 b] h = some (.int .i64 (cmpI a b), h) := by
  have k1 := nan_c h.fence a
  have k2 := nan_c h.fence b
  unfold cmpI
  refine pure_c (fn := AP.f109) (h2 := h.fence) (e := [(4, .int .i64 (if a < b then -1 else if b < a then 1 else 0))]) rfl rfl rfl ?_ rfl rfl
  by_cases c1 : a < b
  · rw [if_pos c1]; simp (disch := omega) only [go_sem, abin_shl, abin_shr, Nat.reduceEqDiff, reduceIte, Nat.reduceAdd, Nat.reduceMul, Nat.reduceLT, Nat.reduceLeDiff, Int.reduceBEq, Int.reduceBNe, Int.reduceLT, Int.reduceLE, Int.reduceEq, dt, df, eqt, eqf, net, nef, wi, wb, alen_str, idxs_at, tn_add, tn_nat, aix, get_hit, get_miss, set_hit, set_miss, H.floor_alloc, H.next_alloc, H.floor_set, H.next_set, stO_d, condO_t, fill_n, fill_c, fillS_s, bir_bslice, bir_alloc, bir_box, birB_s, repl_s, repl_z, List.map_cons, List.map_nil, setFrom_nil, setFrom_cons, allsc_nil, allsc_cons, Bool.and_true, Bool.true_and, Bool.and_self, List.append_nil, Option.map_some, Option.map_none, iadr_s, iadr_m, idP_s, idQ_s, bir_mksl, mkslB_s, alen_s, alen_n, alen_m, Bool.and_false, Bool.false_and, Bool.or_false, Bool.or_true, Bool.true_or, Bool.false_or, Bool.or_self, C_dregF, goD_s, goD2_t, stb_n, stb_c, stK_n, stK_c, stV_s, stB_f, beq_int, beq_bool, beq_tup0, beq_nils, beq_simm0, beq_str, beq_sobj, beq_pobj, opsD_nil, opsD_u, opsD_g, goOD_s, preD_t, preD_f, AOp.loud, AOp.births, st1_u, st1_g, Int.reduceAdd, Int.reduceSub, Int.reduceMul, Int.reduceNeg, Int.reduceToNat, eqbB_s, beq_refl, beqs_refl, stB_t, beO_s, stBv_t, stBv_p, stBv_o, st1b_alloc, st1b_box, st1b_bslice, st1b_mksl, AP.f109, k1, k2]
  · rw [if_neg c1]
    by_cases c2 : b < a
    · rw [if_pos c2]; simp (disch := omega) only [go_sem, abin_shl, abin_shr, Nat.reduceEqDiff, reduceIte, Nat.reduceAdd, Nat.reduceMul, Nat.reduceLT, Nat.reduceLeDiff, Int.reduceBEq, Int.reduceBNe, Int.reduceLT, Int.reduceLE, Int.reduceEq, dt, df, eqt, eqf, net, nef, wi, wb, alen_str, idxs_at, tn_add, tn_nat, aix, get_hit, get_miss, set_hit, set_miss, H.floor_alloc, H.next_alloc, H.floor_set, H.next_set, stO_d, condO_t, fill_n, fill_c, fillS_s, bir_bslice, bir_alloc, bir_box, birB_s, repl_s, repl_z, List.map_cons, List.map_nil, setFrom_nil, setFrom_cons, allsc_nil, allsc_cons, Bool.and_true, Bool.true_and, Bool.and_self, List.append_nil, Option.map_some, Option.map_none, iadr_s, iadr_m, idP_s, idQ_s, bir_mksl, mkslB_s, alen_s, alen_n, alen_m, Bool.and_false, Bool.false_and, Bool.or_false, Bool.or_true, Bool.true_or, Bool.false_or, Bool.or_self, C_dregF, goD_s, goD2_t, stb_n, stb_c, stK_n, stK_c, stV_s, stB_f, beq_int, beq_bool, beq_tup0, beq_nils, beq_simm0, beq_str, beq_sobj, beq_pobj, opsD_nil, opsD_u, opsD_g, goOD_s, preD_t, preD_f, AOp.loud, AOp.births, st1_u, st1_g, Int.reduceAdd, Int.reduceSub, Int.reduceMul, Int.reduceNeg, Int.reduceToNat, eqbB_s, beq_refl, beqs_refl, stB_t, beO_s, stBv_t, stBv_p, stBv_o, st1b_alloc, st1b_box, st1b_bslice, st1b_mksl, AP.f109, k1, k2]
    · rw [if_neg c2]; simp (disch := omega) only [go_sem, abin_shl, abin_shr, Nat.reduceEqDiff, reduceIte, Nat.reduceAdd, Nat.reduceMul, Nat.reduceLT, Nat.reduceLeDiff, Int.reduceBEq, Int.reduceBNe, Int.reduceLT, Int.reduceLE, Int.reduceEq, dt, df, eqt, eqf, net, nef, wi, wb, alen_str, idxs_at, tn_add, tn_nat, aix, get_hit, get_miss, set_hit, set_miss, H.floor_alloc, H.next_alloc, H.floor_set, H.next_set, stO_d, condO_t, fill_n, fill_c, fillS_s, bir_bslice, bir_alloc, bir_box, birB_s, repl_s, repl_z, List.map_cons, List.map_nil, setFrom_nil, setFrom_cons, allsc_nil, allsc_cons, Bool.and_true, Bool.true_and, Bool.and_self, List.append_nil, Option.map_some, Option.map_none, iadr_s, iadr_m, idP_s, idQ_s, bir_mksl, mkslB_s, alen_s, alen_n, alen_m, Bool.and_false, Bool.false_and, Bool.or_false, Bool.or_true, Bool.true_or, Bool.false_or, Bool.or_self, C_dregF, goD_s, goD2_t, stb_n, stb_c, stK_n, stK_c, stV_s, stB_f, beq_int, beq_bool, beq_tup0, beq_nils, beq_simm0, beq_str, beq_sobj, beq_pobj, opsD_nil, opsD_u, opsD_g, goOD_s, preD_t, preD_f, AOp.loud, AOp.births, st1_u, st1_g, Int.reduceAdd, Int.reduceSub, Int.reduceMul, Int.reduceNeg, Int.reduceToNat, eqbB_s, beq_refl, beqs_refl, stB_t, beO_s, stBv_t, stBv_p, stBv_o, st1b_alloc, st1b_box, st1b_bslice, st1b_mksl, AP.f109, k1, k2]
def or2 (a b : Int) : Int := if a = 0 then b else a
theorem or_c (h : H) (v : AV) (a b : Int) (rd : Rd h v (ints [a, b])) : callW AP.A 108 [v] h = some (.int .i64 (or2 a b), h) := by
  have rd' := rd.mono (get_fence_mono h)
  have ln : alen false v = some (.int .i64 2) := rd'.len
  obtain ⟨ad, a1, a2⟩ := rd'.ints_at
  have i0 := a1 0 (by simp)
  have i1 := a1 1 (by simp)
  have l0 : aload false 1 (ad 0) h.fence = some (.int .i64 a) := a2 h.fence (Ext.refl _) 0 a rfl
  have l1 : aload false 1 (ad 1) h.fence = some (.int .i64 b) := a2 h.fence (Ext.refl _) 1 b rfl
  clear a1 a2 rd rd'
  unfold or2
  by_cases c1 : a = 0
  · rw [if_pos c1]
    have s0 : evC (callW AP.A) loopW AP.f108L0 (restr [(3, .int .i64 0), (6, v), (7, .int .i64 2), (8, .int .i64 0)] [3, 6, 7, 8]) h.fence = some (.normal, [(3, .int .i64 0), (6, v), (7, .int .i64 2), (8, .int .i64 1)], h.fence) := by
      simp (disch := omega) only [go_sem, abin_shl, abin_shr, Nat.reduceEqDiff, reduceIte, Nat.reduceAdd, Nat.reduceMul, Nat.reduceLT, Nat.reduceLeDiff, Int.reduceBEq, Int.reduceBNe, Int.reduceLT, Int.reduceLE, Int.reduceEq, dt, df, eqt, eqf, net, nef, wi, wb, alen_str, idxs_at, tn_add, tn_nat, aix, get_hit, get_miss, set_hit, set_miss, H.floor_alloc, H.next_alloc, H.floor_set, H.next_set, stO_d, condO_t, fill_n, fill_c, fillS_s, bir_bslice, bir_alloc, bir_box, birB_s, repl_s, repl_z, List.map_cons, List.map_nil, setFrom_nil, setFrom_cons, allsc_nil, allsc_cons, Bool.and_true, Bool.true_and, Bool.and_self, List.append_nil, Option.map_some, Option.map_none, iadr_s, iadr_m, idP_s, idQ_s, bir_mksl, mkslB_s, alen_s, alen_n, alen_m, Bool.and_false, Bool.false_and, Bool.or_false, Bool.or_true, Bool.true_or, Bool.false_or, Bool.or_self, C_dregF, goD_s, goD2_t, stb_n, stb_c, stK_n, stK_c, stV_s, stB_f, beq_int, beq_bool, beq_tup0, beq_nils, beq_simm0, beq_str, beq_sobj, beq_pobj, opsD_nil, opsD_u, opsD_g, goOD_s, preD_t, preD_f, AOp.loud, AOp.births, st1_u, st1_g, Int.reduceAdd, Int.reduceSub, Int.reduceMul, Int.reduceNeg, Int.reduceToNat, eqbB_s, beq_refl, beqs_refl, stB_t, beO_s, stBv_t, stBv_p, stBv_o, st1b_alloc, st1b_box, st1b_bslice, st1b_mksl, AP.f108L0, i0, l0]
    by_cases c2 : b = 0
    · have s1 : evC (callW AP.A) loopW AP.f108L0 (restr [(3, .int .i64 0), (6, v), (7, .int .i64 2), (8, .int .i64 1)] [3, 6, 7, 8]) h.fence = some (.normal, [(3, .int .i64 0), (6, v), (7, .int .i64 2), (8, .int .i64 2)], h.fence) := by
        simp (disch := omega) only [go_sem, abin_shl, abin_shr, Nat.reduceEqDiff, reduceIte, Nat.reduceAdd, Nat.reduceMul, Nat.reduceLT, Nat.reduceLeDiff, Int.reduceBEq, Int.reduceBNe, Int.reduceLT, Int.reduceLE, Int.reduceEq, dt, df, eqt, eqf, net, nef, wi, wb, alen_str, idxs_at, tn_add, tn_nat, aix, get_hit, get_miss, set_hit, set_miss, H.floor_alloc, H.next_alloc, H.floor_set, H.next_set, stO_d, condO_t, fill_n, fill_c, fillS_s, bir_bslice, bir_alloc, bir_box, birB_s, repl_s, repl_z, List.map_cons, List.map_nil, setFrom_nil, setFrom_cons, allsc_nil, allsc_cons, Bool.and_true, Bool.true_and, Bool.and_self, List.append_nil, Option.map_some, Option.map_none, iadr_s, iadr_m, idP_s, idQ_s, bir_mksl, mkslB_s, alen_s, alen_n, alen_m, Bool.and_false, Bool.false_and, Bool.or_false, Bool.or_true, Bool.true_or, Bool.false_or, Bool.or_self, C_dregF, goD_s, goD2_t, stb_n, stb_c, stK_n, stK_c, stV_s, stB_f, beq_int, beq_bool, beq_tup0, beq_nils, beq_simm0, beq_str, beq_sobj, beq_pobj, opsD_nil, opsD_u, opsD_g, goOD_s, preD_t, preD_f, AOp.loud, AOp.births, st1_u, st1_g, Int.reduceAdd, Int.reduceSub, Int.reduceMul, Int.reduceNeg, Int.reduceToNat, eqbB_s, beq_refl, beqs_refl, stB_t, beO_s, stBv_t, stBv_p, stBv_o, st1b_alloc, st1b_box, st1b_bslice, st1b_mksl, AP.f108L0, i1, l1]
      have fin : Lp AP.A [3, 6, 7, 8] AP.f108L0 [(3, .int .i64 0), (6, v), (7, .int .i64 2), (8, .int .i64 2)] h.fence = some (.exit 0, [(3, .int .i64 0), (6, v), (7, .int .i64 2), (8, .int .i64 2), (9, .bool false)], h.fence) := by
        refine Lp_exit ?_
        simp (disch := omega) only [go_sem, abin_shl, abin_shr, Nat.reduceEqDiff, reduceIte, Nat.reduceAdd, Nat.reduceMul, Nat.reduceLT, Nat.reduceLeDiff, Int.reduceBEq, Int.reduceBNe, Int.reduceLT, Int.reduceLE, Int.reduceEq, dt, df, eqt, eqf, net, nef, wi, wb, alen_str, idxs_at, tn_add, tn_nat, aix, get_hit, get_miss, set_hit, set_miss, H.floor_alloc, H.next_alloc, H.floor_set, H.next_set, stO_d, condO_t, fill_n, fill_c, fillS_s, bir_bslice, bir_alloc, bir_box, birB_s, repl_s, repl_z, List.map_cons, List.map_nil, setFrom_nil, setFrom_cons, allsc_nil, allsc_cons, Bool.and_true, Bool.true_and, Bool.and_self, List.append_nil, Option.map_some, Option.map_none, iadr_s, iadr_m, idP_s, idQ_s, bir_mksl, mkslB_s, alen_s, alen_n, alen_m, Bool.and_false, Bool.false_and, Bool.or_false, Bool.or_true, Bool.true_or, Bool.false_or, Bool.or_self, C_dregF, goD_s, goD2_t, stb_n, stb_c, stK_n, stK_c, stV_s, stB_f, beq_int, beq_bool, beq_tup0, beq_nils, beq_simm0, beq_str, beq_sobj, beq_pobj, opsD_nil, opsD_u, opsD_g, goOD_s, preD_t, preD_f, AOp.loud, AOp.births, st1_u, st1_g, Int.reduceAdd, Int.reduceSub, Int.reduceMul, Int.reduceNeg, Int.reduceToNat, eqbB_s, beq_refl, beqs_refl, stB_t, beO_s, stBv_t, stBv_p, stBv_o, st1b_alloc, st1b_box, st1b_bslice, st1b_mksl, AP.f108L0]
      have lp := Lp_next s0 (Lp_next s1 fin)
      refine pure_c (fn := AP.f108) (h2 := h.fence) (e := [(2, .int .i64 0)]) (vs := [.int .i64 b]) rfl rfl rfl ?_ (by rw [c2]; rfl) rfl
      clear s0 s1 fin
      simp (disch := omega) only [go_sem, abin_shl, abin_shr, Nat.reduceEqDiff, reduceIte, Nat.reduceAdd, Nat.reduceMul, Nat.reduceLT, Nat.reduceLeDiff, Int.reduceBEq, Int.reduceBNe, Int.reduceLT, Int.reduceLE, Int.reduceEq, dt, df, eqt, eqf, net, nef, wi, wb, alen_str, idxs_at, tn_add, tn_nat, aix, get_hit, get_miss, set_hit, set_miss, H.floor_alloc, H.next_alloc, H.floor_set, H.next_set, stO_d, condO_t, fill_n, fill_c, fillS_s, bir_bslice, bir_alloc, bir_box, birB_s, repl_s, repl_z, List.map_cons, List.map_nil, setFrom_nil, setFrom_cons, allsc_nil, allsc_cons, Bool.and_true, Bool.true_and, Bool.and_self, List.append_nil, Option.map_some, Option.map_none, iadr_s, iadr_m, idP_s, idQ_s, bir_mksl, mkslB_s, alen_s, alen_n, alen_m, Bool.and_false, Bool.false_and, Bool.or_false, Bool.or_true, Bool.true_or, Bool.false_or, Bool.or_self, C_dregF, goD_s, goD2_t, stb_n, stb_c, stK_n, stK_c, stV_s, stB_f, beq_int, beq_bool, beq_tup0, beq_nils, beq_simm0, beq_str, beq_sobj, beq_pobj, opsD_nil, opsD_u, opsD_g, goOD_s, preD_t, preD_f, AOp.loud, AOp.births, st1_u, st1_g, Int.reduceAdd, Int.reduceSub, Int.reduceMul, Int.reduceNeg, Int.reduceToNat, eqbB_s, beq_refl, beqs_refl, stB_t, beO_s, stBv_t, stBv_p, stBv_o, st1b_alloc, st1b_box, st1b_bslice, st1b_mksl, AP.f108, ln, evC_loop, lp]
    · have s1 : Lp AP.A [3, 6, 7, 8] AP.f108L0 [(3, .int .i64 0), (6, v), (7, .int .i64 2), (8, .int .i64 1)] h.fence = some (.ret, [(2, .int .i64 b)], h.fence) := by
        refine Lp_ret ?_
        simp (disch := omega) only [go_sem, abin_shl, abin_shr, Nat.reduceEqDiff, reduceIte, Nat.reduceAdd, Nat.reduceMul, Nat.reduceLT, Nat.reduceLeDiff, Int.reduceBEq, Int.reduceBNe, Int.reduceLT, Int.reduceLE, Int.reduceEq, dt, df, eqt, eqf, net, nef, wi, wb, alen_str, idxs_at, tn_add, tn_nat, aix, get_hit, get_miss, set_hit, set_miss, H.floor_alloc, H.next_alloc, H.floor_set, H.next_set, stO_d, condO_t, fill_n, fill_c, fillS_s, bir_bslice, bir_alloc, bir_box, birB_s, repl_s, repl_z, List.map_cons, List.map_nil, setFrom_nil, setFrom_cons, allsc_nil, allsc_cons, Bool.and_true, Bool.true_and, Bool.and_self, List.append_nil, Option.map_some, Option.map_none, iadr_s, iadr_m, idP_s, idQ_s, bir_mksl, mkslB_s, alen_s, alen_n, alen_m, Bool.and_false, Bool.false_and, Bool.or_false, Bool.or_true, Bool.true_or, Bool.false_or, Bool.or_self, C_dregF, goD_s, goD2_t, stb_n, stb_c, stK_n, stK_c, stV_s, stB_f, beq_int, beq_bool, beq_tup0, beq_nils, beq_simm0, beq_str, beq_sobj, beq_pobj, opsD_nil, opsD_u, opsD_g, goOD_s, preD_t, preD_f, AOp.loud, AOp.births, st1_u, st1_g, Int.reduceAdd, Int.reduceSub, Int.reduceMul, Int.reduceNeg, Int.reduceToNat, eqbB_s, beq_refl, beqs_refl, stB_t, beO_s, stBv_t, stBv_p, stBv_o, st1b_alloc, st1b_box, st1b_bslice, st1b_mksl, AP.f108L0, i1, l1]
      have lp := Lp_next s0 s1
      refine pure_c (fn := AP.f108) (h2 := h.fence) (e := [(2, .int .i64 b)]) rfl rfl rfl ?_ rfl rfl
      clear s0 s1
      simp (disch := omega) only [go_sem, abin_shl, abin_shr, Nat.reduceEqDiff, reduceIte, Nat.reduceAdd, Nat.reduceMul, Nat.reduceLT, Nat.reduceLeDiff, Int.reduceBEq, Int.reduceBNe, Int.reduceLT, Int.reduceLE, Int.reduceEq, dt, df, eqt, eqf, net, nef, wi, wb, alen_str, idxs_at, tn_add, tn_nat, aix, get_hit, get_miss, set_hit, set_miss, H.floor_alloc, H.next_alloc, H.floor_set, H.next_set, stO_d, condO_t, fill_n, fill_c, fillS_s, bir_bslice, bir_alloc, bir_box, birB_s, repl_s, repl_z, List.map_cons, List.map_nil, setFrom_nil, setFrom_cons, allsc_nil, allsc_cons, Bool.and_true, Bool.true_and, Bool.and_self, List.append_nil, Option.map_some, Option.map_none, iadr_s, iadr_m, idP_s, idQ_s, bir_mksl, mkslB_s, alen_s, alen_n, alen_m, Bool.and_false, Bool.false_and, Bool.or_false, Bool.or_true, Bool.true_or, Bool.false_or, Bool.or_self, C_dregF, goD_s, goD2_t, stb_n, stb_c, stK_n, stK_c, stV_s, stB_f, beq_int, beq_bool, beq_tup0, beq_nils, beq_simm0, beq_str, beq_sobj, beq_pobj, opsD_nil, opsD_u, opsD_g, goOD_s, preD_t, preD_f, AOp.loud, AOp.births, st1_u, st1_g, Int.reduceAdd, Int.reduceSub, Int.reduceMul, Int.reduceNeg, Int.reduceToNat, eqbB_s, beq_refl, beqs_refl, stB_t, beO_s, stBv_t, stBv_p, stBv_o, st1b_alloc, st1b_box, st1b_bslice, st1b_mksl, AP.f108, ln, evC_loop, lp]
  · rw [if_neg c1]
    have lp : Lp AP.A [3, 6, 7, 8] AP.f108L0 [(3, .int .i64 0), (6, v), (7, .int .i64 2), (8, .int .i64 0)] h.fence = some (.ret, [(2, .int .i64 a)], h.fence) := by
      refine Lp_ret ?_
      simp (disch := omega) only [go_sem, abin_shl, abin_shr, Nat.reduceEqDiff, reduceIte, Nat.reduceAdd, Nat.reduceMul, Nat.reduceLT, Nat.reduceLeDiff, Int.reduceBEq, Int.reduceBNe, Int.reduceLT, Int.reduceLE, Int.reduceEq, dt, df, eqt, eqf, net, nef, wi, wb, alen_str, idxs_at, tn_add, tn_nat, aix, get_hit, get_miss, set_hit, set_miss, H.floor_alloc, H.next_alloc, H.floor_set, H.next_set, stO_d, condO_t, fill_n, fill_c, fillS_s, bir_bslice, bir_alloc, bir_box, birB_s, repl_s, repl_z, List.map_cons, List.map_nil, setFrom_nil, setFrom_cons, allsc_nil, allsc_cons, Bool.and_true, Bool.true_and, Bool.and_self, List.append_nil, Option.map_some, Option.map_none, iadr_s, iadr_m, idP_s, idQ_s, bir_mksl, mkslB_s, alen_s, alen_n, alen_m, Bool.and_false, Bool.false_and, Bool.or_false, Bool.or_true, Bool.true_or, Bool.false_or, Bool.or_self, C_dregF, goD_s, goD2_t, stb_n, stb_c, stK_n, stK_c, stV_s, stB_f, beq_int, beq_bool, beq_tup0, beq_nils, beq_simm0, beq_str, beq_sobj, beq_pobj, opsD_nil, opsD_u, opsD_g, goOD_s, preD_t, preD_f, AOp.loud, AOp.births, st1_u, st1_g, Int.reduceAdd, Int.reduceSub, Int.reduceMul, Int.reduceNeg, Int.reduceToNat, eqbB_s, beq_refl, beqs_refl, stB_t, beO_s, stBv_t, stBv_p, stBv_o, st1b_alloc, st1b_box, st1b_bslice, st1b_mksl, AP.f108L0, i0, l0]
    refine pure_c (fn := AP.f108) (h2 := h.fence) (e := [(2, .int .i64 a)]) rfl rfl rfl ?_ rfl rfl
    simp (disch := omega) only [go_sem, abin_shl, abin_shr, Nat.reduceEqDiff, reduceIte, Nat.reduceAdd, Nat.reduceMul, Nat.reduceLT, Nat.reduceLeDiff, Int.reduceBEq, Int.reduceBNe, Int.reduceLT, Int.reduceLE, Int.reduceEq, dt, df, eqt, eqf, net, nef, wi, wb, alen_str, idxs_at, tn_add, tn_nat, aix, get_hit, get_miss, set_hit, set_miss, H.floor_alloc, H.next_alloc, H.floor_set, H.next_set, stO_d, condO_t, fill_n, fill_c, fillS_s, bir_bslice, bir_alloc, bir_box, birB_s, repl_s, repl_z, List.map_cons, List.map_nil, setFrom_nil, setFrom_cons, allsc_nil, allsc_cons, Bool.and_true, Bool.true_and, Bool.and_self, List.append_nil, Option.map_some, Option.map_none, iadr_s, iadr_m, idP_s, idQ_s, bir_mksl, mkslB_s, alen_s, alen_n, alen_m, Bool.and_false, Bool.false_and, Bool.or_false, Bool.or_true, Bool.true_or, Bool.false_or, Bool.or_self, C_dregF, goD_s, goD2_t, stb_n, stb_c, stK_n, stK_c, stV_s, stB_f, beq_int, beq_bool, beq_tup0, beq_nils, beq_simm0, beq_str, beq_sobj, beq_pobj, opsD_nil, opsD_u, opsD_g, goOD_s, preD_t, preD_f, AOp.loud, AOp.births, st1_u, st1_g, Int.reduceAdd, Int.reduceSub, Int.reduceMul, Int.reduceNeg, Int.reduceToNat, eqbB_s, beq_refl, beqs_refl, stB_t, beO_s, stBv_t, stBv_p, stBv_o, st1b_alloc, st1b_box, st1b_bslice, st1b_mksl, AP.f108, ln, evC_loop, lp]
def winB (a b : Ent) : Bool := decide (a.stamp < b.stamp) || (decide (a.stamp = b.stamp) && decide (a.node < b.node))
theorem win_or (a b : Ent) : decide (or2 (cmpI a.stamp b.stamp) (cmpI a.node b.node) < 0) = winB a b := by
  unfold or2 cmpI winB
  by_cases c1 : a.stamp < b.stamp
  · simp [c1]
  · by_cases c2 : b.stamp < a.stamp
    · have : ¬ a.stamp = b.stamp := by omega
      simp [c1, c2, this]
    · have : a.stamp = b.stamp := by omega
      rw [if_neg c1, if_neg c2, if_pos rfl]
      by_cases c3 : a.node < b.node
      · simp [c3, this]
      · by_cases c4 : b.node < a.node
        · simp [c3, c4, this]
        · simp [c3, c4, this]
def mergeE (a b : Ent) : Option Ent :=
  if mayE a && (mayE b && (a.name.data.toList == b.name.data.toList)) then some { (if winB a b then b else a) with vec := joinL a.vec b.vec } else none
def ent0 : Ent := ⟨⟨#[]⟩, false, [], 0, 0, 0, ⟨#[]⟩, 0, 0⟩
def mergeV : Option Ent → AV
  | some e => .tup [.agg (entC e (vecV e.vec)), .int .i64 0]
  | none => .tup [.agg (entC ent0 .nils), .int .i64 1500]
theorem mayE_vec {e : Ent} (h : mayE e = true) : vecA e.vec = true := by
  unfold mayE entText at h
  by_cases c : mayF [e] = false
  · rw [if_pos c] at h; cases h
  · rw [mayF1] at c
    simp only [Bool.not_eq_false, Bool.and_eq_true] at c
    have := c.2.1
    unfold headA at this
    simp only [Bool.and_eq_true] at this
    exact this.1
theorem snap_ent {g : Nat → Option (List AV)} {fl n : Nat} {e : Ent} {v v' : AV} (hv : snap g fl (n + 1) true v = some v') : snap g fl (n + 2) true (.agg (entC e v)) = some (.agg (entC e v')) := by
  unfold snap
  simp only [entC, mapO, hv]
  rfl
abbrev Z9 : List AV := [.str ⟨#[]⟩, .bool false, .nils, .int .i64 0, .int .i64 0, .int .i64 0, .str ⟨#[]⟩, .int .i64 0, .int .i64 0]
theorem merge_walk {h h1 h2 h3 h4 h5 h6 h7 h8 h9 : H} {A B W R : List AV} {va vb vj : AV} {na nb : ByteArray} {wn : Bool} {sa sb da db ca cb oo : Int}
    (lA : A.length = 9) (sA : AV.allsc A = true) (lB : B.length = 9) (sB : AV.allsc B = true)
    (ra : rdc true 9 A 0 = some (.agg A)) (rb : rdc true 9 B 0 = some (.agg B)) (rr : rdc true 9 R 0 = some (.agg R))
    (a0 : A[0]? = some (.str na)) (a2 : A[2]? = some va) (a3 : A[3]? = some (.int .i64 sa)) (a4 : A[4]? = some (.int .i64 da))
    (b0 : B[0]? = some (.str nb)) (b2 : B[2]? = some vb) (b3 : B[3]? = some (.int .i64 sb)) (b4 : B[4]? = some (.int .i64 db))
    (n0 : h.fence.next = h.next) (n1 : h1.next = h.next + 1) (n2 : h2.next = h.next + 2) (n3 : h3.next = h.next + 3) (n5 : h5.next = h.next + 4)
    (e1 : h.fence.alloc A = h1) (e2 : h1.alloc B = h2) (e3 : h2.alloc [.str ⟨#[]⟩, .bool false, .nils, .int .i64 0, .int .i64 0, .int .i64 0, .str ⟨#[]⟩, .int .i64 0, .int .i64 0] = h3)
    (ga3 : h3.get h.next = some A) (gb3 : h3.get (h.next + 1) = some B)
    (k1 : callW AP.A 96 [.agg A] h3 = some (.bool true, h3)) (k2 : callW AP.A 96 [.agg B] h3 = some (.bool true, h3)) (cm : abin .neq (.str na) (.str nb) = some (.bool false))
    (e4 : h3.alloc [.str ⟨#[]⟩, .bool false, .nils, .int .i64 0, .int .i64 0, .int .i64 0, .str ⟨#[]⟩, .int .i64 0, .int .i64 0] = h4) (gz4 : h4.get (h.next + 3) = some Z9)
    (st5 : stO h4 (h.next + 3) 0 9 A (some Z9) = some h5)
    (ga5 : h5.get h.next = some A) (gb5 : h5.get (h.next + 1) = some B)
    (m1 : callW AP.A 109 [.int .i64 sa, .int .i64 sb] h5 = some (.int .i64 ca, h5)) (m2 : callW AP.A 109 [.int .i64 da, .int .i64 db] h5 = some (.int .i64 cb, h5))
    (e6 : h5.alloc [.int .i64 ca, .int .i64 cb] = h6) (m3 : callW AP.A 108 [.sobj (h.next + 4) 0 2 1] h6 = some (.int .i64 oo, h6)) (hw : decide (oo < 0) = wn)
    (ga6 : h6.get h.next = some A) (gb6 : h6.get (h.next + 1) = some B) (gd6 : h6.get (h.next + 3) = some A)
    (st7 : stO h6 (h.next + 3) 0 9 B (some A) = some (h6.set (h.next + 3) B)) (e7 : h7 = if wn then h6.set (h.next + 3) B else h6)
    (ga7 : h7.get h.next = some A) (gb7 : h7.get (h.next + 1) = some B) (gd7 : h7.get (h.next + 3) = some W)
    (m4 : callW AP.A 110 [va, vb] h7 = some (.tup [vj, .int .i64 0], h7)) (hj : vj.cells = [vj])
    (st8 : stO h7 (h.next + 3) 2 1 [vj] (some W) = some h8) (gd8 : h8.get (h.next + 3) = some R) (gc8 : h8.get (h.next + 2) = some Z9)
    (st9 : stO h8 (h.next + 2) 0 9 R (some Z9) = some h9) :
    evC (callW AP.A) loopW AP.f97.body (params 0 [.agg A, .agg B]) h.fence = some (.ret, [(4, .pobj (h.next + 2) 0), (5, .int .i64 0)], h9) := by
  cases wn with
  | true =>
    rw [if_pos rfl] at e7
    rw [← e7] at st7
    simp (disch := omega) only [go_sem, abin_shl, abin_shr, Nat.reduceEqDiff, reduceIte, Nat.reduceAdd, Nat.reduceMul, Nat.reduceLT, Nat.reduceLeDiff, Int.reduceBEq, Int.reduceBNe, Int.reduceLT, Int.reduceLE, Int.reduceEq, dt, df, eqt, eqf, net, nef, wi, wb, alen_str, idxs_at, tn_add, tn_nat, aix, get_hit, get_miss, set_hit, set_miss, H.floor_alloc, H.next_alloc, H.floor_set, H.next_set, stO_d, condO_t, fill_n, fill_c, fillS_s, bir_bslice, bir_alloc, bir_box, birB_s, repl_s, repl_z, List.map_cons, List.map_nil, setFrom_nil, setFrom_cons, allsc_nil, allsc_cons, Bool.and_true, Bool.true_and, Bool.and_self, List.append_nil, Option.map_some, Option.map_none, iadr_s, iadr_m, idP_s, idQ_s, bir_mksl, mkslB_s, alen_s, alen_n, alen_m, Bool.and_false, Bool.false_and, Bool.or_false, Bool.or_true, Bool.true_or, Bool.false_or, Bool.or_self, C_dregF, goD_s, goD2_t, stb_n, stb_c, stK_n, stK_c, stV_s, stB_f, beq_int, beq_bool, beq_tup0, beq_nils, beq_simm0, beq_str, beq_sobj, beq_pobj, opsD_nil, opsD_u, opsD_g, goOD_s, preD_t, preD_f, AOp.loud, AOp.births, st1_u, st1_g, Int.reduceAdd, Int.reduceSub, Int.reduceMul, Int.reduceNeg, Int.reduceToNat, eqbB_s, beq_refl, beqs_refl, stB_t, beO_s, stBv_t, stBv_p, stBv_o, st1b_alloc, st1b_box, st1b_bslice, st1b_mksl, AP.f97, lA, sA, lB, sB, ra, rb, rr, a0, a2, a3, a4, b0, b2, b3, b4, n0, n1, n2, n3, n5, e1, e2, e3, ga3, gb3, k1, k2, cm, e4, gz4, st5, ga5, gb5, m1, m2, e6, m3, hw, ga6, gb6, gd6, st7, ga7, gb7, gd7, m4, hj, st8, gd8, gc8, st9]
  | false =>
    rw [if_neg (by decide)] at e7
    subst e7
    simp (disch := omega) only [go_sem, abin_shl, abin_shr, Nat.reduceEqDiff, reduceIte, Nat.reduceAdd, Nat.reduceMul, Nat.reduceLT, Nat.reduceLeDiff, Int.reduceBEq, Int.reduceBNe, Int.reduceLT, Int.reduceLE, Int.reduceEq, dt, df, eqt, eqf, net, nef, wi, wb, alen_str, idxs_at, tn_add, tn_nat, aix, get_hit, get_miss, set_hit, set_miss, H.floor_alloc, H.next_alloc, H.floor_set, H.next_set, stO_d, condO_t, fill_n, fill_c, fillS_s, bir_bslice, bir_alloc, bir_box, birB_s, repl_s, repl_z, List.map_cons, List.map_nil, setFrom_nil, setFrom_cons, allsc_nil, allsc_cons, Bool.and_true, Bool.true_and, Bool.and_self, List.append_nil, Option.map_some, Option.map_none, iadr_s, iadr_m, idP_s, idQ_s, bir_mksl, mkslB_s, alen_s, alen_n, alen_m, Bool.and_false, Bool.false_and, Bool.or_false, Bool.or_true, Bool.true_or, Bool.false_or, Bool.or_self, C_dregF, goD_s, goD2_t, stb_n, stb_c, stK_n, stK_c, stV_s, stB_f, beq_int, beq_bool, beq_tup0, beq_nils, beq_simm0, beq_str, beq_sobj, beq_pobj, opsD_nil, opsD_u, opsD_g, goOD_s, preD_t, preD_f, AOp.loud, AOp.births, st1_u, st1_g, Int.reduceAdd, Int.reduceSub, Int.reduceMul, Int.reduceNeg, Int.reduceToNat, eqbB_s, beq_refl, beqs_refl, stB_t, beO_s, stBv_t, stBv_p, stBv_o, st1b_alloc, st1b_box, st1b_bslice, st1b_mksl, AP.f97, lA, sA, lB, sB, ra, rb, rr, a0, a2, a3, a4, b0, b2, b3, b4, n0, n1, n2, n3, n5, e1, e2, e3, ga3, gb3, k1, k2, cm, e4, gz4, st5, ga5, gb5, m1, m2, e6, m3, hw, ga7, gb7, gd7, m4, hj, st8, gd8, gc8, st9]
theorem merge_no (h : H) (hf : h.floor ≤ h.next) (a b : Ent) (va vb : AV) (sa : va.sc = true) (sb : vb.sc = true) (oka : EOk h (a, va)) (okb : EOk h (b, vb)) (hm : mergeE a b = none) :
    callW AP.A 97 [.agg (entC a va), .agg (entC b vb)] h = some (mergeV (mergeE a b), h) := by
  obtain ⟨h1, eh1⟩ : ∃ g, g = h.fence.alloc (entC a va) := ⟨_, rfl⟩
  obtain ⟨h2, eh2⟩ : ∃ g, g = h1.alloc (entC b vb) := ⟨_, rfl⟩
  obtain ⟨h3, eh3⟩ : ∃ g, g = h2.alloc (entC ent0 .nils) := ⟨_, rfl⟩
  have x1 : Ext h h1 := fun i c q => by rw [eh1]; exact ((Ext.refl h.fence).alloc _) i c q
  have x2 : Ext h h2 := by rw [eh2]; exact x1.alloc _
  have x3 : Ext h h3 := by rw [eh3]; exact x2.alloc _
  have n0 : h.fence.next = h.next := rfl
  have n1 : h1.next = h.next + 1 := by rw [eh1]; simp
  have n2 : h2.next = h.next + 2 := by rw [eh2]; simp [n1]
  have n3 : h3.next = h.next + 3 := by rw [eh3]; simp [n2]
  have f3 : h3.floor = h.next := by rw [eh3, eh2, eh1]; simp
  have ga3 : h3.get h.next = some (entC a va) := by rw [eh3, get_miss (by omega), eh2, get_miss (by omega), eh1, get_hit (by simp)]
  have gb3 : h3.get (h.next + 1) = some (entC b vb) := by rw [eh3, get_miss (by omega), eh2, get_hit (by omega)]
  have gc3 : h3.get (h.next + 2) = some (entC ent0 .nils) := by rw [eh3, get_hit (by omega)]
  have k1 := emay_c h3 (by omega) a va sa (oka.mono x3)
  have k2 := emay_c h3 (by omega) b vb sb (okb.mono x3)
  have ra : rdc true 9 (entC a va) 0 = some (.agg (entC a va)) := rfl
  have rb : rdc true 9 (entC b vb) 0 = some (.agg (entC b vb)) := rfl
  have cm : abin .neq (.str a.name) (.str b.name) = some (.bool (!(a.name.data.toList == b.name.data.toList))) := str_neq _ _
  have e3e : h2.alloc [.str ⟨#[]⟩, .bool false, .nils, .int .i64 0, .int .i64 0, .int .i64 0, .str ⟨#[]⟩, .int .i64 0, .int .i64 0] = h3 := eh3.symm
  rw [hm]
  unfold mergeE at hm
  have hbad : (mayE a && (mayE b && (a.name.data.toList == b.name.data.toList))) = false := by
    cases hq : (mayE a && (mayE b && (a.name.data.toList == b.name.data.toList))) with
    | false => rfl
    | true => rw [hq, if_pos rfl] at hm; cases hm
  clear hm
  obtain ⟨h4, eh4⟩ : ∃ g, g = h3.set (h.next + 2) (entC ent0 .nils) := ⟨_, rfl⟩
  have g4 : h4.get (h.next + 2) = some (entC ent0 .nils) := by rw [eh4, set_hit rfl, gc3]; rfl
  have e4e : h3.set (h.next + 2) [.str ⟨#[]⟩, .bool false, .nils, .int .i64 0, .int .i64 0, .int .i64 0, .str ⟨#[]⟩, .int .i64 0, .int .i64 0] = h4 := eh4.symm
  refine pure_c (fn := AP.f97) (h2 := h4) (e := [(4, .pobj (h.next + 2) 0), (5, .int .i64 1500)]) (vs := [.agg (entC ent0 .nils), .int .i64 1500]) rfl rfl rfl ?_ ?_ rfl
  · clear x1 x2 x3 oka okb g4
    generalize mayE a = B1 at *
    generalize mayE b = B2 at *
    generalize (a.name.data.toList == b.name.data.toList) = B3 at *
    simp only [entC, ent0] at *
    cases B1 with
    | false => simp (disch := omega) only [go_sem, abin_shl, abin_shr, Nat.reduceEqDiff, reduceIte, Nat.reduceAdd, Nat.reduceMul, Nat.reduceLT, Nat.reduceLeDiff, Int.reduceBEq, Int.reduceBNe, Int.reduceLT, Int.reduceLE, Int.reduceEq, dt, df, eqt, eqf, net, nef, wi, wb, alen_str, idxs_at, tn_add, tn_nat, aix, get_hit, get_miss, set_hit, set_miss, H.floor_alloc, H.next_alloc, H.floor_set, H.next_set, stO_d, condO_t, fill_n, fill_c, fillS_s, bir_bslice, bir_alloc, bir_box, birB_s, repl_s, repl_z, List.map_cons, List.map_nil, setFrom_nil, setFrom_cons, allsc_nil, allsc_cons, Bool.and_true, Bool.true_and, Bool.and_self, List.append_nil, Option.map_some, Option.map_none, iadr_s, iadr_m, idP_s, idQ_s, bir_mksl, mkslB_s, alen_s, alen_n, alen_m, Bool.and_false, Bool.false_and, Bool.or_false, Bool.or_true, Bool.true_or, Bool.false_or, Bool.or_self, C_dregF, goD_s, goD2_t, stb_n, stb_c, stK_n, stK_c, stV_s, stB_f, beq_int, beq_bool, beq_tup0, beq_nils, beq_simm0, beq_str, beq_sobj, beq_pobj, opsD_nil, opsD_u, opsD_g, goOD_s, preD_t, preD_f, AOp.loud, AOp.births, st1_u, st1_g, Int.reduceAdd, Int.reduceSub, Int.reduceMul, Int.reduceNeg, Int.reduceToNat, eqbB_s, beq_refl, beqs_refl, stB_t, beO_s, stBv_t, stBv_p, stBv_o, st1b_alloc, st1b_box, st1b_bslice, st1b_mksl, AP.f97, sa, sb, n0, ← eh1, n1, ← eh2, n2, e3e, ga3, gb3, gc3, ra, rb, k1, k2, cm, e4e, f3]
    | true =>
      cases B2 with
      | false => simp (disch := omega) only [go_sem, abin_shl, abin_shr, Nat.reduceEqDiff, reduceIte, Nat.reduceAdd, Nat.reduceMul, Nat.reduceLT, Nat.reduceLeDiff, Int.reduceBEq, Int.reduceBNe, Int.reduceLT, Int.reduceLE, Int.reduceEq, dt, df, eqt, eqf, net, nef, wi, wb, alen_str, idxs_at, tn_add, tn_nat, aix, get_hit, get_miss, set_hit, set_miss, H.floor_alloc, H.next_alloc, H.floor_set, H.next_set, stO_d, condO_t, fill_n, fill_c, fillS_s, bir_bslice, bir_alloc, bir_box, birB_s, repl_s, repl_z, List.map_cons, List.map_nil, setFrom_nil, setFrom_cons, allsc_nil, allsc_cons, Bool.and_true, Bool.true_and, Bool.and_self, List.append_nil, Option.map_some, Option.map_none, iadr_s, iadr_m, idP_s, idQ_s, bir_mksl, mkslB_s, alen_s, alen_n, alen_m, Bool.and_false, Bool.false_and, Bool.or_false, Bool.or_true, Bool.true_or, Bool.false_or, Bool.or_self, C_dregF, goD_s, goD2_t, stb_n, stb_c, stK_n, stK_c, stV_s, stB_f, beq_int, beq_bool, beq_tup0, beq_nils, beq_simm0, beq_str, beq_sobj, beq_pobj, opsD_nil, opsD_u, opsD_g, goOD_s, preD_t, preD_f, AOp.loud, AOp.births, st1_u, st1_g, Int.reduceAdd, Int.reduceSub, Int.reduceMul, Int.reduceNeg, Int.reduceToNat, eqbB_s, beq_refl, beqs_refl, stB_t, beO_s, stBv_t, stBv_p, stBv_o, st1b_alloc, st1b_box, st1b_bslice, st1b_mksl, AP.f97, sa, sb, n0, ← eh1, n1, ← eh2, n2, e3e, ga3, gb3, gc3, ra, rb, k1, k2, cm, e4e, f3]
      | true =>
        cases B3 with
        | false => simp (disch := omega) only [go_sem, abin_shl, abin_shr, Nat.reduceEqDiff, reduceIte, Nat.reduceAdd, Nat.reduceMul, Nat.reduceLT, Nat.reduceLeDiff, Int.reduceBEq, Int.reduceBNe, Int.reduceLT, Int.reduceLE, Int.reduceEq, dt, df, eqt, eqf, net, nef, wi, wb, alen_str, idxs_at, tn_add, tn_nat, aix, get_hit, get_miss, set_hit, set_miss, H.floor_alloc, H.next_alloc, H.floor_set, H.next_set, stO_d, condO_t, fill_n, fill_c, fillS_s, bir_bslice, bir_alloc, bir_box, birB_s, repl_s, repl_z, List.map_cons, List.map_nil, setFrom_nil, setFrom_cons, allsc_nil, allsc_cons, Bool.and_true, Bool.true_and, Bool.and_self, List.append_nil, Option.map_some, Option.map_none, iadr_s, iadr_m, idP_s, idQ_s, bir_mksl, mkslB_s, alen_s, alen_n, alen_m, Bool.and_false, Bool.false_and, Bool.or_false, Bool.or_true, Bool.true_or, Bool.false_or, Bool.or_self, C_dregF, goD_s, goD2_t, stb_n, stb_c, stK_n, stK_c, stV_s, stB_f, beq_int, beq_bool, beq_tup0, beq_nils, beq_simm0, beq_str, beq_sobj, beq_pobj, opsD_nil, opsD_u, opsD_g, goOD_s, preD_t, preD_f, AOp.loud, AOp.births, st1_u, st1_g, Int.reduceAdd, Int.reduceSub, Int.reduceMul, Int.reduceNeg, Int.reduceToNat, eqbB_s, beq_refl, beqs_refl, stB_t, beO_s, stBv_t, stBv_p, stBv_o, st1b_alloc, st1b_box, st1b_bslice, st1b_mksl, AP.f97, sa, sb, n0, ← eh1, n1, ← eh2, n2, e3e, ga3, gb3, gc3, ra, rb, k1, k2, cm, e4e, f3]
        | true => cases hbad
  · simp only [AP.f97, resAll, resOf, look_hit, look_miss, ne_eq, Nat.reduceEqDiff, not_false_eq_true, load_o, g4, rdO_s]
    rfl
set_option maxHeartbeats 1600000 in
theorem merge_c (h : H) (hf : h.floor ≤ h.next) (a b : Ent) (va vb : AV) (sa : va.sc = true) (sb : vb.sc = true) (oka : EOk h (a, va)) (okb : EOk h (b, vb)) :
    callW AP.A 97 [.agg (entC a va), .agg (entC b vb)] h = some (mergeV (mergeE a b), h) := by
  obtain ⟨h1, eh1⟩ : ∃ g, g = h.fence.alloc (entC a va) := ⟨_, rfl⟩
  obtain ⟨h2, eh2⟩ : ∃ g, g = h1.alloc (entC b vb) := ⟨_, rfl⟩
  obtain ⟨h3, eh3⟩ : ∃ g, g = h2.alloc (entC ent0 .nils) := ⟨_, rfl⟩
  have x1 : Ext h h1 := fun i c q => by rw [eh1]; exact ((Ext.refl h.fence).alloc _) i c q
  have x2 : Ext h h2 := by rw [eh2]; exact x1.alloc _
  have x3 : Ext h h3 := by rw [eh3]; exact x2.alloc _
  have n0 : h.fence.next = h.next := rfl
  have n1 : h1.next = h.next + 1 := by rw [eh1]; simp
  have n2 : h2.next = h.next + 2 := by rw [eh2]; simp [n1]
  have n3 : h3.next = h.next + 3 := by rw [eh3]; simp [n2]
  have f3 : h3.floor = h.next := by rw [eh3, eh2, eh1]; simp
  have ga3 : h3.get h.next = some (entC a va) := by rw [eh3, get_miss (by omega), eh2, get_miss (by omega), eh1, get_hit (by simp)]
  have gb3 : h3.get (h.next + 1) = some (entC b vb) := by rw [eh3, get_miss (by omega), eh2, get_hit (by omega)]
  have gc3 : h3.get (h.next + 2) = some (entC ent0 .nils) := by rw [eh3, get_hit (by omega)]
  have k1 := emay_c h3 (by omega) a va sa (oka.mono x3)
  have k2 := emay_c h3 (by omega) b vb sb (okb.mono x3)
  have ra : rdc true 9 (entC a va) 0 = some (.agg (entC a va)) := rfl
  have rb : rdc true 9 (entC b vb) 0 = some (.agg (entC b vb)) := rfl
  have cm : abin .neq (.str a.name) (.str b.name) = some (.bool (!(a.name.data.toList == b.name.data.toList))) := str_neq _ _
  have e3e : h2.alloc [.str ⟨#[]⟩, .bool false, .nils, .int .i64 0, .int .i64 0, .int .i64 0, .str ⟨#[]⟩, .int .i64 0, .int .i64 0] = h3 := eh3.symm
  cases hq : (mayE a && (mayE b && (a.name.data.toList == b.name.data.toList))) with
  | false => exact merge_no h hf a b va vb sa sb oka okb (by unfold mergeE; rw [hq]; rfl)
  | true =>
    have hm : mergeE a b = some { (if winB a b then b else a) with vec := joinL a.vec b.vec } := by unfold mergeE; rw [if_pos hq]
    rw [hm]
    simp only [Bool.and_eq_true] at hq
    obtain ⟨q1, q2, q3⟩ := hq
    rw [q1] at k1; rw [q2] at k2; rw [q3] at cm
    clear hm
    obtain ⟨h4, eh4⟩ : ∃ g, g = h3.alloc (entC ent0 .nils) := ⟨_, rfl⟩
    obtain ⟨h5, eh5⟩ : ∃ g, g = h4.set (h.next + 3) (entC a va) := ⟨_, rfl⟩
    obtain ⟨h6, eh6⟩ : ∃ g, g = h5.alloc (ints [cmpI a.stamp b.stamp, cmpI a.node b.node]) := ⟨_, rfl⟩
    obtain ⟨w, ew⟩ : ∃ w, w = if winB a b then (b, vb) else (a, va) := ⟨_, rfl⟩
    obtain ⟨h7, eh7⟩ : ∃ g, g = if winB a b then h6.set (h.next + 3) (entC b vb) else h6 := ⟨_, rfl⟩
    obtain ⟨r, er⟩ : ∃ r : Ent, r = { (if winB a b then b else a) with vec := joinL a.vec b.vec } := ⟨_, rfl⟩
    obtain ⟨h8, eh8⟩ : ∃ g, g = h7.set (h.next + 3) (entC r (vecV (joinL a.vec b.vec))) := ⟨_, rfl⟩
    obtain ⟨h9, eh9⟩ : ∃ g, g = h8.set (h.next + 2) (entC r (vecV (joinL a.vec b.vec))) := ⟨_, rfl⟩
    have x4 : Ext h h4 := by rw [eh4]; exact x3.alloc _
    have x5 : Ext h h5 := by rw [eh5]; exact x4.set (by omega) _
    have x6 : Ext h h6 := by rw [eh6]; exact x5.alloc _
    have x7 : Ext h h7 := by rw [eh7]; split; · exact x6.set (by omega) _
                             exact x6
    have n4 : h4.next = h.next + 4 := by rw [eh4]; simp [n3]
    have n5 : h5.next = h.next + 4 := by rw [eh5]; simp [n4]
    have n6 : h6.next = h.next + 5 := by rw [eh6]; simp [n5]
    have f4 : h4.floor = h.next := by rw [eh4]; simp [f3]
    have f5 : h5.floor = h.next := by rw [eh5]; simp [f4]
    have f6 : h6.floor = h.next := by rw [eh6]; simp [f5]
    have f7 : h7.floor = h.next := by rw [eh7]; split <;> simp [f6]
    have f8 : h8.floor = h.next := by rw [eh8]; simp [f7]
    have n7 : h7.next = h.next + 5 := by rw [eh7]; split <;> simp [n6]
    have gz4 : h4.get (h.next + 3) = some (entC ent0 .nils) := by rw [eh4, get_hit (by omega)]
    have g5 : ∀ i, i ≠ h.next + 3 → i < h.next + 3 → h5.get i = h3.get i := fun i hi hl => by rw [eh5, set_miss hi, eh4, get_miss (by omega)]
    have gd5 : h5.get (h.next + 3) = some (entC a va) := by rw [eh5, set_hit rfl, gz4]; rfl
    have ga5 : h5.get h.next = some (entC a va) := by rw [g5 _ (by omega) (by omega), ga3]
    have gb5 : h5.get (h.next + 1) = some (entC b vb) := by rw [g5 _ (by omega) (by omega), gb3]
    have g6 : ∀ i, i < h.next + 4 → h6.get i = h5.get i := fun i hl => by rw [eh6, get_miss (by omega)]
    have ga6 : h6.get h.next = some (entC a va) := by rw [g6 _ (by omega), ga5]
    have gb6 : h6.get (h.next + 1) = some (entC b vb) := by rw [g6 _ (by omega), gb5]
    have gd6 : h6.get (h.next + 3) = some (entC a va) := by rw [g6 _ (by omega), gd5]
    have g7 : ∀ i, i ≠ h.next + 3 → h7.get i = h6.get i := fun i hi => by rw [eh7]; split; · rw [set_miss hi]
                                                                          rfl
    have ga7 : h7.get h.next = some (entC a va) := by rw [g7 _ (by omega), ga6]
    have gb7 : h7.get (h.next + 1) = some (entC b vb) := by rw [g7 _ (by omega), gb6]
    have gd7 : h7.get (h.next + 3) = some (entC w.1 w.2) := by
      rw [eh7, ew]; split
      · rw [set_hit rfl, gd6]; rfl
      · exact gd6
    have gc8 : h8.get (h.next + 2) = some (entC ent0 .nils) := by rw [eh8, set_miss (by omega), g7 _ (by omega), g6 _ (by omega), g5 _ (by omega) (by omega), gc3]
    have gd8 : h8.get (h.next + 3) = some (entC r (vecV (joinL a.vec b.vec))) := by rw [eh8, set_hit rfl, gd7]; rfl
    have gc9 : h9.get (h.next + 2) = some (entC r (vecV (joinL a.vec b.vec))) := by rw [eh9, set_hit rfl, gc8]; rfl
    have m1 := cmp_c h5 a.stamp b.stamp
    have m2 := cmp_c h5 a.node b.node
    have rd6 : Rd h6 (.sobj (h.next + 4) 0 2 1) (ints [cmpI a.stamp b.stamp, cmpI a.node b.node]) := by
      refine ⟨?_, fun _ => by simp⟩
      simp only [srcCells, if_true]
      rw [eh6, get_hit (by omega)]; rfl
    have m3 := or_c h6 (.sobj (h.next + 4) 0 2 1) _ _ rd6
    have m4 := joinv_c h7 va vb a.vec b.vec (oka.mono x7).vec (okb.mono x7).vec (mayE_vec q1) (mayE_vec q2) (by omega)
    have wn := win_or a b
    have st8 : setFrom (entC w.1 w.2) 2 (vecV (joinL a.vec b.vec)).cells = entC r (vecV (joinL a.vec b.vec)) := by
      have hc : (vecV (joinL a.vec b.vec)).cells = [vecV (joinL a.vec b.vec)] := by unfold vecV slN; split <;> rfl
      rw [hc, ew, er]
      cases winB a b <;> rfl
    have sv : (vecV (joinL a.vec b.vec)).sc = true := by unfold vecV slN; split <;> rfl
    have hc : (vecV (joinL a.vec b.vec)).cells = [vecV (joinL a.vec b.vec)] := by unfold vecV slN; split <;> rfl
    have sw : AV.allsc (entC w.1 w.2) = true := by rw [ew]; split <;> simp [entC, sa, sb]
    have rr : rdc true 9 (entC r (vecV (joinL a.vec b.vec))) 0 = some (.agg (entC r (vecV (joinL a.vec b.vec)))) := rfl
    have lr : (entC r (vecV (joinL a.vec b.vec))).length = 9 := rfl
    have lw : (entC w.1 w.2).length = 9 := rfl
    have s4e : h3.alloc [.str ⟨#[]⟩, .bool false, .nils, .int .i64 0, .int .i64 0, .int .i64 0, .str ⟨#[]⟩, .int .i64 0, .int .i64 0] = h4 := eh4.symm
    have st5 : stO h4 (h.next + 3) 0 9 (entC a va) (some (entC ent0 .nils)) = some h5 := by rw [eh5]; exact stO_all (by omega) rfl rfl (by simp [entC, sa])
    have st7 : stO h6 (h.next + 3) 0 9 (entC b vb) (some (entC a va)) = some (h6.set (h.next + 3) (entC b vb)) := stO_all (by omega) rfl rfl (by simp [entC, sb])
    have st8' : stO h7 (h.next + 3) 2 1 [vecV (joinL a.vec b.vec)] (some (entC w.1 w.2)) = some h8 := by
      rw [stO_1 (by omega) (by rw [lw]; omega) sv]
      rw [hc] at st8
      have : setFrom (entC w.1 w.2) 2 [vecV (joinL a.vec b.vec)] = (entC w.1 w.2).set 2 (vecV (joinL a.vec b.vec)) := rfl
      rw [← this, st8, eh8]
    have st9 : stO h8 (h.next + 2) 0 9 (entC r (vecV (joinL a.vec b.vec))) (some (entC ent0 .nils)) = some h9 := by rw [eh9]; exact stO_all (by omega) rfl rfl (by simp [entC, sv])
    have ca3 : (entC a va)[3]? = some (.int .i64 a.stamp) := rfl
    have ca4 : (entC a va)[4]? = some (.int .i64 a.node) := rfl
    have ca2 : (entC a va)[2]? = some va := rfl
    have ca0 : (entC a va)[0]? = some (.str a.name) := rfl
    have cb3 : (entC b vb)[3]? = some (.int .i64 b.stamp) := rfl
    have cb4 : (entC b vb)[4]? = some (.int .i64 b.node) := rfl
    have cb2 : (entC b vb)[2]? = some vb := rfl
    have cb0 : (entC b vb)[0]? = some (.str b.name) := rfl
    have e1e : h.fence.alloc (entC a va) = h1 := eh1.symm
    have e2e : h1.alloc (entC b vb) = h2 := eh2.symm
    have e6e : h5.alloc [.int .i64 (cmpI a.stamp b.stamp), .int .i64 (cmpI a.node b.node)] = h6 := eh6.symm
    have hvr : r.vec = joinL a.vec b.vec := by rw [er]
    refine pure_c (fn := AP.f97) (h2 := h9) (e := [(4, .pobj (h.next + 2) 0), (5, .int .i64 0)]) (vs := [.agg (entC r (vecV (joinL a.vec b.vec))), .int .i64 0]) rfl rfl rfl ?_ ?_ ?_
    · exact merge_walk rfl (by simp [entC, sa]) rfl (by simp [entC, sb]) ra rb rr ca0 ca2 ca3 ca4 cb0 cb2 cb3 cb4 n0 n1 n2 n3 n5 e1e e2e e3e ga3 gb3 k1 k2 cm s4e gz4 st5 ga5 gb5 m1 m2 e6e m3 wn ga6 gb6 gd6 st7 eh7 ga7 gb7 gd7 m4 hc st8' gd8 gc8 st9
    · simp only [AP.f97, resAll, resOf, look_hit, look_miss, ne_eq, Nat.reduceEqDiff, not_false_eq_true, load_o, gc9, rdO_s, rr]
      rfl
    · show (mapO (snap h9.get h.next 15 true) [.agg (entC r (vecV (joinL a.vec b.vec))), .int .i64 0]).bind _ = _
      have s1 : snap h9.get h.next 15 true (.agg (entC r (vecV (joinL a.vec b.vec)))) = some (.agg (entC r (vecV (joinL a.vec b.vec)))) := by
        refine snap_ent ?_
        unfold vecV slN
        split <;> rfl
      simp only [mapO, s1, Option.bind_some]
      rw [← er]
      show _ = some (AV.tup [.agg (entC r (vecV r.vec)), .int .i64 0])
      rw [hvr]; rfl
end Ab
set_option linter.unusedSimpArgs false
set_option linter.unusedVariables false
set_option maxRecDepth 100000
namespace Ab
open Go
def smallE (name : ByteArray) (node : Nat) (stamp : Int) (text : ByteArray) : Ent := ⟨name, false, [0, 0, 0, 0].set node stamp, stamp, node, 0, text, text.size, crcA text⟩
theorem vecV_4 {l : List Int} (h : l.length = 4) : vecV l = .simm false (ints l) 0 4 1 := by unfold vecV slN; rw [h, if_neg (by omega)]
theorem small_c (h : H) (name text : ByteArray) (node : Nat) (stamp : Int) (hn : node < 4) (ht : text.size < 1125899906842624) :
    callW AP.A 99 [.str name, .int .i64 node, .int .i64 stamp, .str text] h = some (.agg (entC (smallE name node stamp text) (vecV ([0, 0, 0, 0].set node stamp))), h) := by
  obtain ⟨h1, eh1⟩ : ∃ g, g = h.fence.alloc (entC ent0 .nils) := ⟨_, rfl⟩
  obtain ⟨h2, eh2⟩ : ∃ g, g = h1.alloc (ints [0, 0, 0, 0]) := ⟨_, rfl⟩
  obtain ⟨h3, eh3⟩ : ∃ g, g = h2.set (h.next + 1) (ints ([0, 0, 0, 0].set node stamp)) := ⟨_, rfl⟩
  obtain ⟨h4, eh4⟩ : ∃ g, g = h3.set h.next (entC (smallE name node stamp text) (.sobj (h.next + 1) 0 4 1)) := ⟨_, rfl⟩
  have n0 : h.fence.next = h.next := rfl
  have n1 : h1.next = h.next + 1 := by rw [eh1]; simp
  have f2 : h2.floor = h.next := by rw [eh2, eh1]; simp
  have f3 : h3.floor = h.next := by rw [eh3]; simp [f2]
  have g2 : h2.get (h.next + 1) = some (ints [0, 0, 0, 0]) := by rw [eh2, get_hit (by omega)]
  have gz3 : h3.get h.next = some (entC ent0 .nils) := by rw [eh3, set_miss (by omega), eh2, get_miss (by omega), eh1, get_hit (by simp)]
  have g3 : h3.get (h.next + 1) = some (ints ([0, 0, 0, 0].set node stamp)) := by rw [eh3, set_hit rfl, g2]; rfl
  have g4 : h4.get h.next = some (entC (smallE name node stamp text) (.sobj (h.next + 1) 0 4 1)) := by rw [eh4, set_hit rfl, gz3]; rfl
  have g4' : h4.get (h.next + 1) = some (ints ([0, 0, 0, 0].set node stamp)) := by rw [eh4, set_miss (by omega), g3]
  have st3 : stO h2 (h.next + 1) node 1 [.int .i64 stamp] (some (ints [0, 0, 0, 0])) = some h3 := by
    rw [stO_1 (by omega) (by simp; omega) rfl, eh3]
    congr 2
    match node, hn with
    | 0, _ => rfl
    | 1, _ => rfl
    | 2, _ => rfl
    | 3, _ => rfl
  have st4 : stO h3 h.next 0 9 [.str name, .bool false, .sobj (h.next + 1) 0 4 1, .int .i64 stamp, .int .i64 node, .int .i64 0, .str text, .int .i64 text.size, .int .i64 (crcA text : Nat)] (some (entC ent0 .nils)) = some h4 := by
    rw [eh4]; exact stO_all (by omega) rfl rfl rfl
  have e1 : h.fence.alloc [.str ⟨#[]⟩, .bool false, .nils, .int .i64 0, .int .i64 0, .int .i64 0, .str ⟨#[]⟩, .int .i64 0, .int .i64 0] = h1 := eh1.symm
  have e2 : h1.alloc (replM 4 [.int .i64 0]) = h2 := eh2.symm
  have kc := crc2_c h3 text ht
  have hlen : ([0, 0, 0, 0].set node stamp : List Int).length = 4 := by simp
  have o : OwnN 1 h4 (.sobj (h.next + 1) 0 4 1) 4 (ints ([0, 0, 0, 0].set node stamp)) := ⟨by simp, .inr ⟨_, rfl, g4', by rw [eh4]; simp; omega, by omega⟩⟩
  have s1 : snap h4.get h.next 15 true (.sobj (h.next + 1) 0 4 1) = some (vecV ([0, 0, 0, 0].set node stamp)) := by
    have := o.snap_ints (fl := h.next) (m := 13) (t := true) (by rw [eh4]; simp; omega)
    rw [this]; unfold vecV; rw [hlen]
  have body : evC (callW AP.A) loopW AP.f99.body (params 0 [.str name, .int .i64 node, .int .i64 stamp, .str text]) h.fence = some (.ret, [(8, .pobj h.next 0)], h4) := by
    clear o s1 g4 g4' g3
    have it : ((node : Nat) : Int).toNat = node := by omega
    simp (disch := omega) only [go_sem, abin_shl, abin_shr, Nat.reduceEqDiff, reduceIte, Nat.reduceAdd, Nat.reduceMul, Nat.reduceLT, Nat.reduceLeDiff, Int.reduceBEq, Int.reduceBNe, Int.reduceLT, Int.reduceLE, Int.reduceEq, dt, df, eqt, eqf, net, nef, wi, wb, alen_str, idxs_at, tn_add, tn_nat, aix, get_hit, get_miss, set_hit, set_miss, H.floor_alloc, H.next_alloc, H.floor_set, H.next_set, stO_d, condO_t, fill_n, fill_c, fillS_s, bir_bslice, bir_alloc, bir_box, birB_s, repl_s, repl_z, List.map_cons, List.map_nil, setFrom_nil, setFrom_cons, allsc_nil, allsc_cons, Bool.and_true, Bool.true_and, Bool.and_self, List.append_nil, Option.map_some, Option.map_none, iadr_s, iadr_m, idP_s, idQ_s, bir_mksl, mkslB_s, alen_s, alen_n, alen_m, Bool.and_false, Bool.false_and, Bool.or_false, Bool.or_true, Bool.true_or, Bool.false_or, Bool.or_self, C_dregF, goD_s, goD2_t, stb_n, stb_c, stK_n, stK_c, stV_s, stB_f, beq_int, beq_bool, beq_tup0, beq_nils, beq_simm0, beq_str, beq_sobj, beq_pobj, opsD_nil, opsD_u, opsD_g, goOD_s, preD_t, preD_f, AOp.loud, AOp.births, st1_u, st1_g, Int.reduceAdd, Int.reduceSub, Int.reduceMul, Int.reduceNeg, Int.reduceToNat, eqbB_s, beq_refl, beqs_refl, stB_t, beO_s, stBv_t, stBv_p, stBv_o, st1b_alloc, st1b_box, st1b_bslice, st1b_mksl, AP.f99, n0, e1, n1, e2, it, g2, st3, kc, gz3, st4]
  refine pure_c (fn := AP.f99) (h2 := h4) (e := [(8, .pobj h.next 0)]) (vs := [.agg (entC (smallE name node stamp text) (.sobj (h.next + 1) 0 4 1))]) rfl rfl rfl body ?_ ?_
  · simp only [AP.f99, resAll, resOf, look_hit, load_o, g4, rdO_s]; rfl
  · exact snap_ent s1
theorem copyE_c (h : H) (hf : h.floor ≤ h.next) (e : Ent) (v : AV) (hv : v.sc = true) (ok : EOk h (e, v)) (hb : e.vec.length < 20000000000000) :
    ∃ h' v', callW AP.A 92 [.agg (entC e v)] h = some (.agg (entC e v'), h') ∧ v' = (if e.vec = [] then .sobj (h.next + 2) 0 0 1 else .sobj (h.next + 3) 0 e.vec.length 1) ∧ Rd h' v' (ints e.vec) ∧ h'.floor = h.floor ∧ h.next + 3 ≤ h'.next ∧ Ext h h' ∧ (0 < e.vec.length → h'.get (h.next + 3) = some (ints e.vec)) := by
  obtain ⟨h1, eh1⟩ : ∃ g, g = h.alloc (entC e v) := ⟨_, rfl⟩
  obtain ⟨h2, eh2⟩ : ∃ g, g = h1.alloc (entC ent0 .nils) := ⟨_, rfl⟩
  have n1 : h1.next = h.next + 1 := by rw [eh1]; simp
  have n2 : h2.next = h.next + 2 := by rw [eh2]; simp [n1]
  have f2 : h2.floor = h.floor := by rw [eh2, eh1]; simp
  have x2 : Ext h h2 := by rw [eh2, eh1]; exact ((Ext.refl h).alloc _).alloc _
  have ga2 : h2.get h.next = some (entC e v) := by rw [eh2, get_miss (by omega), eh1, get_hit rfl]
  have gz2 : h2.get (h.next + 1) = some (entC ent0 .nils) := by rw [eh2, get_hit (by omega)]
  have r2 := (ok.vec.mono fun i c q => x2 i c q).rdN
  rw [ints_length] at r2
  obtain ⟨v', h3, ap, hv', hcl, hsc, hrd, g3, f3, n3, hget, x3⟩ : ∃ v' h3, aapp (h2.alloc []) 1 8 (.sobj h2.next 0 0 1) v = some (v', h3) ∧ v' = (if e.vec = [] then .sobj (h.next + 2) 0 0 1 else .sobj (h.next + 3) 0 e.vec.length 1) ∧ v'.cells = [v'] ∧ v'.sc = true ∧ Rd h3 v' (ints e.vec) ∧
      (∀ i, i < h.next + 2 → h3.get i = h2.get i) ∧ h3.floor = h.floor ∧ h.next + 3 ≤ h3.next ∧ (0 < e.vec.length → h3.get (h.next + 3) = some (ints e.vec)) ∧ Ext h h3 := by
    by_cases c : e.vec = []
    · rw [c] at r2
      have := app_empty0 (z := 8) r2
      refine ⟨_, _, this, by rw [if_pos c, n2], rfl, rfl, ?_, fun i hi => ?_, by simp [f2], by simp [n2], fun q => by rw [c] at q; simp at q, x2.alloc _⟩
      · rw [c]
        refine ⟨?_, fun _ => by simp⟩
        simp only [srcCells, if_true]
        rw [get_hit (by omega)]; rfl
      · rw [get_miss (by omega)]
    · have hp : 0 < e.vec.length := List.length_pos_iff.2 c
      have := app_empty r2 (by omega) (by omega) hp (z := 8) (by simp [roomy]; omega) (ints_allsc e.vec)
      refine ⟨_, _, this, by rw [if_neg c, n2], rfl, rfl, ?_, fun i hi => ?_, by simp [f2], by simp [n2], fun _ => ?_, fun i d q => ?_⟩
      · refine ⟨?_, fun _ => by simp⟩
        simp only [srcCells, if_true]
        rw [get_hit (by simp), Option.bind_some, if_pos (by simp), List.drop_zero, List.take_of_length_le (by simp), ints_length]
      · rw [get_miss (by simp; omega), H.get_del, if_neg (by omega), get_miss (by omega)]
      · rw [get_hit (by simp [n2])]
      · have := h.lt _ _ q
        rw [get_miss (by simp; omega), H.get_del, if_neg (by omega), get_miss (by omega)]; exact x2 i d q
  obtain ⟨h4, eh4⟩ : ∃ g, g = h3.set h.next (entC e v') := ⟨_, rfl⟩
  obtain ⟨h5, eh5⟩ : ∃ g, g = h4.set (h.next + 1) (entC e v') := ⟨_, rfl⟩
  have ga3 : h3.get h.next = some (entC e v) := by rw [g3 _ (by omega), ga2]
  have gz3 : h3.get (h.next + 1) = some (entC ent0 .nils) := by rw [g3 _ (by omega), gz2]
  have ga4 : h4.get h.next = some (entC e v') := by rw [eh4, set_hit rfl, ga3]; rfl
  have gz4 : h4.get (h.next + 1) = some (entC ent0 .nils) := by rw [eh4, set_miss (by omega), gz3]
  have gz5 : h5.get (h.next + 1) = some (entC e v') := by rw [eh5, set_hit rfl, gz4]; rfl
  have st4 : stO h3 h.next 2 1 [v'] (some (entC e v)) = some h4 := by rw [stO_1 (by omega) (by show 2 < 9; omega) hsc, eh4]; rfl
  have st5 : stO h4 (h.next + 1) 0 9 (entC e v') (some (entC ent0 .nils)) = some h5 := by
    rw [eh5]; exact stO_all (by rw [eh4]; simp; omega) rfl rfl (by simp [entC, hsc])
  have e1 : h.alloc (entC e v) = h1 := eh1.symm
  have e2 : h1.alloc [.str ⟨#[]⟩, .bool false, .nils, .int .i64 0, .int .i64 0, .int .i64 0, .str ⟨#[]⟩, .int .i64 0, .int .i64 0] = h2 := eh2.symm
  have rr : rdc true 9 (entC e v') 0 = some (.agg (entC e v')) := rfl
  have lE : (entC e v).length = 9 := rfl
  have sE : AV.allsc (entC e v) = true := by simp [entC, hv]
  have c2 : (entC e v)[2]? = some v := rfl
  have hg : ∀ i, i ≠ h.next → i ≠ h.next + 1 → h5.get i = h3.get i := fun i q1 q2 => by rw [eh5, set_miss q2, eh4, set_miss q1]
  have x5 : Ext h3 h5 → True := fun _ => trivial
  refine ⟨h5, v', plain_c (fn := AP.f92) (h2 := h5) (e := [(2, .pobj (h.next + 1) 0)]) (vs := [.agg (entC e v')]) rfl rfl rfl ?_ ?_, hv', ?_, by rw [eh5, eh4]; simp [f3], by rw [eh5, eh4]; simpa using n3, ?_, fun q => by rw [hg _ (by omega) (by omega)]; exact hget q⟩
  · clear x5 hg x2 x3 g3 hrd hget r2 ok
    generalize entC e v = A at *
    generalize entC e v' = B at *
    simp (disch := omega) only [go_sem, abin_shl, abin_shr, Nat.reduceEqDiff, reduceIte, Nat.reduceAdd, Nat.reduceMul, Nat.reduceLT, Nat.reduceLeDiff, Int.reduceBEq, Int.reduceBNe, Int.reduceLT, Int.reduceLE, Int.reduceEq, dt, df, eqt, eqf, net, nef, wi, wb, alen_str, idxs_at, tn_add, tn_nat, aix, get_hit, get_miss, set_hit, set_miss, H.floor_alloc, H.next_alloc, H.floor_set, H.next_set, stO_d, condO_t, fill_n, fill_c, fillS_s, bir_bslice, bir_alloc, bir_box, birB_s, repl_s, repl_z, List.map_cons, List.map_nil, setFrom_nil, setFrom_cons, allsc_nil, allsc_cons, Bool.and_true, Bool.true_and, Bool.and_self, List.append_nil, Option.map_some, Option.map_none, iadr_s, iadr_m, idP_s, idQ_s, bir_mksl, mkslB_s, alen_s, alen_n, alen_m, Bool.and_false, Bool.false_and, Bool.or_false, Bool.or_true, Bool.true_or, Bool.false_or, Bool.or_self, C_dregF, goD_s, goD2_t, stb_n, stb_c, stK_n, stK_c, stV_s, stB_f, beq_int, beq_bool, beq_tup0, beq_nils, beq_simm0, beq_str, beq_sobj, beq_pobj, opsD_nil, opsD_u, opsD_g, goOD_s, preD_t, preD_f, AOp.loud, AOp.births, st1_u, st1_g, Int.reduceAdd, Int.reduceSub, Int.reduceMul, Int.reduceNeg, Int.reduceToNat, eqbB_s, beq_refl, beqs_refl, stB_t, beO_s, stBv_t, stBv_p, stBv_o, st1b_alloc, st1b_box, st1b_bslice, st1b_mksl, AP.f92, lE, sE, e1, n1, e2, ga2, get_miss, c2, ap, ga3, hcl, st4, ga4, rr, gz4, st5]
  · simp only [AP.f92, resAll, resOf, look_hit, load_o, gz5, rdO_s]; rfl
  · obtain ⟨q1, q2⟩ := hrd
    refine ⟨?_, q2⟩
    rw [← q1]
    rw [hv']
    by_cases c : e.vec = []
    · rw [if_pos c]; simp only [srcCells, if_true]; rw [hg _ (by omega) (by omega)]
    · rw [if_neg c]; simp only [srcCells, if_true]; rw [hg _ (by omega) (by omega)]
  · intro i d q
    have := h.lt _ _ q
    rw [hg _ (by omega) (by omega)]; exact x3 i d q
theorem si_loop {v w : AV} {a b : List Int} (hab : a.length = b.length) (hl : a.length < 1125899906842624) (h : H) (ra : Rd h v (ints a)) (rb : Rd h w (ints b)) : ∀ (p q r : List Int) (p' : List Int), a = p ++ q → b = p' ++ r → p.length = p'.length →
    (∃ e', Lp AP.A [0, 1, 5] AP.f106L0 [(0, v), (1, w), (5, .int .i64 p.length)] h = some (.exit 0, e', h) ∧ decide (q = r) = true) ∨
    (∃ e', Lp AP.A [0, 1, 5] AP.f106L0 [(0, v), (1, w), (5, .int .i64 p.length)] h = some (.ret, e', h) ∧ look e' 4 = .bool false ∧ decide (q = r) = false)
  | p, [], r, p', hp, hq, hpp => by
    have hr : r = [] := List.eq_nil_of_length_eq_zero (by rw [hp, hq] at hab; simp at hab; omega)
    left
    have ln := ra.len
    rw [ints_length] at ln
    simp only [I] at ln
    rw [List.append_nil] at hp
    refine ⟨[(0, v), (1, w), (5, .int .i64 p.length), (14, .bool false)], Lp_exit ?_, by rw [hr]; rfl⟩
    rw [hp] at ln
    clear hab hl ra rb
    simp (disch := omega) only [go_sem, abin_shl, abin_shr, Nat.reduceEqDiff, reduceIte, Nat.reduceAdd, Nat.reduceMul, Nat.reduceLT, Nat.reduceLeDiff, Int.reduceBEq, Int.reduceBNe, Int.reduceLT, Int.reduceLE, Int.reduceEq, dt, df, eqt, eqf, net, nef, wi, wb, alen_str, idxs_at, tn_add, tn_nat, aix, get_hit, get_miss, set_hit, set_miss, H.floor_alloc, H.next_alloc, H.floor_set, H.next_set, stO_d, condO_t, fill_n, fill_c, fillS_s, bir_bslice, bir_alloc, bir_box, birB_s, repl_s, repl_z, List.map_cons, List.map_nil, setFrom_nil, setFrom_cons, allsc_nil, allsc_cons, Bool.and_true, Bool.true_and, Bool.and_self, List.append_nil, Option.map_some, Option.map_none, iadr_s, iadr_m, idP_s, idQ_s, bir_mksl, mkslB_s, alen_s, alen_n, alen_m, Bool.and_false, Bool.false_and, Bool.or_false, Bool.or_true, Bool.true_or, Bool.false_or, Bool.or_self, C_dregF, goD_s, goD2_t, stb_n, stb_c, stK_n, stK_c, stV_s, stB_f, beq_int, beq_bool, beq_tup0, beq_nils, beq_simm0, beq_str, beq_sobj, beq_pobj, opsD_nil, opsD_u, opsD_g, goOD_s, preD_t, preD_f, AOp.loud, AOp.births, st1_u, st1_g, Int.reduceAdd, Int.reduceSub, Int.reduceMul, Int.reduceNeg, Int.reduceToNat, eqbB_s, beq_refl, beqs_refl, stB_t, beO_s, stBv_t, stBv_p, stBv_o, st1b_alloc, st1b_box, st1b_bslice, st1b_mksl, AP.f106L0, ln]
  | p, x :: q, [], p', hp, hq, hpp => by
    exfalso
    rw [hp, hq] at hab; simp at hab; omega
  | p, x :: q, y :: r, p', hp, hq, hpp => by
    have ln := ra.len
    rw [ints_length] at ln
    simp only [I] at ln
    have hlen : a.length = p.length + (q.length + 1) := by rw [hp]; simp
    have hx : a[p.length]? = some x := by rw [hp]; simp
    have hy : b[p.length]? = some y := by rw [hpp, hq]; simp
    obtain ⟨ad, a1, a2⟩ := ra.ints_at
    obtain ⟨bd, b1, b2⟩ := rb.ints_at
    have i1 := a1 p.length ⟨by omega, by omega⟩
    have i2 := b1 p.length ⟨by omega, by omega⟩
    have l1 := a2 h (Ext.refl h) _ _ hx
    have l2 := b2 h (Ext.refl h) _ _ hy
    have w1 : (((p ++ [x]).length : Nat) : Int) = (p.length : Int) + 1 := by simp
    have ih := si_loop hab hl h ra rb (p ++ [x]) q r (p' ++ [y]) (by rw [hp]; simp) (by rw [hq]; simp) (by simp; omega)
    rw [w1] at ih
    clear a1 a2 b1 b2 ra rb w1
    by_cases c : x = y
    · have step : evC (callW AP.A) loopW AP.f106L0 (restr [(0, v), (1, w), (5, .int .i64 p.length)] [0, 1, 5]) h = some (.normal, [(0, v), (1, w), (5, .int .i64 ((p.length : Int) + 1))], h) := by
        clear ih hp hq
        simp (disch := omega) only [go_sem, abin_shl, abin_shr, Nat.reduceEqDiff, reduceIte, Nat.reduceAdd, Nat.reduceMul, Nat.reduceLT, Nat.reduceLeDiff, Int.reduceBEq, Int.reduceBNe, Int.reduceLT, Int.reduceLE, Int.reduceEq, dt, df, eqt, eqf, net, nef, wi, wb, alen_str, idxs_at, tn_add, tn_nat, aix, get_hit, get_miss, set_hit, set_miss, H.floor_alloc, H.next_alloc, H.floor_set, H.next_set, stO_d, condO_t, fill_n, fill_c, fillS_s, bir_bslice, bir_alloc, bir_box, birB_s, repl_s, repl_z, List.map_cons, List.map_nil, setFrom_nil, setFrom_cons, allsc_nil, allsc_cons, Bool.and_true, Bool.true_and, Bool.and_self, List.append_nil, Option.map_some, Option.map_none, iadr_s, iadr_m, idP_s, idQ_s, bir_mksl, mkslB_s, alen_s, alen_n, alen_m, Bool.and_false, Bool.false_and, Bool.or_false, Bool.or_true, Bool.true_or, Bool.false_or, Bool.or_self, C_dregF, goD_s, goD2_t, stb_n, stb_c, stK_n, stK_c, stV_s, stB_f, beq_int, beq_bool, beq_tup0, beq_nils, beq_simm0, beq_str, beq_sobj, beq_pobj, opsD_nil, opsD_u, opsD_g, goOD_s, preD_t, preD_f, AOp.loud, AOp.births, st1_u, st1_g, Int.reduceAdd, Int.reduceSub, Int.reduceMul, Int.reduceNeg, Int.reduceToNat, eqbB_s, beq_refl, beqs_refl, stB_t, beO_s, stBv_t, stBv_p, stBv_o, st1b_alloc, st1b_box, st1b_bslice, st1b_mksl, AP.f106L0, ln, i1, i2, l1, l2]
      have e : decide (x :: q = y :: r) = decide (q = r) := by simp [c]
      rw [e]
      rcases ih with ⟨e', r1, r2⟩ | ⟨e', r1, r2, r3⟩
      · exact .inl ⟨e', Lp_next step r1, r2⟩
      · exact .inr ⟨e', Lp_next step r1, r2, r3⟩
    · right
      refine ⟨[(4, .bool false)], Lp_ret ?_, rfl, by simp [c]⟩
      clear ih hp hq
      simp (disch := omega) only [go_sem, abin_shl, abin_shr, Nat.reduceEqDiff, reduceIte, Nat.reduceAdd, Nat.reduceMul, Nat.reduceLT, Nat.reduceLeDiff, Int.reduceBEq, Int.reduceBNe, Int.reduceLT, Int.reduceLE, Int.reduceEq, dt, df, eqt, eqf, net, nef, wi, wb, alen_str, idxs_at, tn_add, tn_nat, aix, get_hit, get_miss, set_hit, set_miss, H.floor_alloc, H.next_alloc, H.floor_set, H.next_set, stO_d, condO_t, fill_n, fill_c, fillS_s, bir_bslice, bir_alloc, bir_box, birB_s, repl_s, repl_z, List.map_cons, List.map_nil, setFrom_nil, setFrom_cons, allsc_nil, allsc_cons, Bool.and_true, Bool.true_and, Bool.and_self, List.append_nil, Option.map_some, Option.map_none, iadr_s, iadr_m, idP_s, idQ_s, bir_mksl, mkslB_s, alen_s, alen_n, alen_m, Bool.and_false, Bool.false_and, Bool.or_false, Bool.or_true, Bool.true_or, Bool.false_or, Bool.or_self, C_dregF, goD_s, goD2_t, stb_n, stb_c, stK_n, stK_c, stV_s, stB_f, beq_int, beq_bool, beq_tup0, beq_nils, beq_simm0, beq_str, beq_sobj, beq_pobj, opsD_nil, opsD_u, opsD_g, goOD_s, preD_t, preD_f, AOp.loud, AOp.births, st1_u, st1_g, Int.reduceAdd, Int.reduceSub, Int.reduceMul, Int.reduceNeg, Int.reduceToNat, eqbB_s, beq_refl, beqs_refl, stB_t, beO_s, stBv_t, stBv_p, stBv_o, st1b_alloc, st1b_box, st1b_bslice, st1b_mksl, AP.f106L0, ln, i1, i2, l1, l2]
theorem sameI_c (h : H) (v w : AV) (a b : List Int) (ra : Rd h v (ints a)) (rb : Rd h w (ints b)) (hl : a.length < 1125899906842624) : callW AP.A 106 [v, w] h = some (.bool (decide (a = b)), h) := by
  have ra' := ra.mono (get_fence_mono h)
  have rb' := rb.mono (get_fence_mono h)
  have la := ra'.len
  have lb := rb'.len
  rw [ints_length] at la lb
  simp only [I] at la lb
  by_cases c : a.length = b.length
  · rcases si_loop c hl h.fence ra' rb' [] a b [] rfl rfl rfl with ⟨e', r1, r2⟩ | ⟨e', r1, r2, r3⟩
    · have r1' : Lp AP.A [0, 1, 5] AP.f106L0 [(0, v), (1, w), (5, .int .i64 0)] h.fence = some (.exit 0, e', h.fence) := r1
      clear r1
      rw [r2]
      refine pure_c (fn := AP.f106) (h2 := h.fence) (e := [(4, .bool true)]) rfl rfl rfl ?_ rfl rfl
      simp (disch := omega) only [go_sem, abin_shl, abin_shr, Nat.reduceEqDiff, reduceIte, Nat.reduceAdd, Nat.reduceMul, Nat.reduceLT, Nat.reduceLeDiff, Int.reduceBEq, Int.reduceBNe, Int.reduceLT, Int.reduceLE, Int.reduceEq, dt, df, eqt, eqf, net, nef, wi, wb, alen_str, idxs_at, tn_add, tn_nat, aix, get_hit, get_miss, set_hit, set_miss, H.floor_alloc, H.next_alloc, H.floor_set, H.next_set, stO_d, condO_t, fill_n, fill_c, fillS_s, bir_bslice, bir_alloc, bir_box, birB_s, repl_s, repl_z, List.map_cons, List.map_nil, setFrom_nil, setFrom_cons, allsc_nil, allsc_cons, Bool.and_true, Bool.true_and, Bool.and_self, List.append_nil, Option.map_some, Option.map_none, iadr_s, iadr_m, idP_s, idQ_s, bir_mksl, mkslB_s, alen_s, alen_n, alen_m, Bool.and_false, Bool.false_and, Bool.or_false, Bool.or_true, Bool.true_or, Bool.false_or, Bool.or_self, C_dregF, goD_s, goD2_t, stb_n, stb_c, stK_n, stK_c, stV_s, stB_f, beq_int, beq_bool, beq_tup0, beq_nils, beq_simm0, beq_str, beq_sobj, beq_pobj, opsD_nil, opsD_u, opsD_g, goOD_s, preD_t, preD_f, AOp.loud, AOp.births, st1_u, st1_g, Int.reduceAdd, Int.reduceSub, Int.reduceMul, Int.reduceNeg, Int.reduceToNat, eqbB_s, beq_refl, beqs_refl, stB_t, beO_s, stBv_t, stBv_p, stBv_o, st1b_alloc, st1b_box, st1b_bslice, st1b_mksl, AP.f106, la, lb, evC_loop, r1']
    · have r1' : Lp AP.A [0, 1, 5] AP.f106L0 [(0, v), (1, w), (5, .int .i64 0)] h.fence = some (.ret, e', h.fence) := r1
      clear r1
      rw [r3]
      refine pure_c (fn := AP.f106) (h2 := h.fence) (e := e') (vs := [.bool false]) rfl rfl rfl ?_ (by simp only [AP.f106, resAll, resOf, r2]; rfl) rfl
      simp (disch := omega) only [go_sem, abin_shl, abin_shr, Nat.reduceEqDiff, reduceIte, Nat.reduceAdd, Nat.reduceMul, Nat.reduceLT, Nat.reduceLeDiff, Int.reduceBEq, Int.reduceBNe, Int.reduceLT, Int.reduceLE, Int.reduceEq, dt, df, eqt, eqf, net, nef, wi, wb, alen_str, idxs_at, tn_add, tn_nat, aix, get_hit, get_miss, set_hit, set_miss, H.floor_alloc, H.next_alloc, H.floor_set, H.next_set, stO_d, condO_t, fill_n, fill_c, fillS_s, bir_bslice, bir_alloc, bir_box, birB_s, repl_s, repl_z, List.map_cons, List.map_nil, setFrom_nil, setFrom_cons, allsc_nil, allsc_cons, Bool.and_true, Bool.true_and, Bool.and_self, List.append_nil, Option.map_some, Option.map_none, iadr_s, iadr_m, idP_s, idQ_s, bir_mksl, mkslB_s, alen_s, alen_n, alen_m, Bool.and_false, Bool.false_and, Bool.or_false, Bool.or_true, Bool.true_or, Bool.false_or, Bool.or_self, C_dregF, goD_s, goD2_t, stb_n, stb_c, stK_n, stK_c, stV_s, stB_f, beq_int, beq_bool, beq_tup0, beq_nils, beq_simm0, beq_str, beq_sobj, beq_pobj, opsD_nil, opsD_u, opsD_g, goOD_s, preD_t, preD_f, AOp.loud, AOp.births, st1_u, st1_g, Int.reduceAdd, Int.reduceSub, Int.reduceMul, Int.reduceNeg, Int.reduceToNat, eqbB_s, beq_refl, beqs_refl, stB_t, beO_s, stBv_t, stBv_p, stBv_o, st1b_alloc, st1b_box, st1b_bslice, st1b_mksl, AP.f106, la, lb, evC_loop, r1']
  · have e : decide (a = b) = false := by rw [decide_eq_false_iff_not]; intro q; exact c (by rw [q])
    rw [e]
    refine pure_c (fn := AP.f106) (h2 := h.fence) (e := [(4, .bool false)]) rfl rfl rfl ?_ rfl rfl
    simp (disch := omega) only [go_sem, abin_shl, abin_shr, Nat.reduceEqDiff, reduceIte, Nat.reduceAdd, Nat.reduceMul, Nat.reduceLT, Nat.reduceLeDiff, Int.reduceBEq, Int.reduceBNe, Int.reduceLT, Int.reduceLE, Int.reduceEq, dt, df, eqt, eqf, net, nef, wi, wb, alen_str, idxs_at, tn_add, tn_nat, aix, get_hit, get_miss, set_hit, set_miss, H.floor_alloc, H.next_alloc, H.floor_set, H.next_set, stO_d, condO_t, fill_n, fill_c, fillS_s, bir_bslice, bir_alloc, bir_box, birB_s, repl_s, repl_z, List.map_cons, List.map_nil, setFrom_nil, setFrom_cons, allsc_nil, allsc_cons, Bool.and_true, Bool.true_and, Bool.and_self, List.append_nil, Option.map_some, Option.map_none, iadr_s, iadr_m, idP_s, idQ_s, bir_mksl, mkslB_s, alen_s, alen_n, alen_m, Bool.and_false, Bool.false_and, Bool.or_false, Bool.or_true, Bool.true_or, Bool.false_or, Bool.or_self, C_dregF, goD_s, goD2_t, stb_n, stb_c, stK_n, stK_c, stV_s, stB_f, beq_int, beq_bool, beq_tup0, beq_nils, beq_simm0, beq_str, beq_sobj, beq_pobj, opsD_nil, opsD_u, opsD_g, goOD_s, preD_t, preD_f, AOp.loud, AOp.births, st1_u, st1_g, Int.reduceAdd, Int.reduceSub, Int.reduceMul, Int.reduceNeg, Int.reduceToNat, eqbB_s, beq_refl, beqs_refl, stB_t, beO_s, stBv_t, stBv_p, stBv_o, st1b_alloc, st1b_box, st1b_bslice, st1b_mksl, AP.f106, la, lb]
def sameEB (a b : Ent) : Bool := (a.name.data.toList == b.name.data.toList) && ((a.gone == b.gone) && (decide (a.vec = b.vec) && (decide (a.stamp = b.stamp) && (decide (a.node = b.node) && (decide (a.method = b.method) && ((a.packed.data.toList == b.packed.data.toList) && (decide (a.size = b.size) && decide (a.crc = b.crc))))))))
theorem sameEB_iff (a b : Ent) : sameEB a b = true ↔ a = b := by
  have q : ∀ x y : ByteArray, (x.data.toList == y.data.toList) = true ↔ x = y := fun x y => by
    constructor
    · intro e; exact ByteArray.ext (Array.toList_inj.1 (eq_of_beq e))
    · rintro rfl; exact str_same _
  obtain ⟨a1, a2, a3, a4, a5, a6, a7, a8, a9⟩ := a
  obtain ⟨b1, b2, b3, b4, b5, b6, b7, b8, b9⟩ := b
  simp only [sameEB, Bool.and_eq_true, decide_eq_true_eq, q, beq_iff_eq, Ent.mk.injEq]
theorem sameE_c (h : H) (a b : Ent) (v w : AV) (sa : v.sc = true) (sb : w.sc = true) (ra : EOk h (a, v)) (rb : EOk h (b, w)) : callW AP.A 98 [.agg (entC a v), .agg (entC b w)] h = some (.bool (sameEB a b), h) := by
  obtain ⟨h1, eh1⟩ : ∃ g, g = h.fence.alloc (entC a v) := ⟨_, rfl⟩
  obtain ⟨h2, eh2⟩ : ∃ g, g = h1.alloc (entC b w) := ⟨_, rfl⟩
  have x1 : Ext h h1 := fun i c q => by rw [eh1]; exact ((Ext.refl h.fence).alloc _) i c q
  have x2 : Ext h h2 := by rw [eh2]; exact x1.alloc _
  have n0 : h.fence.next = h.next := rfl
  have n1 : h1.next = h.next + 1 := by rw [eh1]; simp
  have ga : h2.get h.next = some (entC a v) := by rw [eh2, get_miss (by omega), eh1, get_hit (by simp)]
  have gb : h2.get (h.next + 1) = some (entC b w) := by rw [eh2, get_hit (by omega)]
  have k1 := sameI_c h2 v w a.vec b.vec (ra.mono x2).vec (rb.mono x2).vec ra.vl
  have s1 : abin .eql (.str a.name) (.str b.name) = some (.bool (a.name.data.toList == b.name.data.toList)) := str_eql _ _
  have s2 : abin .eql (.str a.packed) (.str b.packed) = some (.bool (a.packed.data.toList == b.packed.data.toList)) := str_eql _ _
  have e1 : h.fence.alloc (entC a v) = h1 := eh1.symm
  have e2 : h1.alloc (entC b w) = h2 := eh2.symm
  refine pure_c (fn := AP.f98) (h2 := h2) (e := [(4, .bool (sameEB a b))]) rfl rfl rfl ?_ rfl rfl
  unfold sameEB
  clear x1 x2 ra rb eh1 eh2
  generalize (a.name.data.toList == b.name.data.toList) = B1 at *
  generalize (a.packed.data.toList == b.packed.data.toList) = B2 at *
  obtain ⟨B3, hB3⟩ : ∃ B, (a.gone == b.gone) = B := ⟨_, rfl⟩
  rw [hB3]
  generalize decide (a.vec = b.vec) = B4 at *
  simp only [entC] at *
  cases B1 with
  | false => simp (disch := omega) only [go_sem, abin_shl, abin_shr, Nat.reduceEqDiff, reduceIte, Nat.reduceAdd, Nat.reduceMul, Nat.reduceLT, Nat.reduceLeDiff, Int.reduceBEq, Int.reduceBNe, Int.reduceLT, Int.reduceLE, Int.reduceEq, dt, df, eqt, eqf, net, nef, wi, wb, alen_str, idxs_at, tn_add, tn_nat, aix, get_hit, get_miss, set_hit, set_miss, H.floor_alloc, H.next_alloc, H.floor_set, H.next_set, stO_d, condO_t, fill_n, fill_c, fillS_s, bir_bslice, bir_alloc, bir_box, birB_s, repl_s, repl_z, List.map_cons, List.map_nil, setFrom_nil, setFrom_cons, allsc_nil, allsc_cons, Bool.and_true, Bool.true_and, Bool.and_self, List.append_nil, Option.map_some, Option.map_none, iadr_s, iadr_m, idP_s, idQ_s, bir_mksl, mkslB_s, alen_s, alen_n, alen_m, Bool.and_false, Bool.false_and, Bool.or_false, Bool.or_true, Bool.true_or, Bool.false_or, Bool.or_self, C_dregF, goD_s, goD2_t, stb_n, stb_c, stK_n, stK_c, stV_s, stB_f, beq_int, beq_bool, beq_tup0, beq_nils, beq_simm0, beq_str, beq_sobj, beq_pobj, opsD_nil, opsD_u, opsD_g, goOD_s, preD_t, preD_f, AOp.loud, AOp.births, st1_u, st1_g, Int.reduceAdd, Int.reduceSub, Int.reduceMul, Int.reduceNeg, Int.reduceToNat, eqbB_s, beq_refl, beqs_refl, stB_t, beO_s, stBv_t, stBv_p, stBv_o, st1b_alloc, st1b_box, st1b_bslice, st1b_mksl, AP.f98, sa, sb, n0, e1, n1, e2, ga, gb, s1, s2, hB3, k1]
  | true =>
    cases B3 with
    | false => simp (disch := omega) only [go_sem, abin_shl, abin_shr, Nat.reduceEqDiff, reduceIte, Nat.reduceAdd, Nat.reduceMul, Nat.reduceLT, Nat.reduceLeDiff, Int.reduceBEq, Int.reduceBNe, Int.reduceLT, Int.reduceLE, Int.reduceEq, dt, df, eqt, eqf, net, nef, wi, wb, alen_str, idxs_at, tn_add, tn_nat, aix, get_hit, get_miss, set_hit, set_miss, H.floor_alloc, H.next_alloc, H.floor_set, H.next_set, stO_d, condO_t, fill_n, fill_c, fillS_s, bir_bslice, bir_alloc, bir_box, birB_s, repl_s, repl_z, List.map_cons, List.map_nil, setFrom_nil, setFrom_cons, allsc_nil, allsc_cons, Bool.and_true, Bool.true_and, Bool.and_self, List.append_nil, Option.map_some, Option.map_none, iadr_s, iadr_m, idP_s, idQ_s, bir_mksl, mkslB_s, alen_s, alen_n, alen_m, Bool.and_false, Bool.false_and, Bool.or_false, Bool.or_true, Bool.true_or, Bool.false_or, Bool.or_self, C_dregF, goD_s, goD2_t, stb_n, stb_c, stK_n, stK_c, stV_s, stB_f, beq_int, beq_bool, beq_tup0, beq_nils, beq_simm0, beq_str, beq_sobj, beq_pobj, opsD_nil, opsD_u, opsD_g, goOD_s, preD_t, preD_f, AOp.loud, AOp.births, st1_u, st1_g, Int.reduceAdd, Int.reduceSub, Int.reduceMul, Int.reduceNeg, Int.reduceToNat, eqbB_s, beq_refl, beqs_refl, stB_t, beO_s, stBv_t, stBv_p, stBv_o, st1b_alloc, st1b_box, st1b_bslice, st1b_mksl, AP.f98, sa, sb, n0, e1, n1, e2, ga, gb, s1, s2, hB3, k1]
    | true =>
      cases B4 with
      | false => simp (disch := omega) only [go_sem, abin_shl, abin_shr, Nat.reduceEqDiff, reduceIte, Nat.reduceAdd, Nat.reduceMul, Nat.reduceLT, Nat.reduceLeDiff, Int.reduceBEq, Int.reduceBNe, Int.reduceLT, Int.reduceLE, Int.reduceEq, dt, df, eqt, eqf, net, nef, wi, wb, alen_str, idxs_at, tn_add, tn_nat, aix, get_hit, get_miss, set_hit, set_miss, H.floor_alloc, H.next_alloc, H.floor_set, H.next_set, stO_d, condO_t, fill_n, fill_c, fillS_s, bir_bslice, bir_alloc, bir_box, birB_s, repl_s, repl_z, List.map_cons, List.map_nil, setFrom_nil, setFrom_cons, allsc_nil, allsc_cons, Bool.and_true, Bool.true_and, Bool.and_self, List.append_nil, Option.map_some, Option.map_none, iadr_s, iadr_m, idP_s, idQ_s, bir_mksl, mkslB_s, alen_s, alen_n, alen_m, Bool.and_false, Bool.false_and, Bool.or_false, Bool.or_true, Bool.true_or, Bool.false_or, Bool.or_self, C_dregF, goD_s, goD2_t, stb_n, stb_c, stK_n, stK_c, stV_s, stB_f, beq_int, beq_bool, beq_tup0, beq_nils, beq_simm0, beq_str, beq_sobj, beq_pobj, opsD_nil, opsD_u, opsD_g, goOD_s, preD_t, preD_f, AOp.loud, AOp.births, st1_u, st1_g, Int.reduceAdd, Int.reduceSub, Int.reduceMul, Int.reduceNeg, Int.reduceToNat, eqbB_s, beq_refl, beqs_refl, stB_t, beO_s, stBv_t, stBv_p, stBv_o, st1b_alloc, st1b_box, st1b_bslice, st1b_mksl, AP.f98, sa, sb, n0, e1, n1, e2, ga, gb, s1, s2, hB3, k1]
      | true =>
        by_cases c3 : a.stamp = b.stamp
        · by_cases c4 : a.node = b.node
          · by_cases c5 : a.method = b.method
            · cases B2 with
              | false => simp (disch := omega) only [go_sem, abin_shl, abin_shr, Nat.reduceEqDiff, reduceIte, Nat.reduceAdd, Nat.reduceMul, Nat.reduceLT, Nat.reduceLeDiff, Int.reduceBEq, Int.reduceBNe, Int.reduceLT, Int.reduceLE, Int.reduceEq, dt, df, eqt, eqf, net, nef, wi, wb, alen_str, idxs_at, tn_add, tn_nat, aix, get_hit, get_miss, set_hit, set_miss, H.floor_alloc, H.next_alloc, H.floor_set, H.next_set, stO_d, condO_t, fill_n, fill_c, fillS_s, bir_bslice, bir_alloc, bir_box, birB_s, repl_s, repl_z, List.map_cons, List.map_nil, setFrom_nil, setFrom_cons, allsc_nil, allsc_cons, Bool.and_true, Bool.true_and, Bool.and_self, List.append_nil, Option.map_some, Option.map_none, iadr_s, iadr_m, idP_s, idQ_s, bir_mksl, mkslB_s, alen_s, alen_n, alen_m, Bool.and_false, Bool.false_and, Bool.or_false, Bool.or_true, Bool.true_or, Bool.false_or, Bool.or_self, C_dregF, goD_s, goD2_t, stb_n, stb_c, stK_n, stK_c, stV_s, stB_f, beq_int, beq_bool, beq_tup0, beq_nils, beq_simm0, beq_str, beq_sobj, beq_pobj, opsD_nil, opsD_u, opsD_g, goOD_s, preD_t, preD_f, AOp.loud, AOp.births, st1_u, st1_g, Int.reduceAdd, Int.reduceSub, Int.reduceMul, Int.reduceNeg, Int.reduceToNat, eqbB_s, beq_refl, beqs_refl, stB_t, beO_s, stBv_t, stBv_p, stBv_o, st1b_alloc, st1b_box, st1b_bslice, st1b_mksl, AP.f98, sa, sb, n0, e1, n1, e2, ga, gb, s1, s2, hB3, k1]
              | true =>
                by_cases c7 : a.size = b.size
                · by_cases c8 : a.crc = b.crc
                  · simp (disch := omega) only [go_sem, abin_shl, abin_shr, Nat.reduceEqDiff, reduceIte, Nat.reduceAdd, Nat.reduceMul, Nat.reduceLT, Nat.reduceLeDiff, Int.reduceBEq, Int.reduceBNe, Int.reduceLT, Int.reduceLE, Int.reduceEq, dt, df, eqt, eqf, net, nef, wi, wb, alen_str, idxs_at, tn_add, tn_nat, aix, get_hit, get_miss, set_hit, set_miss, H.floor_alloc, H.next_alloc, H.floor_set, H.next_set, stO_d, condO_t, fill_n, fill_c, fillS_s, bir_bslice, bir_alloc, bir_box, birB_s, repl_s, repl_z, List.map_cons, List.map_nil, setFrom_nil, setFrom_cons, allsc_nil, allsc_cons, Bool.and_true, Bool.true_and, Bool.and_self, List.append_nil, Option.map_some, Option.map_none, iadr_s, iadr_m, idP_s, idQ_s, bir_mksl, mkslB_s, alen_s, alen_n, alen_m, Bool.and_false, Bool.false_and, Bool.or_false, Bool.or_true, Bool.true_or, Bool.false_or, Bool.or_self, C_dregF, goD_s, goD2_t, stb_n, stb_c, stK_n, stK_c, stV_s, stB_f, beq_int, beq_bool, beq_tup0, beq_nils, beq_simm0, beq_str, beq_sobj, beq_pobj, opsD_nil, opsD_u, opsD_g, goOD_s, preD_t, preD_f, AOp.loud, AOp.births, st1_u, st1_g, Int.reduceAdd, Int.reduceSub, Int.reduceMul, Int.reduceNeg, Int.reduceToNat, eqbB_s, beq_refl, beqs_refl, stB_t, beO_s, stBv_t, stBv_p, stBv_o, st1b_alloc, st1b_box, st1b_bslice, st1b_mksl, AP.f98, sa, sb, n0, e1, n1, e2, ga, gb, s1, s2, hB3, k1]
                  · simp (disch := omega) only [go_sem, abin_shl, abin_shr, Nat.reduceEqDiff, reduceIte, Nat.reduceAdd, Nat.reduceMul, Nat.reduceLT, Nat.reduceLeDiff, Int.reduceBEq, Int.reduceBNe, Int.reduceLT, Int.reduceLE, Int.reduceEq, dt, df, eqt, eqf, net, nef, wi, wb, alen_str, idxs_at, tn_add, tn_nat, aix, get_hit, get_miss, set_hit, set_miss, H.floor_alloc, H.next_alloc, H.floor_set, H.next_set, stO_d, condO_t, fill_n, fill_c, fillS_s, bir_bslice, bir_alloc, bir_box, birB_s, repl_s, repl_z, List.map_cons, List.map_nil, setFrom_nil, setFrom_cons, allsc_nil, allsc_cons, Bool.and_true, Bool.true_and, Bool.and_self, List.append_nil, Option.map_some, Option.map_none, iadr_s, iadr_m, idP_s, idQ_s, bir_mksl, mkslB_s, alen_s, alen_n, alen_m, Bool.and_false, Bool.false_and, Bool.or_false, Bool.or_true, Bool.true_or, Bool.false_or, Bool.or_self, C_dregF, goD_s, goD2_t, stb_n, stb_c, stK_n, stK_c, stV_s, stB_f, beq_int, beq_bool, beq_tup0, beq_nils, beq_simm0, beq_str, beq_sobj, beq_pobj, opsD_nil, opsD_u, opsD_g, goOD_s, preD_t, preD_f, AOp.loud, AOp.births, st1_u, st1_g, Int.reduceAdd, Int.reduceSub, Int.reduceMul, Int.reduceNeg, Int.reduceToNat, eqbB_s, beq_refl, beqs_refl, stB_t, beO_s, stBv_t, stBv_p, stBv_o, st1b_alloc, st1b_box, st1b_bslice, st1b_mksl, AP.f98, sa, sb, n0, e1, n1, e2, ga, gb, s1, s2, hB3, k1]
                · simp (disch := omega) only [go_sem, abin_shl, abin_shr, Nat.reduceEqDiff, reduceIte, Nat.reduceAdd, Nat.reduceMul, Nat.reduceLT, Nat.reduceLeDiff, Int.reduceBEq, Int.reduceBNe, Int.reduceLT, Int.reduceLE, Int.reduceEq, dt, df, eqt, eqf, net, nef, wi, wb, alen_str, idxs_at, tn_add, tn_nat, aix, get_hit, get_miss, set_hit, set_miss, H.floor_alloc, H.next_alloc, H.floor_set, H.next_set, stO_d, condO_t, fill_n, fill_c, fillS_s, bir_bslice, bir_alloc, bir_box, birB_s, repl_s, repl_z, List.map_cons, List.map_nil, setFrom_nil, setFrom_cons, allsc_nil, allsc_cons, Bool.and_true, Bool.true_and, Bool.and_self, List.append_nil, Option.map_some, Option.map_none, iadr_s, iadr_m, idP_s, idQ_s, bir_mksl, mkslB_s, alen_s, alen_n, alen_m, Bool.and_false, Bool.false_and, Bool.or_false, Bool.or_true, Bool.true_or, Bool.false_or, Bool.or_self, C_dregF, goD_s, goD2_t, stb_n, stb_c, stK_n, stK_c, stV_s, stB_f, beq_int, beq_bool, beq_tup0, beq_nils, beq_simm0, beq_str, beq_sobj, beq_pobj, opsD_nil, opsD_u, opsD_g, goOD_s, preD_t, preD_f, AOp.loud, AOp.births, st1_u, st1_g, Int.reduceAdd, Int.reduceSub, Int.reduceMul, Int.reduceNeg, Int.reduceToNat, eqbB_s, beq_refl, beqs_refl, stB_t, beO_s, stBv_t, stBv_p, stBv_o, st1b_alloc, st1b_box, st1b_bslice, st1b_mksl, AP.f98, sa, sb, n0, e1, n1, e2, ga, gb, s1, s2, hB3, k1]
            · simp (disch := omega) only [go_sem, abin_shl, abin_shr, Nat.reduceEqDiff, reduceIte, Nat.reduceAdd, Nat.reduceMul, Nat.reduceLT, Nat.reduceLeDiff, Int.reduceBEq, Int.reduceBNe, Int.reduceLT, Int.reduceLE, Int.reduceEq, dt, df, eqt, eqf, net, nef, wi, wb, alen_str, idxs_at, tn_add, tn_nat, aix, get_hit, get_miss, set_hit, set_miss, H.floor_alloc, H.next_alloc, H.floor_set, H.next_set, stO_d, condO_t, fill_n, fill_c, fillS_s, bir_bslice, bir_alloc, bir_box, birB_s, repl_s, repl_z, List.map_cons, List.map_nil, setFrom_nil, setFrom_cons, allsc_nil, allsc_cons, Bool.and_true, Bool.true_and, Bool.and_self, List.append_nil, Option.map_some, Option.map_none, iadr_s, iadr_m, idP_s, idQ_s, bir_mksl, mkslB_s, alen_s, alen_n, alen_m, Bool.and_false, Bool.false_and, Bool.or_false, Bool.or_true, Bool.true_or, Bool.false_or, Bool.or_self, C_dregF, goD_s, goD2_t, stb_n, stb_c, stK_n, stK_c, stV_s, stB_f, beq_int, beq_bool, beq_tup0, beq_nils, beq_simm0, beq_str, beq_sobj, beq_pobj, opsD_nil, opsD_u, opsD_g, goOD_s, preD_t, preD_f, AOp.loud, AOp.births, st1_u, st1_g, Int.reduceAdd, Int.reduceSub, Int.reduceMul, Int.reduceNeg, Int.reduceToNat, eqbB_s, beq_refl, beqs_refl, stB_t, beO_s, stBv_t, stBv_p, stBv_o, st1b_alloc, st1b_box, st1b_bslice, st1b_mksl, AP.f98, sa, sb, n0, e1, n1, e2, ga, gb, s1, s2, hB3, k1]
          · simp (disch := omega) only [go_sem, abin_shl, abin_shr, Nat.reduceEqDiff, reduceIte, Nat.reduceAdd, Nat.reduceMul, Nat.reduceLT, Nat.reduceLeDiff, Int.reduceBEq, Int.reduceBNe, Int.reduceLT, Int.reduceLE, Int.reduceEq, dt, df, eqt, eqf, net, nef, wi, wb, alen_str, idxs_at, tn_add, tn_nat, aix, get_hit, get_miss, set_hit, set_miss, H.floor_alloc, H.next_alloc, H.floor_set, H.next_set, stO_d, condO_t, fill_n, fill_c, fillS_s, bir_bslice, bir_alloc, bir_box, birB_s, repl_s, repl_z, List.map_cons, List.map_nil, setFrom_nil, setFrom_cons, allsc_nil, allsc_cons, Bool.and_true, Bool.true_and, Bool.and_self, List.append_nil, Option.map_some, Option.map_none, iadr_s, iadr_m, idP_s, idQ_s, bir_mksl, mkslB_s, alen_s, alen_n, alen_m, Bool.and_false, Bool.false_and, Bool.or_false, Bool.or_true, Bool.true_or, Bool.false_or, Bool.or_self, C_dregF, goD_s, goD2_t, stb_n, stb_c, stK_n, stK_c, stV_s, stB_f, beq_int, beq_bool, beq_tup0, beq_nils, beq_simm0, beq_str, beq_sobj, beq_pobj, opsD_nil, opsD_u, opsD_g, goOD_s, preD_t, preD_f, AOp.loud, AOp.births, st1_u, st1_g, Int.reduceAdd, Int.reduceSub, Int.reduceMul, Int.reduceNeg, Int.reduceToNat, eqbB_s, beq_refl, beqs_refl, stB_t, beO_s, stBv_t, stBv_p, stBv_o, st1b_alloc, st1b_box, st1b_bslice, st1b_mksl, AP.f98, sa, sb, n0, e1, n1, e2, ga, gb, s1, s2, hB3, k1]
        · simp (disch := omega) only [go_sem, abin_shl, abin_shr, Nat.reduceEqDiff, reduceIte, Nat.reduceAdd, Nat.reduceMul, Nat.reduceLT, Nat.reduceLeDiff, Int.reduceBEq, Int.reduceBNe, Int.reduceLT, Int.reduceLE, Int.reduceEq, dt, df, eqt, eqf, net, nef, wi, wb, alen_str, idxs_at, tn_add, tn_nat, aix, get_hit, get_miss, set_hit, set_miss, H.floor_alloc, H.next_alloc, H.floor_set, H.next_set, stO_d, condO_t, fill_n, fill_c, fillS_s, bir_bslice, bir_alloc, bir_box, birB_s, repl_s, repl_z, List.map_cons, List.map_nil, setFrom_nil, setFrom_cons, allsc_nil, allsc_cons, Bool.and_true, Bool.true_and, Bool.and_self, List.append_nil, Option.map_some, Option.map_none, iadr_s, iadr_m, idP_s, idQ_s, bir_mksl, mkslB_s, alen_s, alen_n, alen_m, Bool.and_false, Bool.false_and, Bool.or_false, Bool.or_true, Bool.true_or, Bool.false_or, Bool.or_self, C_dregF, goD_s, goD2_t, stb_n, stb_c, stK_n, stK_c, stV_s, stB_f, beq_int, beq_bool, beq_tup0, beq_nils, beq_simm0, beq_str, beq_sobj, beq_pobj, opsD_nil, opsD_u, opsD_g, goOD_s, preD_t, preD_f, AOp.loud, AOp.births, st1_u, st1_g, Int.reduceAdd, Int.reduceSub, Int.reduceMul, Int.reduceNeg, Int.reduceToNat, eqbB_s, beq_refl, beqs_refl, stB_t, beO_s, stBv_t, stBv_p, stBv_o, st1b_alloc, st1b_box, st1b_bslice, st1b_mksl, AP.f98, sa, sb, n0, e1, n1, e2, ga, gb, s1, s2, hB3, k1]
end Ab
