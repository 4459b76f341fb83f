/- Part C3. -/
import Derived.Test.YtbihdlhgfnoejaaDoorC2
set_option linter.unusedSimpArgs false
set_option linter.unusedVariables false
set_option maxRecDepth 100000
namespace Ab
open Go
def nA : ByteArray := ⟨#[97]⟩
def nB : ByteArray := ⟨#[98]⟩
def tHi : ByteArray := ⟨#[104, 105]⟩
def tHo : ByteArray := ⟨#[104, 111]⟩
def eA : Ent := smallE nA 0 1 tHi
def eB : Ent := smallE nA 2 1 tHo
def eC : Ent := smallE nB 0 1 ⟨#[]⟩
def eG : Ent := ⟨nA, true, [9, 0, 0, 0], 9, 0, 0, ⟨#[]⟩, 0, 0⟩
theorem tx1 : entText eA = some tHi := by decide +kernel
theorem tx2 : entText eG = some ⟨#[]⟩ := by decide +kernel
theorem my1 : mayE eA = true := by decide +kernel
theorem my2 : mayE eB = true := by decide +kernel
theorem my3 : mayE { eA with crc := (crcA tHi ^^^ 1 : Nat) } = false := by decide +kernel
def eM : Ent := { eB with vec := [1, 0, 1, 0] }
theorem mg1 : mergeE eA eB = some eM := by
  unfold mergeE
  rw [my1, my2]
  rfl
theorem mg2 : mergeE eA eC = none := by
  unfold mergeE
  have : (eA.name.data.toList == eC.name.data.toList) = false := by decide
  rw [this, Bool.and_false, Bool.and_false]; rfl
theorem bits_xor1 {a : Nat} (ha : a < 4294967296) : bits .xor .i64 (a : Int) 1 = ((a ^^^ 1 : Nat) : Int) := by
  have h3 : a ^^^ 1 < 4294967296 := xor_lt32 ha (by omega)
  show IntKind.wrap .i64 (((BitVec.ofInt 64 (a : Int) ^^^ BitVec.ofInt 64 ((1 : Nat) : Int)).toNat : Nat) : Int) = _
  rw [BitVec.toNat_xor, bv_nat 64 a (by omega), bv_nat 64 1 (by omega)]
  exact wrap_nat64 (by omega)
theorem EOk.imm {h : H} {e : Ent} (hv : e.vec.length = 4) (nl : e.name.size < 1000000) (pl : e.packed.size < 1000000) : EOk h (e, vecV e.vec) :=
  ⟨by rw [show (e, vecV e.vec).2 = vecV e.vec from rfl, vecV_4 hv]; have := rd_imm h e.vec; unfold immI at this; rw [hv] at this; exact this, by show e.vec.length < _; omega, by show e.name.size < _; omega, by show e.packed.size < _; omega⟩
theorem Rd.obj {h : H} {p n : Nat} {l : List Int} (hp : h.get p = some (ints l)) (hl : l.length = n) : Rd h (.sobj p 0 n 1) (ints l) :=
  ⟨by subst hl; simp only [srcCells, if_true, hp, Option.bind_some]; rw [if_pos (by simp), List.drop_zero, List.take_of_length_le (by simp), ints_length], fun s e => by cases e⟩
theorem EOk.obj {h : H} {e : Ent} {p n : Nat} {l : List Int} (hp : h.get p = some (ints l)) (hl : l.length = n) (he : e.vec = l := by rfl) (nl : e.name.size < 1125899906842624) (pl : e.packed.size < 1125899906842624) (hn : n < 1000000 := by decide) : EOk h (e, .sobj p 0 n 1) :=
  ⟨by show Rd h _ (ints e.vec); rw [he]; exact Rd.obj hp hl, by show e.vec.length < _; rw [he]; omega, by show e.name.size < _; omega, by show e.packed.size < _; omega⟩
theorem crcA_lt (t : ByteArray) : crcA t < 4294967296 := joinA_lt 0 t
theorem vecV_sc (l : List Int) : (vecV l).sc = true := by unfold vecV slN; split <;> rfl
theorem ent_sc {e : Ent} {v : AV} (h : v.sc = true) : AV.allsc (entC e v) = true := by simp [entC, h]
theorem tv1 : txtV eA = .tup [.str ⟨#[104, 105]⟩, .int .i64 0] := by unfold txtV; rw [tx1]; rfl
theorem tv2 : txtV eG = .tup [.str ⟨#[]⟩, .int .i64 1501] := by unfold txtV; rw [tx2]; rfl
theorem mv1 : mergeV (mergeE eA eB) = .tup [.agg (entC eM (vecV [1, 0, 1, 0])), .int .i64 0] := by rw [mg1]; rfl
theorem mv2 : mergeV (mergeE eA eC) = .tup [.agg (entC ent0 .nils), .int .i64 1500] := by rw [mg2]; rfl
def eD : Ent := { eA with crc := (crcA tHi ^^^ 1 : Nat) }
theorem copyE_x (h : H) (hf : h.floor ≤ h.next) (e : Ent) (v : AV) (hv : v.sc = true) (hb : e.vec.length < 1000000) (r : srcCells ((h.alloc (entC e v)).alloc Z9 |>.alloc []) 1 v = some (e.vec.length, ints e.vec)) (h0 : 0 < e.vec.length) :
    callW AP.A 92 [.agg (entC e v)] h = some (.agg (entC e (.sobj (h.next + 1 + 1 + 1) 0 e.vec.length 1)), ((((((h.alloc (entC e v)).alloc Z9).alloc []).del (h.next + 1 + 1)).alloc (ints e.vec)).set h.next (entC e (.sobj (h.next + 1 + 1 + 1) 0 e.vec.length 1))).set (h.next + 1) (entC e (.sobj (h.next + 1 + 1 + 1) 0 e.vec.length 1))) := by
  have cA : AV.allsc (entC e v) = true := ent_sc hv
  have lA : (entC e v).length = 9 := rfl
  have gA : (entC e v)[2]? = some v := rfl
  have fA : setFrom (entC e v) 2 [.sobj (h.next + 1 + 1 + 1) 0 e.vec.length 1] = entC e (.sobj (h.next + 1 + 1 + 1) 0 e.vec.length 1) := rfl
  have tA : List.take 9 (entC e (.sobj (h.next + 1 + 1 + 1) 0 e.vec.length 1)) = entC e (.sobj (h.next + 1 + 1 + 1) 0 e.vec.length 1) := rfl
  have lB : (entC e (.sobj (h.next + 1 + 1 + 1) 0 e.vec.length 1)).length = 9 := rfl
  have cB : AV.allsc (entC e (.sobj (h.next + 1 + 1 + 1) 0 e.vec.length 1)) = true := rfl
  have fB : setFrom Z9 0 (entC e (.sobj (h.next + 1 + 1 + 1) 0 e.vec.length 1)) = entC e (.sobj (h.next + 1 + 1 + 1) 0 e.vec.length 1) := rfl
  have la := ints_allsc e.vec
  have ll := ints_length e.vec
  refine plain_c (fn := AP.f92) (e := [(2, .pobj (h.next + 1) 0)]) (vs := [.agg (entC e (.sobj (h.next + 1 + 1 + 1) 0 e.vec.length 1))]) rfl rfl rfl ?_ ?_
  · generalize entC e v = A at *
    generalize hB : entC e (.sobj (h.next + 1 + 1 + 1) 0 e.vec.length 1) = B at *
    generalize e.vec.length = n at *
    generalize ints e.vec = L at *
    simp (disch := first | omega | (simp only [H.next_alloc, H.next_set, nx_del, nx_fence, H.floor_alloc, H.floor_set, fl_del, fl_fence, List.length_cons, List.length_nil, Nat.zero_add, Nat.reduceAdd]; first | done | omega | fail) | (simp (disch := first | omega | (simp only [H.next_alloc, H.next_set, nx_del, nx_fence, H.floor_alloc, H.floor_set, fl_del, fl_fence, List.length_cons, List.length_nil, Nat.zero_add, Nat.reduceAdd]; first | done | omega | fail) | fail) only [H.next_alloc, H.next_set, nx_del, nx_fence, H.floor_alloc, H.floor_set, fl_del, fl_fence, List.length_cons, List.length_nil, Nat.zero_add, Nat.reduceAdd, get_hit, get_miss, set_hit, set_miss, del_miss, gt_fence, Option.map_some]; done) | fail) only [go_sem, abin_shl, abin_shr, Nat.reduceEqDiff, reduceIte, Nat.reduceAdd, Nat.reduceMul, Nat.reduceLT, Nat.reduceLeDiff, Int.reduceBEq, Int.reduceBNe, Int.reduceLT, Int.reduceLE, Int.reduceEq, dt, df, eqt, eqf, net, nef, wi, wb, alen_str, idxs_at, tn_add, tn_nat, aix, get_hit, get_miss, set_hit, set_miss, H.floor_alloc, H.next_alloc, H.floor_set, H.next_set, stO_d, condO_t, fill_n, fill_c, fillS_s, bir_bslice, bir_alloc, bir_box, birB_s, repl_s, repl_z, List.map_cons, List.map_nil, setFrom_nil, setFrom_cons, allsc_nil, allsc_cons, Bool.and_true, Bool.true_and, Bool.and_self, List.append_nil, Option.map_some, Option.map_none, iadr_s, iadr_m, idP_s, idQ_s, bir_mksl, mkslB_s, alen_s, alen_n, alen_m, Bool.and_false, Bool.false_and, Bool.or_false, Bool.or_true, Bool.true_or, Bool.false_or, Bool.or_self, C_dregF, goD_s, goD2_t, stb_n, stb_c, stK_n, stK_c, stV_s, stB_f, beq_int, beq_bool, beq_tup0, beq_nils, beq_simm0, beq_str, beq_sobj, beq_pobj, opsD_nil, opsD_u, opsD_g, goOD_s, preD_t, preD_f, AOp.loud, AOp.births, st1_u, st1_g, Int.reduceAdd, Int.reduceSub, Int.reduceMul, Int.reduceNeg, Int.reduceToNat, eqbB_s, beq_refl, beqs_refl, stB_t, beO_s, stBv_t, stBv_p, stBv_o, st1b_alloc, st1b_box, st1b_bslice, st1b_mksl, nx_fence, gt_fence, fl_fence, nx_del, fl_del, del_miss, rdT, List.take_succ_cons, List.take_zero, List.drop_zero, List.drop_succ_cons, selO_t, selO_f, srcO_s, src_o, src_m, src_n, src_s, appS_s, app_b, apO_s, apc_o, apc_n, roomy_t, Int.cast_ofNat_Int, Int.natCast_one, Int.natCast_zero, at_z, at_s, tl_z, tl_s, List.length_set, AP.f92, lA, cA, gA, fA, tA, lB, cB, fB, r, la, ll]
  · simp only [AP.f92, resAll, resOf, look_hit]
    generalize hB : entC e (.sobj (h.next + 1 + 1 + 1) 0 e.vec.length 1) = B at *
    simp (disch := first | omega | (simp only [H.next_alloc, H.next_set, nx_del, nx_fence, H.floor_alloc, H.floor_set, fl_del, fl_fence, List.length_cons, List.length_nil, Nat.zero_add, Nat.reduceAdd]; first | done | omega | fail) | (simp (disch := first | omega | (simp only [H.next_alloc, H.next_set, nx_del, nx_fence, H.floor_alloc, H.floor_set, fl_del, fl_fence, List.length_cons, List.length_nil, Nat.zero_add, Nat.reduceAdd]; first | done | omega | fail) | fail) only [H.next_alloc, H.next_set, nx_del, nx_fence, H.floor_alloc, H.floor_set, fl_del, fl_fence, List.length_cons, List.length_nil, Nat.zero_add, Nat.reduceAdd, get_hit, get_miss, set_hit, set_miss, del_miss, gt_fence, Option.map_some]; done) | fail) only [go_sem, abin_shl, abin_shr, Nat.reduceEqDiff, reduceIte, Nat.reduceAdd, Nat.reduceMul, Nat.reduceLT, Nat.reduceLeDiff, Int.reduceBEq, Int.reduceBNe, Int.reduceLT, Int.reduceLE, Int.reduceEq, dt, df, eqt, eqf, net, nef, wi, wb, alen_str, idxs_at, tn_add, tn_nat, aix, get_hit, get_miss, set_hit, set_miss, H.floor_alloc, H.next_alloc, H.floor_set, H.next_set, stO_d, condO_t, fill_n, fill_c, fillS_s, bir_bslice, bir_alloc, bir_box, birB_s, repl_s, repl_z, List.map_cons, List.map_nil, setFrom_nil, setFrom_cons, allsc_nil, allsc_cons, Bool.and_true, Bool.true_and, Bool.and_self, List.append_nil, Option.map_some, Option.map_none, iadr_s, iadr_m, idP_s, idQ_s, bir_mksl, mkslB_s, alen_s, alen_n, alen_m, Bool.and_false, Bool.false_and, Bool.or_false, Bool.or_true, Bool.true_or, Bool.false_or, Bool.or_self, C_dregF, goD_s, goD2_t, stb_n, stb_c, stK_n, stK_c, stV_s, stB_f, beq_int, beq_bool, beq_tup0, beq_nils, beq_simm0, beq_str, beq_sobj, beq_pobj, opsD_nil, opsD_u, opsD_g, goOD_s, preD_t, preD_f, AOp.loud, AOp.births, st1_u, st1_g, Int.reduceAdd, Int.reduceSub, Int.reduceMul, Int.reduceNeg, Int.reduceToNat, eqbB_s, beq_refl, beqs_refl, stB_t, beO_s, stBv_t, stBv_p, stBv_o, st1b_alloc, st1b_box, st1b_bslice, st1b_mksl, nx_fence, gt_fence, fl_fence, nx_del, fl_del, del_miss, rdT, List.take_succ_cons, List.take_zero, List.drop_zero, List.drop_succ_cons, selO_t, selO_f, srcO_s, src_o, src_m, src_n, src_s, appS_s, app_b, apO_s, apc_o, apc_n, roomy_t, Int.cast_ofNat_Int, Int.natCast_one, Int.natCast_zero, at_z, at_s, tl_z, tl_s, List.length_set, tA, lB]
    rfl
set_option maxHeartbeats 4000000 in
theorem awake15_c (h : H) : callW AP.A 95 [] h = some (.bool true, h) := by
  obtain ⟨A, hA⟩ : ∃ x, x = entC eA (vecV [1, 0, 0, 0]) := ⟨_, rfl⟩
  obtain ⟨B, hB⟩ : ∃ x, x = entC eB (vecV [0, 0, 1, 0]) := ⟨_, rfl⟩
  obtain ⟨C, hC⟩ : ∃ x, x = entC eC (vecV [1, 0, 0, 0]) := ⟨_, rfl⟩
  obtain ⟨M, hM⟩ : ∃ x, x = entC eM (vecV [1, 0, 1, 0]) := ⟨_, rfl⟩
  have lA : A.length = 9 := by rw [hA]; rfl
  have lB : B.length = 9 := by rw [hB]; rfl
  have lM : M.length = 9 := by rw [hM]; rfl
  have cA : AV.allsc A = true := by rw [hA]; exact ent_sc (vecV_sc _)
  have cB : AV.allsc B = true := by rw [hB]; exact ent_sc (vecV_sc _)
  have cM : AV.allsc M = true := by rw [hM]; exact ent_sc (vecV_sc _)
  have tA : List.take 9 A = A := by rw [hA]; rfl
  have tB : List.take 9 B = B := by rw [hB]; rfl
  have s1 : ∀ g, callW AP.A 99 [.str ⟨#[97]⟩, .int .i64 0, .int .i64 1, .str ⟨#[104, 105]⟩] g = some (.agg A, g) := fun g => by rw [hA]; exact small_c g nA tHi 0 1 (by omega) (by decide)
  have s2 : ∀ g, callW AP.A 99 [.str ⟨#[97]⟩, .int .i64 2, .int .i64 1, .str ⟨#[104, 111]⟩] g = some (.agg B, g) := fun g => by rw [hB]; exact small_c g nA tHo 2 1 (by omega) (by decide)
  have s3 : ∀ g, callW AP.A 99 [.str ⟨#[98]⟩, .int .i64 0, .int .i64 1, .str ⟨#[]⟩] g = some (.agg C, g) := fun g => by rw [hC]; exact small_c g nB ⟨#[]⟩ 0 1 (by omega) (by decide)
  have okA : ∀ g, EOk g (eA, vecV [1, 0, 0, 0]) := fun g => EOk.imm (e := eA) rfl (by decide) (by decide)
  have okB' : ∀ g, EOk g (eB, vecV [0, 0, 1, 0]) := fun g => EOk.imm (e := eB) rfl (by decide) (by decide)
  have okC : ∀ g, EOk g (eC, vecV [1, 0, 0, 0]) := fun g => EOk.imm (e := eC) rfl (by decide) (by decide)
  have k1 : ∀ g : H, g.floor ≤ g.next → callW AP.A 100 [.agg A] g = some (.tup [.str ⟨#[104, 105]⟩, .int .i64 0], g) := fun g hg => by
    have := etext_c g hg eA (vecV [1, 0, 0, 0]) (vecV_sc _) (okA g)
    rw [tv1] at this
    rw [hA]; exact this
  have k2 : ∀ g : H, g.floor ≤ g.next → callW AP.A 97 [.agg A, .agg B] g = some (.tup [.agg M, .int .i64 0], g) := fun g hg => by
    have := merge_c g hg eA eB (vecV [1, 0, 0, 0]) (vecV [0, 0, 1, 0]) (vecV_sc _) (vecV_sc _) (okA g) (okB' g)
    rw [mv1] at this
    rw [hA, hB, hM]; exact this
  have k3 : ∀ g : H, g.floor ≤ g.next → callW AP.A 97 [.agg A, .agg C] g = some (.tup [.agg (entC ent0 .nils), .int .i64 1500], g) := fun g hg => by
    have := merge_c g hg eA eC (vecV [1, 0, 0, 0]) (vecV [1, 0, 0, 0]) (vecV_sc _) (vecV_sc _) (okA g) (okC g)
    rw [mv2] at this
    rw [hA, hC]; exact this
  have fA : setFrom Z9 0 A = A := by rw [hA]; rfl
  have fB : setFrom Z9 0 B = B := by rw [hB]; rfl
  have fM : setFrom Z9 0 M = M := by rw [hM]; rfl
  have fE : setFrom Z9 0 (entC ent0 .nils) = Z9 := rfl
  have cE : AV.allsc (entC ent0 .nils) = true := rfl
  have lE : (entC ent0 .nils).length = 9 := rfl
  have m6 : M[6]? = some (.str ⟨#[104, 111]⟩) := by rw [hM]; rfl
  have m4 : M[4]? = some (.int .i64 2) := by rw [hM]; rfl
  have m2 : M[2]? = some (vecV [1, 0, 1, 0]) := by rw [hM]; rfl
  have k4 : ∀ (g : H) (p : Nat), g.floor ≤ g.next → g.get p = some [.int .i64 9, .int .i64 0, .int .i64 0, .int .i64 0] → callW AP.A 100 [.agg [.str ⟨#[97]⟩, .bool true, .sobj p 0 4 1, .int .i64 9, .int .i64 0, .int .i64 0, .str ⟨#[]⟩, .int .i64 0, .int .i64 0]] g = some (.tup [.str ⟨#[]⟩, .int .i64 1501], g) := fun g p hg hp => by
    have := etext_c g hg eG (.sobj p 0 4 1) rfl (EOk.obj (l := [9, 0, 0, 0]) hp rfl rfl (by decide) (by decide))
    rw [tv2] at this; exact this
  have k5 : ∀ (g : H) (p : Nat), g.floor ≤ g.next → g.get p = some [.int .i64 9, .int .i64 0, .int .i64 0, .int .i64 0] → callW AP.A 96 [.agg [.str ⟨#[97]⟩, .bool true, .sobj p 0 4 1, .int .i64 9, .int .i64 0, .int .i64 0, .str ⟨#[]⟩, .int .i64 0, .int .i64 0]] g = some (.bool true, g) := fun g p hg hp => by
    have := emay_c g hg eG (.sobj p 0 4 1) rfl (EOk.obj (l := [9, 0, 0, 0]) hp rfl rfl (by decide) (by decide))
    rw [show mayE eG = true by decide +kernel] at this; exact this
  obtain ⟨K, hK⟩ : ∃ K, K = ((crcA tHi : Nat) : Int) := ⟨_, rfl⟩
  obtain ⟨K', hK'⟩ : ∃ K, K = ((crcA tHi ^^^ 1 : Nat) : Int) := ⟨_, rfl⟩
  have x1 : bits .xor .i64 K 1 = K' := by rw [hK, hK']; exact bits_xor1 (crcA_lt _)
  have k6 : ∀ g : H, g.floor ≤ g.next → callW AP.A 92 [.agg A] g = some (.agg [.str nA, .bool false, .sobj (g.next + 1 + 1 + 1) 0 4 1, .int .i64 1, .int .i64 0, .int .i64 0, .str tHi, .int .i64 2, .int .i64 K], ((((((g.alloc A).alloc Z9).alloc []).del (g.next + 1 + 1)).alloc [.int .i64 1, .int .i64 0, .int .i64 0, .int .i64 0]).set g.next [.str nA, .bool false, .sobj (g.next + 1 + 1 + 1) 0 4 1, .int .i64 1, .int .i64 0, .int .i64 0, .str tHi, .int .i64 2, .int .i64 K]).set (g.next + 1) [.str nA, .bool false, .sobj (g.next + 1 + 1 + 1) 0 4 1, .int .i64 1, .int .i64 0, .int .i64 0, .str tHi, .int .i64 2, .int .i64 K]) := fun g hg => by
    rw [hA, hK]
    exact copyE_x g hg eA (vecV [1, 0, 0, 0]) (vecV_sc _) (by decide) rfl (by decide)
  have k7 : ∀ (g : H) (p : Nat), g.floor ≤ g.next → g.get p = some [.int .i64 1, .int .i64 0, .int .i64 0, .int .i64 0] → callW AP.A 96 [.agg [.str nA, .bool false, .sobj p 0 4 1, .int .i64 1, .int .i64 0, .int .i64 0, .str tHi, .int .i64 2, .int .i64 K']] g = some (.bool false, g) := fun g p hg hp => by
    have := emay_c g hg eD (.sobj p 0 4 1) rfl (EOk.obj (l := [1, 0, 0, 0]) hp rfl rfl (by decide) (by decide))
    rw [show mayE eD = false from my3] at this
    rw [hK']; exact this
  have k8 : ∀ (g : H) (p : Nat), g.get p = some [.int .i64 1, .int .i64 0, .int .i64 1, .int .i64 0] → callW AP.A 106 [vecV [1, 0, 1, 0], .sobj p 0 4 1] g = some (.bool true, g) := fun g p hp => by
    have := sameI_c g (vecV [1, 0, 1, 0]) (.sobj p 0 4 1) [1, 0, 1, 0] [1, 0, 1, 0] ?_ (Rd.obj (l := [1, 0, 1, 0]) hp rfl) (by decide)
    · exact this
    · have := rd_imm g [1, 0, 1, 0]; unfold immI at this; exact this
  have k9 := fun (g : H) n => num_c g n
  simp only [I] at k9
  have cm : (vecV [1, 0, 1, 0]).cells = [vecV [1, 0, 1, 0]] := rfl
  have y1 : abin .eql (.str ⟨#[104, 105]⟩) (.str ⟨#[104, 105]⟩) = some (.bool true) := by rw [str_eql]; rfl
  have y2 : abin .eql (.str ⟨#[104, 111]⟩) (.str ⟨#[104, 111]⟩) = some (.bool true) := by rw [str_eql]; rfl
  obtain ⟨h2, hh⟩ : ∃ h2, evC (callW AP.A) loopW AP.f95.body (params 0 []) h.fence = some (.ret, [(0, .bool true)], h2) := by
    refine ⟨?_, ?_⟩
    rotate_left
    simp (disch := first | omega | (simp only [H.next_alloc, H.next_set, nx_del, nx_fence, H.floor_alloc, H.floor_set, fl_del, fl_fence, List.length_cons, List.length_nil, Nat.zero_add, Nat.reduceAdd]; first | done | omega | fail) | (simp (disch := first | omega | (simp only [H.next_alloc, H.next_set, nx_del, nx_fence, H.floor_alloc, H.floor_set, fl_del, fl_fence, List.length_cons, List.length_nil, Nat.zero_add, Nat.reduceAdd]; first | done | omega | fail) | fail) only [H.next_alloc, H.next_set, nx_del, nx_fence, H.floor_alloc, H.floor_set, fl_del, fl_fence, List.length_cons, List.length_nil, Nat.zero_add, Nat.reduceAdd, get_hit, get_miss, set_hit, set_miss, del_miss, gt_fence, Option.map_some]; done) | fail) only [go_sem, abin_shl, abin_shr, Nat.reduceEqDiff, reduceIte, Nat.reduceAdd, Nat.reduceMul, Nat.reduceLT, Nat.reduceLeDiff, Int.reduceBEq, Int.reduceBNe, Int.reduceLT, Int.reduceLE, Int.reduceEq, dt, df, eqt, eqf, net, nef, wi, wb, alen_str, idxs_at, tn_add, tn_nat, aix, get_hit, get_miss, set_hit, set_miss, H.floor_alloc, H.next_alloc, H.floor_set, H.next_set, stO_d, condO_t, fill_n, fill_c, fillS_s, bir_bslice, bir_alloc, bir_box, birB_s, repl_s, repl_z, List.map_cons, List.map_nil, setFrom_nil, setFrom_cons, allsc_nil, allsc_cons, Bool.and_true, Bool.true_and, Bool.and_self, List.append_nil, Option.map_some, Option.map_none, iadr_s, iadr_m, idP_s, idQ_s, bir_mksl, mkslB_s, alen_s, alen_n, alen_m, Bool.and_false, Bool.false_and, Bool.or_false, Bool.or_true, Bool.true_or, Bool.false_or, Bool.or_self, C_dregF, goD_s, goD2_t, stb_n, stb_c, stK_n, stK_c, stV_s, stB_f, beq_int, beq_bool, beq_tup0, beq_nils, beq_simm0, beq_str, beq_sobj, beq_pobj, opsD_nil, opsD_u, opsD_g, goOD_s, preD_t, preD_f, AOp.loud, AOp.births, st1_u, st1_g, Int.reduceAdd, Int.reduceSub, Int.reduceMul, Int.reduceNeg, Int.reduceToNat, eqbB_s, beq_refl, beqs_refl, stB_t, beO_s, stBv_t, stBv_p, stBv_o, st1b_alloc, st1b_box, st1b_bslice, st1b_mksl, nx_fence, gt_fence, fl_fence, nx_del, fl_del, del_miss, rdT, List.take_succ_cons, List.take_zero, List.drop_zero, List.drop_succ_cons, selO_t, selO_f, srcO_s, src_o, src_m, src_n, src_s, appS_s, app_b, apO_s, apc_o, apc_n, roomy_t, Int.cast_ofNat_Int, Int.natCast_one, Int.natCast_zero, at_z, at_s, tl_z, tl_s, List.length_set, AP.f95, lA, lB, lM, cA, cB, cM, s1, s2, s3, k1, k2, k3, fA, fB, fM, fE, cE, lE, m6, m4, m2, k4, k5, k6, k7, k8, k9, x1, cm, y1, y2, tA, tB]
    rfl
  exact pure_c (fn := AP.f95) (h2 := h2) (e := [(0, .bool true)]) rfl rfl rfl hh rfl rfl
end Ab
set_option linter.unusedVariables false
namespace Ab
open Go
def intT : Ty := .int .i64
def intsT : Ty := .sl intT 1 8
def entT : Ty := .st [.str, .bool, intsT, intT, intT, intT, .str, intT, intT]
theorem sh_int {B : Nat} {as : List AV} (h : Sh B intT as) : ∃ n, as = [.int .i64 n] ∧ (-9223372036854775808 ≤ n ∧ n < 9223372036854775808) := by
  cases h with
  | int h => exact ⟨_, rfl, int_rng h⟩
theorem sh_bool {B : Nat} {as : List AV} (h : Sh B .bool as) : ∃ b, as = [.bool b] := by
  cases h with
  | bool b => exact ⟨b, rfl⟩
theorem sh_str {as : List AV} (h : Sh reachBytes .str as) : ∃ s : ByteArray, as = [.str s] ∧ s.size < 140737488355328 := by
  cases h with
  | str h => exact ⟨_, rfl, str_sz h⟩
theorem sh_list {B : Nat} {as : List AV} {ess : List (List AV)} (h : ∀ es, es ∈ ess → Sh B intT es) : ∃ l : List Int, l.length = ess.length ∧ ess.flatten = ints l := by
  induction ess with
  | nil => exact ⟨[], rfl, rfl⟩
  | cons x ess ih =>
    obtain ⟨n, rfl, _⟩ := sh_int (h x (by simp))
    obtain ⟨l, h1, h2⟩ := ih fun es q => h es (by simp [q])
    exact ⟨n :: l, by simp [h1], by rw [List.flatten_cons, h2]; rfl⟩
theorem sh_ints {as : List AV} (h : Sh reachBytes intsT as) : ∃ (v : AV) (l : List Int), as = [v] ∧ v.sc = true ∧ (∀ g, Rd g v (ints l)) ∧ l.length < 20000000000000 := by
  cases h with
  | nils => exact ⟨.nils, [], rfl, rfl, fun g => ⟨rfl, fun s e => by cases e⟩, by simp⟩
  | simm ess h hz hb =>
    obtain ⟨l, h1, h2⟩ := sh_list (as := []) h
    rw [h2, ← h1]
    refine ⟨_, l, rfl, rfl, fun g => ?_, ?_⟩
    · have := rd_imm g l
      unfold immI at this; exact this
    · rw [h1]; unfold reachBytes at hb; omega
theorem shA_cons {B : Nat} {f : Ty} {fs : List Ty} {as : List AV} (h : ShAll B (f :: fs) as) : ∃ a r, as = a ++ r ∧ Sh B f a ∧ ShAll B fs r := by
  cases h with
  | cons h hr => exact ⟨_, _, rfl, h, hr⟩
theorem shA_nil {B : Nat} {as : List AV} (h : ShAll B [] as) : as = [] := by
  cases h; rfl
theorem sh_st {B : Nat} {fs : List Ty} {as : List AV} (h : Sh B (.st fs) as) : ShAll B fs as := by
  cases h with
  | st h => exact h
theorem sh_ent {as : List AV} (h : Sh reachBytes entT as) : ∃ (e : Ent) (v : AV), as = entC e v ∧ v.sc = true ∧ (∀ g, EOk g (e, v)) ∧ e.vec.length < 20000000000000 := by
  obtain ⟨a1, r1, rfl, s1, h1⟩ := shA_cons (sh_st h)
  obtain ⟨a2, r2, rfl, s2, h2⟩ := shA_cons h1
  obtain ⟨a3, r3, rfl, s3, h3⟩ := shA_cons h2
  obtain ⟨a4, r4, rfl, s4, h4⟩ := shA_cons h3
  obtain ⟨a5, r5, rfl, s5, h5⟩ := shA_cons h4
  obtain ⟨a6, r6, rfl, s6, h6⟩ := shA_cons h5
  obtain ⟨a7, r7, rfl, s7, h7⟩ := shA_cons h6
  obtain ⟨a8, r8, rfl, s8, h8⟩ := shA_cons h7
  obtain ⟨a9, r9, rfl, s9, h9⟩ := shA_cons h8
  obtain rfl := shA_nil h9
  obtain ⟨n, rfl, z1⟩ := sh_str s1
  obtain ⟨g, rfl⟩ := sh_bool s2
  obtain ⟨v, l, rfl, hv, rd, z3⟩ := sh_ints s3
  obtain ⟨st, rfl, _⟩ := sh_int s4
  obtain ⟨no, rfl, _⟩ := sh_int s5
  obtain ⟨me, rfl, _⟩ := sh_int s6
  obtain ⟨pa, rfl, z7⟩ := sh_str s7
  obtain ⟨si, rfl, _⟩ := sh_int s8
  obtain ⟨cr, rfl, _⟩ := sh_int s9
  exact ⟨⟨n, g, l, st, no, me, pa, si, cr⟩, v, rfl, hv, fun g => ⟨rd g, by show l.length < _; omega, by show n.size < _; omega, by show pa.size < _; omega⟩, z3⟩
theorem row3 {P : Ty × List AV → Prop} {a b c : Ty} {r : List (Ty × List AV)} (h : r.map (·.1) = [a, b, c]) (hp : ∀ x ∈ r, P x) : ∃ x y z, r = [(a, x), (b, y), (c, z)] ∧ P (a, x) ∧ P (b, y) ∧ P (c, z) := by
  match r, h with
  | [(a', x), (b', y), (c', z)], h => simp at h; obtain ⟨rfl, rfl, rfl⟩ := h; exact ⟨x, y, z, rfl, hp _ (by simp), hp _ (by simp), hp _ (by simp)⟩
end Ab
set_option linter.unusedSimpArgs false
set_option linter.unusedVariables false
set_option maxRecDepth 100000
namespace Ab
open Go
theorem headA_facts {e : Ent} (h : headA e = true) : e.vec.length = 4 ∧ (∀ n ∈ e.vec, 0 ≤ n ∧ n ≤ 1048576) ∧ (1 ≤ e.stamp ∧ e.stamp ≤ 1048576) ∧ (0 ≤ e.node ∧ e.node < 4) := by
  simp only [headA, vecA, countA, nodeA, Bool.and_eq_true, decide_eq_true_eq, List.all_eq_true] at h
  exact ⟨h.1.1, h.1.2, ⟨h.2.1, h.2.2.1.2⟩, h.2.2.2⟩
theorem PE.obj {h : H} {id : Nat} {cs : List AV} (hg : h.get id = some cs) : PE h (.pobj id 0) cs :=
  ⟨fun g => rfl, fun k => .pobj id (0 + k), fun k => rfl, fun g hx k c hc => by
    show aload false 1 (.pobj id (0 + k)) g = _
    rw [Nat.zero_add]
    simp only [aload, hx _ _ hg, Option.bind_some, rdc, hc]; rfl⟩
theorem mayE_head {e : Ent} (h : mayE e = true) : headA e = true ∧ (1 ≤ e.name.size ∧ e.name.size ≤ 8) ∧ 0 ≤ e.crc ∧ e.crc ≤ 4294967295 := by
  unfold mayE entText at h
  split at h
  · cases h
  · rename_i hm
    have hm : mayF [e] = true := by cases q : mayF [e] with | true => rfl | false => exact absurd q hm
    simp only [mayF, mayL, entOk_n, Bool.and_eq_true, Bool.and_true] at hm
    obtain ⟨⟨h1, h2, h3⟩, _⟩ := hm
    refine ⟨h2, ?_, ?_⟩
    · simp only [nameA, Bool.and_eq_true, decide_eq_true_eq] at h1
      exact ⟨h1.1, h1.2.1⟩
    · unfold contA at h3
      split at h3
      · simp only [Bool.and_eq_true, decide_eq_true_eq] at h3; omega
      · simp only [Bool.and_eq_true, decide_eq_true_eq, isA] at h3; omega
end Ab
set_option linter.unusedSimpArgs false
set_option linter.unusedVariables false
set_option maxRecDepth 100000
namespace Ab
open Go
theorem and_mask' (x : Int) (k : Nat) (hk : k ≤ 62) : bits .and .i64 x ((2 ^ k - 1 : Nat) : Int) = x % ((2 ^ k : Nat) : Int) := by
  have h2 : 2 ^ k ≤ 2 ^ 62 := Nat.pow_le_pow_right (by omega) hk
  have h3 : 0 < 2 ^ k := Nat.pow_pos (by omega)
  show IntKind.wrap .i64 (((BitVec.ofInt 64 x &&& BitVec.ofInt 64 ((2 ^ k - 1 : Nat) : Int)).toNat : Nat) : Int) = _
  rw [BitVec.toNat_and, bv_nat 64 (2 ^ k - 1) (by omega), BitVec.toNat_ofInt, Nat.and_two_pow_sub_one_eq_mod, wrap_nat64 (by
    have := Nat.mod_lt (x % ((2 ^ 64 : Nat) : Int)).toNat h3
    omega)]
  have e : (((x % ((2 ^ 64 : Nat) : Int)).toNat : Nat) : Int) = x % ((2 ^ 64 : Nat) : Int) := Int.toNat_of_nonneg (Int.emod_nonneg _ (by decide))
  rw [Int.natCast_emod, e]
  refine Int.emod_emod_of_dvd x ?_
  refine Int.natCast_dvd_natCast.2 (Nat.pow_dvd_pow 2 (by omega))
end Ab
set_option linter.unusedSimpArgs false
set_option linter.unusedVariables false
set_option maxRecDepth 100000
namespace Ab
open Go
end Ab
set_option linter.unusedSimpArgs false
set_option linter.unusedVariables false
namespace Ab
open Go
def pk : List Nat → Nat
  | [] => 0
  | b :: l => b ^^^ (pk l * 2 ^ 8)
end Ab
set_option linter.unusedSimpArgs false
set_option linter.unusedVariables false
set_option maxRecDepth 100000
namespace Ab
open Go
theorem mayE_eq (e : Ent) : mayE e = (nameA e.name && (headA e && contA e) && (e.gone || (match unpackA e.method e.packed e.size with | some t => decide ((crcA t : Int) = e.crc) | none => false))) := by
  unfold mayE entText
  have hm : mayF [e] = (nameA e.name && (headA e && contA e)) := by simp [mayF, mayL, entOk_n]
  rw [hm]
  cases (nameA e.name && (headA e && contA e)) with
  | false => rfl
  | true =>
    rw [if_neg (by decide)]
    cases e.gone with
    | true => rfl
    | false =>
      rw [if_neg (by decide)]
      cases unpackA e.method e.packed e.size with
      | none => rfl
      | some t =>
        dsimp only
        by_cases c : (crcA t : Int) = e.crc
        · rw [if_pos c]; simp [c]
        · rw [if_neg c]; simp [c]
theorem mayE_of {e x : Ent} (h : mayE e = true) (hx : headA x = true) (h1 : x.name = e.name) (h2 : x.gone = e.gone) (h3 : x.method = e.method) (h4 : x.packed = e.packed) (h5 : x.size = e.size) (h6 : x.crc = e.crc) : mayE x = true := by
  rw [mayE_eq] at h ⊢
  have hc : contA x = contA e := by unfold contA; rw [h2, h3, h4, h5, h6]
  rw [h1, h2, h3, h4, h5, h6, hc, hx]
  simp only [Bool.and_eq_true] at h
  simp only [Bool.and_eq_true, Bool.true_and]
  exact ⟨⟨h.1.1, h.1.2.2⟩, h.2⟩
theorem headA_mk {e : Ent} (h1 : e.vec.length = 4) (h2 : ∀ n ∈ e.vec, 0 ≤ n ∧ n ≤ 1048576) (h3 : 1 ≤ e.stamp ∧ e.stamp ≤ 1048576) (h4 : 0 ≤ e.node ∧ e.node < 4) : headA e = true := by
  simp only [headA, vecA, countA, nodeA, Bool.and_eq_true, decide_eq_true_eq, List.all_eq_true]
  exact ⟨⟨h1, h2⟩, h3.1, ⟨by omega, h3.2⟩, h4⟩
theorem vec4 {l : List Int} (h : l.length = 4) : ∃ a b c d, l = [a, b, c, d] := by
  match l, h with
  | [a, b, c, d], _ => exact ⟨a, b, c, d, rfl⟩
end Ab
set_option linter.unusedSimpArgs false
set_option linter.unusedVariables false
set_option maxRecDepth 100000
namespace Ab
open Go
def VOk (v : List Int) : Prop := v.length = 4 ∧ ∀ n ∈ v, 0 ≤ n ∧ n ≤ 1048576
theorem maxI_rng {a b : Int} (ha : 0 ≤ a ∧ a ≤ 1048576) (hb : 0 ≤ b ∧ b ≤ 1048576) : 0 ≤ maxI a b ∧ maxI a b ≤ 1048576 := by unfold maxI; split <;> omega
theorem joinL_ok {v w : List Int} (hv : VOk v) (hw : VOk w) : VOk (joinL v w) := by
  obtain ⟨a, b, c, d, rfl⟩ := vec4 hv.1
  obtain ⟨a', b', c', d', rfl⟩ := vec4 hw.1
  obtain ⟨-, h1⟩ := hv
  obtain ⟨-, h2⟩ := hw
  simp only [List.mem_cons, List.mem_nil_iff, or_false, forall_eq_or_imp, forall_eq] at h1 h2
  refine ⟨rfl, ?_⟩
  intro n hn
  simp only [joinL, List.zipWith_cons_cons, List.zipWith_nil_left, List.mem_cons, List.mem_nil_iff, or_false] at hn
  rcases hn with rfl | rfl | rfl | rfl
  · exact maxI_rng h1.1 h2.1
  · exact maxI_rng h1.2.1 h2.2.1
  · exact maxI_rng h1.2.2.1 h2.2.2.1
  · exact maxI_rng h1.2.2.2 h2.2.2.2
end Ab
set_option linter.unusedSimpArgs false
set_option linter.unusedVariables false
set_option maxRecDepth 100000
namespace Ab
open Go
def mgE (a b : Ent) : Ent := { (if winB a b then b else a) with vec := joinL a.vec b.vec }
theorem mgE_may {a b : Ent} (ha : mayE a = true) (hb : mayE b = true) : mayE (mgE a b) = true := by
  obtain ⟨a1, a2, a3, a4⟩ := headA_facts (mayE_head ha).1
  obtain ⟨b1, b2, b3, b4⟩ := headA_facts (mayE_head hb).1
  obtain ⟨j1, j2⟩ := joinL_ok ⟨a1, a2⟩ ⟨b1, b2⟩
  unfold mgE
  cases winB a b with
  | true => exact mayE_of hb (headA_mk j1 j2 b3 b4) rfl rfl rfl rfl rfl rfl
  | false => exact mayE_of ha (headA_mk j1 j2 a3 a4) rfl rfl rfl rfl rfl rfl
theorem mergeE_eq {a b : Ent} (ha : mayE a = true) (hb : mayE b = true) (hn : a.name = b.name) : mergeE a b = some (mgE a b) := by
  unfold mergeE
  rw [ha, hb, hn, str_same]; rfl
theorem joinL_comm (v w : List Int) : joinL v w = joinL w v := by
  unfold joinL
  rw [List.zipWith_comm]
  congr 1; funext a b; unfold maxI; split <;> split <;> omega
theorem maxI_assoc (a b c : Int) : maxI (maxI a b) c = maxI a (maxI b c) := by unfold maxI; (repeat' split) <;> omega
theorem maxI_same (a : Int) : maxI a a = a := by unfold maxI; split <;> rfl
theorem maxI_lid (a b : Int) : maxI (maxI a b) a = maxI a b := by unfold maxI; (repeat' split) <;> omega
theorem joinL_facts {u v w : List Int} (hu : u.length = 4) (hv : v.length = 4) (hw : w.length = 4) : joinL (joinL u v) w = joinL u (joinL v w) ∧ joinL (joinL u v) (joinL u v) = joinL u v ∧ joinL (joinL u v) u = joinL u v := by
  obtain ⟨a, b, c, d, rfl⟩ := vec4 hu
  obtain ⟨a', b', c', d', rfl⟩ := vec4 hv
  obtain ⟨a'', b'', c'', d'', rfl⟩ := vec4 hw
  simp only [joinL, List.zipWith_cons_cons, List.zipWith_nil_left, maxI_assoc, maxI_same, maxI_lid, and_self]
  simp only [← maxI_assoc, maxI_lid, maxI_same, and_self]
theorem mg_facts {a b c : Ent} (ha : mayE a = true) (hb : mayE b = true) (hc : mayE c = true) (hab : a.stamp ≠ b.stamp) (hbc : b.stamp ≠ c.stamp) (hac : a.stamp ≠ c.stamp) :
    mgE a b = mgE b a ∧ mgE (mgE a b) c = mgE a (mgE b c) ∧ mgE (mgE a b) (mgE a b) = mgE a b ∧ mgE (mgE a b) a = mgE a b := by
  have la := (headA_facts (mayE_head ha).1).1
  have lb := (headA_facts (mayE_head hb).1).1
  have lc := (headA_facts (mayE_head hc).1).1
  obtain ⟨j1, j2, j3⟩ := joinL_facts la lb lc
  have jc := joinL_comm a.vec b.vec
  have ws : ∀ x y : Ent, x.stamp ≠ y.stamp → winB x y = decide (x.stamp < y.stamp) := fun x y h => by
    unfold winB; rw [show decide (x.stamp = y.stamp) = false by simpa using h]; simp
  have wr : ∀ x : Ent, ∀ v w : List Int, winB { x with vec := v } { x with vec := w } = false := fun x v w => by simp [winB]
  have wl : ∀ x : Ent, ∀ v : List Int, winB { x with vec := v } x = false := fun x v => by simp [winB]
  have m1 : mgE a b = { (if a.stamp < b.stamp then b else a) with vec := joinL a.vec b.vec } := by unfold mgE; rw [ws a b hab]; by_cases q : a.stamp < b.stamp <;> simp [q]
  have m2 : mgE b a = { (if b.stamp < a.stamp then a else b) with vec := joinL b.vec a.vec } := by unfold mgE; rw [ws b a (Ne.symm hab)]; by_cases q : b.stamp < a.stamp <;> simp [q]
  have m3 : mgE b c = { (if b.stamp < c.stamp then c else b) with vec := joinL b.vec c.vec } := by unfold mgE; rw [ws b c hbc]; by_cases q : b.stamp < c.stamp <;> simp [q]
  refine ⟨?_, ?_, ?_, ?_⟩
  · rw [m1, m2, ← jc]
    by_cases q : a.stamp < b.stamp
    · rw [if_pos q, if_neg (by omega)]
    · rw [if_neg q, if_pos (by omega)]
  · rw [m1, m3]
    by_cases q1 : a.stamp < b.stamp <;> by_cases q2 : b.stamp < c.stamp <;> by_cases q3 : a.stamp < c.stamp <;> first
      | omega
      | (simp only [if_pos, if_neg, q1, q2, q3, not_false_eq_true, if_true, if_false]
         unfold mgE
         simp only [ws _ _ hab, ws _ _ hbc, ws _ _ hac, winB, q1, q2, q3, j1, decide_true, decide_false, Bool.true_or, Bool.false_or, hab, hbc, hac, Bool.false_and, if_true]
         try rfl)
  · rw [m1]
    unfold mgE
    rw [wr]
    simp only [j2]; rfl
  · rw [m1]
    unfold mgE
    by_cases q : a.stamp < b.stamp
    · rw [if_pos q]
      have : winB { b with vec := joinL a.vec b.vec } a = false := by
        rw [ws]
        · exact decide_eq_false (by show ¬ b.stamp < a.stamp; omega)
        · exact Ne.symm hab
      rw [this]
      simp only [j3]; rfl
    · rw [if_neg q, wl]
      simp only [j3]; rfl
theorem setFrom_eq : ∀ (l cs : List AV) (off : Nat), off + l.length ≤ cs.length → setFrom cs off l = cs.take off ++ (l ++ cs.drop (off + l.length))
  | [], cs, off, h => by simp [setFrom]
  | v :: l, cs, off, h => by
    rw [List.length_cons] at h
    rw [setFrom, setFrom_eq l (cs.set off v) (off + 1) (by rw [List.length_set]; omega)]
    rw [List.take_set, List.drop_set_of_lt (by omega), List.length_cons, show off + 1 + l.length = off + (l.length + 1) by omega]
    rw [List.take_succ_eq_append_getElem (by omega), List.set_append_right _ _ (by simp; omega)]
    simp [show min off cs.length = off by omega]
abbrev Z27 : List AV := [.str ⟨#[]⟩, .bool false, .nils, .int .i64 0, .int .i64 0, .int .i64 0, .str ⟨#[]⟩, .int .i64 0, .int .i64 0, .str ⟨#[]⟩, .bool false, .nils, .int .i64 0, .int .i64 0, .int .i64 0, .str ⟨#[]⟩, .int .i64 0, .int .i64 0, .str ⟨#[]⟩, .bool false, .nils, .int .i64 0, .int .i64 0, .int .i64 0, .str ⟨#[]⟩, .int .i64 0, .int .i64 0]
theorem fill27 {A B C : List AV} (hA : A.length = 9) (hB : B.length = 9) (hC : C.length = 9) : (setFrom Z27 0 A).length = 27 ∧ (setFrom (setFrom Z27 0 A) 9 B).length = 27 ∧ setFrom (setFrom (setFrom Z27 0 A) 9 B) 18 C = A ++ (B ++ C) := by
  have e1 : setFrom Z27 0 A = A ++ Z27.drop 9 := by rw [setFrom_eq A Z27 0 (by rw [hA]; decide), hA]; rfl
  have l1 : (A ++ Z27.drop 9).length = 27 := by rw [List.length_append, hA]; rfl
  have e2 : setFrom (A ++ Z27.drop 9) 9 B = A ++ (B ++ Z27.drop 18) := by
    rw [setFrom_eq B _ 9 (by rw [l1, hB]; decide), hB, List.take_append_of_le_length (by omega), List.take_of_length_le (by omega), List.drop_append, List.drop_of_length_le (by omega), List.nil_append, hA]; rfl
  have l2 : (A ++ (B ++ Z27.drop 18)).length = 27 := by rw [List.length_append, List.length_append, hA, hB]; rfl
  refine ⟨by rw [e1, l1], by rw [e1, e2, l2], ?_⟩
  rw [e1, e2, ← List.append_assoc]
  have l3 : (A ++ B).length = 18 := by rw [List.length_append, hA, hB]
  rw [setFrom_eq C _ 18 (by rw [List.append_assoc, l2, hC]; decide), hC, List.take_append_of_le_length (by omega), List.take_of_length_le (by omega), List.drop_append, List.drop_of_length_le (by omega), List.nil_append, l3, List.append_assoc]
  congr 2
  rw [List.drop_of_length_le (by decide), List.append_nil]
theorem and255 (x : Int) : bits .and .i64 x 255 = x % 256 := and_mask' x 8 (by omega)
def reE (e : Ent) (i : Int) : Ent := { e with name := nA, stamp := 3 * (e.stamp % 256) + i + 1 }
abbrev cE (e : Ent) (v : AV) (n : ByteArray) (s : Int) : List AV := [.str n, .bool e.gone, v, .int .i64 s, .int .i64 e.node, .int .i64 e.method, .str e.packed, .int .i64 e.size, .int .i64 e.crc]
theorem merge_p {g : H} (hg : g.floor ≤ g.next) (a b : Ent) (va vb : AV) (sa : va.sc = true) (sb : vb.sc = true) (oka : EOk g (a, va)) (okb : EOk g (b, vb)) (ha : mayE a = true) (hb : mayE b = true) (hn : a.name = b.name) :
    callW AP.A 97 [.agg (entC a va), .agg (entC b vb)] g = some (.tup [.agg (entC (mgE a b) (vecV (mgE a b).vec)), .int .i64 0], g) := by
  rw [merge_c g hg a b va vb sa sb oka okb, mergeE_eq ha hb hn]; rfl
set_option maxHeartbeats 1000000 in
theorem merges_c (h : H) (a b c : Ent) (va vb vc : AV) (hva : va.sc = true) (hvb : vb.sc = true) (hvc : vc.sc = true) (oa : EOk h (a, va)) (ob : EOk h (b, vb)) (oc : EOk h (c, vc))
    (la : a.vec.length < 20000000000000) (lb : b.vec.length < 20000000000000) (lc : c.vec.length < 20000000000000) : callW AP.A 87 [.agg (entC a va), .agg (entC b vb), .agg (entC c vc)] h = some (.bool true, h) := by
  obtain ⟨h0, e0⟩ : ∃ g, g = ((h.fence.alloc (entC a va)).alloc (entC b vb)).alloc (entC c vc) := ⟨_, rfl⟩
  have x0 : Ext h h0 := fun i c q => by rw [e0]; exact ((((Ext.refl h.fence).alloc _).alloc _).alloc _) i c q
  have n0 : h0.next = h.next + 3 := by rw [e0]; simp
  have f0 : h0.floor = h.next := by rw [e0]; simp
  obtain ⟨h1, ua, c1, s1, r1, fl1, nx1, x1, y1⟩ := copyE_c h0 (by omega) a va hva (oa.mono x0) la
  obtain ⟨h2, ub, c2, s2, r2, fl2, nx2, x2, y2⟩ := copyE_c h1 (by omega) b vb hvb ((ob.mono x0).mono x1) lb
  obtain ⟨h3, uc, c3, s3, r3, fl3, nx3, x3, y3⟩ := copyE_c h2 (by omega) c vc hvc (((oc.mono x0).mono x1).mono x2) lc
  have sa : ua.sc = true := by rw [s1]; split <;> rfl
  have sb : ub.sc = true := by rw [s2]; split <;> rfl
  have sc : uc.sc = true := by rw [s3]; split <;> rfl
  have ca : ua.cells = [ua] := by rw [s1]; split <;> rfl
  have cb : ub.cells = [ub] := by rw [s2]; split <;> rfl
  have cc : uc.cells = [uc] := by rw [s3]; split <;> rfl
  have ra : Rd h3 ua (ints a.vec) := (r1.mono fun i c q => x2 i c q).mono fun i c q => x3 i c q
  have rb : Rd h3 ub (ints b.vec) := r2.mono fun i c q => x3 i c q
  have g0a : h0.get h.next = some (entC a va) := by rw [e0]; simp (disch := first | omega | (simp only [H.next_alloc, H.next_set, nx_del, nx_fence, H.floor_alloc, H.floor_set, fl_del, fl_fence, List.length_cons, List.length_nil, Nat.zero_add, Nat.reduceAdd]; first | done | omega | fail) | (simp (disch := first | omega | (simp only [H.next_alloc, H.next_set, nx_del, nx_fence, H.floor_alloc, H.floor_set, fl_del, fl_fence, List.length_cons, List.length_nil, Nat.zero_add, Nat.reduceAdd]; first | done | omega | fail) | fail) only [H.next_alloc, H.next_set, nx_del, nx_fence, H.floor_alloc, H.floor_set, fl_del, fl_fence, List.length_cons, List.length_nil, Nat.zero_add, Nat.reduceAdd, get_hit, get_miss, set_hit, set_miss, del_miss, gt_fence, Option.map_some]; done) | fail) only [H.next_alloc, H.next_set, nx_del, nx_fence, H.floor_alloc, H.floor_set, fl_del, fl_fence, List.length_cons, List.length_nil, Nat.zero_add, Nat.reduceAdd, get_hit, get_miss, set_hit, set_miss, del_miss, gt_fence, Option.map_some]
  have g0b : h1.get (h.next + 1) = some (entC b vb) := x1 _ _ (by rw [e0]; simp (disch := first | omega | (simp only [H.next_alloc, H.next_set, nx_del, nx_fence, H.floor_alloc, H.floor_set, fl_del, fl_fence, List.length_cons, List.length_nil, Nat.zero_add, Nat.reduceAdd]; first | done | omega | fail) | (simp (disch := first | omega | (simp only [H.next_alloc, H.next_set, nx_del, nx_fence, H.floor_alloc, H.floor_set, fl_del, fl_fence, List.length_cons, List.length_nil, Nat.zero_add, Nat.reduceAdd]; first | done | omega | fail) | fail) only [H.next_alloc, H.next_set, nx_del, nx_fence, H.floor_alloc, H.floor_set, fl_del, fl_fence, List.length_cons, List.length_nil, Nat.zero_add, Nat.reduceAdd, get_hit, get_miss, set_hit, set_miss, del_miss, gt_fence, Option.map_some]; done) | fail) only [H.next_alloc, H.next_set, nx_del, nx_fence, H.floor_alloc, H.floor_set, fl_del, fl_fence, List.length_cons, List.length_nil, Nat.zero_add, Nat.reduceAdd, get_hit, get_miss, set_hit, set_miss, del_miss, gt_fence, Option.map_some])
  have g0c : h2.get (h.next + 1 + 1) = some (entC c vc) := x2 _ _ (x1 _ _ (by rw [e0]; simp (disch := first | omega | (simp only [H.next_alloc, H.next_set, nx_del, nx_fence, H.floor_alloc, H.floor_set, fl_del, fl_fence, List.length_cons, List.length_nil, Nat.zero_add, Nat.reduceAdd]; first | done | omega | fail) | (simp (disch := first | omega | (simp only [H.next_alloc, H.next_set, nx_del, nx_fence, H.floor_alloc, H.floor_set, fl_del, fl_fence, List.length_cons, List.length_nil, Nat.zero_add, Nat.reduceAdd]; first | done | omega | fail) | fail) only [H.next_alloc, H.next_set, nx_del, nx_fence, H.floor_alloc, H.floor_set, fl_del, fl_fence, List.length_cons, List.length_nil, Nat.zero_add, Nat.reduceAdd, get_hit, get_miss, set_hit, set_miss, del_miss, gt_fence, Option.map_some]; done) | fail) only [H.next_alloc, H.next_set, nx_del, nx_fence, H.floor_alloc, H.floor_set, fl_del, fl_fence, List.length_cons, List.length_nil, Nat.zero_add, Nat.reduceAdd, get_hit, get_miss, set_hit, set_miss, del_miss, gt_fence, Option.map_some]))
  have hf3 : h3.floor ≤ h3.next := by omega
  obtain ⟨sta, hsa⟩ : ∃ x, x = 3 * (a.stamp % 256) + 0 + 1 := ⟨_, rfl⟩
  obtain ⟨stb, hsb⟩ : ∃ x, x = 3 * (b.stamp % 256) + 1 + 1 := ⟨_, rfl⟩
  obtain ⟨stc, hsc⟩ : ∃ x, x = 3 * (c.stamp % 256) + 2 + 1 := ⟨_, rfl⟩
  have wa1 : IntKind.wrap .i64 (3 * (a.stamp % 256)) = 3 * (a.stamp % 256) := wi (by omega)
  have wa2 : IntKind.wrap .i64 (3 * (a.stamp % 256) + 0) = 3 * (a.stamp % 256) + 0 := wi (by omega)
  have wa3 : IntKind.wrap .i64 (3 * (a.stamp % 256) + 0 + 1) = sta := by rw [hsa]; exact wi (by omega)
  have wb1 : IntKind.wrap .i64 (3 * (b.stamp % 256)) = 3 * (b.stamp % 256) := wi (by omega)
  have wb2 : IntKind.wrap .i64 (3 * (b.stamp % 256) + 1) = 3 * (b.stamp % 256) + 1 := wi (by omega)
  have wb3 : IntKind.wrap .i64 (3 * (b.stamp % 256) + 1 + 1) = stb := by rw [hsb]; exact wi (by omega)
  have wc1 : IntKind.wrap .i64 (3 * (c.stamp % 256)) = 3 * (c.stamp % 256) := wi (by omega)
  have wc2 : IntKind.wrap .i64 (3 * (c.stamp % 256) + 2) = 3 * (c.stamp % 256) + 2 := wi (by omega)
  have wc3 : IntKind.wrap .i64 (3 * (c.stamp % 256) + 2 + 1) = stc := by rw [hsc]; exact wi (by omega)
  obtain ⟨L0, hL0⟩ : ∃ L, L = cE a ua a.name a.stamp ++ (cE b ub b.name b.stamp ++ cE c uc c.name c.stamp) := ⟨_, rfl⟩
  obtain ⟨L1, hL1⟩ : ∃ L, L = cE a ua nA sta ++ (cE b ub b.name b.stamp ++ cE c uc c.name c.stamp) := ⟨_, rfl⟩
  obtain ⟨L2, hL2⟩ : ∃ L, L = cE a ua nA sta ++ (cE b ub nA stb ++ cE c uc c.name c.stamp) := ⟨_, rfl⟩
  obtain ⟨L3, hL3⟩ : ∃ L, L = cE a ua nA sta ++ (cE b ub nA stb ++ cE c uc nA stc) := ⟨_, rfl⟩
  have xx : ∀ L : List AV, Ext h3 (h3.alloc L) := fun L => (Ext.refl h3).alloc _
  have oka : ∀ g, Ext h3 g → EOk g (reE a 0, ua) := fun g x => ⟨ra.mono fun i c q => x i c q, oa.vl, (by decide : nA.size < 1125899906842624), oa.pl⟩
  have okb : ∀ g, Ext h3 g → EOk g (reE b 1, ub) := fun g x => ⟨rb.mono fun i c q => x i c q, ob.vl, (by decide : nA.size < 1125899906842624), ob.pl⟩
  have okc : ∀ g, Ext h3 g → EOk g (reE c 2, uc) := fun g x => ⟨r3.mono fun i c q => x i c q, oc.vl, (by decide : nA.size < 1125899906842624), oc.pl⟩
  have ka : callW AP.A 96 [.agg (cE a ua nA sta)] (h3.alloc L1) = some (.bool (mayE (reE a 0)), h3.alloc L1) := by
    rw [hsa]; exact emay_c (h3.alloc L1) (by simp; omega) (reE a 0) ua sa (oka _ (xx L1))
  have kb : callW AP.A 96 [.agg (cE b ub nA stb)] (h3.alloc L2) = some (.bool (mayE (reE b 1)), h3.alloc L2) := by
    rw [hsb]; exact emay_c (h3.alloc L2) (by simp; omega) (reE b 1) ub sb (okb _ (xx L2))
  have kc : callW AP.A 96 [.agg (cE c uc nA stc)] (h3.alloc L3) = some (.bool (mayE (reE c 2)), h3.alloc L3) := by
    rw [hsc]; exact emay_c (h3.alloc L3) (by simp; omega) (reE c 2) uc sc (okc _ (xx L3))
  obtain ⟨XA, hXA⟩ : ∃ X, X = cE a ua nA sta := ⟨_, rfl⟩
  obtain ⟨XB, hXB⟩ : ∃ X, X = cE b ub nA stb := ⟨_, rfl⟩
  obtain ⟨XC, hXC⟩ : ∃ X, X = cE c uc nA stc := ⟨_, rfl⟩
  have l0 : L0.length = 27 := by rw [hL0]; rfl
  have l1 : L1.length = 27 := by rw [hL1]; rfl
  have l2 : L2.length = 27 := by rw [hL2]; rfl
  have l3 : L3.length = 27 := by rw [hL3]; rfl
  have t1 : List.take 9 L1 = XA := by rw [hL1, hXA]; rfl
  have t2 : List.take 9 (List.drop 9 L2) = XB := by rw [hL2, hXB]; rfl
  have t3 : List.take 9 (List.drop 18 L3) = XC := by rw [hL3, hXC]; rfl
  have z1 : (L0.set 0 (.str ⟨#[97]⟩))[3]? = some (.int .i64 a.stamp) := by rw [hL0]; rfl
  have z2 : (L0.set 0 (.str ⟨#[97]⟩)).set 3 (.int .i64 sta) = L1 := by rw [hL0, hL1]; rfl
  have z3 : (L1.set 9 (.str ⟨#[97]⟩))[12]? = some (.int .i64 b.stamp) := by rw [hL1]; rfl
  have z4 : (L1.set 9 (.str ⟨#[97]⟩)).set 12 (.int .i64 stb) = L2 := by rw [hL1, hL2]; rfl
  have z5 : (L2.set 18 (.str ⟨#[97]⟩))[21]? = some (.int .i64 c.stamp) := by rw [hL2]; rfl
  have z6 : (L2.set 18 (.str ⟨#[97]⟩)).set 21 (.int .i64 stc) = L3 := by rw [hL2, hL3]; rfl
  rw [← hXA] at ka
  rw [← hXB] at kb
  rw [← hXC] at kc
  have bs1 := and255 a.stamp
  have bs2 := and255 b.stamp
  have bs3 := and255 c.stamp
  have q1 : evC (callW AP.A) loopW AP.f87L0 [(7, .sobj h3.next 0 3 9), (8, .int .i64 0)] (h3.alloc L0) = if mayE (reE a 0) = true then some (.normal, [(7, .sobj h3.next 0 3 9), (8, .int .i64 1)], h3.alloc L1) else some (.ret, [(6, .bool true)], h3.alloc L1) := by
    cases hm : mayE (reE a 0) with
    | true => rw [hm] at ka; rw [if_pos rfl]; simp (disch := first | omega | (simp only [H.next_alloc, H.next_set, nx_del, nx_fence, H.floor_alloc, H.floor_set, fl_del, fl_fence, List.length_cons, List.length_nil, Nat.zero_add, Nat.reduceAdd]; first | done | omega | fail) | (simp (disch := first | omega | (simp only [H.next_alloc, H.next_set, nx_del, nx_fence, H.floor_alloc, H.floor_set, fl_del, fl_fence, List.length_cons, List.length_nil, Nat.zero_add, Nat.reduceAdd]; first | done | omega | fail) | fail) only [H.next_alloc, H.next_set, nx_del, nx_fence, H.floor_alloc, H.floor_set, fl_del, fl_fence, List.length_cons, List.length_nil, Nat.zero_add, Nat.reduceAdd, get_hit, get_miss, set_hit, set_miss, del_miss, gt_fence, Option.map_some]; done) | fail) only [go_sem, abin_shl, abin_shr, Nat.reduceEqDiff, reduceIte, Nat.reduceAdd, Nat.reduceMul, Nat.reduceLT, Nat.reduceLeDiff, Int.reduceBEq, Int.reduceBNe, Int.reduceLT, Int.reduceLE, Int.reduceEq, dt, df, eqt, eqf, net, nef, wi, wb, alen_str, idxs_at, tn_add, tn_nat, aix, get_hit, get_miss, set_hit, set_miss, H.floor_alloc, H.next_alloc, H.floor_set, H.next_set, stO_d, condO_t, fill_n, fill_c, fillS_s, bir_bslice, bir_alloc, bir_box, birB_s, repl_s, repl_z, List.map_cons, List.map_nil, setFrom_nil, setFrom_cons, allsc_nil, allsc_cons, Bool.and_true, Bool.true_and, Bool.and_self, List.append_nil, Option.map_some, Option.map_none, iadr_s, iadr_m, idP_s, idQ_s, bir_mksl, mkslB_s, alen_s, alen_n, alen_m, Bool.and_false, Bool.false_and, Bool.or_false, Bool.or_true, Bool.true_or, Bool.false_or, Bool.or_self, C_dregF, goD_s, goD2_t, stb_n, stb_c, stK_n, stK_c, stV_s, stB_f, beq_int, beq_bool, beq_tup0, beq_nils, beq_simm0, beq_str, beq_sobj, beq_pobj, opsD_nil, opsD_u, opsD_g, goOD_s, preD_t, preD_f, AOp.loud, AOp.births, st1_u, st1_g, Int.reduceAdd, Int.reduceSub, Int.reduceMul, Int.reduceNeg, Int.reduceToNat, eqbB_s, beq_refl, beqs_refl, stB_t, beO_s, stBv_t, stBv_p, stBv_o, st1b_alloc, st1b_box, st1b_bslice, st1b_mksl, nx_fence, gt_fence, fl_fence, nx_del, fl_del, del_miss, rdT, List.take_succ_cons, List.take_zero, List.drop_zero, List.drop_succ_cons, selO_t, selO_f, srcO_s, src_o, src_m, src_n, src_s, appS_s, app_b, apO_s, apc_o, apc_n, roomy_t, Int.cast_ofNat_Int, Int.natCast_one, Int.natCast_zero, at_z, at_s, tl_z, tl_s, List.length_set, AP.f87L0, al_set, l0, l1, z1, z2, t1, ka, wa1, wa2, wa3, bs1]
    | false => rw [hm] at ka; rw [if_neg (by decide)]; simp (disch := first | omega | (simp only [H.next_alloc, H.next_set, nx_del, nx_fence, H.floor_alloc, H.floor_set, fl_del, fl_fence, List.length_cons, List.length_nil, Nat.zero_add, Nat.reduceAdd]; first | done | omega | fail) | (simp (disch := first | omega | (simp only [H.next_alloc, H.next_set, nx_del, nx_fence, H.floor_alloc, H.floor_set, fl_del, fl_fence, List.length_cons, List.length_nil, Nat.zero_add, Nat.reduceAdd]; first | done | omega | fail) | fail) only [H.next_alloc, H.next_set, nx_del, nx_fence, H.floor_alloc, H.floor_set, fl_del, fl_fence, List.length_cons, List.length_nil, Nat.zero_add, Nat.reduceAdd, get_hit, get_miss, set_hit, set_miss, del_miss, gt_fence, Option.map_some]; done) | fail) only [go_sem, abin_shl, abin_shr, Nat.reduceEqDiff, reduceIte, Nat.reduceAdd, Nat.reduceMul, Nat.reduceLT, Nat.reduceLeDiff, Int.reduceBEq, Int.reduceBNe, Int.reduceLT, Int.reduceLE, Int.reduceEq, dt, df, eqt, eqf, net, nef, wi, wb, alen_str, idxs_at, tn_add, tn_nat, aix, get_hit, get_miss, set_hit, set_miss, H.floor_alloc, H.next_alloc, H.floor_set, H.next_set, stO_d, condO_t, fill_n, fill_c, fillS_s, bir_bslice, bir_alloc, bir_box, birB_s, repl_s, repl_z, List.map_cons, List.map_nil, setFrom_nil, setFrom_cons, allsc_nil, allsc_cons, Bool.and_true, Bool.true_and, Bool.and_self, List.append_nil, Option.map_some, Option.map_none, iadr_s, iadr_m, idP_s, idQ_s, bir_mksl, mkslB_s, alen_s, alen_n, alen_m, Bool.and_false, Bool.false_and, Bool.or_false, Bool.or_true, Bool.true_or, Bool.false_or, Bool.or_self, C_dregF, goD_s, goD2_t, stb_n, stb_c, stK_n, stK_c, stV_s, stB_f, beq_int, beq_bool, beq_tup0, beq_nils, beq_simm0, beq_str, beq_sobj, beq_pobj, opsD_nil, opsD_u, opsD_g, goOD_s, preD_t, preD_f, AOp.loud, AOp.births, st1_u, st1_g, Int.reduceAdd, Int.reduceSub, Int.reduceMul, Int.reduceNeg, Int.reduceToNat, eqbB_s, beq_refl, beqs_refl, stB_t, beO_s, stBv_t, stBv_p, stBv_o, st1b_alloc, st1b_box, st1b_bslice, st1b_mksl, nx_fence, gt_fence, fl_fence, nx_del, fl_del, del_miss, rdT, List.take_succ_cons, List.take_zero, List.drop_zero, List.drop_succ_cons, selO_t, selO_f, srcO_s, src_o, src_m, src_n, src_s, appS_s, app_b, apO_s, apc_o, apc_n, roomy_t, Int.cast_ofNat_Int, Int.natCast_one, Int.natCast_zero, at_z, at_s, tl_z, tl_s, List.length_set, AP.f87L0, al_set, l0, l1, z1, z2, t1, ka, wa1, wa2, wa3, bs1]
  have q2 : evC (callW AP.A) loopW AP.f87L0 [(7, .sobj h3.next 0 3 9), (8, .int .i64 1)] (h3.alloc L1) = if mayE (reE b 1) = true then some (.normal, [(7, .sobj h3.next 0 3 9), (8, .int .i64 2)], h3.alloc L2) else some (.ret, [(6, .bool true)], h3.alloc L2) := by
    cases hm : mayE (reE b 1) with
    | true => rw [hm] at kb; rw [if_pos rfl]; simp (disch := first | omega | (simp only [H.next_alloc, H.next_set, nx_del, nx_fence, H.floor_alloc, H.floor_set, fl_del, fl_fence, List.length_cons, List.length_nil, Nat.zero_add, Nat.reduceAdd]; first | done | omega | fail) | (simp (disch := first | omega | (simp only [H.next_alloc, H.next_set, nx_del, nx_fence, H.floor_alloc, H.floor_set, fl_del, fl_fence, List.length_cons, List.length_nil, Nat.zero_add, Nat.reduceAdd]; first | done | omega | fail) | fail) only [H.next_alloc, H.next_set, nx_del, nx_fence, H.floor_alloc, H.floor_set, fl_del, fl_fence, List.length_cons, List.length_nil, Nat.zero_add, Nat.reduceAdd, get_hit, get_miss, set_hit, set_miss, del_miss, gt_fence, Option.map_some]; done) | fail) only [go_sem, abin_shl, abin_shr, Nat.reduceEqDiff, reduceIte, Nat.reduceAdd, Nat.reduceMul, Nat.reduceLT, Nat.reduceLeDiff, Int.reduceBEq, Int.reduceBNe, Int.reduceLT, Int.reduceLE, Int.reduceEq, dt, df, eqt, eqf, net, nef, wi, wb, alen_str, idxs_at, tn_add, tn_nat, aix, get_hit, get_miss, set_hit, set_miss, H.floor_alloc, H.next_alloc, H.floor_set, H.next_set, stO_d, condO_t, fill_n, fill_c, fillS_s, bir_bslice, bir_alloc, bir_box, birB_s, repl_s, repl_z, List.map_cons, List.map_nil, setFrom_nil, setFrom_cons, allsc_nil, allsc_cons, Bool.and_true, Bool.true_and, Bool.and_self, List.append_nil, Option.map_some, Option.map_none, iadr_s, iadr_m, idP_s, idQ_s, bir_mksl, mkslB_s, alen_s, alen_n, alen_m, Bool.and_false, Bool.false_and, Bool.or_false, Bool.or_true, Bool.true_or, Bool.false_or, Bool.or_self, C_dregF, goD_s, goD2_t, stb_n, stb_c, stK_n, stK_c, stV_s, stB_f, beq_int, beq_bool, beq_tup0, beq_nils, beq_simm0, beq_str, beq_sobj, beq_pobj, opsD_nil, opsD_u, opsD_g, goOD_s, preD_t, preD_f, AOp.loud, AOp.births, st1_u, st1_g, Int.reduceAdd, Int.reduceSub, Int.reduceMul, Int.reduceNeg, Int.reduceToNat, eqbB_s, beq_refl, beqs_refl, stB_t, beO_s, stBv_t, stBv_p, stBv_o, st1b_alloc, st1b_box, st1b_bslice, st1b_mksl, nx_fence, gt_fence, fl_fence, nx_del, fl_del, del_miss, rdT, List.take_succ_cons, List.take_zero, List.drop_zero, List.drop_succ_cons, selO_t, selO_f, srcO_s, src_o, src_m, src_n, src_s, appS_s, app_b, apO_s, apc_o, apc_n, roomy_t, Int.cast_ofNat_Int, Int.natCast_one, Int.natCast_zero, at_z, at_s, tl_z, tl_s, List.length_set, AP.f87L0, al_set, l1, l2, z3, z4, t2, kb, wb1, wb2, wb3, bs2]
    | false => rw [hm] at kb; rw [if_neg (by decide)]; simp (disch := first | omega | (simp only [H.next_alloc, H.next_set, nx_del, nx_fence, H.floor_alloc, H.floor_set, fl_del, fl_fence, List.length_cons, List.length_nil, Nat.zero_add, Nat.reduceAdd]; first | done | omega | fail) | (simp (disch := first | omega | (simp only [H.next_alloc, H.next_set, nx_del, nx_fence, H.floor_alloc, H.floor_set, fl_del, fl_fence, List.length_cons, List.length_nil, Nat.zero_add, Nat.reduceAdd]; first | done | omega | fail) | fail) only [H.next_alloc, H.next_set, nx_del, nx_fence, H.floor_alloc, H.floor_set, fl_del, fl_fence, List.length_cons, List.length_nil, Nat.zero_add, Nat.reduceAdd, get_hit, get_miss, set_hit, set_miss, del_miss, gt_fence, Option.map_some]; done) | fail) only [go_sem, abin_shl, abin_shr, Nat.reduceEqDiff, reduceIte, Nat.reduceAdd, Nat.reduceMul, Nat.reduceLT, Nat.reduceLeDiff, Int.reduceBEq, Int.reduceBNe, Int.reduceLT, Int.reduceLE, Int.reduceEq, dt, df, eqt, eqf, net, nef, wi, wb, alen_str, idxs_at, tn_add, tn_nat, aix, get_hit, get_miss, set_hit, set_miss, H.floor_alloc, H.next_alloc, H.floor_set, H.next_set, stO_d, condO_t, fill_n, fill_c, fillS_s, bir_bslice, bir_alloc, bir_box, birB_s, repl_s, repl_z, List.map_cons, List.map_nil, setFrom_nil, setFrom_cons, allsc_nil, allsc_cons, Bool.and_true, Bool.true_and, Bool.and_self, List.append_nil, Option.map_some, Option.map_none, iadr_s, iadr_m, idP_s, idQ_s, bir_mksl, mkslB_s, alen_s, alen_n, alen_m, Bool.and_false, Bool.false_and, Bool.or_false, Bool.or_true, Bool.true_or, Bool.false_or, Bool.or_self, C_dregF, goD_s, goD2_t, stb_n, stb_c, stK_n, stK_c, stV_s, stB_f, beq_int, beq_bool, beq_tup0, beq_nils, beq_simm0, beq_str, beq_sobj, beq_pobj, opsD_nil, opsD_u, opsD_g, goOD_s, preD_t, preD_f, AOp.loud, AOp.births, st1_u, st1_g, Int.reduceAdd, Int.reduceSub, Int.reduceMul, Int.reduceNeg, Int.reduceToNat, eqbB_s, beq_refl, beqs_refl, stB_t, beO_s, stBv_t, stBv_p, stBv_o, st1b_alloc, st1b_box, st1b_bslice, st1b_mksl, nx_fence, gt_fence, fl_fence, nx_del, fl_del, del_miss, rdT, List.take_succ_cons, List.take_zero, List.drop_zero, List.drop_succ_cons, selO_t, selO_f, srcO_s, src_o, src_m, src_n, src_s, appS_s, app_b, apO_s, apc_o, apc_n, roomy_t, Int.cast_ofNat_Int, Int.natCast_one, Int.natCast_zero, at_z, at_s, tl_z, tl_s, List.length_set, AP.f87L0, al_set, l1, l2, z3, z4, t2, kb, wb1, wb2, wb3, bs2]
  have q3 : evC (callW AP.A) loopW AP.f87L0 [(7, .sobj h3.next 0 3 9), (8, .int .i64 2)] (h3.alloc L2) = if mayE (reE c 2) = true then some (.normal, [(7, .sobj h3.next 0 3 9), (8, .int .i64 3)], h3.alloc L3) else some (.ret, [(6, .bool true)], h3.alloc L3) := by
    cases hm : mayE (reE c 2) with
    | true => rw [hm] at kc; rw [if_pos rfl]; simp (disch := first | omega | (simp only [H.next_alloc, H.next_set, nx_del, nx_fence, H.floor_alloc, H.floor_set, fl_del, fl_fence, List.length_cons, List.length_nil, Nat.zero_add, Nat.reduceAdd]; first | done | omega | fail) | (simp (disch := first | omega | (simp only [H.next_alloc, H.next_set, nx_del, nx_fence, H.floor_alloc, H.floor_set, fl_del, fl_fence, List.length_cons, List.length_nil, Nat.zero_add, Nat.reduceAdd]; first | done | omega | fail) | fail) only [H.next_alloc, H.next_set, nx_del, nx_fence, H.floor_alloc, H.floor_set, fl_del, fl_fence, List.length_cons, List.length_nil, Nat.zero_add, Nat.reduceAdd, get_hit, get_miss, set_hit, set_miss, del_miss, gt_fence, Option.map_some]; done) | fail) only [go_sem, abin_shl, abin_shr, Nat.reduceEqDiff, reduceIte, Nat.reduceAdd, Nat.reduceMul, Nat.reduceLT, Nat.reduceLeDiff, Int.reduceBEq, Int.reduceBNe, Int.reduceLT, Int.reduceLE, Int.reduceEq, dt, df, eqt, eqf, net, nef, wi, wb, alen_str, idxs_at, tn_add, tn_nat, aix, get_hit, get_miss, set_hit, set_miss, H.floor_alloc, H.next_alloc, H.floor_set, H.next_set, stO_d, condO_t, fill_n, fill_c, fillS_s, bir_bslice, bir_alloc, bir_box, birB_s, repl_s, repl_z, List.map_cons, List.map_nil, setFrom_nil, setFrom_cons, allsc_nil, allsc_cons, Bool.and_true, Bool.true_and, Bool.and_self, List.append_nil, Option.map_some, Option.map_none, iadr_s, iadr_m, idP_s, idQ_s, bir_mksl, mkslB_s, alen_s, alen_n, alen_m, Bool.and_false, Bool.false_and, Bool.or_false, Bool.or_true, Bool.true_or, Bool.false_or, Bool.or_self, C_dregF, goD_s, goD2_t, stb_n, stb_c, stK_n, stK_c, stV_s, stB_f, beq_int, beq_bool, beq_tup0, beq_nils, beq_simm0, beq_str, beq_sobj, beq_pobj, opsD_nil, opsD_u, opsD_g, goOD_s, preD_t, preD_f, AOp.loud, AOp.births, st1_u, st1_g, Int.reduceAdd, Int.reduceSub, Int.reduceMul, Int.reduceNeg, Int.reduceToNat, eqbB_s, beq_refl, beqs_refl, stB_t, beO_s, stBv_t, stBv_p, stBv_o, st1b_alloc, st1b_box, st1b_bslice, st1b_mksl, nx_fence, gt_fence, fl_fence, nx_del, fl_del, del_miss, rdT, List.take_succ_cons, List.take_zero, List.drop_zero, List.drop_succ_cons, selO_t, selO_f, srcO_s, src_o, src_m, src_n, src_s, appS_s, app_b, apO_s, apc_o, apc_n, roomy_t, Int.cast_ofNat_Int, Int.natCast_one, Int.natCast_zero, at_z, at_s, tl_z, tl_s, List.length_set, AP.f87L0, al_set, l2, l3, z5, z6, t3, kc, wc1, wc2, wc3, bs3]
    | false => rw [hm] at kc; rw [if_neg (by decide)]; simp (disch := first | omega | (simp only [H.next_alloc, H.next_set, nx_del, nx_fence, H.floor_alloc, H.floor_set, fl_del, fl_fence, List.length_cons, List.length_nil, Nat.zero_add, Nat.reduceAdd]; first | done | omega | fail) | (simp (disch := first | omega | (simp only [H.next_alloc, H.next_set, nx_del, nx_fence, H.floor_alloc, H.floor_set, fl_del, fl_fence, List.length_cons, List.length_nil, Nat.zero_add, Nat.reduceAdd]; first | done | omega | fail) | fail) only [H.next_alloc, H.next_set, nx_del, nx_fence, H.floor_alloc, H.floor_set, fl_del, fl_fence, List.length_cons, List.length_nil, Nat.zero_add, Nat.reduceAdd, get_hit, get_miss, set_hit, set_miss, del_miss, gt_fence, Option.map_some]; done) | fail) only [go_sem, abin_shl, abin_shr, Nat.reduceEqDiff, reduceIte, Nat.reduceAdd, Nat.reduceMul, Nat.reduceLT, Nat.reduceLeDiff, Int.reduceBEq, Int.reduceBNe, Int.reduceLT, Int.reduceLE, Int.reduceEq, dt, df, eqt, eqf, net, nef, wi, wb, alen_str, idxs_at, tn_add, tn_nat, aix, get_hit, get_miss, set_hit, set_miss, H.floor_alloc, H.next_alloc, H.floor_set, H.next_set, stO_d, condO_t, fill_n, fill_c, fillS_s, bir_bslice, bir_alloc, bir_box, birB_s, repl_s, repl_z, List.map_cons, List.map_nil, setFrom_nil, setFrom_cons, allsc_nil, allsc_cons, Bool.and_true, Bool.true_and, Bool.and_self, List.append_nil, Option.map_some, Option.map_none, iadr_s, iadr_m, idP_s, idQ_s, bir_mksl, mkslB_s, alen_s, alen_n, alen_m, Bool.and_false, Bool.false_and, Bool.or_false, Bool.or_true, Bool.true_or, Bool.false_or, Bool.or_self, C_dregF, goD_s, goD2_t, stb_n, stb_c, stK_n, stK_c, stV_s, stB_f, beq_int, beq_bool, beq_tup0, beq_nils, beq_simm0, beq_str, beq_sobj, beq_pobj, opsD_nil, opsD_u, opsD_g, goOD_s, preD_t, preD_f, AOp.loud, AOp.births, st1_u, st1_g, Int.reduceAdd, Int.reduceSub, Int.reduceMul, Int.reduceNeg, Int.reduceToNat, eqbB_s, beq_refl, beqs_refl, stB_t, beO_s, stBv_t, stBv_p, stBv_o, st1b_alloc, st1b_box, st1b_bslice, st1b_mksl, nx_fence, gt_fence, fl_fence, nx_del, fl_del, del_miss, rdT, List.take_succ_cons, List.take_zero, List.drop_zero, List.drop_succ_cons, selO_t, selO_f, srcO_s, src_o, src_m, src_n, src_s, appS_s, app_b, apO_s, apc_o, apc_n, roomy_t, Int.cast_ofNat_Int, Int.natCast_one, Int.natCast_zero, at_z, at_s, tl_z, tl_s, List.length_set, AP.f87L0, al_set, l2, l3, z5, z6, t3, kc, wc1, wc2, wc3, bs3]
  have q4 : evC (callW AP.A) loopW AP.f87L0 [(7, .sobj h3.next 0 3 9), (8, .int .i64 3)] (h3.alloc L3) = some (.exit 0, [(7, .sobj h3.next 0 3 9), (8, .int .i64 3), (33, .bool false)], h3.alloc L3) := by
    simp (disch := first | omega | (simp only [H.next_alloc, H.next_set, nx_del, nx_fence, H.floor_alloc, H.floor_set, fl_del, fl_fence, List.length_cons, List.length_nil, Nat.zero_add, Nat.reduceAdd]; first | done | omega | fail) | (simp (disch := first | omega | (simp only [H.next_alloc, H.next_set, nx_del, nx_fence, H.floor_alloc, H.floor_set, fl_del, fl_fence, List.length_cons, List.length_nil, Nat.zero_add, Nat.reduceAdd]; first | done | omega | fail) | fail) only [H.next_alloc, H.next_set, nx_del, nx_fence, H.floor_alloc, H.floor_set, fl_del, fl_fence, List.length_cons, List.length_nil, Nat.zero_add, Nat.reduceAdd, get_hit, get_miss, set_hit, set_miss, del_miss, gt_fence, Option.map_some]; done) | fail) only [go_sem, abin_shl, abin_shr, Nat.reduceEqDiff, reduceIte, Nat.reduceAdd, Nat.reduceMul, Nat.reduceLT, Nat.reduceLeDiff, Int.reduceBEq, Int.reduceBNe, Int.reduceLT, Int.reduceLE, Int.reduceEq, dt, df, eqt, eqf, net, nef, wi, wb, alen_str, idxs_at, tn_add, tn_nat, aix, get_hit, get_miss, set_hit, set_miss, H.floor_alloc, H.next_alloc, H.floor_set, H.next_set, stO_d, condO_t, fill_n, fill_c, fillS_s, bir_bslice, bir_alloc, bir_box, birB_s, repl_s, repl_z, List.map_cons, List.map_nil, setFrom_nil, setFrom_cons, allsc_nil, allsc_cons, Bool.and_true, Bool.true_and, Bool.and_self, List.append_nil, Option.map_some, Option.map_none, iadr_s, iadr_m, idP_s, idQ_s, bir_mksl, mkslB_s, alen_s, alen_n, alen_m, Bool.and_false, Bool.false_and, Bool.or_false, Bool.or_true, Bool.true_or, Bool.false_or, Bool.or_self, C_dregF, goD_s, goD2_t, stb_n, stb_c, stK_n, stK_c, stV_s, stB_f, beq_int, beq_bool, beq_tup0, beq_nils, beq_simm0, beq_str, beq_sobj, beq_pobj, opsD_nil, opsD_u, opsD_g, goOD_s, preD_t, preD_f, AOp.loud, AOp.births, st1_u, st1_g, Int.reduceAdd, Int.reduceSub, Int.reduceMul, Int.reduceNeg, Int.reduceToNat, eqbB_s, beq_refl, beqs_refl, stB_t, beO_s, stBv_t, stBv_p, stBv_o, st1b_alloc, st1b_box, st1b_bslice, st1b_mksl, nx_fence, gt_fence, fl_fence, nx_del, fl_del, del_miss, rdT, List.take_succ_cons, List.take_zero, List.drop_zero, List.drop_succ_cons, selO_t, selO_f, srcO_s, src_o, src_m, src_n, src_s, appS_s, app_b, apO_s, apc_o, apc_n, roomy_t, Int.cast_ofNat_Int, Int.natCast_one, Int.natCast_zero, at_z, at_s, tl_z, tl_s, List.length_set, AP.f87L0]
  have k0 : ∀ g, callW AP.A 95 [] g = some (.bool true, g) := awake15_c
  have k9 := fun (g : H) n => num_c g n
  simp only [I] at k9
  obtain ⟨R, hR⟩ : ∃ R, R = tl_ 4 AP.f87.body := ⟨_, rfl⟩
  have hb : AP.f87.body = .seq (at_ 0 AP.f87.body) (.seq (at_ 1 AP.f87.body) (.seq (at_ 2 AP.f87.body) (.seq (at_ 3 AP.f87.body) R))) := by rw [hR]; rfl
  have rest : mayE (reE a 0) = true → mayE (reE b 1) = true → mayE (reE c 2) = true → ∃ g', evC (callW AP.A) loopW R [(7, .sobj h3.next 0 3 9)] (h3.alloc L3) = some (.ret, [(6, .bool true)], g') := by
    intro ma mb mc
    have ha4 := (headA_facts (mayE_head ma).1).1
    have hb4 := (headA_facts (mayE_head mb).1).1
    have hc4 := (headA_facts (mayE_head mc).1).1
    have ha4' : a.vec.length = 4 := ha4
    have hb4' : b.vec.length = 4 := hb4
    have hc4' : c.vec.length = 4 := hc4
    obtain ⟨m1, m2, m3, m4⟩ := mg_facts ma mb mc (by show 3 * (a.stamp % 256) + 0 + 1 ≠ 3 * (b.stamp % 256) + 1 + 1; omega) (by show 3 * (b.stamp % 256) + 1 + 1 ≠ 3 * (c.stamp % 256) + 2 + 1; omega) (by show 3 * (a.stamp % 256) + 0 + 1 ≠ 3 * (c.stamp % 256) + 2 + 1; omega)
    have nab : (reE a 0).name = (reE b 1).name := rfl
    have mab := mgE_may ma mb
    have mbc := mgE_may mb mc
    have nm : ∀ x y : Ent, x.name = nA → y.name = nA → (mgE x y).name = nA := fun x y hx hy => by unfold mgE; cases winB x y <;> assumption
    have n1 := nm (reE a 0) (reE b 1) rfl rfl
    have n2 := nm (reE b 1) (reE c 2) rfl rfl
    have pk : ∀ x y : Ent, x.packed.size < 1125899906842624 → y.packed.size < 1125899906842624 → (mgE x y).packed.size < 1125899906842624 := fun x y hx hy => by unfold mgE; cases winB x y <;> assumption
    have p1 := pk (reE a 0) (reE b 1) oa.pl ob.pl
    have p2 := pk (reE b 1) (reE c 2) ob.pl oc.pl
    have p3 := pk (mgE (reE a 0) (reE b 1)) (reE c 2) p1 oc.pl
    have okI : ∀ (g : H) (x : Ent), mayE x = true → x.packed.size < 1125899906842624 → EOk g (x, vecV x.vec) := fun g x hx hp => by
      have h4 := (headA_facts (mayE_head hx).1).1
      have hs := (mayE_head hx).2.1.2
      exact ⟨by show Rd g (vecV x.vec) (ints x.vec); rw [vecV_4 h4]; have := rd_imm g x.vec; unfold immI at this; rw [h4] at this; exact this, by show x.vec.length < _; omega, by show x.name.size < _; omega, hp⟩
    have gpa : h3.get (h0.next + 3) = some (ints a.vec) := x3 _ _ (x2 _ _ (y1 (by omega)))
    have gpb : h3.get (h1.next + 3) = some (ints b.vec) := x3 _ _ (y2 (by omega))
    have gpc : h3.get (h2.next + 3) = some (ints c.vec) := y3 (by omega)
    rw [if_neg (fun q => by rw [q] at ha4'; cases ha4'), ha4'] at s1
    rw [if_neg (fun q => by rw [q] at hb4'; cases hb4'), hb4'] at s2
    rw [if_neg (fun q => by rw [q] at hc4'; cases hc4'), hc4'] at s3
    obtain ⟨pa, hpa⟩ : ∃ p, p = h0.next + 3 := ⟨_, rfl⟩
    obtain ⟨pb, hpb⟩ : ∃ p, p = h1.next + 3 := ⟨_, rfl⟩
    obtain ⟨pc, hpc⟩ : ∃ p, p = h2.next + 3 := ⟨_, rfl⟩
    rw [← hpa] at gpa s1
    rw [← hpb] at gpb s2
    rw [← hpc] at gpc s3
    have ltA := h3.lt _ _ gpa
    have ltB := h3.lt _ _ gpb
    have ltC := h3.lt _ _ gpc
    obtain ⟨PA, hPA⟩ : ∃ P, P = ints a.vec := ⟨_, rfl⟩
    obtain ⟨PB, hPB⟩ : ∃ P, P = ints b.vec := ⟨_, rfl⟩
    obtain ⟨PC, hPC⟩ : ∃ P, P = ints c.vec := ⟨_, rfl⟩
    rw [← hPA] at gpa
    rw [← hPB] at gpb
    rw [← hPC] at gpc
    have oA : ∀ g : H, g.get pa = some PA → EOk g (reE a 0, ua) := fun g hg => by
      rw [s1]; exact EOk.obj (by rw [hg, hPA]; rfl) ha4 rfl (by decide : nA.size < 1125899906842624) oa.pl
    have oB : ∀ g : H, g.get pb = some PB → EOk g (reE b 1, ub) := fun g hg => by
      rw [s2]; exact EOk.obj (by rw [hg, hPB]; rfl) hb4 rfl (by decide : nA.size < 1125899906842624) ob.pl
    have oC : ∀ g : H, g.get pc = some PC → EOk g (reE c 2, uc) := fun g hg => by
      rw [s3]; exact EOk.obj (by rw [hg, hPC]; rfl) hc4 rfl (by decide : nA.size < 1125899906842624) oc.pl
    have eXA : XA = entC (reE a 0) ua := by rw [hXA, hsa]; rfl
    have eXB : XB = entC (reE b 1) ub := by rw [hXB, hsb]; rfl
    have eXC : XC = entC (reE c 2) uc := by rw [hXC, hsc]; rfl
    obtain ⟨A, hA⟩ : ∃ x, x = reE a 0 := ⟨_, rfl⟩
    obtain ⟨B, hB⟩ : ∃ x, x = reE b 1 := ⟨_, rfl⟩
    obtain ⟨C, hC⟩ : ∃ x, x = reE c 2 := ⟨_, rfl⟩
    have nA1 : A.name = nA := by rw [hA]; rfl
    have nB1 : B.name = nA := by rw [hB]; rfl
    have nC1 : C.name = nA := by rw [hC]; rfl
    rw [← hA] at ma m1 m2 m3 m4 mab n1 p1 p3 oA eXA
    rw [← hB] at mb m1 m2 m3 m4 mab mbc n1 n2 p1 p2 p3 oB eXB
    rw [← hC] at mc m2 mbc n2 p2 p3 oC eXC
    obtain ⟨AB, hAB⟩ : ∃ x, x = entC (mgE A B) (vecV (mgE A B).vec) := ⟨_, rfl⟩
    obtain ⟨BC, hBC⟩ : ∃ x, x = entC (mgE B C) (vecV (mgE B C).vec) := ⟨_, rfl⟩
    obtain ⟨PP, hPP⟩ : ∃ x, x = entC (mgE (mgE A B) C) (vecV (mgE (mgE A B) C).vec) := ⟨_, rfl⟩
    have mp := mgE_may mab mc
    have k1 : ∀ g : H, g.floor ≤ g.next → g.get pa = some PA → g.get pb = some PB → callW AP.A 97 [.agg XA, .agg XB] g = some (.tup [.agg AB, .int .i64 0], g) := fun g hg h1 h2 => by
      rw [eXA, eXB, hAB]; exact merge_p hg A B ua ub sa sb (oA g h1) (oB g h2) ma mb (by rw [nA1, nB1])
    have k2 : ∀ g : H, g.floor ≤ g.next → g.get pa = some PA → g.get pb = some PB → callW AP.A 97 [.agg XB, .agg XA] g = some (.tup [.agg AB, .int .i64 0], g) := fun g hg h1 h2 => by
      rw [eXA, eXB, hAB, m1]; exact merge_p hg B A ub ua sb sa (oB g h2) (oA g h1) mb ma (by rw [nA1, nB1])
    have k3 : ∀ g : H, g.floor ≤ g.next → g.get pb = some PB → g.get pc = some PC → callW AP.A 97 [.agg XB, .agg XC] g = some (.tup [.agg BC, .int .i64 0], g) := fun g hg h1 h2 => by
      rw [eXB, eXC, hBC]; exact merge_p hg B C ub uc sb sc (oB g h1) (oC g h2) mb mc (by rw [nB1, nC1])
    have k4 : ∀ g : H, g.floor ≤ g.next → g.get pc = some PC → callW AP.A 97 [.agg AB, .agg XC] g = some (.tup [.agg PP, .int .i64 0], g) := fun g hg h2 => by
      rw [hAB, eXC, hPP]; exact merge_p hg (mgE A B) C _ uc (vecV_sc _) sc (okI g _ mab p1) (oC g h2) mab mc (by rw [n1, nC1])
    have k5 : ∀ g : H, g.floor ≤ g.next → g.get pa = some PA → callW AP.A 97 [.agg XA, .agg BC] g = some (.tup [.agg PP, .int .i64 0], g) := fun g hg h2 => by
      rw [hBC, eXA, hPP, m2]; exact merge_p hg A (mgE B C) ua _ sa (vecV_sc _) (oA g h2) (okI g _ mbc p2) ma mbc (by rw [n2, nA1])
    have k6 : ∀ g : H, g.floor ≤ g.next → callW AP.A 97 [.agg AB, .agg AB] g = some (.tup [.agg AB, .int .i64 0], g) := fun g hg => by
      have := merge_p hg (mgE A B) (mgE A B) _ _ (vecV_sc _) (vecV_sc _) (okI g _ mab p1) (okI g _ mab p1) mab mab rfl
      rw [m3] at this; rw [hAB]; exact this
    have k7 : ∀ g : H, g.floor ≤ g.next → g.get pa = some PA → callW AP.A 97 [.agg AB, .agg XA] g = some (.tup [.agg AB, .int .i64 0], g) := fun g hg h2 => by
      have := merge_p hg (mgE A B) A _ ua (vecV_sc _) sa (okI g _ mab p1) (oA g h2) mab ma (by rw [n1, nA1])
      rw [m4] at this; rw [hAB, eXA]; exact this
    have k8 : ∀ g : H, callW AP.A 98 [.agg AB, .agg AB] g = some (.bool true, g) := fun g => by
      rw [hAB, sameE_c g _ _ _ _ (vecV_sc _) (vecV_sc _) (okI g _ mab p1) (okI g _ mab p1), (sameEB_iff _ _).2 rfl]
    have k10 : ∀ g : H, callW AP.A 98 [.agg PP, .agg PP] g = some (.bool true, g) := fun g => by
      rw [hPP, sameE_c g _ _ _ _ (vecV_sc _) (vecV_sc _) (okI g _ mp p3) (okI g _ mp p3), (sameEB_iff _ _).2 rfl]
    have k11 : ∀ g : H, g.floor ≤ g.next → callW AP.A 96 [.agg PP] g = some (.bool true, g) := fun g hg => by
      rw [hPP, emay_c g hg _ _ (vecV_sc _) (okI g _ mp p3), mp]
    have lAB : AB.length = 9 := by rw [hAB]; rfl
    have lBC : BC.length = 9 := by rw [hBC]; rfl
    have lPP : PP.length = 9 := by rw [hPP]; rfl
    have cAB : AV.allsc AB = true := by rw [hAB]; exact ent_sc (vecV_sc _)
    have cBC : AV.allsc BC = true := by rw [hBC]; exact ent_sc (vecV_sc _)
    have cPP : AV.allsc PP = true := by rw [hPP]; exact ent_sc (vecV_sc _)
    have tAB : List.take 9 AB = AB := by rw [hAB]; rfl
    have tBC : List.take 9 BC = BC := by rw [hBC]; rfl
    have tPP : List.take 9 PP = PP := by rw [hPP]; rfl
    have fAB : setFrom Z9 0 AB = AB := by rw [hAB]; rfl
    have fBC : setFrom Z9 0 BC = BC := by rw [hBC]; rfl
    have fPP : setFrom Z9 0 PP = PP := by rw [hPP]; rfl
    have v1 : List.take 9 L3 = XA := by rw [hL3, hXA]; rfl
    have v2 : List.take 9 (List.drop 9 L3) = XB := by rw [hL3, hXB]; rfl
    rw [hR]
    clear q1 q2 q3 q4 hL0 hL1 hL2 hL3 hXA hXB hXC hAB hBC hPP eXA eXB eXC m1 m2 m3 m4 oA oB oC oka okb okc ka kb kc hA hB hC hPA hPB hPC x0 x1 x2 x3 y1 y2 y3 z1 z2 z3 z4 z5 z6 okI nm pk hR hb r1 r2 r3 ra rb
    refine ⟨?_, ?_⟩
    rotate_left
    simp (disch := first | omega | (simp only [H.next_alloc, H.next_set, nx_del, nx_fence, H.floor_alloc, H.floor_set, fl_del, fl_fence, List.length_cons, List.length_nil, Nat.zero_add, Nat.reduceAdd]; first | done | omega | fail) | (simp (disch := first | omega | (simp only [H.next_alloc, H.next_set, nx_del, nx_fence, H.floor_alloc, H.floor_set, fl_del, fl_fence, List.length_cons, List.length_nil, Nat.zero_add, Nat.reduceAdd]; first | done | omega | fail) | fail) only [H.next_alloc, H.next_set, nx_del, nx_fence, H.floor_alloc, H.floor_set, fl_del, fl_fence, List.length_cons, List.length_nil, Nat.zero_add, Nat.reduceAdd, get_hit, get_miss, set_hit, set_miss, del_miss, gt_fence, Option.map_some, gpa, gpb, gpc]; done) | fail) only [go_sem, abin_shl, abin_shr, Nat.reduceEqDiff, reduceIte, Nat.reduceAdd, Nat.reduceMul, Nat.reduceLT, Nat.reduceLeDiff, Int.reduceBEq, Int.reduceBNe, Int.reduceLT, Int.reduceLE, Int.reduceEq, dt, df, eqt, eqf, net, nef, wi, wb, alen_str, idxs_at, tn_add, tn_nat, aix, get_hit, get_miss, set_hit, set_miss, H.floor_alloc, H.next_alloc, H.floor_set, H.next_set, stO_d, condO_t, fill_n, fill_c, fillS_s, bir_bslice, bir_alloc, bir_box, birB_s, repl_s, repl_z, List.map_cons, List.map_nil, setFrom_nil, setFrom_cons, allsc_nil, allsc_cons, Bool.and_true, Bool.true_and, Bool.and_self, List.append_nil, Option.map_some, Option.map_none, iadr_s, iadr_m, idP_s, idQ_s, bir_mksl, mkslB_s, alen_s, alen_n, alen_m, Bool.and_false, Bool.false_and, Bool.or_false, Bool.or_true, Bool.true_or, Bool.false_or, Bool.or_self, C_dregF, goD_s, goD2_t, stb_n, stb_c, stK_n, stK_c, stV_s, stB_f, beq_int, beq_bool, beq_tup0, beq_nils, beq_simm0, beq_str, beq_sobj, beq_pobj, opsD_nil, opsD_u, opsD_g, goOD_s, preD_t, preD_f, AOp.loud, AOp.births, st1_u, st1_g, Int.reduceAdd, Int.reduceSub, Int.reduceMul, Int.reduceNeg, Int.reduceToNat, eqbB_s, beq_refl, beqs_refl, stB_t, beO_s, stBv_t, stBv_p, stBv_o, st1b_alloc, st1b_box, st1b_bslice, st1b_mksl, nx_fence, gt_fence, fl_fence, nx_del, fl_del, del_miss, rdT, List.take_succ_cons, List.take_zero, List.drop_zero, List.drop_succ_cons, selO_t, selO_f, srcO_s, src_o, src_m, src_n, src_s, appS_s, app_b, apO_s, apc_o, apc_n, roomy_t, Int.cast_ofNat_Int, Int.natCast_one, Int.natCast_zero, at_z, at_s, tl_z, tl_s, List.length_set, AP.f87, k0, k9, k1, k2, k3, k4, k5, k6, k7, k8, k10, k11, lAB, lBC, lPP, cAB, cBC, cPP, tAB, tBC, tPP, fAB, fBC, fPP, v1, v2, t3, l3, al_set]
    rfl
  obtain ⟨E0, hE0⟩ : ∃ x, x = entC a va := ⟨_, rfl⟩
  obtain ⟨F0, hF0⟩ : ∃ x, x = entC b vb := ⟨_, rfl⟩
  obtain ⟨G0, hG0⟩ : ∃ x, x = entC c vc := ⟨_, rfl⟩
  obtain ⟨E1, hE1⟩ : ∃ x, x = entC a ua := ⟨_, rfl⟩
  obtain ⟨F1, hF1⟩ : ∃ x, x = entC b ub := ⟨_, rfl⟩
  obtain ⟨G1, hG1⟩ : ∃ x, x = entC c uc := ⟨_, rfl⟩
  have g0b0 : h0.get (h.next + 1) = some (entC b vb) := by rw [e0]; simp (disch := first | omega | (simp only [H.next_alloc, H.next_set, nx_del, nx_fence, H.floor_alloc, H.floor_set, fl_del, fl_fence, List.length_cons, List.length_nil, Nat.zero_add, Nat.reduceAdd]; first | done | omega | fail) | (simp (disch := first | omega | (simp only [H.next_alloc, H.next_set, nx_del, nx_fence, H.floor_alloc, H.floor_set, fl_del, fl_fence, List.length_cons, List.length_nil, Nat.zero_add, Nat.reduceAdd]; first | done | omega | fail) | fail) only [H.next_alloc, H.next_set, nx_del, nx_fence, H.floor_alloc, H.floor_set, fl_del, fl_fence, List.length_cons, List.length_nil, Nat.zero_add, Nat.reduceAdd, get_hit, get_miss, set_hit, set_miss, del_miss, gt_fence, Option.map_some]; done) | fail) only [H.next_alloc, H.next_set, nx_del, nx_fence, H.floor_alloc, H.floor_set, fl_del, fl_fence, List.length_cons, List.length_nil, Nat.zero_add, Nat.reduceAdd, get_hit, get_miss, set_hit, set_miss, del_miss, gt_fence, Option.map_some]
  have g0c0 : h0.get (h.next + 1 + 1) = some (entC c vc) := by rw [e0]; simp (disch := first | omega | (simp only [H.next_alloc, H.next_set, nx_del, nx_fence, H.floor_alloc, H.floor_set, fl_del, fl_fence, List.length_cons, List.length_nil, Nat.zero_add, Nat.reduceAdd]; first | done | omega | fail) | (simp (disch := first | omega | (simp only [H.next_alloc, H.next_set, nx_del, nx_fence, H.floor_alloc, H.floor_set, fl_del, fl_fence, List.length_cons, List.length_nil, Nat.zero_add, Nat.reduceAdd]; first | done | omega | fail) | fail) only [H.next_alloc, H.next_set, nx_del, nx_fence, H.floor_alloc, H.floor_set, fl_del, fl_fence, List.length_cons, List.length_nil, Nat.zero_add, Nat.reduceAdd, get_hit, get_miss, set_hit, set_miss, del_miss, gt_fence, Option.map_some]; done) | fail) only [H.next_alloc, H.next_set, nx_del, nx_fence, H.floor_alloc, H.floor_set, fl_del, fl_fence, List.length_cons, List.length_nil, Nat.zero_add, Nat.reduceAdd, get_hit, get_miss, set_hit, set_miss, del_miss, gt_fence, Option.map_some]
  have g0c1 := x1 _ _ g0c0
  rw [← hE0] at c1 g0a e0 ⊢
  rw [← hF0] at c2 g0b g0b0 e0 ⊢
  rw [← hG0] at c3 g0c g0c0 g0c1 e0 ⊢
  rw [← hE1] at c1
  rw [← hF1] at c2
  rw [← hG1] at c3
  have b1 : E0.length = 9 := by rw [hE0]; rfl
  have b2 : F0.length = 9 := by rw [hF0]; rfl
  have b3 : G0.length = 9 := by rw [hG0]; rfl
  have b4 : AV.allsc E0 = true := by rw [hE0]; exact ent_sc hva
  have b5 : AV.allsc F0 = true := by rw [hF0]; exact ent_sc hvb
  have b6 : AV.allsc G0 = true := by rw [hG0]; exact ent_sc hvc
  have b7 : List.take 9 E0 = E0 := by rw [hE0]; rfl
  have b8 : List.take 9 F0 = F0 := by rw [hF0]; rfl
  have b9 : List.take 9 G0 = G0 := by rw [hG0]; rfl
  have d1 : E1.length = 9 := by rw [hE1]; rfl
  have d2 : F1.length = 9 := by rw [hF1]; rfl
  have d3 : G1.length = 9 := by rw [hG1]; rfl
  have d4 : AV.allsc E1 = true := by rw [hE1]; exact ent_sc sa
  have d5 : AV.allsc F1 = true := by rw [hF1]; exact ent_sc sb
  have d6 : AV.allsc G1 = true := by rw [hG1]; exact ent_sc sc
  obtain ⟨d7, d8, d9⟩ := fill27 d1 d2 d3
  rw [show E1 ++ (F1 ++ G1) = L0 by rw [hE1, hF1, hG1, hL0]; rfl] at d9
  obtain ⟨D1, hD1⟩ : ∃ x, x = setFrom Z27 0 E1 := ⟨_, rfl⟩
  rw [← hD1] at d7 d8 d9
  obtain ⟨D2, hD2⟩ : ∃ x, x = setFrom D1 9 F1 := ⟨_, rfl⟩
  rw [← hD2] at d8 d9
  have hD1' := hD1.symm
  have hD2' := hD2.symm
  have gg := e0.symm
  have p2 : evC (callW AP.A) loopW (at_ 2 AP.f87.body) [(3, .pobj h.next 0), (4, .pobj (h.next + 1) 0), (5, .pobj (h.next + 1 + 1) 0)] h0 = some (.normal, [(7, .sobj h3.next 0 3 9)], h3.alloc L0) := by
    clear q1 q2 q3 q4 hL0 hL1 hL2 hL3 hXA hXB hXC oka okb okc ka kb kc x0 x1 x2 x3 y1 y2 y3 r1 r2 r3 ra rb hR hb hD1 hD2 e0 gg hE0 hF0 hG0 hE1 hF1 hG1 z1 z2 z3 z4 z5 z6 rest wa1 wa2 wa3 wb1 wb2 wb3 wc1 wc2 wc3 hsa hsb hsc
    simp (disch := first | omega | (simp only [H.next_alloc, H.next_set, nx_del, nx_fence, H.floor_alloc, H.floor_set, fl_del, fl_fence, List.length_cons, List.length_nil, Nat.zero_add, Nat.reduceAdd]; first | done | omega | fail) | (simp (disch := first | omega | (simp only [H.next_alloc, H.next_set, nx_del, nx_fence, H.floor_alloc, H.floor_set, fl_del, fl_fence, List.length_cons, List.length_nil, Nat.zero_add, Nat.reduceAdd]; first | done | omega | fail) | fail) only [H.next_alloc, H.next_set, nx_del, nx_fence, H.floor_alloc, H.floor_set, fl_del, fl_fence, List.length_cons, List.length_nil, Nat.zero_add, Nat.reduceAdd, get_hit, get_miss, set_hit, set_miss, del_miss, gt_fence, Option.map_some]; done) | fail) only [go_sem, abin_shl, abin_shr, Nat.reduceEqDiff, reduceIte, Nat.reduceAdd, Nat.reduceMul, Nat.reduceLT, Nat.reduceLeDiff, Int.reduceBEq, Int.reduceBNe, Int.reduceLT, Int.reduceLE, Int.reduceEq, dt, df, eqt, eqf, net, nef, wi, wb, alen_str, idxs_at, tn_add, tn_nat, aix, get_hit, get_miss, set_hit, set_miss, H.floor_alloc, H.next_alloc, H.floor_set, H.next_set, stO_d, condO_t, fill_n, fill_c, fillS_s, bir_bslice, bir_alloc, bir_box, birB_s, repl_s, repl_z, List.map_cons, List.map_nil, setFrom_nil, setFrom_cons, allsc_nil, allsc_cons, Bool.and_true, Bool.true_and, Bool.and_self, List.append_nil, Option.map_some, Option.map_none, iadr_s, iadr_m, idP_s, idQ_s, bir_mksl, mkslB_s, alen_s, alen_n, alen_m, Bool.and_false, Bool.false_and, Bool.or_false, Bool.or_true, Bool.true_or, Bool.false_or, Bool.or_self, C_dregF, goD_s, goD2_t, stb_n, stb_c, stK_n, stK_c, stV_s, stB_f, beq_int, beq_bool, beq_tup0, beq_nils, beq_simm0, beq_str, beq_sobj, beq_pobj, opsD_nil, opsD_u, opsD_g, goOD_s, preD_t, preD_f, AOp.loud, AOp.births, st1_u, st1_g, Int.reduceAdd, Int.reduceSub, Int.reduceMul, Int.reduceNeg, Int.reduceToNat, eqbB_s, beq_refl, beqs_refl, stB_t, beO_s, stBv_t, stBv_p, stBv_o, st1b_alloc, st1b_box, st1b_bslice, st1b_mksl, nx_fence, gt_fence, fl_fence, nx_del, fl_del, del_miss, rdT, List.take_succ_cons, List.take_zero, List.drop_zero, List.drop_succ_cons, selO_t, selO_f, srcO_s, src_o, src_m, src_n, src_s, appS_s, app_b, apO_s, apc_o, apc_n, roomy_t, Int.cast_ofNat_Int, Int.natCast_one, Int.natCast_zero, at_z, at_s, tl_z, tl_s, List.length_set, AP.f87, b1, b2, b3, b4, b5, b6, b7, b8, b9, d1, d2, d3, d4, d5, d6, d7, d8, d9, hD1', hD2', g0a, g0b, g0c, g0b0, g0c0, g0c1, c1, c2, c3]
  have p0 : evC (callW AP.A) loopW (at_ 0 AP.f87.body) (params 0 [.agg E0, .agg F0, .agg G0]) h.fence = some (.normal, [(3, .pobj h.next 0), (4, .pobj (h.next + 1) 0), (5, .pobj (h.next + 1 + 1) 0)], h0) := by
    clear q1 q2 q3 q4 hL0 hL1 hL2 hL3 hXA hXB hXC oka okb okc ka kb kc x0 x1 x2 x3 y1 y2 y3 r1 r2 r3 ra rb hR hb hD1 hD2 e0 hE0 hF0 hG0 hE1 hF1 hG1 z1 z2 z3 z4 z5 z6 rest wa1 wa2 wa3 wb1 wb2 wb3 wc1 wc2 wc3 hsa hsb hsc
    simp (disch := first | omega | (simp only [H.next_alloc, H.next_set, nx_del, nx_fence, H.floor_alloc, H.floor_set, fl_del, fl_fence, List.length_cons, List.length_nil, Nat.zero_add, Nat.reduceAdd]; first | done | omega | fail) | (simp (disch := first | omega | (simp only [H.next_alloc, H.next_set, nx_del, nx_fence, H.floor_alloc, H.floor_set, fl_del, fl_fence, List.length_cons, List.length_nil, Nat.zero_add, Nat.reduceAdd]; first | done | omega | fail) | fail) only [H.next_alloc, H.next_set, nx_del, nx_fence, H.floor_alloc, H.floor_set, fl_del, fl_fence, List.length_cons, List.length_nil, Nat.zero_add, Nat.reduceAdd, get_hit, get_miss, set_hit, set_miss, del_miss, gt_fence, Option.map_some]; done) | fail) only [go_sem, abin_shl, abin_shr, Nat.reduceEqDiff, reduceIte, Nat.reduceAdd, Nat.reduceMul, Nat.reduceLT, Nat.reduceLeDiff, Int.reduceBEq, Int.reduceBNe, Int.reduceLT, Int.reduceLE, Int.reduceEq, dt, df, eqt, eqf, net, nef, wi, wb, alen_str, idxs_at, tn_add, tn_nat, aix, get_hit, get_miss, set_hit, set_miss, H.floor_alloc, H.next_alloc, H.floor_set, H.next_set, stO_d, condO_t, fill_n, fill_c, fillS_s, bir_bslice, bir_alloc, bir_box, birB_s, repl_s, repl_z, List.map_cons, List.map_nil, setFrom_nil, setFrom_cons, allsc_nil, allsc_cons, Bool.and_true, Bool.true_and, Bool.and_self, List.append_nil, Option.map_some, Option.map_none, iadr_s, iadr_m, idP_s, idQ_s, bir_mksl, mkslB_s, alen_s, alen_n, alen_m, Bool.and_false, Bool.false_and, Bool.or_false, Bool.or_true, Bool.true_or, Bool.false_or, Bool.or_self, C_dregF, goD_s, goD2_t, stb_n, stb_c, stK_n, stK_c, stV_s, stB_f, beq_int, beq_bool, beq_tup0, beq_nils, beq_simm0, beq_str, beq_sobj, beq_pobj, opsD_nil, opsD_u, opsD_g, goOD_s, preD_t, preD_f, AOp.loud, AOp.births, st1_u, st1_g, Int.reduceAdd, Int.reduceSub, Int.reduceMul, Int.reduceNeg, Int.reduceToNat, eqbB_s, beq_refl, beqs_refl, stB_t, beO_s, stBv_t, stBv_p, stBv_o, st1b_alloc, st1b_box, st1b_bslice, st1b_mksl, nx_fence, gt_fence, fl_fence, nx_del, fl_del, del_miss, rdT, List.take_succ_cons, List.take_zero, List.drop_zero, List.drop_succ_cons, selO_t, selO_f, srcO_s, src_o, src_m, src_n, src_s, appS_s, app_b, apO_s, apc_o, apc_n, roomy_t, Int.cast_ofNat_Int, Int.natCast_one, Int.natCast_zero, at_z, at_s, tl_z, tl_s, List.length_set, AP.f87, b1, b2, b3, b4, b5, b6, gg]
  have p1 : evC (callW AP.A) loopW (at_ 1 AP.f87.body) [(3, .pobj h.next 0), (4, .pobj (h.next + 1) 0), (5, .pobj (h.next + 1 + 1) 0)] h0 = some (.normal, [(3, .pobj h.next 0), (4, .pobj (h.next + 1) 0), (5, .pobj (h.next + 1 + 1) 0)], h0) := by
    clear q1 q2 q3 q4 hL0 hL1 hL2 hL3 hXA hXB hXC oka okb okc ka kb kc x0 x1 x2 x3 y1 y2 y3 r1 r2 r3 ra rb hR hb hD1 hD2 e0 hE0 hF0 hG0 hE1 hF1 hG1 z1 z2 z3 z4 z5 z6 rest wa1 wa2 wa3 wb1 wb2 wb3 wc1 wc2 wc3 hsa hsb hsc
    simp (disch := first | omega | (simp only [H.next_alloc, H.next_set, nx_del, nx_fence, H.floor_alloc, H.floor_set, fl_del, fl_fence, List.length_cons, List.length_nil, Nat.zero_add, Nat.reduceAdd]; first | done | omega | fail) | (simp (disch := first | omega | (simp only [H.next_alloc, H.next_set, nx_del, nx_fence, H.floor_alloc, H.floor_set, fl_del, fl_fence, List.length_cons, List.length_nil, Nat.zero_add, Nat.reduceAdd]; first | done | omega | fail) | fail) only [H.next_alloc, H.next_set, nx_del, nx_fence, H.floor_alloc, H.floor_set, fl_del, fl_fence, List.length_cons, List.length_nil, Nat.zero_add, Nat.reduceAdd, get_hit, get_miss, set_hit, set_miss, del_miss, gt_fence, Option.map_some]; done) | fail) only [go_sem, abin_shl, abin_shr, Nat.reduceEqDiff, reduceIte, Nat.reduceAdd, Nat.reduceMul, Nat.reduceLT, Nat.reduceLeDiff, Int.reduceBEq, Int.reduceBNe, Int.reduceLT, Int.reduceLE, Int.reduceEq, dt, df, eqt, eqf, net, nef, wi, wb, alen_str, idxs_at, tn_add, tn_nat, aix, get_hit, get_miss, set_hit, set_miss, H.floor_alloc, H.next_alloc, H.floor_set, H.next_set, stO_d, condO_t, fill_n, fill_c, fillS_s, bir_bslice, bir_alloc, bir_box, birB_s, repl_s, repl_z, List.map_cons, List.map_nil, setFrom_nil, setFrom_cons, allsc_nil, allsc_cons, Bool.and_true, Bool.true_and, Bool.and_self, List.append_nil, Option.map_some, Option.map_none, iadr_s, iadr_m, idP_s, idQ_s, bir_mksl, mkslB_s, alen_s, alen_n, alen_m, Bool.and_false, Bool.false_and, Bool.or_false, Bool.or_true, Bool.true_or, Bool.false_or, Bool.or_self, C_dregF, goD_s, goD2_t, stb_n, stb_c, stK_n, stK_c, stV_s, stB_f, beq_int, beq_bool, beq_tup0, beq_nils, beq_simm0, beq_str, beq_sobj, beq_pobj, opsD_nil, opsD_u, opsD_g, goOD_s, preD_t, preD_f, AOp.loud, AOp.births, st1_u, st1_g, Int.reduceAdd, Int.reduceSub, Int.reduceMul, Int.reduceNeg, Int.reduceToNat, eqbB_s, beq_refl, beqs_refl, stB_t, beO_s, stBv_t, stBv_p, stBv_o, st1b_alloc, st1b_box, st1b_bslice, st1b_mksl, nx_fence, gt_fence, fl_fence, nx_del, fl_del, del_miss, rdT, List.take_succ_cons, List.take_zero, List.drop_zero, List.drop_succ_cons, selO_t, selO_f, srcO_s, src_o, src_m, src_n, src_s, appS_s, app_b, apO_s, apc_o, apc_n, roomy_t, Int.cast_ofNat_Int, Int.natCast_one, Int.natCast_zero, at_z, at_s, tl_z, tl_s, List.length_set, AP.f87, k0]
  have run : ∀ r : Res, Lp AP.A [7, 8] AP.f87L0 [(7, .sobj h3.next 0 3 9), (8, .int .i64 0)] (h3.alloc L0) = r → (∃ g', r = some (.ret, [(6, .bool true)], g')) ∨ (mayE (reE a 0) = true ∧ mayE (reE b 1) = true ∧ mayE (reE c 2) = true ∧ ∃ e', r = some (.exit 0, e', h3.alloc L3) ∧ look e' 7 = .sobj h3.next 0 3 9) := by
    rintro r rfl
    cases hma : mayE (reE a 0) with
    | false => rw [hma, if_neg (by decide)] at q1; exact .inl ⟨_, Lp_ret q1⟩
    | true =>
      rw [hma, if_pos rfl] at q1
      cases hmb : mayE (reE b 1) with
      | false => rw [hmb, if_neg (by decide)] at q2; exact .inl ⟨_, Lp_next q1 (Lp_ret q2)⟩
      | true =>
        rw [hmb, if_pos rfl] at q2
        cases hmc : mayE (reE c 2) with
        | false => rw [hmc, if_neg (by decide)] at q3; exact .inl ⟨_, Lp_next q1 (Lp_next q2 (Lp_ret q3))⟩
        | true =>
          rw [hmc, if_pos rfl] at q3
          exact .inr ⟨rfl, rfl, rfl, _, Lp_next q1 (Lp_next q2 (Lp_next q3 (Lp_exit q4))), rfl⟩
  have run' := run _ rfl
  have st : ∃ g', evC (callW AP.A) loopW AP.f87.body (params 0 [.agg E0, .agg F0, .agg G0]) h.fence = some (.ret, [(6, .bool true)], g') := by
    rw [hb, C_seq, p0, goS_n, C_seq, p1, goS_n, C_seq, p2, goS_n, C_seq]
    rcases run' with ⟨g', w1⟩ | ⟨ma, mb, mc, e', w1, w2⟩
    · refine ⟨g', ?_⟩
      have p3 : evC (callW AP.A) loopW (at_ 3 AP.f87.body) [(7, .sobj h3.next 0 3 9)] (h3.alloc L0) = some (.ret, [(6, .bool true)], g') := by
        clear p0 p1 p2 run k0 k9 gg
        clear q1 q2 q3 q4 hL0 hL1 hL2 hL3 hXA hXB hXC oka okb okc ka kb kc x0 x1 x2 x3 y1 y2 y3 r1 r2 r3 ra rb hR hb hD1 hD2 e0 hE0 hF0 hG0 hE1 hF1 hG1 z1 z2 z3 z4 z5 z6 rest wa1 wa2 wa3 wb1 wb2 wb3 wc1 wc2 wc3 hsa hsb hsc
        simp (disch := first | omega | (simp only [H.next_alloc, H.next_set, nx_del, nx_fence, H.floor_alloc, H.floor_set, fl_del, fl_fence, List.length_cons, List.length_nil, Nat.zero_add, Nat.reduceAdd]; first | done | omega | fail) | (simp (disch := first | omega | (simp only [H.next_alloc, H.next_set, nx_del, nx_fence, H.floor_alloc, H.floor_set, fl_del, fl_fence, List.length_cons, List.length_nil, Nat.zero_add, Nat.reduceAdd]; first | done | omega | fail) | fail) only [H.next_alloc, H.next_set, nx_del, nx_fence, H.floor_alloc, H.floor_set, fl_del, fl_fence, List.length_cons, List.length_nil, Nat.zero_add, Nat.reduceAdd, get_hit, get_miss, set_hit, set_miss, del_miss, gt_fence, Option.map_some]; done) | fail) only [go_sem, abin_shl, abin_shr, Nat.reduceEqDiff, reduceIte, Nat.reduceAdd, Nat.reduceMul, Nat.reduceLT, Nat.reduceLeDiff, Int.reduceBEq, Int.reduceBNe, Int.reduceLT, Int.reduceLE, Int.reduceEq, dt, df, eqt, eqf, net, nef, wi, wb, alen_str, idxs_at, tn_add, tn_nat, aix, get_hit, get_miss, set_hit, set_miss, H.floor_alloc, H.next_alloc, H.floor_set, H.next_set, stO_d, condO_t, fill_n, fill_c, fillS_s, bir_bslice, bir_alloc, bir_box, birB_s, repl_s, repl_z, List.map_cons, List.map_nil, setFrom_nil, setFrom_cons, allsc_nil, allsc_cons, Bool.and_true, Bool.true_and, Bool.and_self, List.append_nil, Option.map_some, Option.map_none, iadr_s, iadr_m, idP_s, idQ_s, bir_mksl, mkslB_s, alen_s, alen_n, alen_m, Bool.and_false, Bool.false_and, Bool.or_false, Bool.or_true, Bool.true_or, Bool.false_or, Bool.or_self, C_dregF, goD_s, goD2_t, stb_n, stb_c, stK_n, stK_c, stV_s, stB_f, beq_int, beq_bool, beq_tup0, beq_nils, beq_simm0, beq_str, beq_sobj, beq_pobj, opsD_nil, opsD_u, opsD_g, goOD_s, preD_t, preD_f, AOp.loud, AOp.births, st1_u, st1_g, Int.reduceAdd, Int.reduceSub, Int.reduceMul, Int.reduceNeg, Int.reduceToNat, eqbB_s, beq_refl, beqs_refl, stB_t, beO_s, stBv_t, stBv_p, stBv_o, st1b_alloc, st1b_box, st1b_bslice, st1b_mksl, nx_fence, gt_fence, fl_fence, nx_del, fl_del, del_miss, rdT, List.take_succ_cons, List.take_zero, List.drop_zero, List.drop_succ_cons, selO_t, selO_f, srcO_s, src_o, src_m, src_n, src_s, appS_s, app_b, apO_s, apc_o, apc_n, roomy_t, Int.cast_ofNat_Int, Int.natCast_one, Int.natCast_zero, at_z, at_s, tl_z, tl_s, List.length_set, AP.f87, evC_loop, w1]
      rw [p3, goS_r]
    · obtain ⟨g', hr⟩ := rest ma mb mc
      refine ⟨g', ?_⟩
      have p3 : evC (callW AP.A) loopW (at_ 3 AP.f87.body) [(7, .sobj h3.next 0 3 9)] (h3.alloc L0) = some (.normal, [(7, .sobj h3.next 0 3 9)], h3.alloc L3) := by
        clear p0 p1 p2 run k0 k9 gg hr
        clear q1 q2 q3 q4 hL0 hL1 hL2 hL3 hXA hXB hXC oka okb okc ka kb kc x0 x1 x2 x3 y1 y2 y3 r1 r2 r3 ra rb hR hb hD1 hD2 e0 hE0 hF0 hG0 hE1 hF1 hG1 z1 z2 z3 z4 z5 z6 rest wa1 wa2 wa3 wb1 wb2 wb3 wc1 wc2 wc3 hsa hsb hsc
        simp (disch := first | omega | (simp only [H.next_alloc, H.next_set, nx_del, nx_fence, H.floor_alloc, H.floor_set, fl_del, fl_fence, List.length_cons, List.length_nil, Nat.zero_add, Nat.reduceAdd]; first | done | omega | fail) | (simp (disch := first | omega | (simp only [H.next_alloc, H.next_set, nx_del, nx_fence, H.floor_alloc, H.floor_set, fl_del, fl_fence, List.length_cons, List.length_nil, Nat.zero_add, Nat.reduceAdd]; first | done | omega | fail) | fail) only [H.next_alloc, H.next_set, nx_del, nx_fence, H.floor_alloc, H.floor_set, fl_del, fl_fence, List.length_cons, List.length_nil, Nat.zero_add, Nat.reduceAdd, get_hit, get_miss, set_hit, set_miss, del_miss, gt_fence, Option.map_some]; done) | fail) only [go_sem, abin_shl, abin_shr, Nat.reduceEqDiff, reduceIte, Nat.reduceAdd, Nat.reduceMul, Nat.reduceLT, Nat.reduceLeDiff, Int.reduceBEq, Int.reduceBNe, Int.reduceLT, Int.reduceLE, Int.reduceEq, dt, df, eqt, eqf, net, nef, wi, wb, alen_str, idxs_at, tn_add, tn_nat, aix, get_hit, get_miss, set_hit, set_miss, H.floor_alloc, H.next_alloc, H.floor_set, H.next_set, stO_d, condO_t, fill_n, fill_c, fillS_s, bir_bslice, bir_alloc, bir_box, birB_s, repl_s, repl_z, List.map_cons, List.map_nil, setFrom_nil, setFrom_cons, allsc_nil, allsc_cons, Bool.and_true, Bool.true_and, Bool.and_self, List.append_nil, Option.map_some, Option.map_none, iadr_s, iadr_m, idP_s, idQ_s, bir_mksl, mkslB_s, alen_s, alen_n, alen_m, Bool.and_false, Bool.false_and, Bool.or_false, Bool.or_true, Bool.true_or, Bool.false_or, Bool.or_self, C_dregF, goD_s, goD2_t, stb_n, stb_c, stK_n, stK_c, stV_s, stB_f, beq_int, beq_bool, beq_tup0, beq_nils, beq_simm0, beq_str, beq_sobj, beq_pobj, opsD_nil, opsD_u, opsD_g, goOD_s, preD_t, preD_f, AOp.loud, AOp.births, st1_u, st1_g, Int.reduceAdd, Int.reduceSub, Int.reduceMul, Int.reduceNeg, Int.reduceToNat, eqbB_s, beq_refl, beqs_refl, stB_t, beO_s, stBv_t, stBv_p, stBv_o, st1b_alloc, st1b_box, st1b_bslice, st1b_mksl, nx_fence, gt_fence, fl_fence, nx_del, fl_del, del_miss, rdT, List.take_succ_cons, List.take_zero, List.drop_zero, List.drop_succ_cons, selO_t, selO_f, srcO_s, src_o, src_m, src_n, src_s, appS_s, app_b, apO_s, apc_o, apc_n, roomy_t, Int.cast_ofNat_Int, Int.natCast_one, Int.natCast_zero, at_z, at_s, tl_z, tl_s, List.length_set, AP.f87, evC_loop, w1, w2]
      rw [p3, goS_n, hr]
  obtain ⟨g', hh⟩ := st
  exact pure_c (fn := AP.f87) (h2 := g') (e := [(6, .bool true)]) rfl rfl rfl hh rfl rfl
end Ab
namespace Ab
open Go
theorem law_entryMerges (r : List (Ty × List AV)) (h : r.map (·.1) = [entT, entT, entT]) (hp : ∀ x ∈ r, Sh reachBytes x.1 x.2) : callW AP.A 87 (r.map avOf) H.empty = some (.bool true, H.empty) := by
  obtain ⟨x, y, z, rfl, h1, h2, h3⟩ := row3 h hp
  obtain ⟨a, va, rfl, sa, oa, la⟩ := sh_ent h1
  obtain ⟨b, vb, rfl, sb, ob, lb⟩ := sh_ent h2
  obtain ⟨c, vc, rfl, sc, oc, lc⟩ := sh_ent h3
  exact merges_c H.empty a b c va vb vc sa sb sc (oa _) (ob _) (oc _) la lb lc
end Ab
