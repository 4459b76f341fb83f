/- Part C3. -/
import Derived.Test.YtbihdlhgfnoejaaDoorC2
set_option linter.unusedSimpArgs false
set_option linter.unusedVariables false
set_option maxRecDepth 100000
namespace Ab
open Go
def txtK (k : Nat) : ByteArray := bytesOf [97 + k / 4, 48 + k % 4]
def entK (k : Nat) : Ent := smallE nA (k % 4) ((1 + k / 4 : Nat) : Int) (txtK k)
theorem entK_may : ∀ k < 256, mayE (entK k) = true := by decide +kernel
def entKv (k : Nat) (v : List Int) : Ent := { entK k with vec := v }
def VOk (v : List Int) : Prop := v.length = 4 ∧ ∀ n ∈ v, 0 ≤ n ∧ n ≤ 1048576
theorem entKv_may {k : Nat} (hk : k < 256) {v : List Int} (hv : VOk v) : mayE (entKv k v) = true := by
  have h := entK_may k hk
  refine mayE_of h ?_ rfl rfl rfl rfl rfl rfl
  obtain ⟨f1, f2, f3, f4⟩ := headA_facts (mayE_head h).1
  exact headA_mk hv.1 hv.2 f3 f4
theorem maxI_rng {a b : Int} (ha : 0 ≤ a ∧ a ≤ 1048576) (hb : 0 ≤ b ∧ b ≤ 1048576) : 0 ≤ maxI a b ∧ maxI a b ≤ 1048576 := by unfold maxI; split <;> omega
theorem joinL_ok {v w : List Int} (hv : VOk v) (hw : VOk w) : VOk (joinL v w) := by
  obtain ⟨a, b, c, d, rfl⟩ := vec4 hv.1
  obtain ⟨a', b', c', d', rfl⟩ := vec4 hw.1
  obtain ⟨-, h1⟩ := hv
  obtain ⟨-, h2⟩ := hw
  simp only [List.mem_cons, List.mem_nil_iff, or_false, forall_eq_or_imp, forall_eq] at h1 h2
  refine ⟨rfl, ?_⟩
  intro n hn
  simp only [joinL, List.zipWith_cons_cons, List.zipWith_nil_left, List.mem_cons, List.mem_nil_iff, or_false] at hn
  rcases hn with rfl | rfl | rfl | rfl
  · exact maxI_rng h1.1 h2.1
  · exact maxI_rng h1.2.1 h2.2.1
  · exact maxI_rng h1.2.2.1 h2.2.2.1
  · exact maxI_rng h1.2.2.2 h2.2.2.2
theorem entK_vok {k : Nat} (hk : k < 256) : VOk (entK k).vec := by
  obtain ⟨f1, f2, _⟩ := headA_facts (mayE_head (entK_may k hk)).1
  exact ⟨f1, f2⟩
theorem mergeK {k j : Nat} (hk : k < 256) (hj : j < 256) {v w : List Int} (hv : VOk v) (hw : VOk w) : mergeE (entKv k v) (entKv j w) = some (entKv (if k < j then j else k) (joinL v w)) := by
  unfold mergeE
  rw [entKv_may hk hv, entKv_may hj hw, show ((entKv k v).name.data.toList == (entKv j w).name.data.toList) = true from rfl]
  have wb : winB (entKv k v) (entKv j w) = decide (k < j) := by
    have e : winB (entKv k v) (entKv j w) = (decide (((1 + k / 4 : Nat) : Int) < ((1 + j / 4 : Nat) : Int)) || (decide (((1 + k / 4 : Nat) : Int) = ((1 + j / 4 : Nat) : Int)) && decide (((k % 4 : Nat) : Int) < ((j % 4 : Nat) : Int)))) := rfl
    rw [e]
    by_cases c : k < j
    · rw [decide_eq_true c]
      simp only [Bool.or_eq_true, Bool.and_eq_true, decide_eq_true_eq]; omega
    · rw [decide_eq_false c]
      simp only [Bool.or_eq_false_iff, Bool.and_eq_false_iff, decide_eq_false_iff_not]; omega
  rw [wb]
  by_cases c : k < j
  · rw [if_pos c, decide_eq_true c]; rfl
  · rw [if_neg c, decide_eq_false c]; rfl
theorem entKv_text {k : Nat} (hk : k < 256) {v : List Int} (hv : VOk v) : entText (entKv k v) = some (txtK k) := by
  have h := entKv_may hk hv
  have q : unpackA (entKv k v).method (entKv k v).packed (entKv k v).size = some (txtK k) := by
    show unpackA 0 (txtK k) ((txtK k).size : Nat) = _
    have : (txtK k).size = 2 := by unfold txtK; rw [bytesOf_size]; rfl
    unfold unpackA
    rw [this, if_neg (by decide), if_pos rfl, if_pos rfl]
  unfold mayE at h
  cases ht : entText (entKv k v) with
  | none => rw [ht] at h; cases h
  | some t =>
    unfold entText at ht
    split at ht
    · cases ht
    · rw [show (entKv k v).gone = false from rfl, if_neg (by decide), q] at ht
      dsimp only at ht
      split at ht
      · exact ht.symm
      · cases ht
def keyAt (s : Int) (i : Nat) : Nat := 4 * (s % 64).toNat + i % 4
def keysL (l : List Int) : List Nat := (l.take 8).zipIdx.map fun p => keyAt p.1 p.2
theorem keyAt_lt (s : Int) (i : Nat) : keyAt s i < 256 := by unfold keyAt; omega
def ekC (k : Nat) : List AV := entC (entK k) (vecV (entK k).vec)
theorem ekC_len (k : Nat) : (ekC k).length = 9 := rfl
def eksC (ks : List Nat) : List AV := ks.flatMap ekC
theorem eksC_len (ks : List Nat) : (eksC ks).length = ks.length * 9 := fm_len ekC_len ks
theorem ekC_sc (k : Nat) : AV.allsc (ekC k) = true := ent_sc (vecV_sc _)
def bestL (ks : List Nat) : Int := ks.foldl (fun (b : Int) (k : Nat) => maxI b (k : Int)) (-1)
theorem shr2 {a : Nat} : shft .shr .i64 (a : Int) 2 = some (.int .i64 ((a / 4 : Nat) : Int)) := shr_i64n (s := 2) (by omega)
theorem wb' {n : Nat} (h : n < 256) : IntKind.wrap .u8 (n : Int) = n := wb (by omega)
theorem b2s_two {a b : Nat} (ha : a < 256) (hb : b < 256) {h : H} {p : Nat} (hg : h.get p = some [.int .u8 a, .int .u8 b]) : b2sB h (.sobj p 0 2 1) (srcCells h 1 (.sobj p 0 2 1)) = some (.str (bytesOf [a, b]), h) := by
  have : srcCells h 1 (.sobj p 0 2 1) = some (2, bys [a, b]) := by
    simp only [srcCells, if_true, hg, Option.bind_some]; rfl
  rw [this]
  simp only [b2sB, Option.bind_some, b2s_bys]; rfl
theorem er_loop {w : AV} {l : List Int} (hl : l.length < 20000000000000) (a : AV) (h0 : H) (rd0 : Rd h0 w (ints l)) : ∀ (q p : List Nat) (i : Nat) (h : H) (ov : AV), keysL l = p ++ q → i = p.length → OwnN 9 h ov p.length (eksC p) → h.floor ≤ h.next → Ext h0 h → h0.next ≤ h.next → (∀ j, ov.id? = some j → h0.next ≤ j) →
    ∃ e' h' ov', Lp AP.A [0, 1, 5, 6, 7] AP.f89L1 [(0, w), (1, a), (5, ov), (6, .int .i64 (bestL p)), (7, .int .i64 i)] h = some (.exit 0, e', h') ∧ look e' 1 = a ∧ look e' 5 = ov' ∧ look e' 6 = .int .i64 (bestL (keysL l)) ∧ OwnN 9 h' ov' (keysL l).length (eksC (keysL l)) ∧ h'.floor ≤ h'.next
  | [], p, i, h, ov, hp, hi, o, hf, xt, hn, hov => by
    have rd := rd0.mono fun i c q => xt i c q
    have ln := rd.len
    rw [ints_length] at ln
    simp only [I] at ln
    rw [List.append_nil] at hp
    have hz : i = 8 ∨ (i = l.length ∧ i ≤ 8) := by
      have : (keysL l).length = min 8 l.length := by simp [keysL]
      rw [hp] at this; omega
    refine ⟨[(0, w), (1, a), (5, ov), (6, .int .i64 (bestL p)), (7, .int .i64 i), (25, .bool false)], h, ov, Lp_exit ?_, rfl, rfl, by rw [hp]; rfl, by rw [hp]; exact o, hf⟩
    clear o hp
    generalize bestL p = B at *
    by_cases c : i < l.length
    · simp (disch := omega) only [go_sem, abin_shl, abin_shr, Nat.reduceEqDiff, reduceIte, Nat.reduceAdd, Nat.reduceMul, Nat.reduceLT, Nat.reduceLeDiff, Int.reduceBEq, Int.reduceBNe, Int.reduceLT, Int.reduceLE, Int.reduceEq, dt, df, eqt, eqf, net, nef, wi, wb, alen_str, idxs_at, tn_add, tn_nat, aix, get_hit, get_miss, set_hit, set_miss, H.floor_alloc, H.next_alloc, H.floor_set, H.next_set, stO_d, condO_t, fill_n, fill_c, fillS_s, bir_bslice, bir_alloc, bir_box, birB_s, repl_s, repl_z, List.map_cons, List.map_nil, setFrom_nil, setFrom_cons, allsc_nil, allsc_cons, Bool.and_true, Bool.true_and, Bool.and_self, List.append_nil, Option.map_some, Option.map_none, iadr_s, iadr_m, idP_s, idQ_s, bir_mksl, mkslB_s, alen_s, alen_n, alen_m, Bool.and_false, Bool.false_and, Bool.or_false, Bool.or_true, Bool.true_or, Bool.false_or, Bool.or_self, C_dregF, goD_s, goD2_t, stb_n, stb_c, stK_n, stK_c, stV_s, stB_f, beq_int, beq_bool, beq_tup0, beq_nils, beq_simm0, beq_str, beq_sobj, beq_pobj, opsD_nil, opsD_u, opsD_g, goOD_s, preD_t, preD_f, AOp.loud, AOp.births, st1_u, st1_g, Int.reduceAdd, Int.reduceSub, Int.reduceMul, Int.reduceNeg, Int.reduceToNat, eqbB_s, beq_refl, beqs_refl, stB_t, beO_s, stBv_t, stBv_p, stBv_o, st1b_alloc, st1b_box, st1b_bslice, st1b_mksl, AP.f89L1, ln]
    · simp (disch := omega) only [go_sem, abin_shl, abin_shr, Nat.reduceEqDiff, reduceIte, Nat.reduceAdd, Nat.reduceMul, Nat.reduceLT, Nat.reduceLeDiff, Int.reduceBEq, Int.reduceBNe, Int.reduceLT, Int.reduceLE, Int.reduceEq, dt, df, eqt, eqf, net, nef, wi, wb, alen_str, idxs_at, tn_add, tn_nat, aix, get_hit, get_miss, set_hit, set_miss, H.floor_alloc, H.next_alloc, H.floor_set, H.next_set, stO_d, condO_t, fill_n, fill_c, fillS_s, bir_bslice, bir_alloc, bir_box, birB_s, repl_s, repl_z, List.map_cons, List.map_nil, setFrom_nil, setFrom_cons, allsc_nil, allsc_cons, Bool.and_true, Bool.true_and, Bool.and_self, List.append_nil, Option.map_some, Option.map_none, iadr_s, iadr_m, idP_s, idQ_s, bir_mksl, mkslB_s, alen_s, alen_n, alen_m, Bool.and_false, Bool.false_and, Bool.or_false, Bool.or_true, Bool.true_or, Bool.false_or, Bool.or_self, C_dregF, goD_s, goD2_t, stb_n, stb_c, stK_n, stK_c, stV_s, stB_f, beq_int, beq_bool, beq_tup0, beq_nils, beq_simm0, beq_str, beq_sobj, beq_pobj, opsD_nil, opsD_u, opsD_g, goOD_s, preD_t, preD_f, AOp.loud, AOp.births, st1_u, st1_g, Int.reduceAdd, Int.reduceSub, Int.reduceMul, Int.reduceNeg, Int.reduceToNat, eqbB_s, beq_refl, beqs_refl, stB_t, beO_s, stBv_t, stBv_p, stBv_o, st1b_alloc, st1b_box, st1b_bslice, st1b_mksl, AP.f89L1, ln]
  | x :: q, p, i, h, ov, hp, hi, o, hf, xt, hn, hov => by
    have rd := rd0.mono fun i c q => xt i c q
    have ln := rd.len
    rw [ints_length] at ln
    simp only [I] at ln
    have hlen : (keysL l).length = min 8 l.length := by simp [keysL]
    have hlen2 : (keysL l).length = p.length + (q.length + 1) := by rw [hp]; simp
    obtain ⟨y, hy, hx⟩ : ∃ y, l[i]? = some y ∧ x = keyAt y i := by
      have : (keysL l)[i]? = some x := by rw [hp, hi]; simp
      simp only [keysL, List.getElem?_map, List.getElem?_zipIdx] at this
      rw [List.getElem?_take, if_pos (by omega)] at this
      cases hq : l[i]? with
      | none => rw [hq] at this; cases this
      | some y => rw [hq] at this; simp at this; exact ⟨y, rfl, this.symm⟩
    obtain ⟨ad, a1, a2⟩ := rd.ints_at
    have i1 := a1 (i : Int) ⟨by omega, by omega⟩
    have i2 := a2 h (Ext.refl h) i y hy
    have xl := keyAt_lt y i
    rw [← hx] at xl
    obtain ⟨S, hS⟩ : ∃ S : Nat, y % 64 = S := ⟨(y % 64).toNat, by omega⟩
    have b1 : bits .and .i64 y 63 = S := by rw [and63, hS]
    have b2 : bits .and .i64 (i : Int) 3 = ((i % 4 : Nat) : Int) := by rw [and3]; omega
    have hxS : x = 4 * S + i % 4 := by rw [hx, keyAt, hS]; omega
    have w1 : IntKind.wrap .i64 (4 * (S : Int)) = 4 * (S : Int) := wi (by omega)
    have w2 : IntKind.wrap .i64 (4 * (S : Int) + ((i % 4 : Nat) : Int)) = (x : Int) := by rw [wi (by omega)]; omega
    have s1 := shr2 (a := x)
    have w3 : IntKind.wrap .i64 (1 + ((x / 4 : Nat) : Int)) = ((1 + x / 4 : Nat) : Int) := by rw [wi (by omega)]; omega
    have w4 : IntKind.wrap .i64 (97 + ((x / 4 : Nat) : Int)) = ((97 + x / 4 : Nat) : Int) := by rw [wi (by omega)]; omega
    have w5 : IntKind.wrap .i64 (48 + ((i % 4 : Nat) : Int)) = ((48 + x % 4 : Nat) : Int) := by rw [wi (by omega)]; omega
    have w6 := wb' (n := 97 + x / 4) (by omega)
    have w7 := wb' (n := 48 + x % 4) (by omega)
    have hxi : x % 4 = i % 4 := by omega
    obtain ⟨E, hE⟩ : ∃ E, E = ekC x := ⟨_, rfl⟩
    have k1 : ∀ g, callW AP.A 99 [.str ⟨#[97]⟩, .int .i64 ((i % 4 : Nat) : Int), .int .i64 ((1 + x / 4 : Nat) : Int), .str (txtK x)] g = some (.agg E, g) := fun g => by
      rw [hE, ← hxi]; exact small_c g nA (txtK x) (x % 4) ((1 + x / 4 : Nat) : Int) (by omega) (by unfold txtK; rw [bytesOf_size]; exact (by decide : 2 < 1125899906842624))
    have k2 := b2s_two (a := 97 + x / 4) (b := 48 + x % 4) (by omega) (by omega) (h := h.alloc [.int .u8 ((97 + x / 4 : Nat) : Int), .int .u8 ((48 + x % 4 : Nat) : Int)]) (p := h.next) (get_hit rfl)
    have lE : E.length = 9 := by rw [hE]; rfl
    have cE : AV.allsc E = true := by rw [hE]; exact ekC_sc x
    have fE : setFrom Z9 0 E = E := by rw [hE]; rfl
    obtain ⟨h1, eh1⟩ : ∃ g, g = h.alloc [.int .u8 ((97 + x / 4 : Nat) : Int), .int .u8 ((48 + x % 4 : Nat) : Int)] := ⟨_, rfl⟩
    have n1' : h1.next = h.next + 1 := by rw [eh1]; simp
    have f1' : h1.floor = h.floor := by rw [eh1]; simp
    have xh1 : Ext h0 h1 := by rw [eh1]; exact xt.alloc _
    have o1 : OwnN 9 h1 ov p.length (eksC p) := o.mono f1' fun j hj => by rw [eh1, get_miss]; have := o.lt hj; omega
    obtain ⟨v', h', p1, p2, p3, p4, p5, p6⟩ := o1.push (z := 104) (m := 1) (by omega) (by omega) (by omega) E (by rw [lE]) cE (by simp [roomy]; omega)
    have o2 : OwnN 9 h' v' (p ++ [x]).length (eksC (p ++ [x])) := by
      rw [List.length_append]
      have : eksC (p ++ [x]) = eksC p ++ E := by rw [hE]; simp [eksC]
      rw [this]; exact p2
    have xt' : Ext h0 h' := fun j c hj => by
      have := h0.lt _ _ hj
      rw [p5 j (fun q => by have := hov j q; omega) (by omega)]; exact xh1 j c hj
    obtain ⟨e', h2, ov', r1, r2⟩ := er_loop hl a h0 rd0 q (p ++ [x]) (i + 1) h' v' (by rw [hp]; simp) (by rw [hi]; simp) o2 (by omega) xt' (by omega) (fun j hj => by rw [p6] at hj; have := Option.some.inj hj; omega)
    have bb : bestL (p ++ [x]) = maxI (bestL p) x := by simp [bestL]
    have n1 : ((i + 1 : Nat) : Int) = (i : Int) + 1 := by omega
    rw [n1, bb] at r1
    refine ⟨e', h2, ov', Lp_next ?_ r1, r2⟩
    have tk : bytesOf [97 + x / 4, 48 + x % 4] = txtK x := rfl
    rw [tk] at k2
    rw [← eh1] at k2
    rw [n1'] at p1
    have eh1' := eh1.symm
    clear o o1 o2 rd a2 hp xt xt' xh1 hE eh1 tk
    generalize bestL p = B at *
    simp (disch := omega) only [go_sem, abin_shl, abin_shr, Nat.reduceEqDiff, reduceIte, Nat.reduceAdd, Nat.reduceMul, Nat.reduceLT, Nat.reduceLeDiff, Int.reduceBEq, Int.reduceBNe, Int.reduceLT, Int.reduceLE, Int.reduceEq, dt, df, eqt, eqf, net, nef, wi, wb, alen_str, idxs_at, tn_add, tn_nat, aix, get_hit, get_miss, set_hit, set_miss, H.floor_alloc, H.next_alloc, H.floor_set, H.next_set, stO_d, condO_t, fill_n, fill_c, fillS_s, bir_bslice, bir_alloc, bir_box, birB_s, repl_s, repl_z, List.map_cons, List.map_nil, setFrom_nil, setFrom_cons, allsc_nil, allsc_cons, Bool.and_true, Bool.true_and, Bool.and_self, List.append_nil, Option.map_some, Option.map_none, iadr_s, iadr_m, idP_s, idQ_s, bir_mksl, mkslB_s, alen_s, alen_n, alen_m, Bool.and_false, Bool.false_and, Bool.or_false, Bool.or_true, Bool.true_or, Bool.false_or, Bool.or_self, C_dregF, goD_s, goD2_t, stb_n, stb_c, stK_n, stK_c, stV_s, stB_f, beq_int, beq_bool, beq_tup0, beq_nils, beq_simm0, beq_str, beq_sobj, beq_pobj, opsD_nil, opsD_u, opsD_g, goOD_s, preD_t, preD_f, AOp.loud, AOp.births, st1_u, st1_g, Int.reduceAdd, Int.reduceSub, Int.reduceMul, Int.reduceNeg, Int.reduceToNat, eqbB_s, beq_refl, beqs_refl, stB_t, beO_s, stBv_t, stBv_p, stBv_o, st1b_alloc, st1b_box, st1b_bslice, st1b_mksl, AP.f89L1, ln, i1, i2, b1, b2, w1, w2, s1, w3, w4, w5, w6, w7, eh1', k1, k2, lE, cE, fE, n1', p1, op_mx2, amax2_s]
theorem maxI_le (a b : Int) : a ≤ maxI a b ∧ b ≤ maxI a b := by unfold maxI; split <;> omega
theorem foldl_max : ∀ (ks : List Nat) (b : Int), b ≤ ks.foldl (fun (b : Int) (k : Nat) => maxI b (k : Int)) b ∧ (∀ k ∈ ks, (k : Int) ≤ ks.foldl (fun (b : Int) (k : Nat) => maxI b (k : Int)) b) ∧ (ks.foldl (fun (b : Int) (k : Nat) => maxI b (k : Int)) b = b ∨ ∃ k ∈ ks, ks.foldl (fun (b : Int) (k : Nat) => maxI b (k : Int)) b = (k : Int))
  | [], b => ⟨Int.le_refl _, (fun k h => by cases h), .inl rfl⟩
  | x :: ks, b => by
    obtain ⟨h1, h2, h3⟩ := foldl_max ks (maxI b x)
    obtain ⟨m1, m2⟩ := maxI_le b x
    simp only [List.foldl_cons]
    refine ⟨Int.le_trans m1 h1, ?_, ?_⟩
    · intro k hk
      rcases List.mem_cons.1 hk with rfl | hk
      · exact Int.le_trans m2 h1
      · exact h2 k hk
    · rcases h3 with h3 | ⟨k, hk, h3⟩
      · rw [h3]
        unfold maxI
        split
        · exact .inr ⟨x, by simp, rfl⟩
        · exact .inl rfl
      · exact .inr ⟨k, by simp [hk], h3⟩
theorem bestL_eq {ks : List Nat} {k : Nat} (hk : k ∈ ks) (h : ∀ j ∈ ks, j ≤ k) : bestL ks = k := by
  obtain ⟨h1, h2, h3⟩ := foldl_max ks (-1)
  have a := h2 k hk
  unfold bestL
  rcases h3 with h3 | ⟨j, hj, h3⟩
  · omega
  · have := h j hj; omega
theorem tm_n {a n : Nat} (hn : 0 < n) : abin .rem (.int .i64 ((a : Nat) : Int)) (.int .i64 (n : Int)) = some (.int .i64 ((a % n : Nat) : Int)) := by
  show (if (n : Int) = 0 then none else some (AV.int .i64 ((a : Int).tmod n))) = _
  rw [if_neg (by omega), Int.tmod_eq_emod_of_nonneg (by omega)]; rfl
theorem er2_loop (ks : List Nat) (hks : ∀ k ∈ ks, k < 256) (h8 : ks.length ≤ 8) (id m : Nat) (hne : id ≠ m) (fr : Nat) (hfr : fr < ks.length) (b : AV) : ∀ (n i : Nat) (g : H) (k : Nat) (v : List Int), i + n = ks.length → 1 ≤ i → g.get id = some (eksC ks) → g.get m = some (entC (entKv k v) (vecV v)) → g.floor ≤ m → g.floor ≤ g.next → k ∈ ks → VOk v → (∀ t (_ : t < i), ks[(fr + t) % ks.length]'(Nat.mod_lt _ (by omega)) ≤ k) →
    ∃ e' g' k' v', Lp AP.A [5, 6, 9, 10, 11] AP.f89L0 [(5, .sobj id 0 ks.length 9), (6, b), (9, .int .i64 fr), (10, .pobj m 0), (11, .int .i64 i)] g = some (.exit 2, e', g') ∧ look e' 6 = b ∧ look e' 10 = .pobj m 0 ∧ g'.get m = some (entC (entKv k' v') (vecV v')) ∧ g'.floor ≤ g'.next ∧ VOk v' ∧ k' ∈ ks ∧ (∀ j ∈ ks, j ≤ k')
  | 0, i, g, k, v, hi, h1, gi, gm, fm, fn, hk, hv, hall => by
    refine ⟨[(5, .sobj id 0 ks.length 9), (6, b), (9, .int .i64 fr), (10, .pobj m 0), (11, .int .i64 i), (76, .bool false)], g, k, v, Lp_exit ?_, rfl, rfl, gm, fn, hv, hk, ?_⟩
    · simp (disch := first | omega | (simp only [H.next_alloc, H.next_set, nx_del, nx_fence, H.floor_alloc, H.floor_set, fl_del, fl_fence, List.length_cons, List.length_nil, Nat.zero_add, Nat.reduceAdd]; first | done | omega | fail) | (simp (disch := first | omega | (simp only [H.next_alloc, H.next_set, nx_del, nx_fence, H.floor_alloc, H.floor_set, fl_del, fl_fence, List.length_cons, List.length_nil, Nat.zero_add, Nat.reduceAdd]; first | done | omega | fail) | fail) only [H.next_alloc, H.next_set, nx_del, nx_fence, H.floor_alloc, H.floor_set, fl_del, fl_fence, List.length_cons, List.length_nil, Nat.zero_add, Nat.reduceAdd, get_hit, get_miss, set_hit, set_miss, del_miss, gt_fence, Option.map_some]; done) | fail) only [go_sem, abin_shl, abin_shr, Nat.reduceEqDiff, reduceIte, Nat.reduceAdd, Nat.reduceMul, Nat.reduceLT, Nat.reduceLeDiff, Int.reduceBEq, Int.reduceBNe, Int.reduceLT, Int.reduceLE, Int.reduceEq, dt, df, eqt, eqf, net, nef, wi, wb, alen_str, idxs_at, tn_add, tn_nat, aix, get_hit, get_miss, set_hit, set_miss, H.floor_alloc, H.next_alloc, H.floor_set, H.next_set, stO_d, condO_t, fill_n, fill_c, fillS_s, bir_bslice, bir_alloc, bir_box, birB_s, repl_s, repl_z, List.map_cons, List.map_nil, setFrom_nil, setFrom_cons, allsc_nil, allsc_cons, Bool.and_true, Bool.true_and, Bool.and_self, List.append_nil, Option.map_some, Option.map_none, iadr_s, iadr_m, idP_s, idQ_s, bir_mksl, mkslB_s, alen_s, alen_n, alen_m, Bool.and_false, Bool.false_and, Bool.or_false, Bool.or_true, Bool.true_or, Bool.false_or, Bool.or_self, C_dregF, goD_s, goD2_t, stb_n, stb_c, stK_n, stK_c, stV_s, stB_f, beq_int, beq_bool, beq_tup0, beq_nils, beq_simm0, beq_str, beq_sobj, beq_pobj, opsD_nil, opsD_u, opsD_g, goOD_s, preD_t, preD_f, AOp.loud, AOp.births, st1_u, st1_g, Int.reduceAdd, Int.reduceSub, Int.reduceMul, Int.reduceNeg, Int.reduceToNat, eqbB_s, beq_refl, beqs_refl, stB_t, beO_s, stBv_t, stBv_p, stBv_o, st1b_alloc, st1b_box, st1b_bslice, st1b_mksl, nx_fence, gt_fence, fl_fence, nx_del, fl_del, del_miss, rdT, List.take_succ_cons, List.take_zero, List.drop_zero, List.drop_succ_cons, selO_t, selO_f, srcO_s, src_o, src_m, src_n, src_s, appS_s, app_b, apO_s, apc_o, apc_n, roomy_t, Int.cast_ofNat_Int, Int.natCast_one, Int.natCast_zero, at_z, at_s, tl_z, tl_s, List.length_set, AP.f89L0]
    · intro j hj
      obtain ⟨x, hx, rfl⟩ := List.mem_iff_getElem.1 hj
      have := hall ((x + ks.length - fr) % ks.length) (by rw [show i = ks.length by omega]; exact Nat.mod_lt _ (by omega))
      have e : (fr + (x + ks.length - fr) % ks.length) % ks.length = x := by
        rw [Nat.add_mod_mod, show fr + (x + ks.length - fr) = x + ks.length by omega, Nat.add_mod_right, Nat.mod_eq_of_lt hx]
      simp only [e] at this
      exact this
  | n + 1, i, g, k, v, hi, h1, gi, gm, fm, fn, hk, hv, hall => by
    obtain ⟨J, hJ⟩ : ∃ J, J = (fr + i) % ks.length := ⟨_, rfl⟩
    have hJ2 : J < ks.length := by rw [hJ]; exact Nat.mod_lt _ (by omega)
    obtain ⟨j, hj⟩ : ∃ j, j = ks[J] := ⟨_, rfl⟩
    have hjm : j ∈ ks := by rw [hj]; exact List.getElem_mem hJ2
    have hjv := entK_vok (hks j hjm)
    have mg := mergeK (hks k hk) (hks j hjm) hv hjv
    obtain ⟨k', hk'⟩ : ∃ k', k' = if k < j then j else k := ⟨_, rfl⟩
    obtain ⟨v', hv'⟩ : ∃ v', v' = joinL v (entK j).vec := ⟨_, rfl⟩
    rw [← hk', ← hv'] at mg
    have vok' : VOk v' := by rw [hv']; exact joinL_ok hv hjv
    have hk'm : k' ∈ ks := by rw [hk']; split <;> assumption
    have sz : ∀ k, (entK k).name.size < 1125899906842624 ∧ (entK k).packed.size < 1125899906842624 := fun k => ⟨(by decide : nA.size < 1125899906842624), by show (txtK k).size < _; unfold txtK; rw [bytesOf_size]; exact (by decide : 2 < 1125899906842624)⟩
    obtain ⟨A, hA⟩ : ∃ A, A = entC (entKv k v) (vecV v) := ⟨_, rfl⟩
    obtain ⟨B, hB⟩ : ∃ A, A = ekC j := ⟨_, rfl⟩
    obtain ⟨C, hC⟩ : ∃ A, A = entC (entKv k' v') (vecV v') := ⟨_, rfl⟩
    have k1 : ∀ g : H, g.floor ≤ g.next → callW AP.A 97 [.agg A, .agg B] g = some (.tup [.agg C, .int .i64 0], g) := fun g hg => by
      have := merge_o hg (entKv k v) (entKv j (entK j).vec) hv.1 hjv.1 (sz k).1 (sz j).1 (sz k).2 (sz j).2
      rw [mg] at this
      rw [hA, hB, hC]; exact this
    have lA : A.length = 9 := by rw [hA]; rfl
    have cA : AV.allsc A = true := by rw [hA]; exact ent_sc (vecV_sc _)
    have tA : List.take 9 A = A := by rw [hA]; rfl
    have lC : C.length = 9 := by rw [hC]; rfl
    have cC : AV.allsc C = true := by rw [hC]; exact ent_sc (vecV_sc _)
    have tC : List.take 9 C = C := by rw [hC]; rfl
    have fC : setFrom Z9 0 C = C := by rw [hC]; rfl
    have fC2 : setFrom A 0 C = C := by rw [hA, hC]; rfl
    have le := eksC_len ks
    have tB : List.take 9 (List.drop (J * 9) (eksC ks)) = B := by
      rw [hB]; exact fm_take ekC_len (by rw [List.getElem?_eq_getElem hJ2, ← hj])
    have lt : id < g.next := g.lt _ _ gi
    have lt2 : m < g.next := g.lt _ _ gm
    rw [← hA] at gm
    obtain ⟨G, hG⟩ : ∃ G, G = ((g.alloc Z9).set g.next C).set m C := ⟨_, rfl⟩
    have gi' : G.get id = some (eksC ks) := by rw [hG, set_miss hne, set_miss (by omega), get_miss (by omega), gi]
    have gm' : G.get m = some C := by rw [hG, set_hit rfl, set_miss (by omega), get_miss (by omega), gm]; rfl
    have fm' : G.floor ≤ m := by rw [hG]; simpa using fm
    have fn' : G.floor ≤ G.next := by rw [hG]; simp; omega
    obtain ⟨e', g', kk, vv, r1, r2⟩ := er2_loop ks hks h8 id m hne fr hfr b n (i + 1) G k' v' (by omega) (by omega) gi' (by rw [gm', hC]) fm' fn' hk'm vok' (by
      intro t ht
      have hkk : k ≤ k' := by rw [hk']; split <;> omega
      by_cases c : t = i
      · subst c
        have : ks[(fr + t) % ks.length]'(Nat.mod_lt _ (by omega)) = j := by rw [hj]; congr 1; exact hJ.symm
        rw [this, hk']; split <;> omega
      · exact Nat.le_trans (hall t (by omega)) hkk)
    have n1 : ((i + 1 : Nat) : Int) = (i : Int) + 1 := by omega
    rw [n1] at r1
    have w1 : IntKind.wrap .i64 ((fr : Int) + (i : Int)) = ((fr + i : Nat) : Int) := by rw [wi (by omega)]; omega
    have rm := tm_n (a := fr + i) (n := ks.length) (by omega)
    rw [← hJ] at rm
    have k9 := fun (g : H) n => num_c g n
    simp only [I] at k9
    have gC : ((g.alloc Z9).set g.next C).get m = some A := by rw [set_miss (by omega), get_miss (by omega), gm]
    refine ⟨e', g', kk, vv, Lp_next ?_ r1, r2⟩
    clear hall mg hA hB hC hk' hv' hJ hj gi' gm'
    have hG' := hG.symm
    clear hG
    generalize eksC ks = E at *
    simp (disch := first | omega | (simp only [H.next_alloc, H.next_set, nx_del, nx_fence, H.floor_alloc, H.floor_set, fl_del, fl_fence, List.length_cons, List.length_nil, Nat.zero_add, Nat.reduceAdd]; first | done | omega | fail) | (simp (disch := first | omega | (simp only [H.next_alloc, H.next_set, nx_del, nx_fence, H.floor_alloc, H.floor_set, fl_del, fl_fence, List.length_cons, List.length_nil, Nat.zero_add, Nat.reduceAdd]; first | done | omega | fail) | fail) only [H.next_alloc, H.next_set, nx_del, nx_fence, H.floor_alloc, H.floor_set, fl_del, fl_fence, List.length_cons, List.length_nil, Nat.zero_add, Nat.reduceAdd, get_hit, get_miss, set_hit, set_miss, del_miss, gt_fence, Option.map_some]; done) | fail) only [go_sem, abin_shl, abin_shr, Nat.reduceEqDiff, reduceIte, Nat.reduceAdd, Nat.reduceMul, Nat.reduceLT, Nat.reduceLeDiff, Int.reduceBEq, Int.reduceBNe, Int.reduceLT, Int.reduceLE, Int.reduceEq, dt, df, eqt, eqf, net, nef, wi, wb, alen_str, idxs_at, tn_add, tn_nat, aix, get_hit, get_miss, set_hit, set_miss, H.floor_alloc, H.next_alloc, H.floor_set, H.next_set, stO_d, condO_t, fill_n, fill_c, fillS_s, bir_bslice, bir_alloc, bir_box, birB_s, repl_s, repl_z, List.map_cons, List.map_nil, setFrom_nil, setFrom_cons, allsc_nil, allsc_cons, Bool.and_true, Bool.true_and, Bool.and_self, List.append_nil, Option.map_some, Option.map_none, iadr_s, iadr_m, idP_s, idQ_s, bir_mksl, mkslB_s, alen_s, alen_n, alen_m, Bool.and_false, Bool.false_and, Bool.or_false, Bool.or_true, Bool.true_or, Bool.false_or, Bool.or_self, C_dregF, goD_s, goD2_t, stb_n, stb_c, stK_n, stK_c, stV_s, stB_f, beq_int, beq_bool, beq_tup0, beq_nils, beq_simm0, beq_str, beq_sobj, beq_pobj, opsD_nil, opsD_u, opsD_g, goOD_s, preD_t, preD_f, AOp.loud, AOp.births, st1_u, st1_g, Int.reduceAdd, Int.reduceSub, Int.reduceMul, Int.reduceNeg, Int.reduceToNat, eqbB_s, beq_refl, beqs_refl, stB_t, beO_s, stBv_t, stBv_p, stBv_o, st1b_alloc, st1b_box, st1b_bslice, st1b_mksl, nx_fence, gt_fence, fl_fence, nx_del, fl_del, del_miss, rdT, List.take_succ_cons, List.take_zero, List.drop_zero, List.drop_succ_cons, selO_t, selO_f, srcO_s, src_o, src_m, src_n, src_s, appS_s, app_b, apO_s, apc_o, apc_n, roomy_t, Int.cast_ofNat_Int, Int.natCast_one, Int.natCast_zero, at_z, at_s, tl_z, tl_s, List.length_set, AP.f89L0, gi, gm, gC, lA, cA, tA, lC, cC, tC, fC, fC2, le, tB, w1, rm, k1, k9, hG', tn_nat]
set_option maxHeartbeats 2000000 in
theorem erow_c (h : H) (w : AV) (l : List Int) (turn : Int) (rd : Rd h w (ints l)) (hl : l.length < 20000000000000) : callW AP.A 89 [w, .int .i64 turn] h = some (.bool true, h) := by
  have k0 : ∀ g, callW AP.A 95 [] g = some (.bool true, g) := awake15_c
  have rdf := rd.mono (get_fence_mono h)
  obtain ⟨e1, h1, ov, r1, r2, r3, r4, o, f1⟩ := er_loop hl (.int .i64 turn) h.fence rdf (keysL l) [] 0 h.fence .nils rfl rfl OwnN.nil (by simp) (Ext.refl _) (Nat.le_refl _) (fun j hj => by cases hj)
  have r1' : Lp AP.A [0, 1, 5, 6, 7] AP.f89L1 [(0, w), (1, .int .i64 turn), (5, .nils), (6, .int .i64 (-1)), (7, .int .i64 0)] h.fence = some (.exit 0, e1, h1) := r1
  clear r1
  have h8 : (keysL l).length ≤ 8 := by simp [keysL]; omega
  have hks : ∀ k ∈ keysL l, k < 256 := by
    intro k hk
    obtain ⟨p, _, rfl⟩ := List.mem_map.1 hk
    exact keyAt_lt _ _
  generalize keysL l = ks at *
  obtain ⟨ol, o | ⟨id, ho, hid, hf, hp⟩⟩ := o
  · obtain ⟨o1, o2⟩ := o
    rw [o1] at r3
    refine pure_c (fn := AP.f89) (h2 := h1) (e := [(4, .bool true)]) rfl rfl rfl ?_ rfl rfl
    simp (disch := first | omega | (simp only [H.next_alloc, H.next_set, nx_del, nx_fence, H.floor_alloc, H.floor_set, fl_del, fl_fence, List.length_cons, List.length_nil, Nat.zero_add, Nat.reduceAdd]; first | done | omega | fail) | (simp (disch := first | omega | (simp only [H.next_alloc, H.next_set, nx_del, nx_fence, H.floor_alloc, H.floor_set, fl_del, fl_fence, List.length_cons, List.length_nil, Nat.zero_add, Nat.reduceAdd]; first | done | omega | fail) | fail) only [H.next_alloc, H.next_set, nx_del, nx_fence, H.floor_alloc, H.floor_set, fl_del, fl_fence, List.length_cons, List.length_nil, Nat.zero_add, Nat.reduceAdd, get_hit, get_miss, set_hit, set_miss, del_miss, gt_fence, Option.map_some]; done) | fail) only [go_sem, abin_shl, abin_shr, Nat.reduceEqDiff, reduceIte, Nat.reduceAdd, Nat.reduceMul, Nat.reduceLT, Nat.reduceLeDiff, Int.reduceBEq, Int.reduceBNe, Int.reduceLT, Int.reduceLE, Int.reduceEq, dt, df, eqt, eqf, net, nef, wi, wb, alen_str, idxs_at, tn_add, tn_nat, aix, get_hit, get_miss, set_hit, set_miss, H.floor_alloc, H.next_alloc, H.floor_set, H.next_set, stO_d, condO_t, fill_n, fill_c, fillS_s, bir_bslice, bir_alloc, bir_box, birB_s, repl_s, repl_z, List.map_cons, List.map_nil, setFrom_nil, setFrom_cons, allsc_nil, allsc_cons, Bool.and_true, Bool.true_and, Bool.and_self, List.append_nil, Option.map_some, Option.map_none, iadr_s, iadr_m, idP_s, idQ_s, bir_mksl, mkslB_s, alen_s, alen_n, alen_m, Bool.and_false, Bool.false_and, Bool.or_false, Bool.or_true, Bool.true_or, Bool.false_or, Bool.or_self, C_dregF, goD_s, goD2_t, stb_n, stb_c, stK_n, stK_c, stV_s, stB_f, beq_int, beq_bool, beq_tup0, beq_nils, beq_simm0, beq_str, beq_sobj, beq_pobj, opsD_nil, opsD_u, opsD_g, goOD_s, preD_t, preD_f, AOp.loud, AOp.births, st1_u, st1_g, Int.reduceAdd, Int.reduceSub, Int.reduceMul, Int.reduceNeg, Int.reduceToNat, eqbB_s, beq_refl, beqs_refl, stB_t, beO_s, stBv_t, stBv_p, stBv_o, st1b_alloc, st1b_box, st1b_bslice, st1b_mksl, nx_fence, gt_fence, fl_fence, nx_del, fl_del, del_miss, rdT, List.take_succ_cons, List.take_zero, List.drop_zero, List.drop_succ_cons, selO_t, selO_f, srcO_s, src_o, src_m, src_n, src_s, appS_s, app_b, apO_s, apc_o, apc_n, roomy_t, Int.cast_ofNat_Int, Int.natCast_one, Int.natCast_zero, at_z, at_s, tl_z, tl_s, List.length_set, AP.f89, k0, evC_loop, r1', r2, r3, r4]
  · rw [ho] at r3
    obtain ⟨r, hrr, hu⟩ := urem turn ks.length hp
    have hu2 : IntKind.wrap .u64 (ks.length : Int) = ks.length := by simp only [IntKind.wrap, IntKind.signed, IntKind.bits]; simp; omega
    have rm : abin .rem (.int .u64 (IntKind.wrap .u64 turn)) (.int .u64 (ks.length : Int)) = some (.int .u64 r) := by
      show (if (ks.length : Int) = 0 then none else some (AV.int .u64 ((IntKind.wrap .u64 turn).tmod ks.length))) = _
      rw [if_neg (by omega), hu]
    have cr : IntKind.wrap .i64 (r : Int) = r := wi (by omega)
    have le := eksC_len ks
    obtain ⟨k0', hk0⟩ : ∃ k, k = ks[r] := ⟨_, rfl⟩
    have hkm : k0' ∈ ks := by rw [hk0]; exact List.getElem_mem hrr
    obtain ⟨A, hA⟩ : ∃ A, A = ekC k0' := ⟨_, rfl⟩
    have tA : List.take 9 (List.drop (r * 9) (eksC ks)) = A := by
      rw [hA]; exact fm_take ekC_len (by rw [List.getElem?_eq_getElem hrr, ← hk0])
    have lA : A.length = 9 := by rw [hA]; rfl
    have cA : AV.allsc A = true := by rw [hA]; exact ekC_sc _
    have fA : setFrom Z9 0 A = A := by rw [hA]; rfl
    have lt := h1.lt _ _ hid
    obtain ⟨G, hG⟩ : ∃ G, G = (h1.alloc Z9).set h1.next A := ⟨_, rfl⟩
    have gi : G.get id = some (eksC ks) := by rw [hG, set_miss (by omega), get_miss (by omega), hid]
    have gm : G.get h1.next = some (entC (entKv k0' (entK k0').vec) (vecV (entK k0').vec)) := by rw [hG, set_hit rfl, get_hit rfl, hA]; rfl
    obtain ⟨e2, g2, k, v, s1, s2, s3, s4, s5, s6, s7, s8⟩ := er2_loop ks hks h8 id h1.next (by omega) r hrr (.int .i64 (bestL ks)) (ks.length - 1) 1 G k0' (entK k0').vec (by omega) (by omega) gi gm (by rw [hG]; simpa using f1) (by rw [hG]; simp; omega) hkm (entK_vok (hks _ hkm)) (by
      intro t ht
      obtain rfl : t = 0 := by omega
      have : ks[(r + 0) % ks.length]'(Nat.mod_lt _ (by omega)) = k0' := by rw [hk0]; congr 1; rw [Nat.add_zero, Nat.mod_eq_of_lt hrr]
      rw [this]; exact Nat.le_refl _)
    have s1' : Lp AP.A [5, 6, 9, 10, 11] AP.f89L0 [(5, .sobj id 0 ks.length 9), (6, .int .i64 (bestL ks)), (9, .int .i64 r), (10, .pobj h1.next 0), (11, .int .i64 1)] G = some (.exit 2, e2, g2) := s1
    clear s1
    have hb := bestL_eq s7 s8
    rw [hb] at s1' s2 r4
    have hk := hks k s7
    have vok := s6
    have tx := entKv_text hk vok
    have sz : (entKv k v).name.size < 1125899906842624 ∧ (entKv k v).packed.size < 1125899906842624 := ⟨(by decide : nA.size < 1125899906842624), by show (txtK k).size < _; unfold txtK; rw [bytesOf_size]; exact (by decide : 2 < 1125899906842624)⟩
    obtain ⟨M, hM⟩ : ∃ M, M = entC (entKv k v) (vecV v) := ⟨_, rfl⟩
    have okM : EOk g2 (entKv k v, vecV v) := by
      refine ⟨?_, by show v.length < _; rw [vok.1]; omega, sz.1, sz.2⟩
      show Rd g2 (vecV v) (ints v)
      rw [vecV_4 vok.1]; have := rd_imm g2 v; unfold immI at this; rw [vok.1] at this; exact this
    have kt : callW AP.A 100 [.agg M] g2 = some (.tup [.str (txtK k), .int .i64 0], g2) := by
      have := etext_c g2 s5 (entKv k v) (vecV v) (vecV_sc _) okM
      unfold txtV at this
      rw [tx] at this
      rw [hM]; exact this
    have kc : ∀ g, callW AP.A 101 [.str (txtK k)] g = some (.int .i64 (crcA (txtK k) : Nat), g) := fun g => crc2_c g _ (by unfold txtK; rw [bytesOf_size]; exact (by decide : 2 < 1125899906842624))
    have tM : List.take 9 M = M := by rw [hM]; rfl
    have lM : M.length = 9 := by rw [hM]; rfl
    have M3 : M[3]? = some (.int .i64 ((1 + k / 4 : Nat) : Int)) := by rw [hM]; rfl
    have M4 : M[4]? = some (.int .i64 ((k % 4 : Nat) : Int)) := by rw [hM]; rfl
    have M8 : M[8]? = some (.int .i64 ((crcA (txtK k) : Nat) : Int)) := by rw [hM]; rfl
    rw [← hM] at s4
    have b2 : bits .and .i64 (k : Int) 3 = ((k % 4 : Nat) : Int) := by rw [and3]; omega
    have q1 := shr2 (a := k)
    have w3 : IntKind.wrap .i64 (1 + ((k / 4 : Nat) : Int)) = ((1 + k / 4 : Nat) : Int) := by rw [wi (by omega)]; omega
    have w4 : IntKind.wrap .i64 (97 + ((k / 4 : Nat) : Int)) = ((97 + k / 4 : Nat) : Int) := by rw [wi (by omega)]; omega
    have w5 : IntKind.wrap .i64 (48 + ((k % 4 : Nat) : Int)) = ((48 + k % 4 : Nat) : Int) := by rw [wi (by omega)]; omega
    have w6 := wb' (n := 97 + k / 4) (by omega)
    have w7 := wb' (n := 48 + k % 4) (by omega)
    have k2 : ∀ (g : H) (p : Nat), b2sB g (.sobj p 0 2 1) (some (2, [.int .u8 ((97 + k / 4 : Nat) : Int), .int .u8 ((48 + k % 4 : Nat) : Int)])) = some (.str (txtK k), g) := fun g p => by
      have : [AV.int .u8 ((97 + k / 4 : Nat) : Int), .int .u8 ((48 + k % 4 : Nat) : Int)] = bys [97 + k / 4, 48 + k % 4] := rfl
      rw [this]
      simp only [b2sB, Option.bind_some, b2s_bys]; rfl
    have y1 : abin .eql (.str (txtK k)) (.str (txtK k)) = some (.bool true) := by rw [str_eql, str_same]
    have k9 := fun (g : H) n => num_c g n
    simp only [I] at k9
    have lt9 : h1.next < g2.next := g2.lt _ _ s4
    have hG' := hG.symm
    clear hM okM hG gi gm hA hk0 s8 hb
    generalize eksC ks = E at *
    obtain ⟨g3, hh⟩ : ∃ g3, evC (callW AP.A) loopW AP.f89.body (params 0 [w, .int .i64 turn]) h.fence = some (.ret, [(4, .bool true)], g3) := by
      refine ⟨?_, ?_⟩
      rotate_left
      simp (disch := first | omega | (simp only [H.next_alloc, H.next_set, nx_del, nx_fence, H.floor_alloc, H.floor_set, fl_del, fl_fence, List.length_cons, List.length_nil, Nat.zero_add, Nat.reduceAdd]; first | done | omega | fail) | (simp (disch := first | omega | (simp only [H.next_alloc, H.next_set, nx_del, nx_fence, H.floor_alloc, H.floor_set, fl_del, fl_fence, List.length_cons, List.length_nil, Nat.zero_add, Nat.reduceAdd]; first | done | omega | fail) | fail) only [H.next_alloc, H.next_set, nx_del, nx_fence, H.floor_alloc, H.floor_set, fl_del, fl_fence, List.length_cons, List.length_nil, Nat.zero_add, Nat.reduceAdd, get_hit, get_miss, set_hit, set_miss, del_miss, gt_fence, Option.map_some]; done) | fail) only [go_sem, abin_shl, abin_shr, Nat.reduceEqDiff, reduceIte, Nat.reduceAdd, Nat.reduceMul, Nat.reduceLT, Nat.reduceLeDiff, Int.reduceBEq, Int.reduceBNe, Int.reduceLT, Int.reduceLE, Int.reduceEq, dt, df, eqt, eqf, net, nef, wi, wb, alen_str, idxs_at, tn_add, tn_nat, aix, get_hit, get_miss, set_hit, set_miss, H.floor_alloc, H.next_alloc, H.floor_set, H.next_set, stO_d, condO_t, fill_n, fill_c, fillS_s, bir_bslice, bir_alloc, bir_box, birB_s, repl_s, repl_z, List.map_cons, List.map_nil, setFrom_nil, setFrom_cons, allsc_nil, allsc_cons, Bool.and_true, Bool.true_and, Bool.and_self, List.append_nil, Option.map_some, Option.map_none, iadr_s, iadr_m, idP_s, idQ_s, bir_mksl, mkslB_s, alen_s, alen_n, alen_m, Bool.and_false, Bool.false_and, Bool.or_false, Bool.or_true, Bool.true_or, Bool.false_or, Bool.or_self, C_dregF, goD_s, goD2_t, stb_n, stb_c, stK_n, stK_c, stV_s, stB_f, beq_int, beq_bool, beq_tup0, beq_nils, beq_simm0, beq_str, beq_sobj, beq_pobj, opsD_nil, opsD_u, opsD_g, goOD_s, preD_t, preD_f, AOp.loud, AOp.births, st1_u, st1_g, Int.reduceAdd, Int.reduceSub, Int.reduceMul, Int.reduceNeg, Int.reduceToNat, eqbB_s, beq_refl, beqs_refl, stB_t, beO_s, stBv_t, stBv_p, stBv_o, st1b_alloc, st1b_box, st1b_bslice, st1b_mksl, nx_fence, gt_fence, fl_fence, nx_del, fl_del, del_miss, rdT, List.take_succ_cons, List.take_zero, List.drop_zero, List.drop_succ_cons, selO_t, selO_f, srcO_s, src_o, src_m, src_n, src_s, appS_s, app_b, apO_s, apc_o, apc_n, roomy_t, Int.cast_ofNat_Int, Int.natCast_one, Int.natCast_zero, at_z, at_s, tl_z, tl_s, List.length_set, AP.f89, k0, k9, evC_loop, r1', r2, r3, r4, hu2, rm, cr, le, hid, tA, lA, cA, fA, tn_nat, hG', s1', s2, s3, s4, tM, lM, kt, kc, M3, M4, M8, b2, q1, w3, w4, w5, w6, w7, k2, y1]
      rfl
    exact pure_c (fn := AP.f89) (h2 := g3) (e := [(4, .bool true)]) rfl rfl rfl hh rfl rfl
end Ab
namespace Ab
open Go
theorem law_entryRow (r : List (Ty × List AV)) (h : r.map (·.1) = [intsT, intT]) (hp : ∀ x ∈ r, Sh reachBytes x.1 x.2) : callW AP.A 89 (r.map avOf) H.empty = some (.bool true, H.empty) := by
  obtain ⟨x, y, rfl, h1, h2⟩ := row2 h hp
  obtain ⟨w, l, rfl, _, rd, hl⟩ := sh_ints h1
  obtain ⟨b, rfl, _⟩ := sh_int h2
  exact erow_c H.empty w l b (rd _) hl
end Ab
