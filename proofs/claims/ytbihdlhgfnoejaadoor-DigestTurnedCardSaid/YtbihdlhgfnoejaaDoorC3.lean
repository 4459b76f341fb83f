/- Part C3. -/
import Derived.Test.YtbihdlhgfnoejaaDoorC2
set_option linter.unusedSimpArgs false
set_option linter.unusedVariables false
set_option maxRecDepth 100000
namespace Ab
open Go
theorem mayE_eq (e : Ent) : mayE e = (nameA e.name && (headA e && contA e) && (e.gone || (match unpackA e.method e.packed e.size with | some t => decide ((crcA t : Int) = e.crc) | none => false))) := by
  unfold mayE entText
  have hm : mayF [e] = (nameA e.name && (headA e && contA e)) := by simp [mayF, mayL, entOk_n]
  rw [hm]
  cases (nameA e.name && (headA e && contA e)) with
  | false => rfl
  | true =>
    rw [if_neg (by decide)]
    cases e.gone with
    | true => rfl
    | false =>
      rw [if_neg (by decide)]
      cases unpackA e.method e.packed e.size with
      | none => rfl
      | some t =>
        dsimp only
        by_cases c : (crcA t : Int) = e.crc
        · rw [if_pos c]; simp [c]
        · rw [if_neg c]; simp [c]
theorem mayE_of {e x : Ent} (h : mayE e = true) (hx : headA x = true) (h1 : x.name = e.name) (h2 : x.gone = e.gone) (h3 : x.method = e.method) (h4 : x.packed = e.packed) (h5 : x.size = e.size) (h6 : x.crc = e.crc) : mayE x = true := by
  rw [mayE_eq] at h ⊢
  have hc : contA x = contA e := by unfold contA; rw [h2, h3, h4, h5, h6]
  rw [h1, h2, h3, h4, h5, h6, hc, hx]
  simp only [Bool.and_eq_true] at h
  simp only [Bool.and_eq_true, Bool.true_and]
  exact ⟨⟨h.1.1, h.1.2.2⟩, h.2⟩
def turnE (e : Ent) (r : Nat) (m : Int) : Ent := match r with
  | 0 => { e with vec := e.vec.set 0 ((e.vec.getD 0 0 + 1 + m % 1024).tmod 1048577) }
  | 1 => { e with stamp := 1 + (e.stamp + m % 1024).tmod 1048576 }
  | _ => { e with node := (e.node + 1 + m % 2).tmod 4 }
theorem headA_mk {e : Ent} (h1 : e.vec.length = 4) (h2 : ∀ n ∈ e.vec, 0 ≤ n ∧ n ≤ 1048576) (h3 : 1 ≤ e.stamp ∧ e.stamp ≤ 1048576) (h4 : 0 ≤ e.node ∧ e.node < 4) : headA e = true := by
  simp only [headA, vecA, countA, nodeA, Bool.and_eq_true, decide_eq_true_eq, List.all_eq_true]
  exact ⟨⟨h1, h2⟩, h3.1, ⟨by omega, h3.2⟩, h4⟩
theorem tmod_n {a : Int} {n : Int} (ha : 0 ≤ a) (hn : 0 < n) : a.tmod n = a % n := Int.tmod_eq_emod_of_nonneg ha
theorem vec4 {l : List Int} (h : l.length = 4) : ∃ a b c d, l = [a, b, c, d] := by
  match l, h with
  | [a, b, c, d], _ => exact ⟨a, b, c, d, rfl⟩
theorem turn_ne {e : Ent} (h : mayE e = true) (r : Nat) (m : Int) : ∃ a b, digA e = some a ∧ digA (turnE e r m) = some b ∧ a ≠ b ∧ (turnE e r m).vec.length = 4 := by
  obtain ⟨hh, hn, hc⟩ := mayE_head h
  obtain ⟨f1, f2, f3, f4⟩ := headA_facts hh
  refine ⟨sumL' (digL e), sumL' (digL (turnE e r m)), by rw [digA, if_pos h], ?_, ?_, ?_⟩
  · rw [digA, if_pos]
    obtain ⟨n, g, v, s, no, me, pa, si, cr⟩ := e
    obtain ⟨a, b, c, d, rfl⟩ := vec4 f1
    match r with
    | 0 =>
      refine mayE_of h (headA_mk rfl ?_ f3 f4) rfl rfl rfl rfl rfl rfl
      intro x hx
      have f2' := f2
      simp only [List.mem_cons, List.mem_nil_iff, or_false, forall_eq_or_imp, forall_eq] at f2'
      show 0 ≤ x ∧ x ≤ 1048576
      simp only [turnE, List.set_cons_zero, List.getD_cons_zero, List.mem_cons, List.mem_nil_iff, or_false] at hx
      rw [tmod_n (by omega) (by omega)] at hx
      omega
    | 1 =>
      have f3' : 1 ≤ s ∧ s ≤ 1048576 := f3
      refine mayE_of h (headA_mk rfl f2 ?_ f4) rfl rfl rfl rfl rfl rfl
      show 1 ≤ 1 + (s + m % 1024).tmod 1048576 ∧ 1 + (s + m % 1024).tmod 1048576 ≤ 1048576
      rw [tmod_n (by omega) (by omega)]; omega
    | k + 2 =>
      have f4' : 0 ≤ no ∧ no < 4 := f4
      refine mayE_of h (headA_mk rfl f2 f3 ?_) rfl rfl rfl rfl rfl rfl
      show 0 ≤ (no + 1 + m % 2).tmod 4 ∧ (no + 1 + m % 2).tmod 4 < 4
      rw [tmod_n (by omega) (by omega)]; omega
  · intro hs
    obtain ⟨n, g, v, s, no, me, pa, si, cr⟩ := e
    obtain ⟨a, b, c, d, rfl⟩ := vec4 f1
    have f2' := f2
    simp only [List.mem_cons, List.mem_nil_iff, or_false, forall_eq_or_imp, forall_eq] at f2'
    have f3' : 1 ≤ s ∧ s ≤ 1048576 := f3
    have f4' : 0 ≤ no ∧ no < 4 := f4
    match r with
    | 0 =>
      have e1 : ∀ z : Int, digL ⟨n, g, [z, b, c, d], s, no, me, pa, si, cr⟩ = (lowL n.size 1 ++ toL n ++ (lowL 20592 2 ++ lowL 22 2)) ++ lowL z.toNat 4 ++ (lowL b.toNat 4 ++ (lowL c.toNat 4 ++ lowL d.toNat 4) ++ (lowL s.toNat 4 ++ lowL no.toNat 1 ++ lowL (if g then 1 else 0) 1) ++ lowL cr.toNat 4) := fun z => by
        simp [digL, putL, vecL, List.append_assoc]
      have e2 : turnE ⟨n, g, [a, b, c, d], s, no, me, pa, si, cr⟩ 0 m = ⟨n, g, [(a + 1 + m % 1024).tmod 1048577, b, c, d], s, no, me, pa, si, cr⟩ := rfl
      rw [e2, e1, e1] at hs
      have := low4_inj (by omega) (by rw [tmod_n (by omega) (by omega)]; omega) (sum_inj (by simp [lowL_len]) (by simp [lowL_len]) ?_ (lowL_lt _ _) (lowL_lt _ _) ?_ hs)
      · rw [tmod_n (by omega) (by omega)] at this; omega
      · intro x hx
        simp only [List.mem_append] at hx
        rcases hx with ((hx | hx) | (hx | hx)) <;> first | exact lowL_lt _ _ x hx | exact toL_lt _ x hx
      · intro x hx
        simp only [List.mem_append] at hx
        rcases hx with (((hx | (hx | hx)) | ((hx | hx) | hx)) | hx) <;> exact lowL_lt _ _ x hx
    | 1 =>
      have e1 : ∀ z : Int, digL ⟨n, g, [a, b, c, d], z, no, me, pa, si, cr⟩ = (lowL n.size 1 ++ toL n ++ (lowL 20592 2 ++ lowL 22 2) ++ vecL [a, b, c, d]) ++ lowL z.toNat 4 ++ ((lowL no.toNat 1 ++ lowL (if g then 1 else 0) 1) ++ lowL cr.toNat 4) := fun z => by
        simp [digL, putL, List.append_assoc]
      have e2 : turnE ⟨n, g, [a, b, c, d], s, no, me, pa, si, cr⟩ 1 m = ⟨n, g, [a, b, c, d], 1 + (s + m % 1024).tmod 1048576, no, me, pa, si, cr⟩ := rfl
      rw [e2, e1, e1] at hs
      have := low4_inj (by omega) (by rw [tmod_n (by omega) (by omega)]; omega) (sum_inj (by simp [lowL_len]) (by simp [lowL_len]) ?_ (lowL_lt _ _) (lowL_lt _ _) ?_ hs)
      · rw [tmod_n (by omega) (by omega)] at this; omega
      · intro x hx
        simp only [List.mem_append] at hx
        rcases hx with (((hx | hx) | (hx | hx)) | hx) <;> first | exact lowL_lt _ _ x hx | exact toL_lt _ x hx | exact vecL_lt _ x hx
      · intro x hx
        simp only [List.mem_append] at hx
        rcases hx with ((hx | hx) | hx) <;> exact lowL_lt _ _ x hx
    | k + 2 =>
      have e1 : ∀ z : Int, digL ⟨n, g, [a, b, c, d], s, z, me, pa, si, cr⟩ = (lowL n.size 1 ++ toL n ++ (lowL 20592 2 ++ lowL 22 2) ++ vecL [a, b, c, d] ++ lowL s.toNat 4) ++ lowL z.toNat 1 ++ (lowL (if g then 1 else 0) 1 ++ lowL cr.toNat 4) := fun z => by
        simp [digL, putL, List.append_assoc]
      have e2 : turnE ⟨n, g, [a, b, c, d], s, no, me, pa, si, cr⟩ (k + 2) m = ⟨n, g, [a, b, c, d], s, (no + 1 + m % 2).tmod 4, me, pa, si, cr⟩ := rfl
      rw [e2, e1, e1] at hs
      have := low1_inj (by omega) (by rw [tmod_n (by omega) (by omega)]; omega) (sum_inj (by simp [lowL_len]) (by simp [lowL_len]) ?_ (lowL_lt _ _) (lowL_lt _ _) ?_ hs)
      · rw [tmod_n (by omega) (by omega)] at this; omega
      · intro x hx
        simp only [List.mem_append] at hx
        rcases hx with ((((hx | hx) | (hx | hx)) | hx) | hx) <;> first | exact lowL_lt _ _ x hx | exact toL_lt _ x hx | exact vecL_lt _ x hx
      · intro x hx
        simp only [List.mem_append] at hx
        rcases hx with (hx | hx) <;> exact lowL_lt _ _ x hx
  · match r with
    | 0 => show (e.vec.set 0 _).length = 4; rw [List.length_set, f1]
    | 1 => exact f1
    | k + 2 => exact f1
theorem many_ne {l : List Int} (h : ∀ x ∈ l, 0 ≤ x ∧ x ≤ 4294967295) {k : Nat} (hk : k < l.length) {y : Int} (hy : 0 ≤ y ∧ y ≤ 4294967295) (hne : l[k] ≠ y) : ∃ a b, manyA l = some a ∧ manyA (l.set k y) = some b ∧ a ≠ b := by
  refine ⟨sumL' (manyL l), sumL' (manyL (l.set k y)), ?_, ?_, ?_⟩
  · rw [manyA, if_pos]
    rw [List.all_eq_true]; intro x hx; simp only [isA, decide_eq_true_eq]; exact h x hx
  · rw [manyA, if_pos]
    rw [List.all_eq_true]; intro x hx; simp only [isA, decide_eq_true_eq]
    rcases List.mem_or_eq_of_mem_set hx with q | q
    · exact h x q
    · rw [q]; exact hy
  · have hx := h l[k] (List.getElem_mem hk)
    have e1 : l = l.take k ++ l[k] :: l.drop (k + 1) := by rw [List.getElem_cons_drop, List.take_append_drop]
    have e2 : l.set k y = l.take k ++ y :: l.drop (k + 1) := by
      rw [List.set_eq_take_append_cons_drop, if_pos hk]
    have e3 : ∀ z : Int, manyL (l.take k ++ z :: l.drop (k + 1)) = manyL (l.take k) ++ lowL z.toNat 4 ++ manyL (l.drop (k + 1)) := fun z => by simp [manyL]
    intro hs
    rw [e2, e3] at hs
    conv at hs => lhs; rw [e1]
    rw [e3] at hs
    have := low4_inj (by omega) (by omega) (sum_inj (by simp [lowL_len]) (by simp [lowL_len]) (manyL_lt _) (lowL_lt _ _) (lowL_lt _ _) (manyL_lt _) hs)
    omega
def u32L (l : List Int) : List Int := (l.take 10).map (· % 4294967296)
theorem u32_conv (x : Int) : IntKind.wrap .i64 (IntKind.wrap .u32 (IntKind.wrap .u64 x)) = x % 4294967296 := by
  simp only [IntKind.wrap, IntKind.signed, IntKind.bits]; simp; omega
theorem dt_loop {w : AV} {l : List Int} (hl : l.length < 20000000000000) (a b : AV) (h0 : H) (rd0 : Rd h0 w (ints l)) : ∀ (q p : List Int) (i : Nat) (h : H) (ov : AV), u32L l = p ++ q → i = p.length → OwnN 1 h ov p.length (ints p) → h.floor ≤ h.next → Ext h0 h → h0.next ≤ h.next → (∀ j, ov.id? = some j → h0.next ≤ j) →
    ∃ e' h' ov', Lp AP.A [1, 2, 3, 14, 15] AP.f85L0 [(1, a), (2, b), (3, w), (14, ov), (15, .int .i64 i)] h = some (.exit 1, e', h') ∧ look e' 1 = a ∧ look e' 2 = b ∧ look e' 14 = ov' ∧ OwnN 1 h' ov' (u32L l).length (ints (u32L l)) ∧ h'.floor ≤ h'.next
  | [], p, i, h, ov, hp, hi, o, hf, xt, hn, hov => by
    have rd := rd0.mono fun i c q => xt i c q
    have ln := rd.len
    rw [ints_length] at ln
    simp only [I] at ln
    rw [List.append_nil] at hp
    have hz : i = 10 ∨ (i = l.length ∧ i ≤ 10) := by
      have : (u32L l).length = min 10 l.length := by simp [u32L]
      rw [hp] at this; omega
    refine ⟨[(1, a), (2, b), (3, w), (14, ov), (15, .int .i64 i), (92, .bool false)], h, ov, Lp_exit ?_, rfl, rfl, rfl, by rw [hp]; exact o, hf⟩
    clear o hp
    by_cases c : i < l.length
    · simp (disch := omega) only [go_sem, abin_shl, abin_shr, Nat.reduceEqDiff, reduceIte, Nat.reduceAdd, Nat.reduceMul, Nat.reduceLT, Nat.reduceLeDiff, Int.reduceBEq, Int.reduceBNe, Int.reduceLT, Int.reduceLE, Int.reduceEq, dt, df, eqt, eqf, net, nef, wi, wb, alen_str, idxs_at, tn_add, tn_nat, aix, get_hit, get_miss, set_hit, set_miss, H.floor_alloc, H.next_alloc, H.floor_set, H.next_set, stO_d, condO_t, fill_n, fill_c, fillS_s, bir_bslice, bir_alloc, bir_box, birB_s, repl_s, repl_z, List.map_cons, List.map_nil, setFrom_nil, setFrom_cons, allsc_nil, allsc_cons, Bool.and_true, Bool.true_and, Bool.and_self, List.append_nil, Option.map_some, Option.map_none, iadr_s, iadr_m, idP_s, idQ_s, bir_mksl, mkslB_s, alen_s, alen_n, alen_m, Bool.and_false, Bool.false_and, Bool.or_false, Bool.or_true, Bool.true_or, Bool.false_or, Bool.or_self, C_dregF, goD_s, goD2_t, stb_n, stb_c, stK_n, stK_c, stV_s, stB_f, beq_int, beq_bool, beq_tup0, beq_nils, beq_simm0, beq_str, beq_sobj, beq_pobj, opsD_nil, opsD_u, opsD_g, goOD_s, preD_t, preD_f, AOp.loud, AOp.births, st1_u, st1_g, Int.reduceAdd, Int.reduceSub, Int.reduceMul, Int.reduceNeg, Int.reduceToNat, eqbB_s, beq_refl, beqs_refl, stB_t, beO_s, stBv_t, stBv_p, stBv_o, st1b_alloc, st1b_box, st1b_bslice, st1b_mksl, AP.f85L0, ln]
    · simp (disch := omega) only [go_sem, abin_shl, abin_shr, Nat.reduceEqDiff, reduceIte, Nat.reduceAdd, Nat.reduceMul, Nat.reduceLT, Nat.reduceLeDiff, Int.reduceBEq, Int.reduceBNe, Int.reduceLT, Int.reduceLE, Int.reduceEq, dt, df, eqt, eqf, net, nef, wi, wb, alen_str, idxs_at, tn_add, tn_nat, aix, get_hit, get_miss, set_hit, set_miss, H.floor_alloc, H.next_alloc, H.floor_set, H.next_set, stO_d, condO_t, fill_n, fill_c, fillS_s, bir_bslice, bir_alloc, bir_box, birB_s, repl_s, repl_z, List.map_cons, List.map_nil, setFrom_nil, setFrom_cons, allsc_nil, allsc_cons, Bool.and_true, Bool.true_and, Bool.and_self, List.append_nil, Option.map_some, Option.map_none, iadr_s, iadr_m, idP_s, idQ_s, bir_mksl, mkslB_s, alen_s, alen_n, alen_m, Bool.and_false, Bool.false_and, Bool.or_false, Bool.or_true, Bool.true_or, Bool.false_or, Bool.or_self, C_dregF, goD_s, goD2_t, stb_n, stb_c, stK_n, stK_c, stV_s, stB_f, beq_int, beq_bool, beq_tup0, beq_nils, beq_simm0, beq_str, beq_sobj, beq_pobj, opsD_nil, opsD_u, opsD_g, goOD_s, preD_t, preD_f, AOp.loud, AOp.births, st1_u, st1_g, Int.reduceAdd, Int.reduceSub, Int.reduceMul, Int.reduceNeg, Int.reduceToNat, eqbB_s, beq_refl, beqs_refl, stB_t, beO_s, stBv_t, stBv_p, stBv_o, st1b_alloc, st1b_box, st1b_bslice, st1b_mksl, AP.f85L0, ln]
  | x :: q, p, i, h, ov, hp, hi, o, hf, xt, hn, hov => by
    have rd := rd0.mono fun i c q => xt i c q
    have ln := rd.len
    rw [ints_length] at ln
    simp only [I] at ln
    have hlen : (u32L l).length = min 10 l.length := by simp [u32L]
    have hlen2 : (u32L l).length = p.length + (q.length + 1) := by rw [hp]; simp
    obtain ⟨y, hy, hx⟩ : ∃ y, l[i]? = some y ∧ x = y % 4294967296 := by
      have : (u32L l)[i]? = some x := by rw [hp, hi]; simp
      simp only [u32L, List.getElem?_map] at this
      rw [List.getElem?_take, if_pos (by omega)] at this
      cases hq : l[i]? with
      | none => rw [hq] at this; cases this
      | some y => rw [hq] at this; exact ⟨y, rfl, (Option.some.inj this).symm⟩
    obtain ⟨ad, a1, a2⟩ := rd.ints_at
    have i1 := a1 (i : Int) ⟨by omega, by omega⟩
    have c1 := u32_conv y
    rw [← hx] at c1
    have i2 := a2 h (Ext.refl h) i y hy
    obtain ⟨v', h', p1, p2, p3, p4, p5, p6⟩ := o.push (z := 8) (m := 1) hf (by omega) (by omega) [.int .i64 x] rfl rfl (by simp [roomy]; omega)
    have o2 : OwnN 1 h' v' (p ++ [x]).length (ints (p ++ [x])) := by
      rw [List.length_append]
      have : ints (p ++ [x]) = ints p ++ [.int .i64 x] := by simp [ints, I]
      rw [this]; exact p2
    have xt' : Ext h0 h' := fun j c hj => by
      have := h0.lt _ _ hj
      rw [p5 j (fun q => by have := hov j q; omega) (by omega)]; exact xt j c hj
    obtain ⟨e', h2, ov', r1, r2⟩ := dt_loop hl a b h0 rd0 q (p ++ [x]) (i + 1) h' v' (by rw [hp]; simp) (by rw [hi]; simp) o2 (by omega) xt' (by omega) (fun j hj => by rw [p6] at hj; have := Option.some.inj hj; omega)
    have n1 : ((i + 1 : Nat) : Int) = (i : Int) + 1 := by omega
    rw [n1] at r1
    refine ⟨e', h2, ov', Lp_next ?_ r1, r2⟩
    clear o o2 rd a2 hp xt xt'
    simp (disch := omega) only [go_sem, abin_shl, abin_shr, Nat.reduceEqDiff, reduceIte, Nat.reduceAdd, Nat.reduceMul, Nat.reduceLT, Nat.reduceLeDiff, Int.reduceBEq, Int.reduceBNe, Int.reduceLT, Int.reduceLE, Int.reduceEq, dt, df, eqt, eqf, net, nef, wi, wb, alen_str, idxs_at, tn_add, tn_nat, aix, get_hit, get_miss, set_hit, set_miss, H.floor_alloc, H.next_alloc, H.floor_set, H.next_set, stO_d, condO_t, fill_n, fill_c, fillS_s, bir_bslice, bir_alloc, bir_box, birB_s, repl_s, repl_z, List.map_cons, List.map_nil, setFrom_nil, setFrom_cons, allsc_nil, allsc_cons, Bool.and_true, Bool.true_and, Bool.and_self, List.append_nil, Option.map_some, Option.map_none, iadr_s, iadr_m, idP_s, idQ_s, bir_mksl, mkslB_s, alen_s, alen_n, alen_m, Bool.and_false, Bool.false_and, Bool.or_false, Bool.or_true, Bool.true_or, Bool.false_or, Bool.or_self, C_dregF, goD_s, goD2_t, stb_n, stb_c, stK_n, stK_c, stV_s, stB_f, beq_int, beq_bool, beq_tup0, beq_nils, beq_simm0, beq_str, beq_sobj, beq_pobj, opsD_nil, opsD_u, opsD_g, goOD_s, preD_t, preD_f, AOp.loud, AOp.births, st1_u, st1_g, Int.reduceAdd, Int.reduceSub, Int.reduceMul, Int.reduceNeg, Int.reduceToNat, eqbB_s, beq_refl, beqs_refl, stB_t, beO_s, stBv_t, stBv_p, stBv_o, st1b_alloc, st1b_box, st1b_bslice, st1b_mksl, AP.f85L0, ln, i1, i2, c1, p1]
theorem dt_rest {w : AV} {l : List Int} (hl : l.length < 20000000000000) (which m : Int) (g : H) (hg : g.floor ≤ g.next) (rd : Rd g w (ints l)) :
    ∃ h', evC (callW AP.A) loopW (tl_ 4 AP.f85.body) [(1, .int .i64 which), (2, .int .i64 m), (3, w)] g = some (.ret, [(8, .bool true)], h') := by
  obtain ⟨e1, h1, ov, r1, r2, r3, r4, o, f1⟩ := dt_loop hl (.int .i64 which) (.int .i64 m) g rd (u32L l) [] 0 g .nils rfl rfl OwnN.nil hg (Ext.refl g) (Nat.le_refl _) (fun j hj => by cases hj)
  have r1' : Lp AP.A [1, 2, 3, 14, 15] AP.f85L0 [(1, .int .i64 which), (2, .int .i64 m), (3, w), (14, .nils), (15, .int .i64 0)] g = some (.exit 1, e1, h1) := r1
  clear r1
  have h10 : (u32L l).length ≤ 10 := by simp [u32L]; omega
  have hr : ∀ x ∈ u32L l, 0 ≤ x ∧ x ≤ 4294967295 := by
    intro x hx
    obtain ⟨y, _, rfl⟩ := List.mem_map.1 hx
    omega
  generalize u32L l = L at *
  obtain ⟨ol, o | ⟨id, ho, hid, hf, hp⟩⟩ := o
  · obtain ⟨o1, o2⟩ := o
    rw [o1] at r4
    refine ⟨?_, ?_⟩
    rotate_left
    simp (disch := first | omega | (simp only [H.next_alloc, H.next_set, nx_del, nx_fence, H.floor_alloc, H.floor_set, fl_del, fl_fence, List.length_cons, List.length_nil, Nat.zero_add, Nat.reduceAdd]; first | done | omega | fail) | (simp (disch := first | omega | (simp only [H.next_alloc, H.next_set, nx_del, nx_fence, H.floor_alloc, H.floor_set, fl_del, fl_fence, List.length_cons, List.length_nil, Nat.zero_add, Nat.reduceAdd]; first | done | omega | fail) | fail) only [H.next_alloc, H.next_set, nx_del, nx_fence, H.floor_alloc, H.floor_set, fl_del, fl_fence, List.length_cons, List.length_nil, Nat.zero_add, Nat.reduceAdd, get_hit, get_miss, set_hit, set_miss, del_miss, gt_fence, Option.map_some]; done) | fail) only [go_sem, abin_shl, abin_shr, Nat.reduceEqDiff, reduceIte, Nat.reduceAdd, Nat.reduceMul, Nat.reduceLT, Nat.reduceLeDiff, Int.reduceBEq, Int.reduceBNe, Int.reduceLT, Int.reduceLE, Int.reduceEq, dt, df, eqt, eqf, net, nef, wi, wb, alen_str, idxs_at, tn_add, tn_nat, aix, get_hit, get_miss, set_hit, set_miss, H.floor_alloc, H.next_alloc, H.floor_set, H.next_set, stO_d, condO_t, fill_n, fill_c, fillS_s, bir_bslice, bir_alloc, bir_box, birB_s, repl_s, repl_z, List.map_cons, List.map_nil, setFrom_nil, setFrom_cons, allsc_nil, allsc_cons, Bool.and_true, Bool.true_and, Bool.and_self, List.append_nil, Option.map_some, Option.map_none, iadr_s, iadr_m, idP_s, idQ_s, bir_mksl, mkslB_s, alen_s, alen_n, alen_m, Bool.and_false, Bool.false_and, Bool.or_false, Bool.or_true, Bool.true_or, Bool.false_or, Bool.or_self, C_dregF, goD_s, goD2_t, stb_n, stb_c, stK_n, stK_c, stV_s, stB_f, beq_int, beq_bool, beq_tup0, beq_nils, beq_simm0, beq_str, beq_sobj, beq_pobj, opsD_nil, opsD_u, opsD_g, goOD_s, preD_t, preD_f, AOp.loud, AOp.births, st1_u, st1_g, Int.reduceAdd, Int.reduceSub, Int.reduceMul, Int.reduceNeg, Int.reduceToNat, eqbB_s, beq_refl, beqs_refl, stB_t, beO_s, stBv_t, stBv_p, stBv_o, st1b_alloc, st1b_box, st1b_bslice, st1b_mksl, nx_fence, gt_fence, fl_fence, nx_del, fl_del, del_miss, rdT, List.take_succ_cons, List.take_zero, List.drop_zero, List.drop_succ_cons, selO_t, selO_f, srcO_s, src_o, src_m, src_n, src_s, appS_s, app_b, apO_s, apc_o, apc_n, roomy_t, Int.cast_ofNat_Int, Int.natCast_one, Int.natCast_zero, at_z, at_s, tl_z, tl_s, AP.f85, evC_loop, r1', r2, r3, r4]
    rfl
  · rw [ho] at r4
    obtain ⟨r, hrr, hu⟩ := urem which L.length hp
    have hu2 : IntKind.wrap .u64 (L.length : Int) = L.length := by simp only [IntKind.wrap, IntKind.signed, IntKind.bits]; simp; omega
    have rm : abin .rem (.int .u64 (IntKind.wrap .u64 which)) (.int .u64 (L.length : Int)) = some (.int .u64 r) := by
      show (if (L.length : Int) = 0 then none else some (AV.int .u64 ((IntKind.wrap .u64 which).tmod L.length))) = _
      rw [if_neg (by omega), hu]
    have cr : IntKind.wrap .i64 (r : Int) = r := wi (by omega)
    have b1 := and65535 m
    obtain ⟨d, hd⟩ : ∃ d : Nat, 1 + m % 65536 = d := ⟨(1 + m % 65536).toNat, by omega⟩
    have lr := hr L[r] (List.getElem_mem hrr)
    obtain ⟨n, hn⟩ : ∃ n : Nat, L[r] = n := ⟨L[r].toNat, by omega⟩
    have gr : (ints L)[r]? = some (.int .i64 n) := by rw [← hn]; exact ints_get (by simp [hrr])
    have bx := bits_xor_n (a := n) (d := d) (by omega) (by omega)
    have w1 : IntKind.wrap .i64 (1 + m % 65536) = d := by rw [wi (by omega)]; exact hd
    have lt := xor_lt32 (a := n) (b := d) (by omega) (by omega)
    obtain ⟨p1, p2, m1, m2, mne⟩ := many_ne hr hrr (y := ((n ^^^ d : Nat) : Int)) (by omega) (by rw [hn]; have := xor_ne (a := n) (d := d) (by omega); omega)
    have k1 := many_c h1 (.sobj id 0 L.length 1) L (Rd.obj hid rfl) (by omega)
    rw [m1] at k1
    have st : (ints L).set r (.int .i64 ((n ^^^ d : Nat) : Int)) = ints (L.set r ((n ^^^ d : Nat) : Int)) := by simp [ints, I, List.map_set]
    have k2 := many_c (h1.set id (ints (L.set r ((n ^^^ d : Nat) : Int)))) (.sobj id 0 L.length 1) (L.set r ((n ^^^ d : Nat) : Int)) (Rd.obj (by rw [set_hit rfl, hid]; rfl) (by simp)) (by simp; omega)
    rw [m2] at k2
    have ne : ((p1 : Int) != (p2 : Int)) = true := by rw [bne_iff_ne]; omega
    have k9 := fun (g : H) n => num_c g n
    simp only [I] at k9
    have il := ints_length L
    simp only [sumV] at k1 k2
    refine ⟨?_, ?_⟩
    rotate_left
    simp (disch := first | omega | (simp only [H.next_alloc, H.next_set, nx_del, nx_fence, H.floor_alloc, H.floor_set, fl_del, fl_fence, List.length_cons, List.length_nil, Nat.zero_add, Nat.reduceAdd]; first | done | omega | fail) | (simp (disch := first | omega | (simp only [H.next_alloc, H.next_set, nx_del, nx_fence, H.floor_alloc, H.floor_set, fl_del, fl_fence, List.length_cons, List.length_nil, Nat.zero_add, Nat.reduceAdd]; first | done | omega | fail) | fail) only [H.next_alloc, H.next_set, nx_del, nx_fence, H.floor_alloc, H.floor_set, fl_del, fl_fence, List.length_cons, List.length_nil, Nat.zero_add, Nat.reduceAdd, get_hit, get_miss, set_hit, set_miss, del_miss, gt_fence, Option.map_some]; done) | fail) only [go_sem, abin_shl, abin_shr, Nat.reduceEqDiff, reduceIte, Nat.reduceAdd, Nat.reduceMul, Nat.reduceLT, Nat.reduceLeDiff, Int.reduceBEq, Int.reduceBNe, Int.reduceLT, Int.reduceLE, Int.reduceEq, dt, df, eqt, eqf, net, nef, wi, wb, alen_str, idxs_at, tn_add, tn_nat, aix, get_hit, get_miss, set_hit, set_miss, H.floor_alloc, H.next_alloc, H.floor_set, H.next_set, stO_d, condO_t, fill_n, fill_c, fillS_s, bir_bslice, bir_alloc, bir_box, birB_s, repl_s, repl_z, List.map_cons, List.map_nil, setFrom_nil, setFrom_cons, allsc_nil, allsc_cons, Bool.and_true, Bool.true_and, Bool.and_self, List.append_nil, Option.map_some, Option.map_none, iadr_s, iadr_m, idP_s, idQ_s, bir_mksl, mkslB_s, alen_s, alen_n, alen_m, Bool.and_false, Bool.false_and, Bool.or_false, Bool.or_true, Bool.true_or, Bool.false_or, Bool.or_self, C_dregF, goD_s, goD2_t, stb_n, stb_c, stK_n, stK_c, stV_s, stB_f, beq_int, beq_bool, beq_tup0, beq_nils, beq_simm0, beq_str, beq_sobj, beq_pobj, opsD_nil, opsD_u, opsD_g, goOD_s, preD_t, preD_f, AOp.loud, AOp.births, st1_u, st1_g, Int.reduceAdd, Int.reduceSub, Int.reduceMul, Int.reduceNeg, Int.reduceToNat, eqbB_s, beq_refl, beqs_refl, stB_t, beO_s, stBv_t, stBv_p, stBv_o, st1b_alloc, st1b_box, st1b_bslice, st1b_mksl, nx_fence, gt_fence, fl_fence, nx_del, fl_del, del_miss, rdT, List.take_succ_cons, List.take_zero, List.drop_zero, List.drop_succ_cons, selO_t, selO_f, srcO_s, src_o, src_m, src_n, src_s, appS_s, app_b, apO_s, apc_o, apc_n, roomy_t, Int.cast_ofNat_Int, Int.natCast_one, Int.natCast_zero, at_z, at_s, tl_z, tl_s, AP.f85, evC_loop, r1', r2, r3, r4, hu2, rm, cr, b1, w1, gr, hid, bx, st, k1, k2, ne, k9, il]
    rfl
set_option maxHeartbeats 2000000 in
theorem dturned_c (h : H) (e : Ent) (v w : AV) (which m : Int) (l : List Int) (hv : v.sc = true) (ok : EOk h (e, v)) (rd : Rd h w (ints l)) (hl : l.length < 20000000000000) : callW AP.A 85 [.agg (entC e v), .int .i64 which, .int .i64 m, w] h = some (.bool true, h) := by
  have x1 : Ext h (h.fence.alloc (entC e v)) := fun i c q => ((Ext.refl h.fence).alloc _) i c q
  have o1 := ok.mono x1
  obtain ⟨A, hA⟩ : ∃ x, x = entC e v := ⟨_, rfl⟩
  have lA : A.length = 9 := by rw [hA]; rfl
  have cA : AV.allsc A = true := by rw [hA]; exact ent_sc hv
  have tA : List.take 9 A = A := by rw [hA]; rfl
  have k0 : ∀ g, callW AP.A 90 [] g = some (.bool true, g) := awake19_c
  have k1 := digest_c (h.fence.alloc (entC e v)) (by simp) e v hv o1
  rw [← hA] at k1 x1 ⊢
  have k9 := fun (g : H) n => num_c g n
  simp only [I] at k9
  obtain ⟨R, hR⟩ : ∃ R, R = tl_ 4 AP.f85.body := ⟨_, rfl⟩
  have hb : AP.f85.body = .seq (at_ 0 AP.f85.body) (.seq (at_ 1 AP.f85.body) (.seq (at_ 2 AP.f85.body) (.seq (at_ 3 AP.f85.body) R))) := by rw [hR]; rfl
  have rest : ∀ g : H, g.floor ≤ g.next → Ext (h.fence.alloc A) g → ∃ h', evC (callW AP.A) loopW R [(1, .int .i64 which), (2, .int .i64 m), (3, w)] g = some (.ret, [(8, .bool true)], h') := fun g hg hx => by
    rw [hR]
    exact dt_rest hl which m g hg ((rd.mono fun i c q => x1 i c q).mono fun i c q => hx i c q)
  obtain ⟨h2, hh⟩ : ∃ h2, evC (callW AP.A) loopW AP.f85.body (params 0 [.agg A, .int .i64 which, .int .i64 m, w]) h.fence = some (.ret, [(8, .bool true)], h2) := by
    rw [hb]
    clear hb hR
    cases hm : mayE e with
    | false =>
      rw [show digA e = none by rw [digA, if_neg (by rw [hm]; decide)]] at k1
      simp only [sumV] at k1
      obtain ⟨h', r⟩ := rest (h.fence.alloc A) (by simp) (Ext.refl _)
      clear rest
      refine ⟨?_, ?_⟩
      rotate_left
      simp (disch := first | omega | (simp only [H.next_alloc, H.next_set, nx_del, nx_fence, H.floor_alloc, H.floor_set, fl_del, fl_fence, List.length_cons, List.length_nil, Nat.zero_add, Nat.reduceAdd]; first | done | omega | fail) | (simp (disch := first | omega | (simp only [H.next_alloc, H.next_set, nx_del, nx_fence, H.floor_alloc, H.floor_set, fl_del, fl_fence, List.length_cons, List.length_nil, Nat.zero_add, Nat.reduceAdd]; first | done | omega | fail) | fail) only [H.next_alloc, H.next_set, nx_del, nx_fence, H.floor_alloc, H.floor_set, fl_del, fl_fence, List.length_cons, List.length_nil, Nat.zero_add, Nat.reduceAdd, get_hit, get_miss, set_hit, set_miss, del_miss, gt_fence, Option.map_some]; done) | fail) only [go_sem, abin_shl, abin_shr, Nat.reduceEqDiff, reduceIte, Nat.reduceAdd, Nat.reduceMul, Nat.reduceLT, Nat.reduceLeDiff, Int.reduceBEq, Int.reduceBNe, Int.reduceLT, Int.reduceLE, Int.reduceEq, dt, df, eqt, eqf, net, nef, wi, wb, alen_str, idxs_at, tn_add, tn_nat, aix, get_hit, get_miss, set_hit, set_miss, H.floor_alloc, H.next_alloc, H.floor_set, H.next_set, stO_d, condO_t, fill_n, fill_c, fillS_s, bir_bslice, bir_alloc, bir_box, birB_s, repl_s, repl_z, List.map_cons, List.map_nil, setFrom_nil, setFrom_cons, allsc_nil, allsc_cons, Bool.and_true, Bool.true_and, Bool.and_self, List.append_nil, Option.map_some, Option.map_none, iadr_s, iadr_m, idP_s, idQ_s, bir_mksl, mkslB_s, alen_s, alen_n, alen_m, Bool.and_false, Bool.false_and, Bool.or_false, Bool.or_true, Bool.true_or, Bool.false_or, Bool.or_self, C_dregF, goD_s, goD2_t, stb_n, stb_c, stK_n, stK_c, stV_s, stB_f, beq_int, beq_bool, beq_tup0, beq_nils, beq_simm0, beq_str, beq_sobj, beq_pobj, opsD_nil, opsD_u, opsD_g, goOD_s, preD_t, preD_f, AOp.loud, AOp.births, st1_u, st1_g, Int.reduceAdd, Int.reduceSub, Int.reduceMul, Int.reduceNeg, Int.reduceToNat, eqbB_s, beq_refl, beqs_refl, stB_t, beO_s, stBv_t, stBv_p, stBv_o, st1b_alloc, st1b_box, st1b_bslice, st1b_mksl, nx_fence, gt_fence, fl_fence, nx_del, fl_del, del_miss, rdT, List.take_succ_cons, List.take_zero, List.drop_zero, List.drop_succ_cons, selO_t, selO_f, srcO_s, src_o, src_m, src_n, src_s, appS_s, app_b, apO_s, apc_o, apc_n, roomy_t, Int.cast_ofNat_Int, Int.natCast_one, Int.natCast_zero, at_z, at_s, tl_z, tl_s, AP.f85, lA, cA, tA, k0, k1, k9, r]
      rfl
    | true =>
      obtain ⟨hh, hn, hc⟩ := mayE_head hm
      obtain ⟨f1, f2, f3, f4⟩ := headA_facts hh
      obtain ⟨r, hr, hu⟩ := urem which 3 (by omega)
      have rm : abin .rem (.int .u64 (IntKind.wrap .u64 which)) (.int .u64 3) = some (.int .u64 r) := by
        show (if (3 : Int) = 0 then none else some (AV.int .u64 ((IntKind.wrap .u64 which).tmod 3))) = _
        rw [if_neg (by decide), show (IntKind.wrap .u64 which).tmod 3 = (r : Int) from hu]
      obtain ⟨d1, d2, t1, t2, tne, tl⟩ := turn_ne hm r m
      rw [t1] at k1
      simp only [sumV] at k1
      obtain ⟨a, b, c, d, hvec⟩ := vec4 f1
      have hsz : e.name.size < 1125899906842624 := by omega
      have hps : e.packed.size < 1125899906842624 := ok.pl
      have b1 := and1023 m
      have b2 := and1 m
      rw [hvec] at f2
      simp only [List.mem_cons, List.mem_nil_iff, or_false, forall_eq_or_imp, forall_eq] at f2
      obtain ⟨H1, v', c1, c2, c3, c4, c5, c6, c7⟩ := copyE_c (h.fence.alloc A) (by simp) e v hv (by rw [hA]; exact o1) (by omega)
      simp only [H.next_alloc, nx_fence, H.floor_alloc, fl_fence] at c2 c4 c5 c7
      rw [if_neg (by rw [hvec]; simp), f1] at c2
      rw [c2, ← hA] at c1
      have gp := c7 (by omega)
      obtain ⟨p, hp⟩ : ∃ p, p = h.next + 1 + 3 := ⟨_, rfl⟩
      rw [← hp] at c1 gp
      have fp : H1.floor ≤ p := by omega
      have np : p < H1.next := by have := H1.lt _ _ gp; exact this
      obtain ⟨B, hB⟩ : ∃ B, B = entC e (.sobj p 0 4 1) := ⟨_, rfl⟩
      rw [← hB] at c1
      have lB : B.length = 9 := by rw [hB]; rfl
      have cB : AV.allsc B = true := by rw [hB]; rfl
      have tB : List.take 9 B = B := by rw [hB]; rfl
      have fB : setFrom Z9 0 B = B := by rw [hB]; rfl
      have B2 : B[2]? = some (.sobj p 0 4 1) := by rw [hB]; rfl
      have B3 : B[3]? = some (.int .i64 e.stamp) := by rw [hB]; rfl
      have B4 : B[4]? = some (.int .i64 e.node) := by rw [hB]; rfl
      have ne : ((d1 : Int) == (d2 : Int)) = false := by rw [beq_eq_false_iff_ne]; omega
      have hf1 : H1.floor ≤ H1.next := by omega
      have xB : Ext H1 ((H1.alloc Z9).set H1.next B) := ((Ext.refl H1).alloc _).set (Nat.le_refl _) _
      have gB : ((H1.alloc Z9).set H1.next B).get H1.next = some B := by rw [set_hit rfl, get_hit rfl]; rfl
      rw [hvec] at gp
      have gp' : ((H1.alloc Z9).set H1.next B).get p = some [.int .i64 a, .int .i64 b, .int .i64 c, .int .i64 d] := xB _ _ gp
      match r, hr with
      | 0, _ =>
        have e1 : (turnE e 0 m).vec = [(a + 1 + m % 1024).tmod 1048577, b, c, d] := by simp [turnE, hvec]
        obtain ⟨y, hy⟩ : ∃ y, y = (a + 1 + m % 1024).tmod 1048577 := ⟨_, rfl⟩
        rw [← hy] at e1
        have sy : abin .rem (.int .i64 (a + 1 + m % 1024)) (.int .i64 1048577) = some (.int .i64 y) := by
          show (if (1048577 : Int) = 0 then none else some (AV.int .i64 ((a + 1 + m % 1024).tmod 1048577))) = _
          rw [if_neg (by decide), hy]
        have w1 : IntKind.wrap .i64 (a + 1) = a + 1 := wi (by omega)
        have w2 : IntKind.wrap .i64 (a + 1 + m % 1024) = a + 1 + m % 1024 := wi (by omega)
        have q : (((H1.alloc Z9).set H1.next B).set p [.int .i64 y, .int .i64 b, .int .i64 c, .int .i64 d]).get p = some (ints (turnE e 0 m).vec) := by rw [set_hit rfl, gp', e1]; rfl
        have k2 := digest_o (g := ((H1.alloc Z9).set H1.next B).set p [.int .i64 y, .int .i64 b, .int .i64 c, .int .i64 d]) (by simp; omega) (turnE e 0 m) q tl hsz hps
        rw [t2] at k2
        have k2' : callW AP.A 91 [.agg B] (((H1.alloc Z9).set H1.next B).set p [.int .i64 y, .int .i64 b, .int .i64 c, .int .i64 d]) = some (.tup [.int .i64 d2, .int .i64 0], ((H1.alloc Z9).set H1.next B).set p [.int .i64 y, .int .i64 b, .int .i64 c, .int .i64 d]) := by
          rw [show entC (turnE e 0 m) (.sobj p 0 4 1) = B from hB.symm] at k2; exact k2
        obtain ⟨h', r⟩ := rest (((H1.alloc Z9).set H1.next B).set p [.int .i64 y, .int .i64 b, .int .i64 c, .int .i64 d]) (by simp; omega) ((c6.trans xB).set (by simp; omega) _)
        clear rest k2 q e1 hy c3 c6 c7 xB t1 t2 tl hB hA o1 x1
        refine ⟨?_, ?_⟩
        rotate_left
        simp (disch := first | omega | (simp only [H.next_alloc, H.next_set, nx_del, nx_fence, H.floor_alloc, H.floor_set, fl_del, fl_fence, List.length_cons, List.length_nil, Nat.zero_add, Nat.reduceAdd]; first | done | omega | fail) | (simp (disch := first | omega | (simp only [H.next_alloc, H.next_set, nx_del, nx_fence, H.floor_alloc, H.floor_set, fl_del, fl_fence, List.length_cons, List.length_nil, Nat.zero_add, Nat.reduceAdd]; first | done | omega | fail) | fail) only [H.next_alloc, H.next_set, nx_del, nx_fence, H.floor_alloc, H.floor_set, fl_del, fl_fence, List.length_cons, List.length_nil, Nat.zero_add, Nat.reduceAdd, get_hit, get_miss, set_hit, set_miss, del_miss, gt_fence, Option.map_some]; done) | fail) only [go_sem, abin_shl, abin_shr, Nat.reduceEqDiff, reduceIte, Nat.reduceAdd, Nat.reduceMul, Nat.reduceLT, Nat.reduceLeDiff, Int.reduceBEq, Int.reduceBNe, Int.reduceLT, Int.reduceLE, Int.reduceEq, dt, df, eqt, eqf, net, nef, wi, wb, alen_str, idxs_at, tn_add, tn_nat, aix, get_hit, get_miss, set_hit, set_miss, H.floor_alloc, H.next_alloc, H.floor_set, H.next_set, stO_d, condO_t, fill_n, fill_c, fillS_s, bir_bslice, bir_alloc, bir_box, birB_s, repl_s, repl_z, List.map_cons, List.map_nil, setFrom_nil, setFrom_cons, allsc_nil, allsc_cons, Bool.and_true, Bool.true_and, Bool.and_self, List.append_nil, Option.map_some, Option.map_none, iadr_s, iadr_m, idP_s, idQ_s, bir_mksl, mkslB_s, alen_s, alen_n, alen_m, Bool.and_false, Bool.false_and, Bool.or_false, Bool.or_true, Bool.true_or, Bool.false_or, Bool.or_self, C_dregF, goD_s, goD2_t, stb_n, stb_c, stK_n, stK_c, stV_s, stB_f, beq_int, beq_bool, beq_tup0, beq_nils, beq_simm0, beq_str, beq_sobj, beq_pobj, opsD_nil, opsD_u, opsD_g, goOD_s, preD_t, preD_f, AOp.loud, AOp.births, st1_u, st1_g, Int.reduceAdd, Int.reduceSub, Int.reduceMul, Int.reduceNeg, Int.reduceToNat, eqbB_s, beq_refl, beqs_refl, stB_t, beO_s, stBv_t, stBv_p, stBv_o, st1b_alloc, st1b_box, st1b_bslice, st1b_mksl, nx_fence, gt_fence, fl_fence, nx_del, fl_del, del_miss, rdT, List.take_succ_cons, List.take_zero, List.drop_zero, List.drop_succ_cons, selO_t, selO_f, srcO_s, src_o, src_m, src_n, src_s, appS_s, app_b, apO_s, apc_o, apc_n, roomy_t, Int.cast_ofNat_Int, Int.natCast_one, Int.natCast_zero, at_z, at_s, tl_z, tl_s, AP.f85, lA, cA, tA, k0, k1, k9, c1, lB, cB, tB, fB, B2, B3, B4, gB, gp', rm, b1, b2, sy, w1, w2, k2', ne, r]
        rfl
      | 1, _ =>
        have e1 : (turnE e 1 m).vec = [a, b, c, d] := hvec
        obtain ⟨y, hy⟩ : ∃ y, y = (e.stamp + m % 1024).tmod 1048576 := ⟨_, rfl⟩
        have hy2 : 0 ≤ y ∧ y < 1048576 := by rw [hy, tmod_n (by omega) (by omega)]; omega
        have sy : abin .rem (.int .i64 (e.stamp + m % 1024)) (.int .i64 1048576) = some (.int .i64 y) := by
          show (if (1048576 : Int) = 0 then none else some (AV.int .i64 ((e.stamp + m % 1024).tmod 1048576))) = _
          rw [if_neg (by decide), hy]
        have w1 : IntKind.wrap .i64 (e.stamp + m % 1024) = e.stamp + m % 1024 := wi (by omega)
        have w2 : IntKind.wrap .i64 (1 + y) = 1 + y := wi (by omega)
        obtain ⟨B', hB'⟩ : ∃ B', B' = entC (turnE e 1 m) (.sobj p 0 4 1) := ⟨_, rfl⟩
        have sB : B.set 3 (.int .i64 (1 + y)) = B' := by rw [hB, hB', hy]; rfl
        have lB' : B'.length = 9 := by rw [hB']; rfl
        have cB' : AV.allsc B' = true := by rw [hB']; rfl
        have tB' : List.take 9 B' = B' := by rw [hB']; rfl
        have gC : (((H1.alloc Z9).set H1.next B).set H1.next B').get H1.next = some B' := by rw [set_hit rfl, gB]; rfl
        have q : (((H1.alloc Z9).set H1.next B).set H1.next B').get p = some (ints (turnE e 1 m).vec) := by rw [set_miss (by omega), gp', e1]; rfl
        have k2 := digest_o (g := ((H1.alloc Z9).set H1.next B).set H1.next B') (by simp; omega) (turnE e 1 m) q tl hsz hps
        rw [t2, ← hB'] at k2
        simp only [sumV] at k2
        obtain ⟨h', r⟩ := rest (((H1.alloc Z9).set H1.next B).set H1.next B') (by simp; omega) ((c6.trans xB).set (by simp; omega) _)
        clear rest q e1 hy c3 c6 c7 xB t1 t2 tl hB hA o1 x1 hB'
        refine ⟨?_, ?_⟩
        rotate_left
        simp (disch := first | omega | (simp only [H.next_alloc, H.next_set, nx_del, nx_fence, H.floor_alloc, H.floor_set, fl_del, fl_fence, List.length_cons, List.length_nil, Nat.zero_add, Nat.reduceAdd]; first | done | omega | fail) | (simp (disch := first | omega | (simp only [H.next_alloc, H.next_set, nx_del, nx_fence, H.floor_alloc, H.floor_set, fl_del, fl_fence, List.length_cons, List.length_nil, Nat.zero_add, Nat.reduceAdd]; first | done | omega | fail) | fail) only [H.next_alloc, H.next_set, nx_del, nx_fence, H.floor_alloc, H.floor_set, fl_del, fl_fence, List.length_cons, List.length_nil, Nat.zero_add, Nat.reduceAdd, get_hit, get_miss, set_hit, set_miss, del_miss, gt_fence, Option.map_some]; done) | fail) only [go_sem, abin_shl, abin_shr, Nat.reduceEqDiff, reduceIte, Nat.reduceAdd, Nat.reduceMul, Nat.reduceLT, Nat.reduceLeDiff, Int.reduceBEq, Int.reduceBNe, Int.reduceLT, Int.reduceLE, Int.reduceEq, dt, df, eqt, eqf, net, nef, wi, wb, alen_str, idxs_at, tn_add, tn_nat, aix, get_hit, get_miss, set_hit, set_miss, H.floor_alloc, H.next_alloc, H.floor_set, H.next_set, stO_d, condO_t, fill_n, fill_c, fillS_s, bir_bslice, bir_alloc, bir_box, birB_s, repl_s, repl_z, List.map_cons, List.map_nil, setFrom_nil, setFrom_cons, allsc_nil, allsc_cons, Bool.and_true, Bool.true_and, Bool.and_self, List.append_nil, Option.map_some, Option.map_none, iadr_s, iadr_m, idP_s, idQ_s, bir_mksl, mkslB_s, alen_s, alen_n, alen_m, Bool.and_false, Bool.false_and, Bool.or_false, Bool.or_true, Bool.true_or, Bool.false_or, Bool.or_self, C_dregF, goD_s, goD2_t, stb_n, stb_c, stK_n, stK_c, stV_s, stB_f, beq_int, beq_bool, beq_tup0, beq_nils, beq_simm0, beq_str, beq_sobj, beq_pobj, opsD_nil, opsD_u, opsD_g, goOD_s, preD_t, preD_f, AOp.loud, AOp.births, st1_u, st1_g, Int.reduceAdd, Int.reduceSub, Int.reduceMul, Int.reduceNeg, Int.reduceToNat, eqbB_s, beq_refl, beqs_refl, stB_t, beO_s, stBv_t, stBv_p, stBv_o, st1b_alloc, st1b_box, st1b_bslice, st1b_mksl, nx_fence, gt_fence, fl_fence, nx_del, fl_del, del_miss, rdT, List.take_succ_cons, List.take_zero, List.drop_zero, List.drop_succ_cons, selO_t, selO_f, srcO_s, src_o, src_m, src_n, src_s, appS_s, app_b, apO_s, apc_o, apc_n, roomy_t, Int.cast_ofNat_Int, Int.natCast_one, Int.natCast_zero, at_z, at_s, tl_z, tl_s, AP.f85, lA, cA, tA, k0, k1, k9, c1, lB, cB, tB, fB, B2, B3, B4, gB, gC, sB, lB', cB', tB', rm, b1, b2, sy, w1, w2, k2, ne, r]
        rfl
      | 2, _ =>
        have e1 : (turnE e 2 m).vec = [a, b, c, d] := hvec
        obtain ⟨y, hy⟩ : ∃ y, y = (e.node + 1 + m % 2).tmod 4 := ⟨_, rfl⟩
        have sy : abin .rem (.int .i64 (e.node + 1 + m % 2)) (.int .i64 4) = some (.int .i64 y) := by
          show (if (4 : Int) = 0 then none else some (AV.int .i64 ((e.node + 1 + m % 2).tmod 4))) = _
          rw [if_neg (by decide), hy]
        have w1 : IntKind.wrap .i64 (e.node + 1) = e.node + 1 := wi (by omega)
        have w2 : IntKind.wrap .i64 (e.node + 1 + m % 2) = e.node + 1 + m % 2 := wi (by omega)
        obtain ⟨B', hB'⟩ : ∃ B', B' = entC (turnE e 2 m) (.sobj p 0 4 1) := ⟨_, rfl⟩
        have sB : B.set 4 (.int .i64 y) = B' := by rw [hB, hB', hy]; rfl
        have lB' : B'.length = 9 := by rw [hB']; rfl
        have cB' : AV.allsc B' = true := by rw [hB']; rfl
        have tB' : List.take 9 B' = B' := by rw [hB']; rfl
        have gC : (((H1.alloc Z9).set H1.next B).set H1.next B').get H1.next = some B' := by rw [set_hit rfl, gB]; rfl
        have q : (((H1.alloc Z9).set H1.next B).set H1.next B').get p = some (ints (turnE e 2 m).vec) := by rw [set_miss (by omega), gp', e1]; rfl
        have k2 := digest_o (g := ((H1.alloc Z9).set H1.next B).set H1.next B') (by simp; omega) (turnE e 2 m) q tl hsz hps
        rw [t2, ← hB'] at k2
        simp only [sumV] at k2
        obtain ⟨h', r⟩ := rest (((H1.alloc Z9).set H1.next B).set H1.next B') (by simp; omega) ((c6.trans xB).set (by simp; omega) _)
        clear rest q e1 hy c3 c6 c7 xB t1 t2 tl hB hA o1 x1 hB'
        refine ⟨?_, ?_⟩
        rotate_left
        simp (disch := first | omega | (simp only [H.next_alloc, H.next_set, nx_del, nx_fence, H.floor_alloc, H.floor_set, fl_del, fl_fence, List.length_cons, List.length_nil, Nat.zero_add, Nat.reduceAdd]; first | done | omega | fail) | (simp (disch := first | omega | (simp only [H.next_alloc, H.next_set, nx_del, nx_fence, H.floor_alloc, H.floor_set, fl_del, fl_fence, List.length_cons, List.length_nil, Nat.zero_add, Nat.reduceAdd]; first | done | omega | fail) | fail) only [H.next_alloc, H.next_set, nx_del, nx_fence, H.floor_alloc, H.floor_set, fl_del, fl_fence, List.length_cons, List.length_nil, Nat.zero_add, Nat.reduceAdd, get_hit, get_miss, set_hit, set_miss, del_miss, gt_fence, Option.map_some]; done) | fail) only [go_sem, abin_shl, abin_shr, Nat.reduceEqDiff, reduceIte, Nat.reduceAdd, Nat.reduceMul, Nat.reduceLT, Nat.reduceLeDiff, Int.reduceBEq, Int.reduceBNe, Int.reduceLT, Int.reduceLE, Int.reduceEq, dt, df, eqt, eqf, net, nef, wi, wb, alen_str, idxs_at, tn_add, tn_nat, aix, get_hit, get_miss, set_hit, set_miss, H.floor_alloc, H.next_alloc, H.floor_set, H.next_set, stO_d, condO_t, fill_n, fill_c, fillS_s, bir_bslice, bir_alloc, bir_box, birB_s, repl_s, repl_z, List.map_cons, List.map_nil, setFrom_nil, setFrom_cons, allsc_nil, allsc_cons, Bool.and_true, Bool.true_and, Bool.and_self, List.append_nil, Option.map_some, Option.map_none, iadr_s, iadr_m, idP_s, idQ_s, bir_mksl, mkslB_s, alen_s, alen_n, alen_m, Bool.and_false, Bool.false_and, Bool.or_false, Bool.or_true, Bool.true_or, Bool.false_or, Bool.or_self, C_dregF, goD_s, goD2_t, stb_n, stb_c, stK_n, stK_c, stV_s, stB_f, beq_int, beq_bool, beq_tup0, beq_nils, beq_simm0, beq_str, beq_sobj, beq_pobj, opsD_nil, opsD_u, opsD_g, goOD_s, preD_t, preD_f, AOp.loud, AOp.births, st1_u, st1_g, Int.reduceAdd, Int.reduceSub, Int.reduceMul, Int.reduceNeg, Int.reduceToNat, eqbB_s, beq_refl, beqs_refl, stB_t, beO_s, stBv_t, stBv_p, stBv_o, st1b_alloc, st1b_box, st1b_bslice, st1b_mksl, nx_fence, gt_fence, fl_fence, nx_del, fl_del, del_miss, rdT, List.take_succ_cons, List.take_zero, List.drop_zero, List.drop_succ_cons, selO_t, selO_f, srcO_s, src_o, src_m, src_n, src_s, appS_s, app_b, apO_s, apc_o, apc_n, roomy_t, Int.cast_ofNat_Int, Int.natCast_one, Int.natCast_zero, at_z, at_s, tl_z, tl_s, AP.f85, lA, cA, tA, k0, k1, k9, c1, lB, cB, tB, fB, B2, B3, B4, gB, gC, sB, lB', cB', tB', rm, b1, b2, sy, w1, w2, k2, ne, r]
        rfl
  exact pure_c (fn := AP.f85) (h2 := h2) (e := [(8, .bool true)]) rfl rfl rfl hh rfl rfl
end Ab
namespace Ab
open Go
theorem law_digestTurned (r : List (Ty × List AV)) (h : r.map (·.1) = [entT, intT, intT, intsT]) (hp : ∀ x ∈ r, Sh reachBytes x.1 x.2) : callW AP.A 85 (r.map avOf) H.empty = some (.bool true, H.empty) := by
  obtain ⟨x, y, z, w, rfl, h1, h2, h3, h4⟩ := row4 h hp
  obtain ⟨e, v, rfl, hv, ok, hb⟩ := sh_ent h1
  obtain ⟨a, rfl, _⟩ := sh_int h2
  obtain ⟨b, rfl, _⟩ := sh_int h3
  obtain ⟨w, l, rfl, _, rd, hl⟩ := sh_ints h4
  exact dturned_c H.empty e v w a b l hv (ok _) (rd _) hl
end Ab
