/- Part C2. -/
import Derived.Test.YtbihdlhgfnoejaaGreatDoorC1
set_option linter.unusedSimpArgs false
set_option linter.unusedVariables false
namespace Ab
open Go
theorem flat_get (l : List Int) {n i : Nat} (hi : i < (syms l (n + 1)).length) : ∀ m, n + 1 ≤ m → (flat l m)[(flat l n).length + i]? = (syms l (n + 1))[i]?
  | 0, h => by omega
  | m + 1, h => by
    rw [flat]
    by_cases e : n = m
    · subst e
      rw [List.getElem?_append_right (by omega), Nat.add_sub_cancel_left]
    · have ih := flat_get l hi m (by omega)
      have hlt : (flat l n).length + i < (flat l m).length := by
        have : ((syms l (n + 1))[i]?).isSome = true := by rw [List.getElem?_eq_getElem hi]; rfl
        rw [← ih] at this
        obtain ⟨x, hx⟩ := Option.isSome_iff_exists.1 this
        exact (List.getElem?_eq_some_iff.1 hx).1
      rw [List.getElem?_append_left hlt]; exact ih
theorem fsym_stop {c : FC} {S : SS} {h : H} {ov : AV} (st : Ft c S h ov) (b : AV) (v f a n : Int) (hs : n = 16 ∨ (n ≤ 15 ∧ S.e ≠ 0)) :
    ∃ e', Lp AP.A [0, 1, 5, 6, 7, 8] AP.f49L0 [(0, .pobj c.f 0), (1, b), (5, I v), (6, I f), (7, I a), (8, I n)] h = some (.exit 0, e', h) ∧ look e' 0 = .pobj c.f 0 := by
  have gf := st.gf
  refine ⟨[(0, .pobj c.f 0), (1, b), (5, I v), (6, I f), (7, I a), (8, I n), (17, .bool false)], Lp_exit ?_, rfl⟩
  rcases hs with hn | ⟨hn, he⟩
  · have c1 : ¬ n ≤ 15 := by omega
    simp only [I] at *
    simp only [AP.f49L0, go_sem, abin_shl, abin_shr, Nat.reduceEqDiff, reduceIte, Nat.reduceAdd, Nat.reduceMul, Nat.reduceLT, Nat.reduceLeDiff, Int.reduceBEq, Int.reduceBNe, Int.reduceLT, Int.reduceLE, Int.reduceEq, decide_eq_false c1]
  · have c2 : (S.e == 0) = false := beq_f he
    simp only [I] at *
    simp only [AP.f49L0, go_sem, abin_shl, abin_shr, Nat.reduceEqDiff, reduceIte, Nat.reduceAdd, Nat.reduceMul, Nat.reduceLT, Nat.reduceLeDiff, Int.reduceBEq, Int.reduceBNe, Int.reduceLT, Int.reduceLE, Int.reduceEq, decide_eq_true hn, gf, c2]
theorem or_even {v x : Nat} (hx : x < 2) : (v * 2 ||| x) = v * 2 + x := by
  have := Nat.two_pow_add_eq_or_of_lt (i := 1) (show x < 2 ^ 1 by omega) v
  rw [Nat.mul_comm v 2]
  simpa using this.symm
theorem fsym_loop {c : FC} (l : List Int) (hl : l.length < 1000) : ∀ (k n v : Nat) (S : SS) (h : H) (ov : AV), n + 1 + k = 16 → v < 2 ^ n → firstC l (n + 1) ≤ (v * 2 : Nat) → Ft c S h ov → S.e = 0 →
    ∃ h' S', Ft c S' h' ov ∧ FF c h ov h' ov ∧ match symA c.text l k (n + 1) v S.at_ with
      | some (y, p) => S' = { S with at_ := p } ∧ ∃ e', Lp AP.A [0, 1, 5, 6, 7, 8] AP.f49L0 [(0, .pobj c.f 0), (1, rbook l), (5, I (v * 2 : Nat)), (6, I (firstC l (n + 1))), (7, I (flat l n).length), (8, I (n + 1 : Nat))] h = some (.ret, e', h') ∧ look e' 4 = I y
      | none => (S'.e = 0 ∧ ∃ e', Lp AP.A [0, 1, 5, 6, 7, 8] AP.f49L0 [(0, .pobj c.f 0), (1, rbook l), (5, I (v * 2 : Nat)), (6, I (firstC l (n + 1))), (7, I (flat l n).length), (8, I (n + 1 : Nat))] h = some (.exit 0, e', h') ∧ look e' 0 = .pobj c.f 0) ∨
          (S'.e = 700 ∧ ∃ e', Lp AP.A [0, 1, 5, 6, 7, 8] AP.f49L0 [(0, .pobj c.f 0), (1, rbook l), (5, I (v * 2 : Nat)), (6, I (firstC l (n + 1))), (7, I (flat l n).length), (8, I (n + 1 : Nat))] h = some (.ret, e', h') ∧ look e' 4 = I (-1))
  | 0, n, v, S, h, ov, hk, hv, hf, st, he => by
    obtain ⟨e', q1, q2⟩ := fsym_stop st (rbook l) (v * 2 : Nat) (firstC l (n + 1)) (flat l n).length (n + 1 : Nat) (.inl (by omega))
    exact ⟨h, S, st, FF.refl _ _ _, by simp only [symA]; exact .inl ⟨he, e', q1, q2⟩⟩
  | k + 1, n, v, S, h, ov, hk, hv, hf, st, he => by
    have gf := st.gf
    obtain ⟨h1, k1, k2, k3⟩ := fget_c st 1 1 rfl (by omega)
    have c1 : ((n + 1 : Nat) : Int) ≤ 15 := by omega
    have hp : 2 ^ n ≤ 2 ^ 14 := Nat.pow_le_pow_right (by omega) (by omega)
    by_cases hat : S.at_ + 1 ≤ 8 * c.text.size
    · have eg : getF c 1 S = (valAt c.text S.at_ 1, { S with at_ := S.at_ + 1 }) := by rw [getF, if_pos hat]
      rw [eg] at k1 k2
      dsimp only at k1 k2
      have gf1 := k2.gf
      dsimp only at gf1
      rw [symA, if_pos hat]
      obtain ⟨x, hx⟩ : ∃ x, x = valAt c.text S.at_ 1 := ⟨_, rfl⟩
      have hx2 : x < 2 := by rw [hx]; simpa using valAt_lt c.text S.at_ 1
      rw [← hx] at k1 ⊢
      have o1 : bits .or .i64 ((v * 2 : Nat) : Int) (x : Int) = ((v * 2 + x : Nat) : Int) := by rw [bits_or (by omega) (by omega), or_even hx2]
      have ce : (S.e != 0) = false := bne_f he
      have hcl := cnt_le l (n + 1)
      have hfb := firstC_bd (show l.length < 100000 by omega) (n + 1)
      have hp2 := pow_le_15 (show n + 1 ≤ 15 by omega)
      have a1 : aidx (I (n + 1 : Nat)) 16 = some (n + 1) := aidx_of (by omega)
      have g1 : (tab 17 (rbC l))[n + 1]? = some (I (cnt l (n + 1))) := by rw [tab_get (by omega), rbC, if_pos (by omega)]
      have g2 : (tab 17 (rbC l))[16]? = some (slOf (ints (flat l 15))) := by rw [tab_get (by omega), rbC, if_neg (by omega)]
      have w1 : IntKind.wrap .i64 (((v * 2 + x : Nat) : Int) - (cnt l (n + 1) : Int)) = ((v * 2 + x : Nat) : Int) - (cnt l (n + 1) : Int) := wrap_in (by omega) (by omega)
      have hsc := syms_cnt l (n + 1)
      have hfll := flat_len_le l n
      have hfln : n * l.length ≤ 15 * 1000 := Nat.mul_le_mul (by omega) (by omega)
      have hrb : rbook l = .pimm (tab 17 (rbC l)) 0 := rfl
      have hf2 : firstC l (n + 1 + 1) = (firstC l (n + 1) + cnt l (n + 1)) * 2 := rfl
      by_cases hlt : ((v * 2 + x : Nat) : Int) - (cnt l (n + 1) : Int) < firstC l (n + 1)
      ·
        obtain ⟨i, hi⟩ : ∃ i : Nat, ((v * 2 + x : Nat) : Int) - firstC l (n + 1) = i := Int.eq_ofNat_of_zero_le (by omega)
        have hil : i < (syms l (n + 1)).length := by omega
        obtain ⟨y, hy⟩ : ∃ y, (syms l (n + 1))[i]? = some y := ⟨_, List.getElem?_eq_getElem hil⟩
        have hfd : findS l (n + 1) ((v * 2 + x : Nat) : Int) = some y := by rw [findS, if_pos (by omega), hi, Int.toNat_natCast, hy]
        rw [hfd]
        have hflat := flat_get l hil 15 (by omega)
        rw [hy] at hflat
        have hfl15 : (flat l n).length + i < (flat l 15).length := (List.getElem?_eq_some_iff.1 hflat).1
        have hne : ints (flat l 15) ≠ [] := by intro e; have := congrArg List.length e; simp at this; simp [this] at hfl15
        have hs : slOf (ints (flat l 15)) = .simm false (ints (flat l 15)) 0 (ints (flat l 15)).length 1 := by rw [slOf, if_neg hne]
        rw [hs] at g2
        have w2 : IntKind.wrap .i64 (((flat l n).length : Int) + ((v * 2 + x : Nat) : Int)) = (((flat l n).length + (v * 2 + x) : Nat) : Int) := by
          rw [show ((flat l n).length : Int) + ((v * 2 + x : Nat) : Int) = (((flat l n).length + (v * 2 + x) : Nat) : Int) by omega]; exact wrap_nat64 (by omega)
        have w3 : IntKind.wrap .i64 ((((flat l n).length + (v * 2 + x) : Nat) : Int) - firstC l (n + 1)) = (((flat l n).length + i : Nat) : Int) := by
          rw [show (((flat l n).length + (v * 2 + x) : Nat) : Int) - firstC l (n + 1) = (((flat l n).length + i : Nat) : Int) by omega]; exact wrap_nat64 (by omega)
        have a2 : aiadr 1 (.simm false (ints (flat l 15)) 0 (ints (flat l 15)).length 1) (I ((flat l n).length + i : Nat)) = some (.pimm (ints (flat l 15)) ((flat l n).length + i)) := by
          have := aidx_of (show (flat l n).length + i < (ints (flat l 15)).length by rw [ints_length]; exact hfl15)
          simp only [aiadr, if_true, this, Option.bind_some, Nat.zero_add, Nat.mul_one]
        have g3 := ints_get hflat
        refine ⟨h1, _, k2, k3, rfl, [(4, I y)], Lp_ret ?_, rfl⟩
        rw [hrb]
        clear hrb hs hne hflat hy hfd hf2
        generalize tab 17 (rbC l) = T at *
        generalize ints (flat l 15) = FS at *
        generalize (flat l n).length = FL at *
        generalize firstC l (n + 1) = FC1 at *
        generalize FL + (v * 2 + x) = VV at *
        generalize FL + i = VI2 at *
        generalize v * 2 + x = VX at *
        generalize v * 2 = V2 at *
        simp only [I] at *
        simp only [AP.f49L0, go_sem, abin_shl, abin_shr, Nat.reduceEqDiff, reduceIte, Nat.reduceAdd, Nat.reduceMul, Nat.reduceLT, Nat.reduceLeDiff, Int.reduceBEq, Int.reduceBNe, Int.reduceLT, Int.reduceLE, Int.reduceEq, decide_eq_true c1, gf, he, k1, o1, gf1, ce, a1, g1, w1, decide_eq_true hlt, g2, w2, w3, a2, g3]
      · have hfd : findS l (n + 1) ((v * 2 + x : Nat) : Int) = none := by rw [findS, if_pos (by omega), List.getElem?_eq_none (by omega)]
        rw [hfd]
        have w2 : IntKind.wrap .i64 (((flat l n).length : Int) + (cnt l (n + 1) : Int)) = ((flat l (n + 1)).length : Int) := by
          rw [show ((flat l n).length : Int) + (cnt l (n + 1) : Int) = ((flat l (n + 1)).length : Int) by rw [flat, List.length_append, hsc]; omega]
          refine wrap_nat64 ?_
          rw [flat, List.length_append, hsc]; omega
        have w3 : IntKind.wrap .i64 (firstC l (n + 1) + (cnt l (n + 1) : Int)) = firstC l (n + 1) + (cnt l (n + 1) : Int) := wrap_in (by omega) (by omega)
        have s1 : shft .shl .i64 (firstC l (n + 1) + (cnt l (n + 1) : Int)) 1 = some (.int .i64 (firstC l (n + 1 + 1))) := by
          obtain ⟨z, hz⟩ : ∃ z : Nat, firstC l (n + 1) + (cnt l (n + 1) : Int) = z := Int.eq_ofNat_of_zero_le (by omega)
          have := shl_i64 (a := z) (s := 1) (by omega) (by omega)
          rw [hf2, hz]
          rw [show ((1 : Nat) : Int) = 1 from rfl] at this
          rw [this]; simp
        have s2 : shft .shl .i64 ((v * 2 + x : Nat) : Int) 1 = some (.int .i64 (((v * 2 + x) * 2 : Nat) : Int)) := by
          have := shl_i64 (a := v * 2 + x) (s := 1) (by omega) (by omega)
          exact this
        have w4 : IntKind.wrap .i64 (((n + 1 : Nat) : Int) + 1) = ((n + 1 + 1 : Nat) : Int) := wrap_nat64 (n := n + 1 + 1) (by omega)
        have step : evC (callW AP.A) loopW AP.f49L0 (restr [(0, .pobj c.f 0), (1, rbook l), (5, I (v * 2 : Nat)), (6, I (firstC l (n + 1))), (7, I (flat l n).length), (8, I (n + 1 : Nat))] [0, 1, 5, 6, 7, 8]) h = some (.normal, [(0, .pobj c.f 0), (1, rbook l), (5, I ((v * 2 + x) * 2 : Nat)), (6, I (firstC l (n + 1 + 1))), (7, I (flat l (n + 1)).length), (8, I (n + 1 + 1 : Nat))], h1) := by
          rw [hrb]
          clear hrb hfd
          generalize tab 17 (rbC l) = T at *
          generalize (flat l n).length = FL at *
          generalize (flat l (n + 1)).length = FL1 at *
          generalize firstC l (n + 1) = FC1 at *
          generalize firstC l (n + 1 + 1) = FC2 at *
          generalize (v * 2 + x) * 2 = VV at *
          generalize v * 2 + x = VX at *
          generalize v * 2 = V2 at *
          rw [he] at gf gf1
          simp only [I] at *
          simp only [AP.f49L0, go_sem, abin_shl, abin_shr, Nat.reduceEqDiff, reduceIte, Nat.reduceAdd, Nat.reduceMul, Nat.reduceLT, Nat.reduceLeDiff, Int.reduceBEq, Int.reduceBNe, Int.reduceLT, Int.reduceLE, Int.reduceEq, decide_eq_true c1, gf, k1, o1, gf1, a1, g1, w1, decide_eq_false hlt, w2, w3, s1, s2, w4]
        have hv2 : v * 2 + x < 2 ^ (n + 1) := by rw [Nat.pow_succ]; omega
        obtain ⟨h', S', q1, q2, q3⟩ := fsym_loop l hl k (n + 1) (v * 2 + x) _ h1 ov (by omega) hv2 (by rw [hf2]; omega) k2 he
        refine ⟨h', S', q1, k3.trans q2, ?_⟩
        dsimp only at q3 ⊢
        cases hy : symA c.text l k (n + 1 + 1) (v * 2 + x) (S.at_ + 1) with
        | none =>
          rw [hy] at q3
          rcases q3 with ⟨q3, e', q4, q5⟩ | ⟨q3, e', q4, q5⟩
          · exact .inl ⟨q3, e', Lp_next step q4, q5⟩
          · exact .inr ⟨q3, e', Lp_next step q4, q5⟩
        | some yp =>
          rw [hy] at q3
          obtain ⟨q3, e', q4, q5⟩ := q3
          exact ⟨q3, e', Lp_next step q4, q5⟩
    · have eg : getF c 1 S = (0, { S with e := 700 }) := by rw [getF, if_neg hat, failS, if_pos he]
      rw [eg] at k1 k2
      dsimp only at k1 k2
      have gf1 := k2.gf
      dsimp only at gf1
      rw [symA, if_neg hat]
      have o1 : bits .or .i64 ((v * 2 : Nat) : Int) ((0 : Nat) : Int) = ((v * 2 : Nat) : Int) := by rw [bits_or (by omega) (by omega)]; simp
      refine ⟨h1, _, k2, k3, .inr ⟨rfl, [(4, I (-1))], Lp_ret ?_, rfl⟩⟩
      rw [he] at gf
      generalize v * 2 = V2 at *
      simp only [I] at *
      simp only [AP.f49L0, go_sem, abin_shl, abin_shr, Nat.reduceEqDiff, reduceIte, Nat.reduceAdd, Nat.reduceMul, Nat.reduceLT, Nat.reduceLeDiff, Int.reduceBEq, Int.reduceBNe, Int.reduceLT, Int.reduceLE, Int.reduceEq, decide_eq_true c1, gf, k1, o1, gf1]
theorem fsymbol_c {c : FC} {S : SS} {h : H} {ov : AV} (l : List Int) (hl : l.length < 1000) (st : Ft c S h ov) (he : S.e = 0) :
    ∃ h' S' y, callW AP.A 49 [.pobj c.f 0, rbook l] h = some (I y, h') ∧ Ft c S' h' ov ∧ FF c h ov h' ov ∧ match symA c.text l 15 1 0 S.at_ with
      | some (z, p) => S' = { S with at_ := p } ∧ y = z
      | none => S'.e = 700 ∧ y = -1 := by
  obtain ⟨h1, S1, q1, q2, q3⟩ := fsym_loop l hl 15 0 0 S h ov (by omega) (by simp) (by simp [firstC, cnt]) st he
  have conv : ∀ r, Lp AP.A [0, 1, 5, 6, 7, 8] AP.f49L0 [(0, .pobj c.f 0), (1, rbook l), (5, I (0 * 2 : Nat)), (6, I (firstC l (0 + 1))), (7, I (flat l 0).length), (8, I (0 + 1 : Nat))] h = r → Lp AP.A [0, 1, 5, 6, 7, 8] AP.f49L0 [(0, .pobj c.f 0), (1, rbook l), (5, I 0), (6, I 0), (7, I 0), (8, I 1)] h = r := by
    intro r hr
    have h1 : firstC l (0 + 1) = 0 := by simp [firstC, cnt]
    rw [h1] at hr
    exact hr
  cases hy : symA c.text l 15 1 0 S.at_ with
  | some yp =>
    have hy' : symA c.text l 15 (0 + 1) 0 S.at_ = some yp := hy
    rw [hy'] at q3
    obtain ⟨q3, e', q4, q5⟩ := q3
    refine ⟨h1, S1, yp.1, ?_, q1, q2, q3, rfl⟩
    have q6 := conv _ q4
    clear q4
    refine plain_c (fn := AP.f49) (e := e') (vs := [I yp.1]) rfl rfl rfl ?_ (by simp only [AP.f49, resAll, resOf, q5]; rfl)
    simp only [I] at *
    simp only [AP.f49, go_sem, abin_shl, abin_shr, Nat.reduceEqDiff, reduceIte, Nat.reduceAdd, Nat.reduceMul, Nat.reduceLT, Nat.reduceLeDiff, Int.reduceBEq, Int.reduceBNe, Int.reduceLT, Int.reduceLE, Int.reduceEq, evC_loop, q6]
  | none =>
    have hy' : symA c.text l 15 (0 + 1) 0 S.at_ = none := hy
    rw [hy'] at q3
    rcases q3 with ⟨q3, e', q4, q5⟩ | ⟨q3, e', q4, q5⟩
    · have q6 := conv _ q4
      clear q4
      obtain ⟨h2, r1, r2, r3⟩ := wrong_c q1
      refine ⟨h2, failS 700 S1, -1, ?_, r2, q2.trans r3, by simp [failS, q3], rfl⟩
      refine plain_c (fn := AP.f49) (e := [(4, I (-1))]) rfl rfl rfl ?_ rfl
      simp only [I] at *
      simp only [AP.f49, go_sem, abin_shl, abin_shr, Nat.reduceEqDiff, reduceIte, Nat.reduceAdd, Nat.reduceMul, Nat.reduceLT, Nat.reduceLeDiff, Int.reduceBEq, Int.reduceBNe, Int.reduceLT, Int.reduceLE, Int.reduceEq, evC_loop, q6, q5, r1]
    · have q6 := conv _ q4
      clear q4
      refine ⟨h1, S1, -1, ?_, q1, q2, q3, rfl⟩
      refine plain_c (fn := AP.f49) (e := e') (vs := [I (-1)]) rfl rfl rfl ?_ (by simp only [AP.f49, resAll, resOf, q5]; rfl)
      simp only [I] at *
      simp only [AP.f49, go_sem, abin_shl, abin_shr, Nat.reduceEqDiff, reduceIte, Nat.reduceAdd, Nat.reduceMul, Nat.reduceLT, Nat.reduceLeDiff, Int.reduceBEq, Int.reduceBNe, Int.reduceLT, Int.reduceLE, Int.reduceEq, evC_loop, q6]
end Ab
set_option linter.unusedSimpArgs false
set_option linter.unusedVariables false
namespace Ab
open Go
theorem lenOf2_c (h : H) (y : Nat) (hy : y < 1000000) : callW AP.A 50 [I y] h = some (tup3 (lenOf y), h) := by
  by_cases c1 : y ≤ 256
  · rw [lenOf, if_pos (.inl c1)]
    refine pure_c (fn := AP.f50) (h2 := h.fence) (e := [(2, I 0), (3, I 0), (4, I 600)]) rfl rfl rfl ?_ rfl rfl
    have c1' : (y : Int) < 257 := by omega
    simp only [I] at *
    simp only [AP.f50, go_sem, abin_shl, abin_shr, Nat.reduceEqDiff, reduceIte, Nat.reduceAdd, Nat.reduceMul, Nat.reduceLT, Nat.reduceLeDiff, Int.reduceBEq, Int.reduceBNe, Int.reduceLT, Int.reduceLE, Int.reduceEq, decide_eq_true c1']
  have c1' : ¬ (y : Int) < 257 := by omega
  by_cases c2 : 285 < y
  · rw [lenOf, if_pos (.inr c2)]
    refine pure_c (fn := AP.f50) (h2 := h.fence) (e := [(2, I 0), (3, I 0), (4, I 600)]) rfl rfl rfl ?_ rfl rfl
    have c2' : (285 : Int) < y := by omega
    simp only [I] at *
    simp only [AP.f50, go_sem, abin_shl, abin_shr, Nat.reduceEqDiff, reduceIte, Nat.reduceAdd, Nat.reduceMul, Nat.reduceLT, Nat.reduceLeDiff, Int.reduceBEq, Int.reduceBNe, Int.reduceLT, Int.reduceLE, Int.reduceEq, decide_eq_false c1', decide_eq_true c2']
  have c2' : ¬ (285 : Int) < y := by omega
  rw [lenOf, if_neg (by omega)]
  by_cases c3 : y = 285
  · rw [if_pos c3]
    refine pure_c (fn := AP.f50) (h2 := h.fence) (e := [(2, I 258), (3, I 0), (4, I 0)]) rfl rfl rfl ?_ rfl rfl
    have c3' : ((y : Int) == 285) = true := beq_t (by omega)
    simp only [I] at *
    simp only [AP.f50, go_sem, abin_shl, abin_shr, Nat.reduceEqDiff, reduceIte, Nat.reduceAdd, Nat.reduceMul, Nat.reduceLT, Nat.reduceLeDiff, Int.reduceBEq, Int.reduceBNe, Int.reduceLT, Int.reduceLE, Int.reduceEq, decide_eq_false c1', decide_eq_false c2', c3']
  rw [if_neg c3]
  have c3' : ((y : Int) == 285) = false := beq_f (by omega)
  by_cases c4 : y < 265
  · rw [if_pos c4]
    refine pure_c (fn := AP.f50) (h2 := h.fence) (e := [(2, I (y - 254 : Nat)), (3, I 0), (4, I 0)]) rfl rfl rfl ?_ rfl rfl
    have c4' : (y : Int) < 265 := by omega
    have w3 : IntKind.wrap .i64 ((y : Int) - 254) = ((y - 254 : Nat) : Int) := by rw [show (y : Int) - 254 = ((y - 254 : Nat) : Int) by omega]; exact wrap_nat64 (by omega)
    simp only [I] at *
    simp only [AP.f50, go_sem, abin_shl, abin_shr, Nat.reduceEqDiff, reduceIte, Nat.reduceAdd, Nat.reduceMul, Nat.reduceLT, Nat.reduceLeDiff, Int.reduceBEq, Int.reduceBNe, Int.reduceLT, Int.reduceLE, Int.reduceEq, decide_eq_false c1', decide_eq_false c2', c3', decide_eq_true c4', w3]
  rw [if_neg c4]
  have c4' : ¬ (y : Int) < 265 := by omega
  obtain ⟨k, hk⟩ : ∃ k : Nat, y - 261 = k := ⟨_, rfl⟩
  have w1 : IntKind.wrap .i64 ((y : Int) - 261) = (k : Int) := by rw [show (y : Int) - 261 = (k : Int) by omega]; exact wrap_nat64 (by omega)
  rw [show (y - 257) / 4 - 1 = k / 4 - 0 by omega, Nat.sub_zero, show (y - 257) % 4 = k % 4 by omega]
  have q1 : abin .quo (.int .i64 (k : Int)) (.int .i64 4) = some (.int .i64 ((k / 4 : Nat) : Int)) := by
    rw [abin_quo _ _ _ (by omega), show (4 : Int) = ((4 : Nat) : Int) from rfl, tdiv_nat, wrap_nat64 (by omega)]
  have q2 : abin .rem (.int .i64 (k : Int)) (.int .i64 4) = some (.int .i64 ((k % 4 : Nat) : Int)) := by
    rw [abin_rem _ _ _ (by omega), show (4 : Int) = ((4 : Nat) : Int) from rfl, tmod_nat]
  have w4 : IntKind.wrap .i64 (4 + ((k % 4 : Nat) : Int)) = ((4 + k % 4 : Nat) : Int) := by rw [show 4 + ((k % 4 : Nat) : Int) = ((4 + k % 4 : Nat) : Int) by omega]; exact wrap_nat64 (by omega)
  have hp : 2 ^ (k / 4) ≤ 2 ^ 5 := Nat.pow_le_pow_right (by omega) (by omega)
  have hm : (4 + k % 4) * 2 ^ (k / 4) ≤ 7 * 2 ^ 5 := Nat.mul_le_mul (by omega) hp
  have q3 : shft .shl .i64 ((4 + k % 4 : Nat) : Int) ((k / 4 : Nat) : Int) = some (.int .i64 (((4 + k % 4) * 2 ^ (k / 4) : Nat) : Int)) := shl_i64 (by omega) (by omega)
  generalize (4 + k % 4) * 2 ^ (k / 4) = P at *
  have w5 : IntKind.wrap .i64 (3 + (P : Int)) = ((3 + P : Nat) : Int) := by rw [show 3 + (P : Int) = ((3 + P : Nat) : Int) by omega]; exact wrap_nat64 (by omega)
  refine pure_c (fn := AP.f50) (h2 := h.fence) (e := [(2, I (3 + P : Nat)), (3, I (k / 4 : Nat)), (4, I 0)]) rfl rfl rfl ?_ rfl rfl
  simp only [I] at *
  simp only [AP.f50, go_sem, abin_shl, abin_shr, Nat.reduceEqDiff, reduceIte, Nat.reduceAdd, Nat.reduceMul, Nat.reduceLT, Nat.reduceLeDiff, Int.reduceBEq, Int.reduceBNe, Int.reduceLT, Int.reduceLE, Int.reduceEq, decide_eq_false c1', decide_eq_false c2', c3', decide_eq_false c4', w1, q1, q2, w4, q3, w5]
theorem distOf2_c (h : H) (y : Nat) (hy : y < 1000000) : callW AP.A 51 [I y] h = some (tup3 (distOf y), h) := by
  have c0 : ¬ (y : Int) < 0 := by omega
  by_cases c1 : 30 ≤ y
  · rw [distOf, if_pos c1]
    refine pure_c (fn := AP.f51) (h2 := h.fence) (e := [(2, I 0), (3, I 0), (4, I 600)]) rfl rfl rfl ?_ rfl rfl
    have c1' : (29 : Int) < y := by omega
    simp only [I] at *
    simp only [AP.f51, go_sem, abin_shl, abin_shr, Nat.reduceEqDiff, reduceIte, Nat.reduceAdd, Nat.reduceMul, Nat.reduceLT, Nat.reduceLeDiff, Int.reduceBEq, Int.reduceBNe, Int.reduceLT, Int.reduceLE, Int.reduceEq, decide_eq_false c0, decide_eq_true c1']
  have c1' : ¬ (29 : Int) < y := by omega
  rw [distOf, if_neg c1]
  by_cases c2 : y < 4
  · rw [if_pos c2]
    refine pure_c (fn := AP.f51) (h2 := h.fence) (e := [(2, I (1 + y : Nat)), (3, I 0), (4, I 0)]) rfl rfl rfl ?_ rfl rfl
    have c2' : (y : Int) < 4 := by omega
    have w3 : IntKind.wrap .i64 ((y : Int) + 1) = ((1 + y : Nat) : Int) := by rw [show (y : Int) + 1 = ((1 + y : Nat) : Int) by omega]; exact wrap_nat64 (by omega)
    simp only [I] at *
    simp only [AP.f51, go_sem, abin_shl, abin_shr, Nat.reduceEqDiff, reduceIte, Nat.reduceAdd, Nat.reduceMul, Nat.reduceLT, Nat.reduceLeDiff, Int.reduceBEq, Int.reduceBNe, Int.reduceLT, Int.reduceLE, Int.reduceEq, decide_eq_false c0, decide_eq_false c1', decide_eq_true c2', w3]
  rw [if_neg c2]
  have c2' : ¬ (y : Int) < 4 := by omega
  have w1 : IntKind.wrap .i64 ((y : Int) - 2) = ((y - 2 : Nat) : Int) := by rw [show (y : Int) - 2 = ((y - 2 : Nat) : Int) by omega]; exact wrap_nat64 (by omega)
  have q1 : abin .quo (.int .i64 ((y - 2 : Nat) : Int)) (.int .i64 2) = some (.int .i64 ((y / 2 - 1 : Nat) : Int)) := by
    rw [abin_quo _ _ _ (by omega), show (2 : Int) = ((2 : Nat) : Int) from rfl, tdiv_nat, wrap_nat64 (by omega), show (y - 2) / 2 = y / 2 - 1 by omega]
  have q2 : abin .rem (.int .i64 (y : Int)) (.int .i64 2) = some (.int .i64 ((y % 2 : Nat) : Int)) := by
    rw [abin_rem _ _ _ (by omega), show (2 : Int) = ((2 : Nat) : Int) from rfl, tmod_nat]
  have w4 : IntKind.wrap .i64 (2 + ((y % 2 : Nat) : Int)) = ((2 + y % 2 : Nat) : Int) := by rw [show 2 + ((y % 2 : Nat) : Int) = ((2 + y % 2 : Nat) : Int) by omega]; exact wrap_nat64 (by omega)
  have hp : 2 ^ (y / 2 - 1) ≤ 2 ^ 13 := Nat.pow_le_pow_right (by omega) (by omega)
  have hm : (2 + y % 2) * 2 ^ (y / 2 - 1) ≤ 3 * 2 ^ 13 := Nat.mul_le_mul (by omega) hp
  have q3 : shft .shl .i64 ((2 + y % 2 : Nat) : Int) ((y / 2 - 1 : Nat) : Int) = some (.int .i64 (((2 + y % 2) * 2 ^ (y / 2 - 1) : Nat) : Int)) := shl_i64 (by omega) (by omega)
  generalize (2 + y % 2) * 2 ^ (y / 2 - 1) = P at *
  have w5 : IntKind.wrap .i64 (1 + (P : Int)) = ((1 + P : Nat) : Int) := by rw [show 1 + (P : Int) = ((1 + P : Nat) : Int) by omega]; exact wrap_nat64 (by omega)
  refine pure_c (fn := AP.f51) (h2 := h.fence) (e := [(2, I (1 + P : Nat)), (3, I (y / 2 - 1 : Nat)), (4, I 0)]) rfl rfl rfl ?_ rfl rfl
  simp only [I] at *
  simp only [AP.f51, go_sem, abin_shl, abin_shr, Nat.reduceEqDiff, reduceIte, Nat.reduceAdd, Nat.reduceMul, Nat.reduceLT, Nat.reduceLeDiff, Int.reduceBEq, Int.reduceBNe, Int.reduceLT, Int.reduceLE, Int.reduceEq, decide_eq_false c0, decide_eq_false c1', decide_eq_false c2', w1, q1, q2, w4, q3, w5]
theorem fstore_stop {c : FC} {S : SS} {h : H} {ov : AV} (st : Ft c S h ov) (n i : Nat) (hs : n ≤ i ∨ (i < n ∧ S.e ≠ 0)) :
    ∃ e', Lp AP.A [0, 2, 4] AP.f19L0 [(0, .pobj c.f 0), (2, I n), (4, I i)] h = some (.exit 0, e', h) := by
  have gf := st.gf
  refine ⟨[(0, .pobj c.f 0), (2, I n), (4, I i), (36, .bool false)], Lp_exit ?_⟩
  rcases hs with hn | ⟨hn, he⟩
  · have c1 : ¬ (i : Int) < n := by omega
    simp only [I] at *
    simp only [AP.f19L0, go_sem, abin_shl, abin_shr, Nat.reduceEqDiff, reduceIte, Nat.reduceAdd, Nat.reduceMul, Nat.reduceLT, Nat.reduceLeDiff, Int.reduceBEq, Int.reduceBNe, Int.reduceLT, Int.reduceLE, Int.reduceEq, decide_eq_false c1]
  · have c1 : (i : Int) < n := by omega
    have c2 := beq_f he
    simp only [I] at *
    simp only [AP.f19L0, go_sem, abin_shl, abin_shr, Nat.reduceEqDiff, reduceIte, Nat.reduceAdd, Nat.reduceMul, Nat.reduceLT, Nat.reduceLeDiff, Int.reduceBEq, Int.reduceBNe, Int.reduceLT, Int.reduceLE, Int.reduceEq, decide_eq_true c1, gf, c2]
theorem fstore_loop {c : FC} (n : Nat) (hn : n ≤ 65535) : ∀ (m i : Nat) (S : SS) (h : H) (ov : AV), i + m = n → Ft c S h ov → S.e = 0 →
    ∃ e' h' ov' S', Lp AP.A [0, 2, 4] AP.f19L0 [(0, .pobj c.f 0), (2, I n), (4, I i)] h = some (.exit 0, e', h') ∧ Ft c S' h' ov' ∧ FF c h ov h' ov' ∧ Fin (storeA c.text c.most m S.at_ S.out) S'
  | 0, i, S, h, ov, hm, st, he => by
    obtain ⟨e', q⟩ := fstore_stop st n i (.inl (by omega))
    exact ⟨e', h, ov, S, q, st, FF.refl _ _ _, by simp only [storeA, Fin]; cases S; simp_all⟩
  | m + 1, i, S, h, ov, hm, st, he => by
    have gf := st.gf
    obtain ⟨h1, k1, k2, k3⟩ := fget_c st 8 8 rfl (by omega)
    have c1 : (i : Int) < n := by omega
    have w1 : IntKind.wrap .i64 ((i : Int) + 1) = ((i + 1 : Nat) : Int) := wrap_nat64 (n := i + 1) (by omega)
    by_cases hp : S.at_ + 8 ≤ 8 * c.text.size
    · have eg : getF c 8 S = (valAt c.text S.at_ 8, { S with at_ := S.at_ + 8 }) := by rw [getF, if_pos hp]
      rw [eg] at k1 k2
      dsimp only at k1 k2
      have gf1 := k2.gf
      obtain ⟨h2, ov2, S2, p1, p2, p3, p4⟩ := fput_c k2 he (valAt c.text S.at_ 8)
      have hb := valAt_lt c.text S.at_ 8
      have w2 : IntKind.wrap .u8 ((valAt c.text S.at_ 8 : Nat) : Int) = ((valAt c.text S.at_ 8 : Nat) : Int) := wrap_u8 (by simpa using hb)
      have step : evC (callW AP.A) loopW AP.f19L0 (restr [(0, .pobj c.f 0), (2, I n), (4, I i)] [0, 2, 4]) h = some (.normal, [(0, .pobj c.f 0), (2, I n), (4, I (i + 1 : Nat))], h2) := by
        dsimp only at gf1
        rw [he] at gf gf1
        simp only [I] at *
        simp only [AP.f19L0, go_sem, abin_shl, abin_shr, Nat.reduceEqDiff, reduceIte, Nat.reduceAdd, Nat.reduceMul, Nat.reduceLT, Nat.reduceLeDiff, Int.reduceBEq, Int.reduceBNe, Int.reduceLT, Int.reduceLE, Int.reduceEq, decide_eq_true c1, gf, k1, gf1, w2, p1, w1]
      rw [storeA, if_pos hp]
      dsimp only at p4
      by_cases hm' : c.most ≤ S.out.length
      · rw [if_pos hm'] at p4 ⊢
        have he2 : S2.e = 701 := by rw [p4]
        have hs : n ≤ i + 1 ∨ (i + 1 < n ∧ S2.e ≠ 0) := by
          by_cases q : i + 1 < n
          · exact .inr ⟨q, by rw [he2]; decide⟩
          · exact .inl (by omega)
        obtain ⟨e', q⟩ := fstore_stop p2 n (i + 1) hs
        exact ⟨e', h2, ov2, _, Lp_next step q, p2, k3.trans p3, he2, by decide⟩
      · rw [if_neg hm'] at p4 ⊢
        subst p4
        obtain ⟨e', h', ov', S', q1, q2, q3, q4⟩ := fstore_loop n hn m (i + 1) _ h2 ov2 (by omega) p2 rfl
        exact ⟨e', h', ov', S', Lp_next step q1, q2, (k3.trans p3).trans q3, q4⟩
    · have eg : getF c 8 S = (0, { S with e := 700 }) := by rw [getF, if_neg hp, failS, if_pos he]
      rw [eg] at k1 k2
      dsimp only at k1 k2
      have gf1 := k2.gf
      have step : evC (callW AP.A) loopW AP.f19L0 (restr [(0, .pobj c.f 0), (2, I n), (4, I i)] [0, 2, 4]) h = some (.normal, [(0, .pobj c.f 0), (2, I n), (4, I (i + 1 : Nat))], h1) := by
        dsimp only at gf1
        rw [he] at gf
        simp only [I] at *
        simp only [AP.f19L0, go_sem, abin_shl, abin_shr, Nat.reduceEqDiff, reduceIte, Nat.reduceAdd, Nat.reduceMul, Nat.reduceLT, Nat.reduceLeDiff, Int.reduceBEq, Int.reduceBNe, Int.reduceLT, Int.reduceLE, Int.reduceEq, decide_eq_true c1, gf, k1, gf1, w1]
      rw [storeA, if_neg hp]
      have hs : n ≤ i + 1 ∨ (i + 1 < n ∧ (700 : Int) ≠ 0) := by
        by_cases q : i + 1 < n
        · exact .inr ⟨q, by decide⟩
        · exact .inl (by omega)
      obtain ⟨e', q⟩ := fstore_stop k2 n (i + 1) hs
      exact ⟨e', h1, ov, _, Lp_next step q, k2, k3, rfl, by decide⟩
theorem bits_xor64 {a b : Nat} (ha : a < 65536) (hb : b < 65536) : bits .xor .i64 (a : Int) (b : Int) = ((a ^^^ b : Nat) : Int) := by
  have h3 : a ^^^ b < 2 ^ 16 := Nat.xor_lt_two_pow (by simpa using ha) (by simpa using hb)
  show IntKind.wrap .i64 (((BitVec.ofInt 64 (a : Int) ^^^ BitVec.ofInt 64 (b : Int)).toNat : Nat) : Int) = _
  rw [BitVec.toNat_xor, bv_nat 64 a (by omega), bv_nat 64 b (by omega)]
  exact wrap_nat64 (by omega)
theorem xor_full_nat {n : Nat} (hn : n < 65536) : n ^^^ 65535 = 65535 - n := by
  have h1 := xor_full hn
  have h2 := bits_xor64 hn (b := 65535) (by omega)
  rw [show ((65535 : Nat) : Int) = 65535 from rfl, h1] at h2
  omega
theorem xor_iff {a b : Nat} (ha : a < 65536) (hb : b < 65536) : a ^^^ b = 65535 ↔ a + b = 65535 := by
  have h1 := xor_full_nat ha
  constructor
  · intro h
    have : b = a ^^^ 65535 := by rw [← h, ← Nat.xor_assoc, Nat.xor_self, Nat.zero_xor]
    omega
  · intro h
    have : b = a ^^^ 65535 := by omega
    rw [this, ← Nat.xor_assoc, Nat.xor_self, Nat.zero_xor]
theorem getF_e (c : FC) (n : Nat) (S : SS) (h : S.e = 0 ∨ S.e = 700) : (getF c n S).2.e = 0 ∨ (getF c n S).2.e = 700 := by
  unfold getF; split
  · exact h
  · rcases h with h | h <;> simp [failS, h]
theorem getF_lt (c : FC) (S : SS) (n : Nat) (hn : n ≤ 16) : (getF c n S).1 < 65536 := by
  unfold getF; split
  · have := valAt_lt c.text S.at_ n
    have := Nat.pow_le_pow_right (show 0 < 2 by omega) hn
    simp at *; omega
  · simp
theorem fstored_c {c : FC} {S : SS} {h : H} {ov : AV} (st : Ft c S h ov) (he : S.e = 0) :
    ∃ h' ov' S', callW AP.A 19 [.pobj c.f 0] h = some (.tup [], h') ∧ Ft c S' h' ov' ∧ FF c h ov h' ov' ∧ Fin (storedA c.text c.most S.at_ S.out) S' := by
  obtain ⟨h1, a1, a2, a3⟩ := falign_c st
  obtain ⟨p, hp⟩ : ∃ p, p = (S.at_ + 7) / 8 * 8 := ⟨_, rfl⟩
  rw [← hp] at a2
  have hS : storedA c.text c.most S.at_ S.out = if p + 32 ≤ 8 * c.text.size then (if valAt c.text p 16 + valAt c.text (p + 16) 16 = 65535 then storeA c.text c.most (valAt c.text p 16) (p + 32) S.out else .error 700) else .error 700 := by
    rw [hp]; rfl
  rw [hS]; clear hS
  obtain ⟨h2, b1, b2, b3⟩ := fget_c a2 16 16 rfl (by omega)
  obtain ⟨h3, d1, d2, d3⟩ := fget_c b2 16 16 rfl (by omega)
  obtain ⟨n, hn⟩ : ∃ n, n = (getF c 16 { S with at_ := p }).1 := ⟨_, rfl⟩
  obtain ⟨S2, hS2⟩ : ∃ n, n = (getF c 16 { S with at_ := p }).2 := ⟨_, rfl⟩
  obtain ⟨m, hm⟩ : ∃ n, n = (getF c 16 S2).1 := ⟨_, rfl⟩
  obtain ⟨S3, hS3⟩ : ∃ n, n = (getF c 16 S2).2 := ⟨_, rfl⟩
  rw [← hn] at b1; rw [← hS2] at b2 d1 d2; rw [← hm] at d1; rw [← hS3] at d2
  have hn16 : n < 65536 := hn ▸ getF_lt c _ 16 (by omega)
  have hm16 : m < 65536 := hm ▸ getF_lt c _ 16 (by omega)
  have x1 := bits_xor64 hn16 hm16
  have gf3 := d2.gf
  by_cases h32 : p + 32 ≤ 8 * c.text.size
  · have e2 : getF c 16 { S with at_ := p } = (valAt c.text p 16, { S with at_ := p + 16 }) := by rw [getF, if_pos (by show p + 16 ≤ _; omega)]
    rw [e2] at hn hS2; dsimp only at hn hS2; subst hS2
    have e3 : getF c 16 { S with at_ := p + 16 } = (valAt c.text (p + 16) 16, { S with at_ := p + 16 + 16 }) := by rw [getF, if_pos (by show p + 16 + 16 ≤ _; omega)]
    rw [e3] at hm hS3; dsimp only at hm hS3; subst hS3
    dsimp only at gf3
    rw [he] at gf3
    rw [if_pos h32, ← hn, ← hm]
    by_cases hx : n + m = 65535
    · rw [if_pos hx]
      have c1 : (((n ^^^ m : Nat) : Int) != 65535) = false := bne_f (by have := (xor_iff hn16 hm16).2 hx; omega)
      obtain ⟨e', h', ov', S', q1, q2, q3, q4⟩ := fstore_loop n (by omega) n 0 _ h3 ov (by omega) d2 he
      have q1' : Lp AP.A [0, 2, 4] AP.f19L0 [(0, .pobj c.f 0), (2, I n), (4, I 0)] h3 = some (.exit 0, e', h') := q1
      clear q1
      refine ⟨h', ov', S', ?_, q2, ((a3.trans b3).trans d3).trans q3, q4⟩
      refine plain_n (fn := AP.f19) (e := []) (vs := []) rfl rfl rfl ?_ rfl
      simp only [I] at *
      simp only [AP.f19, go_sem, abin_shl, abin_shr, Nat.reduceEqDiff, reduceIte, Nat.reduceAdd, Nat.reduceMul, Nat.reduceLT, Nat.reduceLeDiff, Int.reduceBEq, Int.reduceBNe, Int.reduceLT, Int.reduceLE, Int.reduceEq, evC_loop, a1, b1, d1, gf3, x1, c1, q1']
    · rw [if_neg hx]
      have c1 : (((n ^^^ m : Nat) : Int) != 65535) = true := bne_t (fun e => hx ((xor_iff hn16 hm16).1 (by omega)))
      obtain ⟨h4, f1, f2, f3⟩ := wrong_c d2
      have he4 : (failS 700 { S with at_ := p + 16 + 16 }).e = 700 := by simp [failS, he]
      have hs : n ≤ 0 ∨ (0 < n ∧ (failS 700 { S with at_ := p + 16 + 16 }).e ≠ 0) := by
        by_cases q : 0 < n
        · exact .inr ⟨q, by rw [he4]; decide⟩
        · exact .inl (by omega)
      obtain ⟨e', q⟩ := fstore_stop f2 n 0 hs
      have q' : Lp AP.A [0, 2, 4] AP.f19L0 [(0, .pobj c.f 0), (2, I n), (4, I 0)] h4 = some (.exit 0, e', h4) := q
      clear q
      refine ⟨h4, ov, _, ?_, f2, ((a3.trans b3).trans d3).trans f3, he4, by decide⟩
      refine plain_n (fn := AP.f19) (e := []) (vs := []) rfl rfl rfl ?_ rfl
      simp only [I] at *
      simp only [AP.f19, go_sem, abin_shl, abin_shr, Nat.reduceEqDiff, reduceIte, Nat.reduceAdd, Nat.reduceMul, Nat.reduceLT, Nat.reduceLeDiff, Int.reduceBEq, Int.reduceBNe, Int.reduceLT, Int.reduceLE, Int.reduceEq, evC_loop, a1, b1, d1, gf3, x1, c1, f1, q']
  · rw [if_neg h32]
    have he3 : S3.e = 700 := by
      rw [hS3, hS2]
      unfold getF
      by_cases q1 : p + 16 ≤ 8 * c.text.size
      · simp only [if_pos q1]
        rw [if_neg (by omega)]; simp [failS, he]
      · simp only [if_neg q1, failS, he, if_true]
        split <;> simp
    have c0 : (S3.e == 0) = false := beq_f (by rw [he3]; decide)
    have hs : n ≤ 0 ∨ (0 < n ∧ S3.e ≠ 0) := by
      by_cases q : 0 < n
      · exact .inr ⟨q, by rw [he3]; decide⟩
      · exact .inl (by omega)
    obtain ⟨e', q⟩ := fstore_stop d2 n 0 hs
    have q' : Lp AP.A [0, 2, 4] AP.f19L0 [(0, .pobj c.f 0), (2, I n), (4, I 0)] h3 = some (.exit 0, e', h3) := q
    clear q
    refine ⟨h3, ov, S3, ?_, d2, (a3.trans b3).trans d3, he3, by decide⟩
    refine plain_n (fn := AP.f19) (e := []) (vs := []) rfl rfl rfl ?_ rfl
    simp only [I] at *
    simp only [AP.f19, go_sem, abin_shl, abin_shr, Nat.reduceEqDiff, reduceIte, Nat.reduceAdd, Nat.reduceMul, Nat.reduceLT, Nat.reduceLeDiff, Int.reduceBEq, Int.reduceBNe, Int.reduceLT, Int.reduceLE, Int.reduceEq, evC_loop, a1, b1, d1, gf3, c0, q']
end Ab
set_option linter.unusedSimpArgs false
set_option linter.unusedVariables false
namespace Ab
open Go
theorem fcopy_stop {c : FC} {S : SS} {h : H} {ov : AV} (st : Ft c S h ov) (a b : AV) (n d i : Nat) (hs : n ≤ i ∨ (i < n ∧ S.e ≠ 0)) :
    ∃ e', Lp AP.A [0, 1, 2, 10, 14, 15] AP.f20L0 [(0, .pobj c.f 0), (1, a), (2, b), (10, I n), (14, I d), (15, I i)] h = some (.exit 2, e', h) ∧ look e' 0 = .pobj c.f 0 ∧ look e' 1 = a ∧ look e' 2 = b := by
  have gf := st.gf
  refine ⟨[(0, .pobj c.f 0), (1, a), (2, b), (10, I n), (14, I d), (15, I i), (107, .bool false)], Lp_exit ?_, rfl, rfl, rfl⟩
  rcases hs with hn | ⟨hn, he⟩
  · have c1 : ¬ (i : Int) < n := by omega
    simp only [I] at *
    simp only [AP.f20L0, go_sem, abin_shl, abin_shr, Nat.reduceEqDiff, reduceIte, Nat.reduceAdd, Nat.reduceMul, Nat.reduceLT, Nat.reduceLeDiff, Int.reduceBEq, Int.reduceBNe, Int.reduceLT, Int.reduceLE, Int.reduceEq, decide_eq_false c1]
  · have c1 : (i : Int) < n := by omega
    have c2 := beq_f he
    simp only [I] at *
    simp only [AP.f20L0, go_sem, abin_shl, abin_shr, Nat.reduceEqDiff, reduceIte, Nat.reduceAdd, Nat.reduceMul, Nat.reduceLT, Nat.reduceLeDiff, Int.reduceBEq, Int.reduceBNe, Int.reduceLT, Int.reduceLE, Int.reduceEq, decide_eq_true c1, gf, c2]
theorem fcopy_loop {c : FC} (a b : AV) (d : Nat) (hd : 0 < d) (n : Nat) (hn : n ≤ 65535) : ∀ (m i : Nat) (S : SS) (h : H) (ov : AV), i + m = n → Ft c S h ov → S.e = 0 → d ≤ S.out.length →
    ∃ e' h' ov' S', Lp AP.A [0, 1, 2, 10, 14, 15] AP.f20L0 [(0, .pobj c.f 0), (1, a), (2, b), (10, I n), (14, I d), (15, I i)] h = some (.exit 2, e', h') ∧ look e' 0 = .pobj c.f 0 ∧ look e' 1 = a ∧ look e' 2 = b ∧ Ft c S' h' ov' ∧ FF c h ov h' ov' ∧ match copyL c.most d m S.out with
      | .ok o => S' = { S with out := o }
      | .error k => S'.e = k ∧ k ≠ 0
  | 0, i, S, h, ov, hm, st, he, hl => by
    obtain ⟨e', q, q2⟩ := fcopy_stop st a b n d i (.inl (by omega))
    exact ⟨e', h, ov, S, q, q2.1, q2.2.1, q2.2.2, st, FF.refl _ _ _, by simp only [copyL]⟩
  | m + 1, i, S, h, ov, hm, st, he, hl => by
    have gf := st.gf
    have hol := st.ol
    have hml := st.ml
    have ln := st.own.len
    rw [bys_length] at ln
    have c1 : (i : Int) < n := by omega
    have w1 : IntKind.wrap .i64 ((i : Int) + 1) = ((i + 1 : Nat) : Int) := wrap_nat64 (n := i + 1) (by omega)
    have w2 : IntKind.wrap .i64 ((S.out.length : Int) - d) = ((S.out.length - d : Nat) : Int) := by rw [show (S.out.length : Int) - d = ((S.out.length - d : Nat) : Int) by omega]; exact wrap_nat64 (by omega)
    have hb := bys_get (l := S.out) (i := S.out.length - d) (by omega)
    obtain ⟨id, i1, i2, i3⟩ := st.own.elem hb
    obtain ⟨h2, ov2, S2, p1, p2, p3, p4⟩ := fput_c st he (S.out.getD (S.out.length - d) 0)
    have step : evC (callW AP.A) loopW AP.f20L0 (restr [(0, .pobj c.f 0), (1, a), (2, b), (10, I n), (14, I d), (15, I i)] [0, 1, 2, 10, 14, 15]) h = some (.normal, [(0, .pobj c.f 0), (1, a), (2, b), (10, I n), (14, I d), (15, I (i + 1 : Nat))], h2) := by
      clear i1
      rw [he] at gf
      simp only [I] at *
      simp only [AP.f20L0, go_sem, abin_shl, abin_shr, Nat.reduceEqDiff, reduceIte, Nat.reduceAdd, Nat.reduceMul, Nat.reduceLT, Nat.reduceLeDiff, Int.reduceBEq, Int.reduceBNe, Int.reduceLT, Int.reduceLE, Int.reduceEq, decide_eq_true c1, gf, ln, w2, i2, i3, hb, p1, w1]
    rw [copyL]
    by_cases hm' : c.most ≤ S.out.length
    · rw [if_pos hm'] at p4 ⊢
      have he2 : S2.e = 701 := by rw [p4]
      have hs : n ≤ i + 1 ∨ (i + 1 < n ∧ S2.e ≠ 0) := by
        by_cases q : i + 1 < n
        · exact .inr ⟨q, by rw [he2]; decide⟩
        · exact .inl (by omega)
      obtain ⟨e', q, q2⟩ := fcopy_stop p2 a b n d (i + 1) hs
      exact ⟨e', h2, ov2, _, Lp_next step q, q2.1, q2.2.1, q2.2.2, p2, p3, he2, by decide⟩
    · rw [if_neg hm'] at p4 ⊢
      subst p4
      obtain ⟨e', h', ov', S', q1, q2, q3, q4, q5, q6, q7⟩ := fcopy_loop a b d hd n hn m (i + 1) _ h2 ov2 (by omega) p2 rfl (by simp; omega)
      refine ⟨e', h', ov', S', Lp_next step q1, q2, q3, q4, q5, p3.trans q6, ?_⟩
      dsimp only at q7 ⊢
      rw [he]
      exact q7
theorem fcoded_stop {c : FC} {S : SS} {h : H} {ov : AV} (st : Ft c S h ov) (a b : AV) (hs : S.e ≠ 0) :
    ∃ e', Lp AP.A [0, 1, 2] AP.f20L1 [(0, .pobj c.f 0), (1, a), (2, b)] h = some (.exit 0, e', h) := by
  have gf := st.gf
  refine ⟨[(0, .pobj c.f 0), (1, a), (2, b), (20, .bool false)], Lp_exit ?_⟩
  have c2 := beq_f hs
  simp only [I] at *
  simp only [AP.f20L1, go_sem, abin_shl, abin_shr, Nat.reduceEqDiff, reduceIte, Nat.reduceAdd, Nat.reduceMul, Nat.reduceLT, Nat.reduceLeDiff, Int.reduceBEq, Int.reduceBNe, Int.reduceLT, Int.reduceLE, Int.reduceEq, gf, c2]
theorem fcoded_loop {c : FC} (ll dl : List Int) (hll : ll.length < 1000) (hdl : dl.length < 1000) : ∀ (k : Nat) (S : SS) (h : H) (ov : AV), Ft c S h ov → S.e = 0 → 8 * c.text.size < S.at_ + k →
    ∃ e' h' ov' S', (Lp AP.A [0, 1, 2] AP.f20L1 [(0, .pobj c.f 0), (1, rbook ll), (2, rbook dl)] h = some (.ret, e', h') ∨ Lp AP.A [0, 1, 2] AP.f20L1 [(0, .pobj c.f 0), (1, rbook ll), (2, rbook dl)] h = some (.exit 0, e', h')) ∧ Ft c S' h' ov' ∧ FF c h ov h' ov' ∧ Fin (codedA c.text c.most ll dl k S.at_ S.out) S'
  | 0, S, h, ov, st, he, hk => by have := st.at_le; omega
  | k + 1, S, h, ov, st, he, hk => by
    have gf := st.gf
    rw [he] at gf
    obtain ⟨h1, S1, z, s1, s2, s3, s4⟩ := fsymbol_c ll hll st he
    have gf1 := s2.gf
    rw [codedA]
    cases hz : symA c.text ll 15 1 0 S.at_ with
    | none =>
      rw [hz] at s4
      obtain ⟨s4, s5⟩ := s4
      have ce : (S1.e != 0) = true := bne_t (by rw [s4]; decide)
      refine ⟨[(0, .pobj c.f 0), (1, rbook ll), (2, rbook dl), (6, I z), (32, .bool true)], h1, ov, S1, .inl (Lp_ret ?_), s2, s3, s4, by decide⟩
      simp only [I] at *
      simp only [AP.f20L1, go_sem, abin_shl, abin_shr, Nat.reduceEqDiff, reduceIte, Nat.reduceAdd, Nat.reduceMul, Nat.reduceLT, Nat.reduceLeDiff, Int.reduceBEq, Int.reduceBNe, Int.reduceLT, Int.reduceLE, Int.reduceEq, gf, s1, gf1, ce]
    | some zp =>
      obtain ⟨z2, p1⟩ := zp
      rw [hz] at s4
      obtain ⟨s4, s5⟩ := s4
      subst s5 s4
      dsimp only at gf1
      rw [he] at gf1
      have zb := symA_bd hz
      obtain ⟨y, hy⟩ : ∃ n : Nat, z = n := Int.eq_ofNat_of_zero_le zb.1
      subst hy
      dsimp only
      by_cases c1 : (y : Int) < 256
      · rw [if_pos c1]
        have w1 : IntKind.wrap .u8 (y : Int) = y := wrap_u8 (by omega)
        have c256 : ((y : Int) == 256) = false := beq_f (by omega)
        obtain ⟨h2, ov2, S2, p1', p2', p3', p4'⟩ := fput_c s2 he y
        have step : evC (callW AP.A) loopW AP.f20L1 (restr [(0, .pobj c.f 0), (1, rbook ll), (2, rbook dl)] [0, 1, 2]) h = some (.normal, [(0, .pobj c.f 0), (1, rbook ll), (2, rbook dl)], h2) := by
          simp only [I] at *
          simp only [AP.f20L1, go_sem, abin_shl, abin_shr, Nat.reduceEqDiff, reduceIte, Nat.reduceAdd, Nat.reduceMul, Nat.reduceLT, Nat.reduceLeDiff, Int.reduceBEq, Int.reduceBNe, Int.reduceLT, Int.reduceLE, Int.reduceEq, gf, s1, gf1, c256, decide_eq_true c1, w1, p1']
        dsimp only at p4'
        by_cases hm : c.most ≤ S.out.length
        · rw [if_pos hm] at p4' ⊢
          have he2 : S2.e = 701 := by rw [p4']
          obtain ⟨e', q⟩ := fcoded_stop p2' (rbook ll) (rbook dl) (by rw [he2]; decide)
          exact ⟨e', h2, ov2, _, .inr (Lp_next step q), p2', s3.trans p3', he2, by decide⟩
        · rw [if_neg hm] at p4' ⊢
          subst p4'
          obtain ⟨e', h', ov', S', q1, q2, q3, q4⟩ := fcoded_loop ll dl hll hdl k _ h2 ov2 p2' rfl (by dsimp only; omega)
          refine ⟨e', h', ov', S', ?_, q2, (s3.trans p3').trans q3, q4⟩
          rcases q1 with q1 | q1
          · exact .inl (Lp_next step q1)
          · exact .inr (Lp_next step q1)
      · rw [if_neg c1]
        by_cases c2 : (y : Int) = 256
        · rw [if_pos c2]
          refine ⟨[(0, .pobj c.f 0), (1, rbook ll), (2, rbook dl), (6, I y), (32, .bool true)], h1, ov, _, .inl (Lp_ret ?_), s2, s3, ?_⟩
          · have c2' := beq_t c2
            simp only [I] at *
            simp only [AP.f20L1, go_sem, abin_shl, abin_shr, Nat.reduceEqDiff, reduceIte, Nat.reduceAdd, Nat.reduceMul, Nat.reduceLT, Nat.reduceLeDiff, Int.reduceBEq, Int.reduceBNe, Int.reduceLT, Int.reduceLE, Int.reduceEq, gf, s1, gf1, c2']
          · simp only [Fin]; rw [he]
        · rw [if_neg c2]
          have c256 := beq_f c2
          have lo := lenOf2_c h1 y (by omega)
          rw [Int.toNat_natCast]
          unfold copyA
          have n600 : ((600 : Int) != 0) = true := rfl
          have n0 : ((0 : Int) != 0) = false := rfl
          cases hlo : lenOf y with
          | none =>
            rw [hlo] at lo
            obtain ⟨h2, f1, f2, f3⟩ := wrong_c s2
            refine ⟨[], h2, ov, _, .inl (Lp_ret ?_), f2, s3.trans f3, by simp [failS, he], by decide⟩
            simp only [I, tup3] at *
            simp only [AP.f20L1, go_sem, abin_shl, abin_shr, Nat.reduceEqDiff, reduceIte, Nat.reduceAdd, Nat.reduceMul, Nat.reduceLT, Nat.reduceLeDiff, Int.reduceBEq, Int.reduceBNe, Int.reduceLT, Int.reduceLE, Int.reduceEq, gf, s1, gf1, c256, decide_eq_false c1, lo, n600, f1]
          | some le =>
            obtain ⟨least, extra⟩ := le
            rw [hlo] at lo
            obtain ⟨b1, b2, b3⟩ := lenOf_bd hlo
            obtain ⟨h2, k1, k2, k3⟩ := fget_c s2 extra extra rfl (by omega)
            dsimp only
            by_cases hp : p1 + extra ≤ 8 * c.text.size
            · have eg : getF c extra { S with at_ := p1 } = (valAt c.text p1 extra, { S with at_ := p1 + extra }) := by rw [getF, if_pos hp]
              rw [eg] at k1 k2
              dsimp only at k1 k2
              rw [if_pos hp]
              have gf2 := k2.gf
              dsimp only at gf2
              rw [he] at gf2
              have hve := valAt_lt c.text p1 extra
              have hve2 : 2 ^ extra ≤ 2 ^ 5 := Nat.pow_le_pow_right (by omega) b2
              have w1 : IntKind.wrap .i64 ((least : Int) + (valAt c.text p1 extra : Int)) = ((least + valAt c.text p1 extra : Nat) : Int) := by
                rw [show (least : Int) + (valAt c.text p1 extra : Int) = ((least + valAt c.text p1 extra : Nat) : Int) by omega]; exact wrap_nat64 (by omega)
              obtain ⟨h3, S3, z, s1', s2', s3', s4'⟩ := fsymbol_c dl hdl k2 he
              have gf3 := s2'.gf
              dsimp only at s4'
              cases hz2 : symA c.text dl 15 1 0 (p1 + extra) with
              | none =>
                rw [hz2] at s4'
                obtain ⟨s4', s5'⟩ := s4'
                have ce3 : (S3.e != 0) = true := bne_t (by rw [s4']; decide)
                refine ⟨[(0, .pobj c.f 0), (1, rbook ll), (2, rbook dl), (10, I (least + valAt c.text p1 extra : Nat)), (11, I z), (66, .bool true)], h3, ov, S3, .inl (Lp_ret ?_), s2', (s3.trans k3).trans s3', s4', by decide⟩
                simp only [I, tup3] at *
                simp only [AP.f20L1, go_sem, abin_shl, abin_shr, Nat.reduceEqDiff, reduceIte, Nat.reduceAdd, Nat.reduceMul, Nat.reduceLT, Nat.reduceLeDiff, Int.reduceBEq, Int.reduceBNe, Int.reduceLT, Int.reduceLE, Int.reduceEq, gf, s1, gf1, c256, decide_eq_false c1, lo, n0, k1, w1, gf2, s1', gf3, ce3]
              | some zp =>
                obtain ⟨z2, p2⟩ := zp
                rw [hz2] at s4'
                obtain ⟨s4', s5'⟩ := s4'
                subst s5' s4'
                have zb2 := symA_bd hz2
                obtain ⟨zn, hzn⟩ : ∃ n : Nat, z = n := Int.eq_ofNat_of_zero_le zb2.1
                subst hzn
                have dob := distOf2_c h3 zn (by omega)
                dsimp only at gf3 ⊢
                rw [he] at gf3
                rw [Int.toNat_natCast]
                cases hdo : distOf zn with
                | none =>
                  rw [hdo] at dob
                  obtain ⟨h4, f1, f2, f3⟩ := wrong_c s2'
                  refine ⟨[], h4, ov, _, .inl (Lp_ret ?_), f2, ((s3.trans k3).trans s3').trans f3, by simp [failS, he], by decide⟩
                  simp only [I, tup3] at *
                  simp only [AP.f20L1, go_sem, abin_shl, abin_shr, Nat.reduceEqDiff, reduceIte, Nat.reduceAdd, Nat.reduceMul, Nat.reduceLT, Nat.reduceLeDiff, Int.reduceBEq, Int.reduceBNe, Int.reduceLT, Int.reduceLE, Int.reduceEq, gf, s1, gf1, c256, decide_eq_false c1, lo, n0, k1, w1, gf2, s1', gf3, dob, n600, f1]
                | some lx =>
                  obtain ⟨ld, xd⟩ := lx
                  rw [hdo] at dob
                  obtain ⟨d1, d2, d3⟩ := distOf_bd hdo
                  obtain ⟨h4, v1, v2, v3⟩ := fget_c s2' xd xd rfl (by omega)
                  obtain ⟨x, hx⟩ : ∃ x, x = (getF c xd { S with at_ := p2 }).1 := ⟨_, rfl⟩
                  obtain ⟨S4, hS4⟩ : ∃ x, x = (getF c xd { S with at_ := p2 }).2 := ⟨_, rfl⟩
                  rw [← hx] at v1; rw [← hS4] at v2
                  have hxb : x < 65536 := hx ▸ getF_lt c _ xd (by omega)
                  have w2 : IntKind.wrap .i64 ((ld : Int) + (x : Int)) = ((ld + x : Nat) : Int) := by
                    rw [show (ld : Int) + (x : Int) = ((ld + x : Nat) : Int) by omega]; exact wrap_nat64 (by omega)
                  have gf4 := v2.gf
                  have ln := v2.own.len
                  rw [bys_length] at ln
                  have frs := ((s3.trans k3).trans s3').trans v3
                  dsimp only
                  have toLoop : ∀ (h5 : H) (e6 : Env) (h6 : H), ((S4.e = 0 ∧ S4.out.length < ld + x ∧ callW AP.A 25 [.pobj c.f 0] h4 = some (.tup [], h5)) ∨ ((S4.e ≠ 0 ∨ ¬ S4.out.length < ld + x) ∧ h5 = h4)) → Lp AP.A [0, 1, 2, 10, 14, 15] AP.f20L0 [(0, .pobj c.f 0), (1, rbook ll), (2, rbook dl), (10, I (least + valAt c.text p1 extra : Nat)), (14, I (ld + x : Nat)), (15, I 0)] h5 = some (.exit 2, e6, h6) →
                      look e6 0 = .pobj c.f 0 → look e6 1 = rbook ll → look e6 2 = rbook dl → evC (callW AP.A) loopW AP.f20L1 (restr [(0, .pobj c.f 0), (1, rbook ll), (2, rbook dl)] [0, 1, 2]) h = some (.normal, [(0, .pobj c.f 0), (1, rbook ll), (2, rbook dl)], h6) := by
                    intro h5 e6 h6 hcase q6 l0 l1 l2
                    rcases hcase with ⟨g1, g2, g3⟩ | ⟨g1, rfl⟩
                    · have g2' : (S4.out.length : Int) < ((ld + x : Nat) : Int) := by omega
                      have g1' := beq_t g1
                      simp only [I, tup3] at *
                      simp only [AP.f20L1, go_sem, abin_shl, abin_shr, Nat.reduceEqDiff, reduceIte, Nat.reduceAdd, Nat.reduceMul, Nat.reduceLT, Nat.reduceLeDiff, Int.reduceBEq, Int.reduceBNe, Int.reduceLT, Int.reduceLE, Int.reduceEq, gf, s1, gf1, c256, decide_eq_false c1, lo, n0, k1, w1, gf2, s1', gf3, dob, v1, w2, gf4, g1', ln, decide_eq_true g2', g3, evC_loop, q6, l0, l1, l2]
                    · by_cases g3 : S4.e = 0
                      · have g2 : ¬ S4.out.length < ld + x := by
                          rcases g1 with q | q
                          · exact absurd g3 q
                          · exact q
                        have g2' : ¬ (S4.out.length : Int) < ((ld + x : Nat) : Int) := by omega
                        have g1' := beq_t g3
                        clear g1
                        simp only [I, tup3] at *
                        simp only [AP.f20L1, go_sem, abin_shl, abin_shr, Nat.reduceEqDiff, reduceIte, Nat.reduceAdd, Nat.reduceMul, Nat.reduceLT, Nat.reduceLeDiff, Int.reduceBEq, Int.reduceBNe, Int.reduceLT, Int.reduceLE, Int.reduceEq, gf, s1, gf1, c256, decide_eq_false c1, lo, n0, k1, w1, gf2, s1', gf3, dob, v1, w2, gf4, g1', ln, decide_eq_false g2', evC_loop, q6, l0, l1, l2]
                      · have g1' := beq_f g3
                        clear g1
                        simp only [I, tup3] at *
                        simp only [AP.f20L1, go_sem, abin_shl, abin_shr, Nat.reduceEqDiff, reduceIte, Nat.reduceAdd, Nat.reduceMul, Nat.reduceLT, Nat.reduceLeDiff, Int.reduceBEq, Int.reduceBNe, Int.reduceLT, Int.reduceLE, Int.reduceEq, gf, s1, gf1, c256, decide_eq_false c1, lo, n0, k1, w1, gf2, s1', gf3, dob, v1, w2, gf4, g1', ln, evC_loop, q6, l0, l1, l2]
                  by_cases hp2 : p2 + xd ≤ 8 * c.text.size
                  · have egx : getF c xd { S with at_ := p2 } = (valAt c.text p2 xd, { S with at_ := p2 + xd }) := by rw [getF, if_pos hp2]
                    rw [egx] at hx hS4; dsimp only at hx hS4
                    subst hS4
                    rw [← hx]
                    by_cases hbk : S.out.length < ld + x
                    · rw [if_neg (fun q => by omega)]
                      obtain ⟨h5, f1, f2, f3⟩ := wrong_c v2
                      have he5 : (failS 700 { S with at_ := p2 + xd }).e = 700 := by simp [failS, he]
                      obtain ⟨e6, q6, q7, q8, q9⟩ := fcopy_stop f2 (rbook ll) (rbook dl) (least + valAt c.text p1 extra) (ld + x) 0 (.inr ⟨by omega, by rw [he5]; decide⟩)
                      have step := toLoop h5 e6 h5 (.inl ⟨he, hbk, f1⟩) q6 q7 q8 q9
                      obtain ⟨e', q⟩ := fcoded_stop f2 (rbook ll) (rbook dl) (by rw [he5]; decide)
                      exact ⟨e', h5, ov, _, .inr (Lp_next step q), f2, frs.trans f3, he5, by decide⟩
                    · rw [if_pos ⟨hp2, by omega⟩]
                      obtain ⟨e6, h6, ov6, S6, q1, q2, q3, q4, q5, q6, q7⟩ := fcopy_loop (c := c) (rbook ll) (rbook dl) (ld + x) (by omega) (least + valAt c.text p1 extra) (by omega) (least + valAt c.text p1 extra) 0 _ h4 ov (by omega) v2 he (by dsimp only; omega)
                      have step := toLoop h4 e6 h6 (.inr ⟨.inr hbk, rfl⟩) q1 q2 q3 q4
                      dsimp only at q7
                      cases hcl : copyL c.most (ld + x) (least + valAt c.text p1 extra) S.out with
                      | error q =>
                        rw [hcl] at q7
                        obtain ⟨e', q'⟩ := fcoded_stop q5 (rbook ll) (rbook dl) (by rw [q7.1]; exact q7.2)
                        exact ⟨e', h6, ov6, S6, .inr (Lp_next step q'), q5, frs.trans q6, q7⟩
                      | ok o =>
                        rw [hcl] at q7
                        dsimp only at q7
                        subst q7
                        obtain ⟨e', h', ov', S', r1, r2, r3, r4⟩ := fcoded_loop ll dl hll hdl k _ h6 ov6 q5 he (by dsimp only; omega)
                        refine ⟨e', h', ov', S', ?_, r2, (frs.trans q6).trans r3, r4⟩
                        rcases r1 with r1 | r1
                        · exact .inl (Lp_next step r1)
                        · exact .inr (Lp_next step r1)
                  · rw [if_neg (fun q => hp2 q.1)]
                    have he4 : S4.e = 700 := by rw [hS4, getF, if_neg hp2]; simp [failS, he]
                    obtain ⟨e6, q6, q7, q8, q9⟩ := fcopy_stop v2 (rbook ll) (rbook dl) (least + valAt c.text p1 extra) (ld + x) 0 (.inr ⟨by omega, by rw [he4]; decide⟩)
                    have step := toLoop h4 e6 h4 (.inr ⟨.inl (by rw [he4]; decide), rfl⟩) q6 q7 q8 q9
                    obtain ⟨e', q⟩ := fcoded_stop v2 (rbook ll) (rbook dl) (by rw [he4]; decide)
                    exact ⟨e', h4, ov, _, .inr (Lp_next step q), v2, frs, he4, by decide⟩
            · have eg : getF c extra { S with at_ := p1 } = (0, { S with at_ := p1, e := 700 }) := by rw [getF, if_neg hp, failS, if_pos he]
              rw [eg] at k1 k2
              dsimp only at k1 k2
              rw [if_neg hp]
              have gf2 := k2.gf
              have w1 : IntKind.wrap .i64 ((least : Int) + ((0 : Nat) : Int)) = ((least : Nat) : Int) := by
                rw [show (least : Int) + ((0 : Nat) : Int) = ((least : Nat) : Int) by omega]; exact wrap_nat64 (by omega)
              have n7 : ((700 : Int) != 0) = true := rfl
              refine ⟨[(0, .pobj c.f 0), (1, rbook ll), (2, rbook dl), (10, I least), (58, .bool true)], h2, ov, _, .inl (Lp_ret ?_), k2, s3.trans k3, rfl, by decide⟩
              simp only [I, tup3] at *
              simp only [AP.f20L1, go_sem, abin_shl, abin_shr, Nat.reduceEqDiff, reduceIte, Nat.reduceAdd, Nat.reduceMul, Nat.reduceLT, Nat.reduceLeDiff, Int.reduceBEq, Int.reduceBNe, Int.reduceLT, Int.reduceLE, Int.reduceEq, gf, s1, gf1, c256, decide_eq_false c1, lo, n0, k1, w1, gf2, n7]
theorem fcoded_c {c : FC} {S : SS} {h : H} {ov : AV} (ll dl : List Int) (hll : ll.length < 1000) (hdl : dl.length < 1000) (st : Ft c S h ov) (he : S.e = 0) :
    ∃ h' ov' S', callW AP.A 20 [.pobj c.f 0, rbook ll, rbook dl] h = some (.tup [], h') ∧ Ft c S' h' ov' ∧ FF c h ov h' ov' ∧ Fin (codedA c.text c.most ll dl (8 * c.text.size + 1) S.at_ S.out) S' := by
  obtain ⟨e', h', ov', S', q1, q2, q3, q4⟩ := fcoded_loop ll dl hll hdl (8 * c.text.size + 1) S h ov st he (by omega)
  refine ⟨h', ov', S', ?_, q2, q3, q4⟩
  rcases q1 with q1 | q1
  · refine plain_c (fn := AP.f20) (e := e') (vs := []) rfl rfl rfl ?_ rfl
    simp only [AP.f20, go_sem, abin_shl, abin_shr, Nat.reduceEqDiff, reduceIte, Nat.reduceAdd, Nat.reduceMul, Nat.reduceLT, Nat.reduceLeDiff, Int.reduceBEq, Int.reduceBNe, Int.reduceLT, Int.reduceLE, Int.reduceEq, evC_loop, q1]
  · refine plain_n (fn := AP.f20) (e := []) (vs := []) rfl rfl rfl ?_ rfl
    simp only [AP.f20, go_sem, abin_shl, abin_shr, Nat.reduceEqDiff, reduceIte, Nat.reduceAdd, Nat.reduceMul, Nat.reduceLT, Nat.reduceLeDiff, Int.reduceBEq, Int.reduceBNe, Int.reduceLT, Int.reduceLE, Int.reduceEq, evC_loop, q1]
end Ab
set_option linter.unusedSimpArgs false
set_option linter.unusedVariables false
namespace Ab
open Go
theorem order2_c (h : H) : callW AP.A 32 [] h = some (immI orderL, h) := by
  have b : birth [] (.bslice 1 19 [.int .i64 0] [(0, (.c (.int .i64 16))), (1, (.c (.int .i64 17))), (2, (.c (.int .i64 18))), (3, (.c (.int .i64 0))), (4, (.c (.int .i64 8))), (5, (.c (.int .i64 7))), (6, (.c (.int .i64 9))), (7, (.c (.int .i64 6))), (8, (.c (.int .i64 10))), (9, (.c (.int .i64 5))), (10, (.c (.int .i64 11))), (11, (.c (.int .i64 4))), (12, (.c (.int .i64 12))), (13, (.c (.int .i64 3))), (14, (.c (.int .i64 13))), (15, (.c (.int .i64 2))), (16, (.c (.int .i64 14))), (17, (.c (.int .i64 1))), (18, (.c (.int .i64 15)))]) = some (ints orderL, fun i => .sobj i 0 19 1) := rfl
  refine pure_c (fn := AP.f32) (h2 := h.fence.alloc (ints orderL)) (e := [(0, .sobj h.next 0 19 1)]) (vs := [.sobj h.next 0 19 1]) rfl rfl rfl ?_ rfl ?_
  · have hn : h.fence.next = h.next := rfl
    simp only [AP.f32, go_sem, abin_shl, abin_shr, Nat.reduceEqDiff, reduceIte, Nat.reduceAdd, Nat.reduceMul, Nat.reduceLT, Nat.reduceLeDiff, Int.reduceBEq, Int.reduceBNe, Int.reduceLT, Int.reduceLE, Int.reduceEq, b, hn]
  · show snap (h.fence.alloc (ints orderL)).get h.next 16 true (.sobj h.next 0 19 1) = _
    unfold snap
    rw [if_neg (by omega), H.get_alloc, if_pos (show h.next = h.fence.next from rfl), Option.bind_some, if_pos (by decide)]
    rw [show ((ints orderL).drop 0).take (19 * 1) = ints orderL from rfl, mapO_ints]; rfl
theorem snap_ints {h : H} {v : AV} {l : List Int} {fl : Nat} (o : Own h v (ints l)) (hf : fl ≤ h.floor) (hl : l ≠ []) : snap h.get fl 16 true v = some (immI l) := by
  rcases o with ⟨_, q⟩ | ⟨id, rfl, q, h2, _⟩
  · exact absurd (List.map_eq_nil_iff.1 q) hl
  · unfold snap
    rw [if_neg (by omega), q, Option.bind_some, if_pos (by omega)]
    rw [List.drop_zero, Nat.mul_one, List.take_length, mapO_ints]
    simp [immI]
def fixF (i : Nat) : Int := if 144 ≤ i ∧ i < 256 then 9 else if 256 ≤ i ∧ i < 280 then 7 else 8
theorem fixed2_loop : ∀ (m i : Nat) (h : H) (v : AV), i + m = 288 → Own h v (ints ((List.range i).map fixF)) → h.floor ≤ h.next →
    ∃ e' h' v', Lp AP.A [1, 2] AP.f22L0 [(1, v), (2, I i)] h = some (.exit 0, e', h') ∧ look e' 1 = v' ∧ Own h' v' (ints ((List.range 288).map fixF)) ∧ h'.floor = h.floor
  | 0, i, h, v, hm, o, hf => by
    obtain rfl : i = 288 := by omega
    refine ⟨[(1, v), (2, I 288), (5, .bool false)], h, v, Lp_exit ?_, rfl, o, rfl⟩
    have c1 : ¬ (((288 : Nat) : Int) < 288) := by omega
    simp only [I] at *
    simp only [AP.f22L0, go_sem, abin_shl, abin_shr, Nat.reduceEqDiff, reduceIte, Nat.reduceAdd, Nat.reduceMul, Nat.reduceLT, Nat.reduceLeDiff, Int.reduceBEq, Int.reduceBNe, Int.reduceLT, Int.reduceLE, Int.reduceEq, decide_eq_false c1]
    rfl
  | m + 1, i, h, v, hm, o, hf => by
    have c1 : (i : Int) < 288 := by omega
    have w1 : IntKind.wrap .i64 ((i : Int) + 1) = ((i + 1 : Nat) : Int) := wrap_nat64 (n := i + 1) (by omega)
    obtain ⟨g, hg⟩ : ∃ g, g = h.alloc [I (fixF i)] := ⟨_, rfl⟩
    have og : Own g v (ints ((List.range i).map fixF)) := o.mono (by rw [hg]; simp) fun j hj => by have := o.lt hj; rw [hg, H.get_alloc, if_neg (by omega)]
    have hgf : g.floor ≤ g.next := by rw [hg]; simp; omega
    obtain ⟨v', h2, r1, r2, r3, r4, r5, r6⟩ := og.app hgf (z := 8) (I (fixF i)) rfl (by simp [roomy]; omega)
    have src : srcCells g 1 (.sobj h.next 0 1 1) = some (1, [I (fixF i)]) := by simp [srcCells, hg, H.get_alloc]
    have ap : aapp g 1 8 v (.sobj h.next 0 1 1) = some (v', h2) := by unfold aapp; rw [src, Option.bind_some]; exact r1
    have bt : ∀ e : Env, look e 21 = .int .i64 (fixF i) → birth e (.bslice 1 1 [.int .i64 0] [(0, .t 21)]) = some ([.int .i64 (fixF i)], fun i => .sobj i 0 1 1) := by
      intro e q; simp only [birth, List.map_cons, List.map_nil, ev_t', q]; rfl
    have hr : ints ((List.range i).map fixF) ++ [I (fixF i)] = ints ((List.range (i + 1)).map fixF) := by
      rw [List.range_succ, List.map_append, ints_append]; rfl
    rw [hr] at r2
    have step : evC (callW AP.A) loopW AP.f22L0 (restr [(1, v), (2, I i)] [1, 2]) h = some (.normal, [(1, v'), (2, I (i + 1 : Nat))], h2) := by
      clear hr
      by_cases q1 : 144 ≤ i
      · have d1 : (144 : Int) ≤ i := by omega
        by_cases q2 : i < 256
        · have d2 : (i : Int) < 256 := by omega
          have hx : fixF i = 9 := by rw [fixF, if_pos ⟨q1, q2⟩]
          rw [hx] at hg bt
          simp only [I] at *
          simp only [AP.f22L0, go_sem, abin_shl, abin_shr, Nat.reduceEqDiff, reduceIte, Nat.reduceAdd, Nat.reduceMul, Nat.reduceLT, Nat.reduceLeDiff, Int.reduceBEq, Int.reduceBNe, Int.reduceLT, Int.reduceLE, Int.reduceEq, decide_eq_true c1, decide_eq_true d1, decide_eq_true d2]
          rw [bt _ rfl]
          simp only [go_sem, abin_shl, abin_shr, Nat.reduceEqDiff, reduceIte, Nat.reduceAdd, Nat.reduceMul, Nat.reduceLT, Nat.reduceLeDiff, Int.reduceBEq, Int.reduceBNe, Int.reduceLT, Int.reduceLE, Int.reduceEq, ← hg, ap, w1]
        · have d2 : ¬ (i : Int) < 256 := by omega
          have d3 : (256 : Int) ≤ i := by omega
          by_cases q3 : i < 280
          · have d4 : (i : Int) < 280 := by omega
            have hx : fixF i = 7 := by rw [fixF, if_neg (by omega), if_pos ⟨by omega, q3⟩]
            rw [hx] at hg bt
            simp only [I] at *
            simp only [AP.f22L0, go_sem, abin_shl, abin_shr, Nat.reduceEqDiff, reduceIte, Nat.reduceAdd, Nat.reduceMul, Nat.reduceLT, Nat.reduceLeDiff, Int.reduceBEq, Int.reduceBNe, Int.reduceLT, Int.reduceLE, Int.reduceEq, decide_eq_true c1, decide_eq_true d1, decide_eq_false d2, decide_eq_true d3, decide_eq_true d4]
            rw [bt _ rfl]
            simp only [go_sem, abin_shl, abin_shr, Nat.reduceEqDiff, reduceIte, Nat.reduceAdd, Nat.reduceMul, Nat.reduceLT, Nat.reduceLeDiff, Int.reduceBEq, Int.reduceBNe, Int.reduceLT, Int.reduceLE, Int.reduceEq, ← hg, ap, w1]
          · have d4 : ¬ (i : Int) < 280 := by omega
            have hx : fixF i = 8 := by rw [fixF, if_neg (by omega), if_neg (by omega)]
            rw [hx] at hg bt
            simp only [I] at *
            simp only [AP.f22L0, go_sem, abin_shl, abin_shr, Nat.reduceEqDiff, reduceIte, Nat.reduceAdd, Nat.reduceMul, Nat.reduceLT, Nat.reduceLeDiff, Int.reduceBEq, Int.reduceBNe, Int.reduceLT, Int.reduceLE, Int.reduceEq, decide_eq_true c1, decide_eq_true d1, decide_eq_false d2, decide_eq_true d3, decide_eq_false d4]
            rw [bt _ rfl]
            simp only [go_sem, abin_shl, abin_shr, Nat.reduceEqDiff, reduceIte, Nat.reduceAdd, Nat.reduceMul, Nat.reduceLT, Nat.reduceLeDiff, Int.reduceBEq, Int.reduceBNe, Int.reduceLT, Int.reduceLE, Int.reduceEq, ← hg, ap, w1]
      · have d1 : ¬ (144 : Int) ≤ i := by omega
        have d3 : ¬ (256 : Int) ≤ i := by omega
        have hx : fixF i = 8 := by rw [fixF, if_neg (by omega), if_neg (by omega)]
        rw [hx] at hg bt
        simp only [I] at *
        simp only [AP.f22L0, go_sem, abin_shl, abin_shr, Nat.reduceEqDiff, reduceIte, Nat.reduceAdd, Nat.reduceMul, Nat.reduceLT, Nat.reduceLeDiff, Int.reduceBEq, Int.reduceBNe, Int.reduceLT, Int.reduceLE, Int.reduceEq, decide_eq_true c1, decide_eq_false d1, decide_eq_false d3]
        rw [bt _ rfl]
        simp only [go_sem, abin_shl, abin_shr, Nat.reduceEqDiff, reduceIte, Nat.reduceAdd, Nat.reduceMul, Nat.reduceLT, Nat.reduceLeDiff, Int.reduceBEq, Int.reduceBNe, Int.reduceLT, Int.reduceLE, Int.reduceEq, ← hg, ap, w1]
    obtain ⟨e', h', v2, s1, s2, s3, s4⟩ := fixed2_loop m (i + 1) h2 v' (by omega) r2 (by rw [r3]; exact Nat.le_trans hgf r4)
    exact ⟨e', h', v2, Lp_next step s1, s2, s3, by rw [s4, r3, hg]; simp⟩
theorem fixF_list : (List.range 288).map fixF = fixedL := by decide +kernel
theorem fixed2_c (h : H) : callW AP.A 22 [] h = some (immI fixedL, h) := by
  obtain ⟨e', h', v', s1, s2, s3, s4⟩ := fixed2_loop 288 0 h.fence .nils rfl (.inl ⟨rfl, rfl⟩) (Nat.le_refl _)
  have s1' : Lp AP.A [1, 2] AP.f22L0 [(1, .nils), (2, I 0)] h.fence = some (.exit 0, e', h') := s1
  clear s1
  rw [fixF_list] at s3
  refine pure_c (fn := AP.f22) (h2 := h') (e := [(0, v')]) (vs := [v']) rfl rfl rfl ?_ rfl ?_
  · simp only [I] at *
    simp only [AP.f22, go_sem, abin_shl, abin_shr, Nat.reduceEqDiff, reduceIte, Nat.reduceAdd, Nat.reduceMul, Nat.reduceLT, Nat.reduceLeDiff, Int.reduceBEq, Int.reduceBNe, Int.reduceLT, Int.reduceLE, Int.reduceEq, evC_loop, s1', s2]
  · exact snap_ints s3 (by rw [s4]; exact Nat.le_refl _) (by intro e; have := congrArg List.length e; rw [fixedL_len] at this; simp at this)
theorem fives_loop (id : Nat) : ∀ (m i : Nat) (h : H), i + m = 30 → h.get id = some (ints (List.replicate i 5 ++ List.replicate m 0)) → h.floor ≤ id →
    ∃ e' h', Lp AP.A [1, 2] AP.f23L0 [(1, .sobj id 0 30 1), (2, I i)] h = some (.exit 0, e', h') ∧ look e' 1 = .sobj id 0 30 1 ∧ h'.get id = some (ints (List.replicate 30 5)) ∧ h'.floor = h.floor
  | 0, i, h, hm, hg, hf => by
    obtain rfl : i = 30 := by omega
    refine ⟨[(1, .sobj id 0 30 1), (2, I 30), (5, .bool false)], h, Lp_exit ?_, rfl, hg, rfl⟩
    have c1 : ¬ (((30 : Nat) : Int) < 30) := by omega
    simp only [I] at *
    simp only [AP.f23L0, go_sem, abin_shl, abin_shr, Nat.reduceEqDiff, reduceIte, Nat.reduceAdd, Nat.reduceMul, Nat.reduceLT, Nat.reduceLeDiff, Int.reduceBEq, Int.reduceBNe, Int.reduceLT, Int.reduceLE, Int.reduceEq, decide_eq_false c1]
    rfl
  | m + 1, i, h, hm, hg, hf => by
    have c1 : (i : Int) < 30 := by omega
    have w1 : IntKind.wrap .i64 ((i : Int) + 1) = ((i + 1 : Nat) : Int) := wrap_nat64 (n := i + 1) (by omega)
    have ia : aiadr 1 (.sobj id 0 30 1) (I i) = some (.pobj id i) := by simp [aiadr, aidx_of (show i < 30 by omega)]
    have hset : (ints (List.replicate i 5 ++ List.replicate (m + 1) 0)).set i (I 5) = ints (List.replicate (i + 1) 5 ++ List.replicate m 0) := by
      have h1 : (List.replicate i (5 : Int) ++ List.replicate (m + 1) 0).set i 5 = List.replicate (i + 1) 5 ++ List.replicate m 0 := by
        rw [List.set_append_right _ _ (by simp), List.length_replicate, Nat.sub_self, List.replicate_succ, List.set_cons_zero, List.replicate_succ', List.append_assoc]; rfl
      rw [← h1]; simp [ints, List.map_set]
    have hst : stO h id i 1 [I 5] (some (ints (List.replicate i 5 ++ List.replicate (m + 1) 0))) = some (h.set id (ints (List.replicate (i + 1) 5 ++ List.replicate m 0))) := by
      rw [stO_1 hf (by rw [ints_length]; simp) rfl, hset]
    have step : evC (callW AP.A) loopW AP.f23L0 (restr [(1, .sobj id 0 30 1), (2, I i)] [1, 2]) h = some (.normal, [(1, .sobj id 0 30 1), (2, I (i + 1 : Nat))], h.set id (ints (List.replicate (i + 1) 5 ++ List.replicate m 0))) := by
      clear hset
      generalize ints (List.replicate (i + 1) 5 ++ List.replicate m 0) = L1 at *
      generalize ints (List.replicate i 5 ++ List.replicate (m + 1) 0) = L0 at *
      simp only [I] at *
      simp only [AP.f23L0, go_sem, abin_shl, abin_shr, Nat.reduceEqDiff, reduceIte, Nat.reduceAdd, Nat.reduceMul, Nat.reduceLT, Nat.reduceLeDiff, Int.reduceBEq, Int.reduceBNe, Int.reduceLT, Int.reduceLE, Int.reduceEq, decide_eq_true c1, ia, hg, hst, w1]
    obtain ⟨e', h', s1, s2, s3, s4⟩ := fives_loop id m (i + 1) _ (by omega) (by rw [H.get_set, if_pos rfl, hg]; rfl) (by simpa using hf)
    exact ⟨e', h', Lp_next step s1, s2, s3, by rw [s4]; simp⟩
theorem fives_c (h : H) : callW AP.A 23 [] h = some (immI (List.replicate 30 5), h) := by
  obtain ⟨h1, hh1⟩ : ∃ g, g = h.fence.alloc (ints (List.replicate 30 0)) := ⟨_, rfl⟩
  have hg : h1.get h.next = some (ints (List.replicate 0 5 ++ List.replicate 30 0)) := by rw [hh1, H.get_alloc, if_pos (show h.next = h.fence.next from rfl)]; rfl
  obtain ⟨e', h', s1, s2, s3, s4⟩ := fives_loop h.next 30 0 h1 rfl hg (by rw [hh1]; simp)
  have s1' : Lp AP.A [1, 2] AP.f23L0 [(1, .sobj h.next 0 30 1), (2, I 0)] h1 = some (.exit 0, e', h') := s1
  clear s1
  have bt : ∀ e : Env, birth e (.mksl 1 8 [.int .i64 0] (.c (.int .i64 30)) (.c (.int .i64 30))) = some (ints (List.replicate 30 0), fun i => .sobj i 0 30 1) := fun _ => rfl
  have hn : h.fence.next = h.next := rfl
  refine pure_c (fn := AP.f23) (h2 := h') (e := [(0, .sobj h.next 0 30 1)]) (vs := [.sobj h.next 0 30 1]) rfl rfl rfl ?_ rfl ?_
  · simp only [I] at *
    simp only [AP.f23, go_sem, abin_shl, abin_shr, Nat.reduceEqDiff, reduceIte, Nat.reduceAdd, Nat.reduceMul, Nat.reduceLT, Nat.reduceLeDiff, Int.reduceBEq, Int.reduceBNe, Int.reduceLT, Int.reduceLE, Int.reduceEq, bt, ← hh1, hn, evC_loop, s1', s2]
  · exact snap_ints (l := List.replicate 30 5) (.inr ⟨h.next, rfl, s3, by rw [s4, hh1]; simp, by decide⟩) (by rw [s4, hh1]; simp) (by decide)
theorem lmay_loop {x : AV} {l : List Int} (hl : l.length < 100000) (h : H) (rd : Rd h x (ints l)) : ∀ (q p : List Int), l = p ++ q →
    (∃ e', Lp AP.A [0, 3] AP.f67L0 [(0, x), (3, I p.length)] h = some (.exit 0, e', h) ∧ (ints q).any badV = false) ∨ (∃ e', Lp AP.A [0, 3] AP.f67L0 [(0, x), (3, I p.length)] h = some (.ret, e', h) ∧ look e' 2 = .bool false ∧ (ints q).any badV = true)
  | [], p, hp => by
    have ln := rd.len
    rw [ints_length] at ln
    left
    refine ⟨[(0, x), (3, I p.length), (15, .bool false)], Lp_exit ?_, rfl⟩
    have c1 : ¬ (p.length : Int) < (l.length : Int) := by rw [hp]; simp
    simp only [I] at *
    simp only [AP.f67L0, go_sem, abin_shl, abin_shr, Nat.reduceEqDiff, reduceIte, Nat.reduceAdd, Nat.reduceMul, Nat.reduceLT, Nat.reduceLeDiff, Int.reduceBEq, Int.reduceBNe, Int.reduceLT, Int.reduceLE, Int.reduceEq, ln, decide_eq_false c1]
  | y :: q, p, hp => by
    have ln := rd.len
    rw [ints_length] at ln
    have hlen : l.length = p.length + (q.length + 1) := by rw [hp]; simp
    have c1 : (p.length : Int) < (l.length : Int) := by omega
    have hv : (ints l)[p.length]? = some (I y) := ints_get (by rw [hp]; simp)
    obtain ⟨ad, p1, p2⟩ := rd.elem hv
    have p3 := p2 h (fun _ _ q => q)
    have w1 : IntKind.wrap .i64 ((p.length : Int) + 1) = (((p ++ [y]).length : Nat) : Int) := by
      rw [List.length_append]; exact wrap_nat64 (n := p.length + 1) (by omega)
    have hany : (ints (y :: q)).any badV = (badV (I y) || (ints q).any badV) := rfl
    rw [hany]
    by_cases d1 : y < 0
    · right
      refine ⟨[(2, .bool false)], Lp_ret ?_, rfl, by simp [badV, I, d1]⟩
      simp only [I] at *
      simp only [AP.f67L0, go_sem, abin_shl, abin_shr, Nat.reduceEqDiff, reduceIte, Nat.reduceAdd, Nat.reduceMul, Nat.reduceLT, Nat.reduceLeDiff, Int.reduceBEq, Int.reduceBNe, Int.reduceLT, Int.reduceLE, Int.reduceEq, ln, decide_eq_true c1, p1, p3, decide_eq_true d1]
    by_cases d2 : 15 < y
    · right
      refine ⟨[(2, .bool false)], Lp_ret ?_, rfl, by simp [badV, I, d2]⟩
      simp only [I] at *
      simp only [AP.f67L0, go_sem, abin_shl, abin_shr, Nat.reduceEqDiff, reduceIte, Nat.reduceAdd, Nat.reduceMul, Nat.reduceLT, Nat.reduceLeDiff, Int.reduceBEq, Int.reduceBNe, Int.reduceLT, Int.reduceLE, Int.reduceEq, ln, decide_eq_true c1, p1, p3, decide_eq_false d1, decide_eq_true d2]
    have hb : badV (I y) = false := by simp [badV, I]; omega
    have step : evC (callW AP.A) loopW AP.f67L0 (restr [(0, x), (3, I p.length)] [0, 3]) h = some (.normal, [(0, x), (3, I (p ++ [y]).length)], h) := by
      clear hany hb
      generalize (p ++ [y]).length = B at *
      simp only [I] at *
      simp only [AP.f67L0, go_sem, abin_shl, abin_shr, Nat.reduceEqDiff, reduceIte, Nat.reduceAdd, Nat.reduceMul, Nat.reduceLT, Nat.reduceLeDiff, Int.reduceBEq, Int.reduceBNe, Int.reduceLT, Int.reduceLE, Int.reduceEq, ln, decide_eq_true c1, p1, p3, decide_eq_false d1, decide_eq_false d2, w1]
    rw [hb, Bool.false_or]
    rcases lmay_loop hl h rd q (p ++ [y]) (by rw [hp]; simp) with ⟨e', r1, r2⟩ | ⟨e', r1, r2, r3⟩
    · exact .inl ⟨e', Lp_next step r1, r2⟩
    · exact .inr ⟨e', Lp_next step r1, r2, r3⟩
theorem lmay_c (h : H) (x : AV) (l : List Int) (hl : l.length < 100000) (rd : Rd h x (ints l)) : callW AP.A 67 [x] h = some (.bool (mayS l), h) := by
  have rd' := rd.mono (get_fence_mono h)
  have ln := rd.len
  rw [ints_length] at ln
  unfold mayS
  by_cases c1 : l.length < 1
  · refine pure_c (fn := AP.f67) (h2 := h.fence) (e := [(2, .bool false)]) rfl rfl rfl ?_ rfl (by rw [decide_eq_false (show ¬ 1 ≤ l.length by omega)]; rfl)
    have c1' : (l.length : Int) < 1 := by omega
    simp only [I] at *
    simp only [AP.f67, go_sem, abin_shl, abin_shr, Nat.reduceEqDiff, reduceIte, Nat.reduceAdd, Nat.reduceMul, Nat.reduceLT, Nat.reduceLeDiff, Int.reduceBEq, Int.reduceBNe, Int.reduceLT, Int.reduceLE, Int.reduceEq, ln, decide_eq_true c1']
  have c1' : ¬ (l.length : Int) < 1 := by omega
  by_cases c2 : 288 < l.length
  · refine pure_c (fn := AP.f67) (h2 := h.fence) (e := [(2, .bool false)]) rfl rfl rfl ?_ rfl (by rw [decide_eq_false (show ¬ l.length ≤ 288 by omega), Bool.and_false]; rfl)
    have c2' : (288 : Int) < (l.length : Int) := by omega
    simp only [I] at *
    simp only [AP.f67, go_sem, abin_shl, abin_shr, Nat.reduceEqDiff, reduceIte, Nat.reduceAdd, Nat.reduceMul, Nat.reduceLT, Nat.reduceLeDiff, Int.reduceBEq, Int.reduceBNe, Int.reduceLT, Int.reduceLE, Int.reduceEq, ln, decide_eq_false c1', decide_eq_true c2']
  have c2' : ¬ (288 : Int) < (l.length : Int) := by omega
  rw [decide_eq_true (show 1 ≤ l.length by omega), decide_eq_true (show l.length ≤ 288 by omega)]
  rcases lmay_loop hl h.fence rd' l [] rfl with ⟨e', r1, r2⟩ | ⟨e', r1, r2, r3⟩
  · have r1' : Lp AP.A [0, 3] AP.f67L0 [(0, x), (3, I 0)] h.fence = some (.exit 0, e', h.fence) := r1
    clear r1
    rw [r2]
    refine pure_c (fn := AP.f67) (h2 := h.fence) (e := [(2, .bool true)]) rfl rfl rfl ?_ rfl rfl
    simp only [I] at *
    simp only [AP.f67, go_sem, abin_shl, abin_shr, Nat.reduceEqDiff, reduceIte, Nat.reduceAdd, Nat.reduceMul, Nat.reduceLT, Nat.reduceLeDiff, Int.reduceBEq, Int.reduceBNe, Int.reduceLT, Int.reduceLE, Int.reduceEq, ln, decide_eq_false c1', decide_eq_false c2', evC_loop, r1']
  · have r1' : Lp AP.A [0, 3] AP.f67L0 [(0, x), (3, I 0)] h.fence = some (.ret, e', h.fence) := r1
    clear r1
    rw [r3]
    refine pure_c (fn := AP.f67) (h2 := h.fence) (e := e') (vs := [.bool false]) rfl rfl rfl ?_ (by simp only [AP.f67, resAll, resOf, r2]; rfl) rfl
    simp only [I] at *
    simp only [AP.f67, go_sem, abin_shl, abin_shr, Nat.reduceEqDiff, reduceIte, Nat.reduceAdd, Nat.reduceMul, Nat.reduceLT, Nat.reduceLeDiff, Int.reduceBEq, Int.reduceBNe, Int.reduceLT, Int.reduceLE, Int.reduceEq, ln, decide_eq_false c1', decide_eq_false c2', evC_loop, r1']
theorem leftC_snoc (p : List Int) (x : Int) : ∀ n : Nat, leftC (p ++ [x]) n = leftC p n - (if 1 ≤ x ∧ x ≤ n then 2 ^ (n - x.toNat) else 0)
  | 0 => by
    rw [if_neg (by omega)]; simp [leftC]
  | n + 1 => by
    have e1 : leftC (p ++ [x]) (n + 1) = leftC (p ++ [x]) n * 2 - cnt (p ++ [x]) (n + 1) := rfl
    have e2 : leftC p (n + 1) = leftC p n * 2 - cnt p (n + 1) := rfl
    rw [e1, e2, leftC_snoc p x n, cnt_snoc]
    by_cases h1 : x = ((n + 1 : Nat) : Int)
    · rw [if_neg (by omega), if_pos ⟨by omega, h1⟩, if_pos (by omega)]
      rw [show n + 1 - x.toNat = 0 by omega]; simp; omega
    · rw [if_neg (show ¬ (n + 1 ≠ 0 ∧ x = ((n + 1 : Nat) : Int)) from fun q => h1 q.2)]
      by_cases h2 : 1 ≤ x ∧ x ≤ (n : Int)
      · rw [if_pos h2, if_pos (by omega), show n + 1 - x.toNat = (n - x.toNat) + 1 by omega, Int.pow_succ]; omega
      · rw [if_neg h2, if_neg (by omega)]; omega
theorem room_loop {x : AV} {l : List Int} (hl : l.length < 100000) (hr : okLens l) (h : H) (rd : Rd h x (ints l)) : ∀ (q p : List Int), l = p ++ q →
    ∃ e', Lp AP.A [0, 3, 4] AP.f68L0 [(0, x), (3, I (32768 - leftC p 15)), (4, I p.length)] h = some (.exit 0, e', h) ∧ look e' 3 = I (32768 - leftC l 15)
  | [], p, hp => by
    rw [List.append_nil] at hp; subst hp
    have ln := rd.len
    rw [ints_length] at ln
    refine ⟨[(0, x), (3, I (32768 - leftC l 15)), (4, I l.length), (8, .bool false)], Lp_exit ?_, rfl⟩
    have c1 : ¬ (l.length : Int) < (l.length : Int) := by omega
    simp only [I] at *
    simp only [AP.f68L0, go_sem, abin_shl, abin_shr, Nat.reduceEqDiff, reduceIte, Nat.reduceAdd, Nat.reduceMul, Nat.reduceLT, Nat.reduceLeDiff, Int.reduceBEq, Int.reduceBNe, Int.reduceLT, Int.reduceLE, Int.reduceEq, ln, decide_eq_false c1]
  | y :: q, p, hp => by
    have ln := rd.len
    rw [ints_length] at ln
    have hlen : l.length = p.length + (q.length + 1) := by rw [hp]; simp
    have c1 : (p.length : Int) < (l.length : Int) := by omega
    have hv : (ints l)[p.length]? = some (I y) := ints_get (by rw [hp]; simp)
    have hy := hr y (by rw [hp]; simp)
    obtain ⟨ad, p1, p2⟩ := rd.elem hv
    have p3 := p2 h (fun _ _ q => q)
    have w1 : IntKind.wrap .i64 ((p.length : Int) + 1) = (((p ++ [y]).length : Nat) : Int) := by
      rw [List.length_append]; exact wrap_nat64 (n := p.length + 1) (by omega)
    have hsn := leftC_snoc p y 15
    have hbd := leftC_bd (show p.length < 100000 by omega) 15
    have step : evC (callW AP.A) loopW AP.f68L0 (restr [(0, x), (3, I (32768 - leftC p 15)), (4, I p.length)] [0, 3, 4]) h = some (.normal, [(0, x), (3, I (32768 - leftC (p ++ [y]) 15)), (4, I (p ++ [y]).length)], h) := by
      by_cases d1 : 0 < y
      · obtain ⟨yn, hyn⟩ : ∃ n : Nat, y = n := Int.eq_ofNat_of_zero_le hy.1
        subst hyn
        rw [if_pos (by omega), Int.toNat_natCast] at hsn
        have w2 : IntKind.wrap .i64 (15 - (yn : Int)) = ((15 - yn : Nat) : Int) := by rw [show 15 - (yn : Int) = ((15 - yn : Nat) : Int) by omega]; exact wrap_nat64 (by omega)
        have hp15 : 2 ^ (15 - yn) ≤ 2 ^ 15 := Nat.pow_le_pow_right (by omega) (by omega)
        have s1 : shft .shl .i64 1 ((15 - yn : Nat) : Int) = some (.int .i64 ((2 ^ (15 - yn) : Nat) : Int)) := by
          have := shl_i64 (a := 1) (s := 15 - yn) (by omega) (by omega)
          rw [Nat.one_mul] at this; exact this
        have hpc : ((2 ^ (15 - yn) : Nat) : Int) = 2 ^ (15 - yn) := by simp
        have hpos : (0 : Int) ≤ 2 ^ (15 - yn) := Int.pow_nonneg (by omega)
        have w3 : IntKind.wrap .i64 (32768 - leftC p 15 + ((2 ^ (15 - yn) : Nat) : Int)) = 32768 - leftC (p ++ [(yn : Int)]) 15 := by
          rw [show 32768 - leftC p 15 + ((2 ^ (15 - yn) : Nat) : Int) = 32768 - leftC (p ++ [(yn : Int)]) 15 by rw [hsn, hpc]; omega]
          refine wrap_in ?_ ?_
          · rw [hsn]; rw [← hpc]; omega
          · rw [hsn]; rw [← hpc]; omega
        clear hsn hpc hbd hp15
        generalize (p ++ [(yn : Int)]).length = B at *
        generalize leftC (p ++ [(yn : Int)]) 15 = L2 at *
        generalize leftC p 15 = L1 at *
        generalize 2 ^ (15 - yn) = PW at *
        simp only [I] at *
        simp only [AP.f68L0, go_sem, abin_shl, abin_shr, Nat.reduceEqDiff, reduceIte, Nat.reduceAdd, Nat.reduceMul, Nat.reduceLT, Nat.reduceLeDiff, Int.reduceBEq, Int.reduceBNe, Int.reduceLT, Int.reduceLE, Int.reduceEq, ln, decide_eq_true c1, p1, p3, decide_eq_true d1, w2, s1, w3, w1]
      · rw [if_neg (by omega), Int.sub_zero] at hsn
        rw [hsn]
        clear hsn hbd
        generalize (p ++ [y]).length = B at *
        simp only [I] at *
        simp only [AP.f68L0, go_sem, abin_shl, abin_shr, Nat.reduceEqDiff, reduceIte, Nat.reduceAdd, Nat.reduceMul, Nat.reduceLT, Nat.reduceLeDiff, Int.reduceBEq, Int.reduceBNe, Int.reduceLT, Int.reduceLE, Int.reduceEq, ln, decide_eq_true c1, p1, p3, decide_eq_false d1, w1]
    obtain ⟨e', r1, r2⟩ := room_loop hl hr h rd q (p ++ [y]) (by rw [hp]; simp)
    exact ⟨e', Lp_next step r1, r2⟩
theorem room_c (h : H) (x : AV) (l : List Int) (hl : l.length < 100000) (hr : okLens l) (rd : Rd h x (ints l)) : callW AP.A 68 [x] h = some (I (32768 - leftC l 15), h) := by
  obtain ⟨e', r1, r2⟩ := room_loop hl hr h.fence (rd.mono (get_fence_mono h)) l [] rfl
  have r1' : Lp AP.A [0, 3, 4] AP.f68L0 [(0, x), (3, I 0), (4, I 0)] h.fence = some (.exit 0, e', h.fence) := r1
  clear r1
  refine pure_c (fn := AP.f68) (h2 := h.fence) (e := [(2, I (32768 - leftC l 15))]) rfl rfl rfl ?_ rfl rfl
  simp only [I] at *
  simp only [AP.f68, go_sem, abin_shl, abin_shr, Nat.reduceEqDiff, reduceIte, Nat.reduceAdd, Nat.reduceMul, Nat.reduceLT, Nat.reduceLeDiff, Int.reduceBEq, Int.reduceBNe, Int.reduceLT, Int.reduceLE, Int.reduceEq, evC_loop, r1', r2]
theorem check2_c (h : H) (x : AV) (l : List Int) (hl : l.length < 100000) (rd : Rd h x (ints l)) : callW AP.A 52 [x] h = some (I (checkS l), h) := by
  have rd' := rd.mono (get_fence_mono h)
  have k1 := lmay_c h.fence x l hl rd'
  unfold checkS
  by_cases hm : mayS l = true
  · have k2 := room_c h.fence x l hl (may_range hm) rd'
    rw [hm] at k1 ⊢
    rw [if_neg (by decide)]
    by_cases c1 : leftC l 15 < 0
    · rw [if_pos c1]
      have d1 : 32768 < 32768 - leftC l 15 := by omega
      refine pure_c (fn := AP.f52) (h2 := h.fence) (e := [(2, I 301)]) rfl rfl rfl ?_ rfl rfl
      simp only [I] at *
      simp only [AP.f52, go_sem, abin_shl, abin_shr, Nat.reduceEqDiff, reduceIte, Nat.reduceAdd, Nat.reduceMul, Nat.reduceLT, Nat.reduceLeDiff, Int.reduceBEq, Int.reduceBNe, Int.reduceLT, Int.reduceLE, Int.reduceEq, k1, k2, decide_eq_true d1]
    · rw [if_neg c1]
      have d1 : ¬ 32768 < 32768 - leftC l 15 := by omega
      by_cases c2 : 0 < leftC l 15
      · rw [if_pos c2]
        have d2 : 32768 - leftC l 15 < 32768 := by omega
        refine pure_c (fn := AP.f52) (h2 := h.fence) (e := [(2, I 302)]) rfl rfl rfl ?_ rfl rfl
        simp only [I] at *
        simp only [AP.f52, go_sem, abin_shl, abin_shr, Nat.reduceEqDiff, reduceIte, Nat.reduceAdd, Nat.reduceMul, Nat.reduceLT, Nat.reduceLeDiff, Int.reduceBEq, Int.reduceBNe, Int.reduceLT, Int.reduceLE, Int.reduceEq, k1, k2, decide_eq_false d1, decide_eq_true d2]
      · rw [if_neg c2]
        have d2 : ¬ 32768 - leftC l 15 < 32768 := by omega
        refine pure_c (fn := AP.f52) (h2 := h.fence) (e := [(2, I 0)]) rfl rfl rfl ?_ rfl rfl
        simp only [I] at *
        simp only [AP.f52, go_sem, abin_shl, abin_shr, Nat.reduceEqDiff, reduceIte, Nat.reduceAdd, Nat.reduceMul, Nat.reduceLT, Nat.reduceLeDiff, Int.reduceBEq, Int.reduceBNe, Int.reduceLT, Int.reduceLE, Int.reduceEq, k1, k2, decide_eq_false d1, decide_eq_false d2]
  · have hm' : mayS l = false := by simpa using hm
    rw [hm'] at k1 ⊢
    rw [if_pos rfl]
    refine pure_c (fn := AP.f52) (h2 := h.fence) (e := [(2, I 300)]) rfl rfl rfl ?_ rfl rfl
    simp only [I] at *
    simp only [AP.f52, go_sem, abin_shl, abin_shr, Nat.reduceEqDiff, reduceIte, Nat.reduceAdd, Nat.reduceMul, Nat.reduceLT, Nat.reduceLeDiff, Int.reduceBEq, Int.reduceBNe, Int.reduceLT, Int.reduceLE, Int.reduceEq, k1]
theorem sparse_loop {x : AV} {l : List Int} (hl : l.length < 100000) (hr : okLens l) (h : H) (rd : Rd h x (ints l)) : ∀ (q p : List Int) (m b s : Int), l = p ++ q → 0 ≤ m → m ≤ p.length → m ≤ s → (m = 0 → s = 0) → (m = 1 → b = s) →
    ∃ e' m' b', Lp AP.A [0, 3, 4, 5] AP.f54L0 [(0, x), (3, I m), (4, I b), (5, I p.length)] h = some (.exit 0, e', h) ∧ look e' 3 = I m' ∧ look e' 4 = I b' ∧ 0 ≤ m' ∧ m' ≤ sumL q s ∧ (m' = 0 → sumL q s = 0) ∧ (m' = 1 → b' = sumL q s)
  | [], p, m, b, s, hp, h1, h2, h3, h4, h5 => by
    have ln := rd.len
    rw [ints_length] at ln
    refine ⟨[(0, x), (3, I m), (4, I b), (5, I p.length), (9, .bool false)], m, b, Lp_exit ?_, rfl, rfl, h1, h3, h4, h5⟩
    have c1 : ¬ (p.length : Int) < (l.length : Int) := by rw [hp]; simp
    simp only [I] at *
    simp only [AP.f54L0, go_sem, abin_shl, abin_shr, Nat.reduceEqDiff, reduceIte, Nat.reduceAdd, Nat.reduceMul, Nat.reduceLT, Nat.reduceLeDiff, Int.reduceBEq, Int.reduceBNe, Int.reduceLT, Int.reduceLE, Int.reduceEq, ln, decide_eq_false c1]
  | y :: q, p, m, b, s, hp, h1, h2, h3, h4, h5 => by
    have ln := rd.len
    rw [ints_length] at ln
    have hlen : l.length = p.length + (q.length + 1) := by rw [hp]; simp
    have c1 : (p.length : Int) < (l.length : Int) := by omega
    have hv : (ints l)[p.length]? = some (I y) := ints_get (by rw [hp]; simp)
    have hy := hr y (by rw [hp]; simp)
    obtain ⟨ad, p1, p2⟩ := rd.elem hv
    have p3 := p2 h (fun _ _ q => q)
    have w1 : IntKind.wrap .i64 ((p.length : Int) + 1) = (((p ++ [y]).length : Nat) : Int) := by
      rw [List.length_append]; exact wrap_nat64 (n := p.length + 1) (by omega)
    by_cases d1 : 0 < y
    · have w2 : IntKind.wrap .i64 (m + 1) = m + 1 := wrap_in (by omega) (by omega)
      have step : evC (callW AP.A) loopW AP.f54L0 (restr [(0, x), (3, I m), (4, I b), (5, I p.length)] [0, 3, 4, 5]) h = some (.normal, [(0, x), (3, I (m + 1)), (4, I y), (5, I (p ++ [y]).length)], h) := by
        generalize hB : (p ++ [y]).length = B at *
        simp only [I] at *
        simp only [AP.f54L0, go_sem, abin_shl, abin_shr, Nat.reduceEqDiff, reduceIte, Nat.reduceAdd, Nat.reduceMul, Nat.reduceLT, Nat.reduceLeDiff, Int.reduceBEq, Int.reduceBNe, Int.reduceLT, Int.reduceLE, Int.reduceEq, ln, decide_eq_true c1, p1, p3, decide_eq_true d1, w2, w1]
      obtain ⟨e', m', b', r1, r2⟩ := sparse_loop hl hr h rd q (p ++ [y]) (m + 1) y (s + y) (by rw [hp]; simp) (by omega) (by simp; omega) (by omega) (by omega) (by intro e; have := h4 (by omega); omega)
      exact ⟨e', m', b', Lp_next step r1, r2⟩
    · have hy0 : y = 0 := by omega
      have step : evC (callW AP.A) loopW AP.f54L0 (restr [(0, x), (3, I m), (4, I b), (5, I p.length)] [0, 3, 4, 5]) h = some (.normal, [(0, x), (3, I m), (4, I b), (5, I (p ++ [y]).length)], h) := by
        generalize hB : (p ++ [y]).length = B at *
        simp only [I] at *
        simp only [AP.f54L0, go_sem, abin_shl, abin_shr, Nat.reduceEqDiff, reduceIte, Nat.reduceAdd, Nat.reduceMul, Nat.reduceLT, Nat.reduceLeDiff, Int.reduceBEq, Int.reduceBNe, Int.reduceLT, Int.reduceLE, Int.reduceEq, ln, decide_eq_true c1, p1, p3, decide_eq_false d1, w1]
      obtain ⟨e', m', b', r1, r2⟩ := sparse_loop hl hr h rd q (p ++ [y]) m b (s + y) (by rw [hp]; simp) h1 (by simp; omega) (by omega) (by intro e; have := h4 e; omega) (by intro e; have := h5 e; omega)
      exact ⟨e', m', b', Lp_next step r1, r2⟩
theorem sparse_c (h : H) (x : AV) (l : List Int) (hl : l.length < 100000) (hr : okLens l) (rd : Rd h x (ints l)) : callW AP.A 54 [x] h = some (.bool (singleS l), h) := by
  obtain ⟨e', m', b', r1, r2, r3, r4, r5, r6, r7⟩ := sparse_loop hl hr h.fence (rd.mono (get_fence_mono h)) l [] 0 0 0 rfl (by omega) (by simp) (by omega) (by intro _; rfl) (by omega)
  have r1' : Lp AP.A [0, 3, 4, 5] AP.f54L0 [(0, x), (3, I 0), (4, I 0), (5, I 0)] h.fence = some (.exit 0, e', h.fence) := r1
  clear r1
  refine pure_c (fn := AP.f54) (h2 := h.fence) (e := [(2, .bool (singleS l))]) rfl rfl rfl ?_ rfl rfl
  unfold singleS
  generalize sumL l 0 = s at *
  by_cases c0 : m' = 0
  · have d0 := beq_t c0
    have hs : s ≤ 1 := by have := r6 c0; omega
    rw [decide_eq_true hs]
    simp only [I] at *
    simp only [AP.f54, go_sem, abin_shl, abin_shr, Nat.reduceEqDiff, reduceIte, Nat.reduceAdd, Nat.reduceMul, Nat.reduceLT, Nat.reduceLeDiff, Int.reduceBEq, Int.reduceBNe, Int.reduceLT, Int.reduceLE, Int.reduceEq, evC_loop, r1', r2, r3, d0]
  have d0 := beq_f c0
  by_cases c1 : m' = 1
  · have d1 := beq_t c1
    have hb := r7 c1
    by_cases c2 : b' = 1
    · have d2 := beq_t c2
      rw [decide_eq_true (show s ≤ 1 by omega)]
      simp only [I] at *
      simp only [AP.f54, go_sem, abin_shl, abin_shr, Nat.reduceEqDiff, reduceIte, Nat.reduceAdd, Nat.reduceMul, Nat.reduceLT, Nat.reduceLeDiff, Int.reduceBEq, Int.reduceBNe, Int.reduceLT, Int.reduceLE, Int.reduceEq, evC_loop, r1', r2, r3, d0, d1, d2]
    · have d2 := beq_f c2
      rw [decide_eq_false (show ¬ s ≤ 1 by omega)]
      simp only [I] at *
      simp only [AP.f54, go_sem, abin_shl, abin_shr, Nat.reduceEqDiff, reduceIte, Nat.reduceAdd, Nat.reduceMul, Nat.reduceLT, Nat.reduceLeDiff, Int.reduceBEq, Int.reduceBNe, Int.reduceLT, Int.reduceLE, Int.reduceEq, evC_loop, r1', r2, r3, d0, d1, d2]
  · have d1 := beq_f c1
    rw [decide_eq_false (show ¬ s ≤ 1 by omega)]
    simp only [I] at *
    simp only [AP.f54, go_sem, abin_shl, abin_shr, Nat.reduceEqDiff, reduceIte, Nat.reduceAdd, Nat.reduceMul, Nat.reduceLT, Nat.reduceLeDiff, Int.reduceBEq, Int.reduceBNe, Int.reduceLT, Int.reduceLE, Int.reduceEq, evC_loop, r1', r2, r3, d0, d1]
end Ab
set_option linter.unusedSimpArgs false
set_option linter.unusedVariables false
namespace Ab
open Go
theorem rep_stop {c : FC} {S : SS} {h : H} {ov : AV} (st : Ft c S h ov) (b : AV) (many times n : Int) (v : AV) (i : Int) (hs : times ≤ i ∨ (i < times ∧ S.e ≠ 0)) :
    ∃ e', Lp AP.A [0, 1, 2, 7, 9, 10, 11] AP.f53L0 [(0, .pobj c.f 0), (1, b), (2, I many), (7, v), (9, I times), (10, I n), (11, I i)] h = some (.exit 3, e', h) ∧ look e' 0 = .pobj c.f 0 ∧ look e' 1 = b ∧ look e' 2 = I many ∧ look e' 7 = v := by
  have gf := st.gf
  refine ⟨[(0, .pobj c.f 0), (1, b), (2, I many), (7, v), (9, I times), (10, I n), (11, I i), (83, .bool false)], Lp_exit ?_, rfl, rfl, rfl, rfl⟩
  rcases hs with hn | ⟨hn, he⟩
  · have c1 : ¬ i < times := by omega
    simp only [I] at *
    simp only [AP.f53L0, go_sem, abin_shl, abin_shr, Nat.reduceEqDiff, reduceIte, Nat.reduceAdd, Nat.reduceMul, Nat.reduceLT, Nat.reduceLeDiff, Int.reduceBEq, Int.reduceBNe, Int.reduceLT, Int.reduceLE, Int.reduceEq, decide_eq_false c1]
  · have c2 := beq_f he
    simp only [I] at *
    simp only [AP.f53L0, go_sem, abin_shl, abin_shr, Nat.reduceEqDiff, reduceIte, Nat.reduceAdd, Nat.reduceMul, Nat.reduceLT, Nat.reduceLeDiff, Int.reduceBEq, Int.reduceBNe, Int.reduceLT, Int.reduceLE, Int.reduceEq, decide_eq_true hn, gf, c2]
theorem rep_loop {c : FC} (h0 : H) {S : SS} {ov : AV} (he : S.e = 0) (b : AV) (many : Int) (n : Int) (times : Nat) (ht : times ≤ 1000) : ∀ (m i : Nat) (acc : List Int) (h : H) (v : AV), i + m = times → Ft c S h ov → FF c h0 ov h ov → Own h v (ints acc) → acc.length < 100000 + i → (∀ j, v.id? = some j → h0.next ≤ j) → (∀ j, (j = c.f ∨ ov.id? = some j) → j < h0.next) →
    ∃ e' h' v', Lp AP.A [0, 1, 2, 7, 9, 10, 11] AP.f53L0 [(0, .pobj c.f 0), (1, b), (2, I many), (7, v), (9, I times), (10, I n), (11, I i)] h = some (.exit 3, e', h') ∧ look e' 0 = .pobj c.f 0 ∧ look e' 1 = b ∧ look e' 2 = I many ∧ look e' 7 = v' ∧ Ft c S h' ov ∧ FF c h0 ov h' ov ∧ Own h' v' (ints (acc ++ List.replicate m n)) ∧ ∀ j, v'.id? = some j → h0.next ≤ j
  | 0, i, acc, h, v, hm, st, fr, o, hal, hid, hlo => by
    obtain ⟨e', q1, q2, q3, q4, q5⟩ := rep_stop st b many times n v i (.inl (by omega))
    exact ⟨e', h, v, q1, q2, q3, q4, q5, st, fr, by simpa using o, hid⟩
  | m + 1, i, acc, h, v, hm, st, fr, o, hal, hid, hlo => by
    have gf := st.gf
    rw [he] at gf
    have c1 : (i : Int) < times := by omega
    have w1 : IntKind.wrap .i64 ((i : Int) + 1) = ((i + 1 : Nat) : Int) := wrap_nat64 (n := i + 1) (by omega)
    obtain ⟨g, hg⟩ : ∃ g, g = h.alloc [I n] := ⟨_, rfl⟩
    have al := st.alloc [I n]
    rw [← hg] at al
    have og : Own g v (ints acc) := o.mono (by rw [hg]; simp) fun j hj => by have := o.lt hj; rw [hg, H.get_alloc, if_neg (by omega)]
    have hgf := al.1.nx
    obtain ⟨v', h2, r1, r2, r3, r4, r5, r6⟩ := og.app hgf (z := 8) (I n) rfl (by simp [roomy]; omega)
    have src : srcCells g 1 (.sobj h.next 0 1 1) = some (1, [I n]) := by simp [srcCells, hg, H.get_alloc]
    have ap : aapp g 1 8 v (.sobj h.next 0 1 1) = some (v', h2) := by unfold aapp; rw [src, Option.bind_some]; exact r1
    have bt : ∀ e : Env, look e 87 = .int .i64 n → birth e (.bslice 1 1 [.int .i64 0] [(0, .t 87)]) = some ([.int .i64 n], fun i => .sobj i 0 1 1) := by
      intro e q; simp only [birth, List.map_cons, List.map_nil, ev_t', q]; rfl
    have step : evC (callW AP.A) loopW AP.f53L0 (restr [(0, .pobj c.f 0), (1, b), (2, I many), (7, v), (9, I times), (10, I n), (11, I i)] [0, 1, 2, 7, 9, 10, 11]) h = some (.normal, [(0, .pobj c.f 0), (1, b), (2, I many), (7, v'), (9, I times), (10, I n), (11, I (i + 1 : Nat))], h2) := by
      simp only [I] at *
      simp only [AP.f53L0, go_sem, abin_shl, abin_shr, Nat.reduceEqDiff, reduceIte, Nat.reduceAdd, Nat.reduceMul, Nat.reduceLT, Nat.reduceLeDiff, Int.reduceBEq, Int.reduceBNe, Int.reduceLT, Int.reduceLE, Int.reduceEq, decide_eq_true c1, gf]
      rw [bt _ rfl]
      simp only [go_sem, abin_shl, abin_shr, Nat.reduceEqDiff, reduceIte, Nat.reduceAdd, Nat.reduceMul, Nat.reduceLT, Nat.reduceLeDiff, Int.reduceBEq, Int.reduceBNe, Int.reduceLT, Int.reduceLE, Int.reduceEq, ← hg, ap, w1]
    have frg := fr.trans al.2
    have st2 : Ft c S h2 ov := al.1.keep r3 r4 fun j hj => r5 j (fun e => by have := hid j e; have := hlo j hj; omega) (by have := hlo j hj; have := frg.nx; omega)
    have fr2 : FF c h0 ov h2 ov := ⟨r3.trans frg.fl, Nat.le_trans frg.nx r4, fun id i1 i2 i4 => by rw [r5 id (fun e => by have := hid id e; omega) (by have := frg.nx; omega)]; exact frg.oth id i1 i2 i4, fun j hj => .inl hj⟩
    have hr : ints acc ++ [I n] = ints (acc ++ [n]) := by rw [ints_append]; rfl
    rw [hr] at r2
    obtain ⟨e', h', v2, s1, s2, s3, s4, s5, s6, s7, s8, s9⟩ := rep_loop h0 he b many n times ht m (i + 1) (acc ++ [n]) h2 v' (by omega) st2 fr2 r2 (by simp; omega) (fun j hj => by rw [r6] at hj; cases hj; exact frg.nx) hlo
    refine ⟨e', h', v2, Lp_next step s1, s2, s3, s4, s5, s6, s7, ?_, s9⟩
    rw [List.replicate_succ, show acc ++ n :: List.replicate m n = acc ++ [n] ++ List.replicate m n by simp]
    exact s8
theorem flens_stop {c : FC} {S : SS} {h : H} {ov : AV} (st : Ft c S h ov) (b : AV) (many : Nat) {v : AV} {acc : List Int} (o : Own h v (ints acc)) (hs : many ≤ acc.length ∨ (acc.length < many ∧ S.e ≠ 0)) :
    ∃ e', Lp AP.A [0, 1, 2, 7] AP.f53L1 [(0, .pobj c.f 0), (1, b), (2, I many), (7, v)] h = some (.exit 0, e', h) ∧ look e' 7 = v := by
  have gf := st.gf
  have ln := o.len
  rw [ints_length] at ln
  refine ⟨[(0, .pobj c.f 0), (1, b), (2, I many), (7, v), (22, .bool false)], Lp_exit ?_, rfl⟩
  rcases hs with hs | ⟨hs, he⟩
  · have c1 : ¬ (acc.length : Int) < many := by omega
    simp only [I] at *
    simp only [AP.f53L1, go_sem, abin_shl, abin_shr, Nat.reduceEqDiff, reduceIte, Nat.reduceAdd, Nat.reduceMul, Nat.reduceLT, Nat.reduceLeDiff, Int.reduceBEq, Int.reduceBNe, Int.reduceLT, Int.reduceLE, Int.reduceEq, ln, decide_eq_false c1]
  · have c1 : (acc.length : Int) < many := by omega
    have c2 := beq_f he
    simp only [I] at *
    simp only [AP.f53L1, go_sem, abin_shl, abin_shr, Nat.reduceEqDiff, reduceIte, Nat.reduceAdd, Nat.reduceMul, Nat.reduceLT, Nat.reduceLeDiff, Int.reduceBEq, Int.reduceBNe, Int.reduceLT, Int.reduceLE, Int.reduceEq, ln, decide_eq_true c1, gf, c2]
theorem flens_tail {c : FC} {S2 : SS} {h2 : H} {ov : AV} (h0 : H) (cl : List Int) (many : Nat) (hm : many ≤ 400) {v : AV} {acc : List Int} (st : Ft c S2 h2 ov) (fr : FF c h0 ov h2 ov) (o : Own h2 v (ints acc)) (hal : acc.length < many) (hid : ∀ j, v.id? = some j → h0.next ≤ j) (hlo : ∀ j, (j = c.f ∨ ov.id? = some j) → j < h0.next) (n : Int) (times : Nat) (ht : times ≤ 1000) (he2 : S2.e = 0 ∨ S2.e = 700) (code : ACode)
    (hcode : code = (.seq (.seq (.reg [
    ⟨(some 59), .mv (.t 0), none⟩,
    ⟨(some 60), .nilc (.t 59), none⟩,
    ⟨(some 61), .fadr 4 (.t 60), none⟩,
    ⟨(some 62), .load false 1 (.t 61), none⟩,
    ⟨(some 63), .bin .eql (.t 62) (.c (.int .i64 0)), none⟩,
    ⟨(some 64), .mv (.t 63), none⟩,
    ⟨(some 65), .mv (.t 7), (some (64, true))⟩,
    ⟨(some 66), .len false (.t 65), (some (64, true))⟩,
    ⟨(some 67), .mv (.t 9), (some (64, true))⟩,
    ⟨(some 68), .bin .add (.t 66) (.t 67), (some (64, true))⟩,
    ⟨(some 69), .mv (.t 2), (some (64, true))⟩,
    ⟨(some 70), .bin .gtr (.t 68) (.t 69), (some (64, true))⟩,
    ⟨(some 71), .pick (.t 64) (.t 70) (.c (.bool false)), none⟩] [0, 1, 2, 7, 9, 10, 71])
      (.cond (.t 71) (.reg [
    ⟨(some 72), .mv (.t 0), none⟩,
    ⟨(some 73), .call (.c (.fn 25 [] [])) [(.t 72)], none⟩] [0, 1, 2, 7, 9, 10])
      (.skip) [0, 1, 2, 7, 9, 10]))
      (.seq (.reg [
    ⟨(some 11), .mv (.c (.int .i64 0)), none⟩] [0, 1, 2, 7, 9, 10, 11])
      (.block 3 (.loop [0, 1, 2, 7, 9, 10, 11] AP.f53L0) [0, 1, 2, 7])))) :
    ∃ h3 S3 v3, evC (callW AP.A) loopW code [(0, .pobj c.f 0), (1, rbook cl), (2, I many), (7, v), (9, I times), (10, I n)] h2 = some (.normal, [(0, .pobj c.f 0), (1, rbook cl), (2, I many), (7, v3)], h3) ∧ Ft c S3 h3 ov ∧ FF c h0 ov h3 ov ∧
      ((S2.e = 0 ∧ acc.length + times ≤ many ∧ S3 = S2 ∧ Own h3 v3 (ints (acc ++ List.replicate times n)) ∧ ∀ j, v3.id? = some j → h0.next ≤ j) ∨ ((S2.e ≠ 0 ∨ many < acc.length + times) ∧ S3.e = 700 ∧ v3 = v ∧ Own h3 v (ints acc))) := by
  have gf := st.gf
  have ln := o.len
  rw [ints_length] at ln
  subst hcode
  have w1 : IntKind.wrap .i64 ((acc.length : Int) + times) = ((acc.length + times : Nat) : Int) := by rw [show (acc.length : Int) + times = ((acc.length + times : Nat) : Int) by omega]; exact wrap_nat64 (by omega)
  by_cases he : S2.e = 0
  · have ce := beq_t he
    by_cases hgt : many < acc.length + times
    · have d1 : (many : Int) < ((acc.length + times : Nat) : Int) := by omega
      obtain ⟨h3, f1, f2, f3⟩ := wrong_c st
      have he3 : (failS 700 S2).e = 700 := by simp [failS, he]
      have hs : (times : Int) ≤ 0 ∨ ((0 : Int) < times ∧ (failS 700 S2).e ≠ 0) := by
        by_cases q : 0 < times
        · exact .inr ⟨by omega, by rw [he3]; decide⟩
        · exact .inl (by omega)
      obtain ⟨e', q1, q2, q3, q4, q5⟩ := rep_stop f2 (rbook cl) many times n v 0 hs
      have o3 : Own h3 v (ints acc) := o.mono f3.fl fun j hj => f3.oth j (o.lt hj) (fun e => by have := hid j hj; have := hlo j (.inl e); omega) (fun e => by have := hid j hj; have := hlo j (.inr e); omega)
      refine ⟨h3, failS 700 S2, v, ?_, f2, fr.trans f3, .inr ⟨.inr hgt, he3, rfl, o3⟩⟩
      simp only [I] at *
      simp only [go_sem, abin_shl, abin_shr, Nat.reduceEqDiff, reduceIte, Nat.reduceAdd, Nat.reduceMul, Nat.reduceLT, Nat.reduceLeDiff, Int.reduceBEq, Int.reduceBNe, Int.reduceLT, Int.reduceLE, Int.reduceEq, gf, ce, ln, w1, decide_eq_true d1, f1, evC_loop, q1, q2, q3, q4, q5]
    · have d1 : ¬ (many : Int) < ((acc.length + times : Nat) : Int) := by omega
      obtain ⟨e', h3, v3, q1, q2, q3, q4, q5, q6, q7, q8, q9⟩ := rep_loop h0 he (rbook cl) many n times ht times 0 acc h2 v (by omega) st fr o (by omega) hid hlo
      have q1' : Lp AP.A [0, 1, 2, 7, 9, 10, 11] AP.f53L0 [(0, .pobj c.f 0), (1, rbook cl), (2, I many), (7, v), (9, I times), (10, I n), (11, I 0)] h2 = some (.exit 3, e', h3) := q1
      clear q1
      refine ⟨h3, S2, v3, ?_, q6, q7, .inl ⟨he, by omega, rfl, q8, q9⟩⟩
      simp only [I] at *
      simp only [go_sem, abin_shl, abin_shr, Nat.reduceEqDiff, reduceIte, Nat.reduceAdd, Nat.reduceMul, Nat.reduceLT, Nat.reduceLeDiff, Int.reduceBEq, Int.reduceBNe, Int.reduceLT, Int.reduceLE, Int.reduceEq, gf, ce, ln, w1, decide_eq_false d1, evC_loop, q1', q2, q3, q4, q5]
  · have ce := beq_f he
    have he3 : S2.e = 700 := by rcases he2 with q | q; exact absurd q he; exact q
    have hs : (times : Int) ≤ 0 ∨ ((0 : Int) < times ∧ S2.e ≠ 0) := by
      by_cases q : 0 < times
      · exact .inr ⟨by omega, he⟩
      · exact .inl (by omega)
    obtain ⟨e', q1, q2, q3, q4, q5⟩ := rep_stop st (rbook cl) many times n v 0 hs
    refine ⟨h2, S2, v, ?_, st, fr, .inr ⟨.inl he, he3, rfl, o⟩⟩
    simp only [I] at *
    simp only [go_sem, abin_shl, abin_shr, Nat.reduceEqDiff, reduceIte, Nat.reduceAdd, Nat.reduceMul, Nat.reduceLT, Nat.reduceLeDiff, Int.reduceBEq, Int.reduceBNe, Int.reduceLT, Int.reduceLE, Int.reduceEq, gf, ce, ln, w1, evC_loop, q1, q2, q3, q4, q5]
theorem flens_loop {c : FC} (h0 : H) (cl : List Int) (hcl : cl.length < 1000) (many : Nat) (hm : many ≤ 400) : ∀ (f : Nat) (acc : List Int) (S : SS) (h : H) (ov v : AV), Ft c S h ov → S.e = 0 → 8 * c.text.size < S.at_ + f → FF c h0 ov h ov → Own h v (ints acc) → acc.length ≤ many → (∀ j, v.id? = some j → h0.next ≤ j) → (∀ j, (j = c.f ∨ ov.id? = some j) → j < h0.next) →
    ∃ h' S', Ft c S' h' ov ∧ FF c h0 ov h' ov ∧ match lensLoop c.text cl many f acc S.at_ with
      | some (L, p) => S' = { S with at_ := p } ∧ L.length = many ∧ ∃ e' v', Lp AP.A [0, 1, 2, 7] AP.f53L1 [(0, .pobj c.f 0), (1, rbook cl), (2, I many), (7, v)] h = some (.exit 0, e', h') ∧ look e' 7 = v' ∧ Own h' v' (ints L) ∧ ∀ j, v'.id? = some j → h0.next ≤ j
      | none => S'.e = 700 ∧ ((∃ e' v', Lp AP.A [0, 1, 2, 7] AP.f53L1 [(0, .pobj c.f 0), (1, rbook cl), (2, I many), (7, v)] h = some (.exit 0, e', h') ∧ look e' 7 = v') ∨ ∃ e', Lp AP.A [0, 1, 2, 7] AP.f53L1 [(0, .pobj c.f 0), (1, rbook cl), (2, I many), (7, v)] h = some (.ret, e', h') ∧ look e' 6 = .nils)
  | 0, acc, S, h, ov, v, st, he, hk, fr, oa, hal, hid, hlo => by have := st.at_le; omega
  | f + 1, acc, S, h, ov, v, st, he, hk, fr, oa, hal, hid, hlo => by
    by_cases hlt : acc.length < many
    · rw [lensLoop, if_pos hlt]
      have gf := st.gf
      rw [he] at gf
      have ln := oa.len
      rw [ints_length] at ln
      have c1 : (acc.length : Int) < many := by omega
      obtain ⟨h1, S1, y, s1, s2, s3, s4⟩ := fsymbol_c cl hcl st he
      have gf1 := s2.gf
      cases hz : symA c.text cl 15 1 0 S.at_ with
      | none =>
        rw [hz] at s4
        obtain ⟨s4, s5⟩ := s4
        have ce : (S1.e != 0) = true := bne_t (by rw [s4]; decide)
        refine ⟨h1, S1, s2, fr.trans s3, s4, .inr ⟨[(6, .nils)], Lp_ret ?_, rfl⟩⟩
        simp only [I] at *
        simp only [AP.f53L1, go_sem, abin_shl, abin_shr, Nat.reduceEqDiff, reduceIte, Nat.reduceAdd, Nat.reduceMul, Nat.reduceLT, Nat.reduceLeDiff, Int.reduceBEq, Int.reduceBNe, Int.reduceLT, Int.reduceLE, Int.reduceEq, ln, decide_eq_true c1, gf, s1, gf1, ce]
      | some yp =>
        obtain ⟨z, p1⟩ := yp
        rw [hz] at s4
        obtain ⟨s4, s5⟩ := s4
        subst s5 s4
        have zb := symA_bd hz
        dsimp only at gf1 ⊢
        rw [he] at gf1
        have fr1 := fr.trans s3
        have hneq : ∀ i, v.id? = some i → i ≠ c.f ∧ ov.id? ≠ some i := fun i hi => by
          have := hid i hi
          exact ⟨fun e => by have := hlo i (.inl e); omega, fun e => by have := hlo i (.inr e); omega⟩
        have oa1 : Own h1 v (ints acc) := oa.mono s3.fl fun i hi => s3.oth i (oa.lt hi) (hneq i hi).1 (hneq i hi).2
        have ln1 := oa1.len
        rw [ints_length] at ln1
        have fin : ∀ (n : Int) (times : Nat) (h2 : H) (S2 : SS), times ≤ 1000 → Ft c S2 h2 ov → FF c h0 ov h2 ov → Own h2 v (ints acc) → (S2.e = 0 ∨ S2.e = 700) → (∀ code h3 v3, code = (ACode.seq (.seq (.reg [
    ⟨(some 59), .mv (.t 0), none⟩,
    ⟨(some 60), .nilc (.t 59), none⟩,
    ⟨(some 61), .fadr 4 (.t 60), none⟩,
    ⟨(some 62), .load false 1 (.t 61), none⟩,
    ⟨(some 63), .bin .eql (.t 62) (.c (.int .i64 0)), none⟩,
    ⟨(some 64), .mv (.t 63), none⟩,
    ⟨(some 65), .mv (.t 7), (some (64, true))⟩,
    ⟨(some 66), .len false (.t 65), (some (64, true))⟩,
    ⟨(some 67), .mv (.t 9), (some (64, true))⟩,
    ⟨(some 68), .bin .add (.t 66) (.t 67), (some (64, true))⟩,
    ⟨(some 69), .mv (.t 2), (some (64, true))⟩,
    ⟨(some 70), .bin .gtr (.t 68) (.t 69), (some (64, true))⟩,
    ⟨(some 71), .pick (.t 64) (.t 70) (.c (.bool false)), none⟩] [0, 1, 2, 7, 9, 10, 71])
      (.cond (.t 71) (.reg [
    ⟨(some 72), .mv (.t 0), none⟩,
    ⟨(some 73), .call (.c (.fn 25 [] [])) [(.t 72)], none⟩] [0, 1, 2, 7, 9, 10])
      (.skip) [0, 1, 2, 7, 9, 10]))
      (.seq (.reg [
    ⟨(some 11), .mv (.c (.int .i64 0)), none⟩] [0, 1, 2, 7, 9, 10, 11])
      (.block 3 (.loop [0, 1, 2, 7, 9, 10, 11] AP.f53L0) [0, 1, 2, 7]))) → evC (callW AP.A) loopW code [(0, .pobj c.f 0), (1, rbook cl), (2, I many), (7, v), (9, I times), (10, I n)] h2 = some (.normal, [(0, .pobj c.f 0), (1, rbook cl), (2, I many), (7, v3)], h3) →
            evC (callW AP.A) loopW AP.f53L1 (restr [(0, .pobj c.f 0), (1, rbook cl), (2, I many), (7, v)] [0, 1, 2, 7]) h = some (.normal, [(0, .pobj c.f 0), (1, rbook cl), (2, I many), (7, v3)], h3)) →
            (match againA c.text y acc p1 with | some q => S2 = { S with at_ := q.2.2 } ∧ n = q.1 ∧ times = q.2.1 ∧ p1 ≤ q.2.2 | none => S2.e = 700) →
            ∃ h' S', Ft c S' h' ov ∧ FF c h0 ov h' ov ∧ match (match againA c.text y acc p1 with | none => none | some (n, times, p2) => lensLoop c.text cl many f (acc ++ List.replicate times n) p2) with
              | some (L, p) => S' = { S with at_ := p } ∧ L.length = many ∧ ∃ e' v', Lp AP.A [0, 1, 2, 7] AP.f53L1 [(0, .pobj c.f 0), (1, rbook cl), (2, I many), (7, v)] h = some (.exit 0, e', h') ∧ look e' 7 = v' ∧ Own h' v' (ints L) ∧ ∀ j, v'.id? = some j → h0.next ≤ j
              | none => S'.e = 700 ∧ ((∃ e' v', Lp AP.A [0, 1, 2, 7] AP.f53L1 [(0, .pobj c.f 0), (1, rbook cl), (2, I many), (7, v)] h = some (.exit 0, e', h') ∧ look e' 7 = v') ∨ ∃ e', Lp AP.A [0, 1, 2, 7] AP.f53L1 [(0, .pobj c.f 0), (1, rbook cl), (2, I many), (7, v)] h = some (.ret, e', h') ∧ look e' 6 = .nils) := by
          intro n times h2 S2 ht st2 fr2 o2 he2 hstep hag
          obtain ⟨h3, S3, v3, t1, t2, t3, t4⟩ := flens_tail h0 cl many hm st2 fr2 o2 hlt hid hlo n times ht he2 _ rfl
          have step := hstep _ h3 v3 rfl t1
          cases ha : againA c.text y acc p1 with
          | none =>
            rw [ha] at hag
            dsimp only at hag ⊢
            rcases t4 with ⟨t5, _⟩ | ⟨_, t6, t7, t8⟩
            · rw [hag] at t5; exact absurd t5 (by decide)
            · subst t7
              obtain ⟨e', q1, q2⟩ := flens_stop t2 (rbook cl) many t8 (.inr ⟨hlt, by rw [t6]; decide⟩)
              exact ⟨h3, S3, t2, t3, t6, .inl ⟨e', v3, Lp_next step q1, q2⟩⟩
          | some q =>
            obtain ⟨n2, t2', p2⟩ := q
            rw [ha] at hag
            obtain ⟨g1, g2, g3, g4⟩ := hag
            dsimp only at g1 g2 g3 g4 ⊢
            subst g1 g2 g3
            have hle2 := st2.at_le
            dsimp only at hle2
            rcases t4 with ⟨t5, t6, t7, t8, t9⟩ | ⟨t5, t6, t7, t8⟩
            · subst t7
              obtain ⟨h', S', r1, r2, r3⟩ := flens_loop h0 cl hcl many hm f (acc ++ List.replicate times n) _ h3 ov v3 t2 he (by dsimp only; omega) t3 t8 (by simp; omega) t9 hlo
              refine ⟨h', S', r1, r2, ?_⟩
              dsimp only at r3
              cases hL : lensLoop c.text cl many f (acc ++ List.replicate times n) p2 with
              | some q =>
                rw [hL] at r3
                obtain ⟨r4, r5, e', v', r6, r7⟩ := r3
                exact ⟨r4, r5, e', v', Lp_next step r6, r7⟩
              | none =>
                rw [hL] at r3
                obtain ⟨r4, r5⟩ := r3
                refine ⟨r4, ?_⟩
                rcases r5 with ⟨e', v', r6, r7⟩ | ⟨e', r6, r7⟩
                · exact .inl ⟨e', v', Lp_next step r6, r7⟩
                · exact .inr ⟨e', Lp_next step r6, r7⟩
            · have hgt : many < acc.length + times := by
                rcases t5 with q | q
                · exact absurd he q
                · exact q
              have hnone : lensLoop c.text cl many f (acc ++ List.replicate times n) p2 = none := by
                obtain ⟨f', rfl⟩ : ∃ f', f = f' + 1 := ⟨f - 1, by omega⟩
                rw [lensLoop, if_neg (by simp; omega), if_pos (by simp; omega)]
              rw [hnone]
              dsimp only
              subst t7
              obtain ⟨e', q1, q2⟩ := flens_stop t2 (rbook cl) many t8 (.inr ⟨hlt, by rw [t6]; decide⟩)
              exact ⟨h3, S3, t2, t3, t6, .inl ⟨e', v3, Lp_next step q1, q2⟩⟩
        have ne0 : ((0 : Int) != 0) = false := rfl
        by_cases h16 : y = 16
        · have d16 := beq_t h16
          by_cases hn : acc = []
          · obtain ⟨h2, f1, f2, f3⟩ := wrong_c s2
            have hag : againA c.text y acc p1 = none := by unfold againA; rw [if_pos h16, if_pos hn]
            rw [hag]
            have hz0 : ((acc.length : Int) == 0) = true := by rw [hn]; rfl
            refine ⟨h2, _, f2, fr1.trans f3, by simp [failS, he], .inr ⟨[(6, .nils)], Lp_ret ?_, rfl⟩⟩
            simp only [I] at *
            simp only [AP.f53L1, go_sem, abin_shl, abin_shr, Nat.reduceEqDiff, reduceIte, Nat.reduceAdd, Nat.reduceMul, Nat.reduceLT, Nat.reduceLeDiff, Int.reduceBEq, Int.reduceBNe, Int.reduceLT, Int.reduceLE, Int.reduceEq, ln, decide_eq_true c1, gf, s1, gf1, ne0, d16, ln1, hz0, f1]
          · have hpos : 0 < acc.length := List.length_pos_iff.2 hn
            have hz0 : ((acc.length : Int) == 0) = false := beq_f (by omega)
            have w2 : IntKind.wrap .i64 ((acc.length : Int) - 1) = ((acc.length - 1 : Nat) : Int) := by
              rw [show (acc.length : Int) - 1 = ((acc.length - 1 : Nat) : Int) by omega]; exact wrap_nat64 (by omega)
            have hel := ints_getD (l := acc) (i := acc.length - 1) (by omega)
            obtain ⟨id, i1, i2, i3⟩ := oa1.elem hel
            obtain ⟨h2, k1, k2, k3⟩ := fget_c s2 2 2 rfl (by omega)
            have hgl : (getF c 2 { S with at_ := p1 }).1 < 4 := by
              unfold getF; split
              · simpa using valAt_lt c.text p1 2
              · simp
            have w3 : IntKind.wrap .i64 (3 + ((getF c 2 { S with at_ := p1 }).1 : Int)) = ((3 + (getF c 2 { S with at_ := p1 }).1 : Nat) : Int) := wrap_nat64 (n := 3 + _) (by omega)
            have o2 : Own h2 v (ints acc) := oa1.mono k3.fl fun i hi => k3.oth i (oa1.lt hi) (hneq i hi).1 (hneq i hi).2
            refine fin (acc.getD (acc.length - 1) 0) (3 + (getF c 2 { S with at_ := p1 }).1) h2 _ (by omega) k2 (fr1.trans k3) o2 (getF_e c 2 _ (.inl he)) ?_ ?_
            · intro code h3 v3 hc hev
              clear fin i1
              generalize (getF c 2 { S with at_ := p1 }).1 = G at *
              unfold AP.f53L1
              rw [hc] at hev
              simp only [I] at *
              simp only [C_seq, C_block, C_cond, goS_n, go_sem, abin_shl, abin_shr, Nat.reduceEqDiff, reduceIte, Nat.reduceAdd, Nat.reduceMul, Nat.reduceLT, Nat.reduceLeDiff, Int.reduceBEq, Int.reduceBNe, Int.reduceLT, Int.reduceLE, Int.reduceEq, ln, decide_eq_true c1, gf, s1, gf1, ne0, d16, ln1, hz0, w2, i2, i3, hel, k1, w3]
              simp only [C_seq, C_block, C_cond, goS_n, go_sem, abin_shl, abin_shr, Nat.reduceEqDiff, reduceIte, Nat.reduceAdd, Nat.reduceMul, Nat.reduceLT, Nat.reduceLeDiff, Int.reduceBEq, Int.reduceBNe, Int.reduceLT, Int.reduceLE, Int.reduceEq] at hev
              simp only [hev, go_sem, abin_shl, abin_shr, Nat.reduceEqDiff, reduceIte, Nat.reduceAdd, Nat.reduceMul, Nat.reduceLT, Nat.reduceLeDiff, Int.reduceBEq, Int.reduceBNe, Int.reduceLT, Int.reduceLE, Int.reduceEq]
            · by_cases hp : p1 + 2 ≤ 8 * c.text.size
              · have hag : againA c.text y acc p1 = some (acc.getD (acc.length - 1) 0, 3 + valAt c.text p1 2, p1 + 2) := by unfold againA; rw [if_pos h16, if_neg hn, if_pos hp]
                rw [hag]
                have eg : getF c 2 { S with at_ := p1 } = (valAt c.text p1 2, { S with at_ := p1 + 2 }) := by rw [getF, if_pos hp]
                rw [eg]
                exact ⟨rfl, rfl, rfl, by show p1 ≤ p1 + 2; omega⟩
              · have hag : againA c.text y acc p1 = none := by unfold againA; rw [if_pos h16, if_neg hn, if_neg hp]
                rw [hag]
                have eg : getF c 2 { S with at_ := p1 } = (0, { S with at_ := p1, e := 700 }) := by rw [getF, if_neg hp, failS, if_pos he]
                rw [eg]
        · have d16 := beq_f h16
          by_cases h17 : y = 17
          · have d17 := beq_t h17
            obtain ⟨h2, k1, k2, k3⟩ := fget_c s2 3 3 rfl (by omega)
            have hgl : (getF c 3 { S with at_ := p1 }).1 < 8 := by
              unfold getF; split
              · simpa using valAt_lt c.text p1 3
              · simp
            have w3 : IntKind.wrap .i64 (3 + ((getF c 3 { S with at_ := p1 }).1 : Int)) = ((3 + (getF c 3 { S with at_ := p1 }).1 : Nat) : Int) := wrap_nat64 (n := 3 + _) (by omega)
            have o2 : Own h2 v (ints acc) := oa1.mono k3.fl fun i hi => k3.oth i (oa1.lt hi) (hneq i hi).1 (hneq i hi).2
            refine fin 0 (3 + (getF c 3 { S with at_ := p1 }).1) h2 _ (by omega) k2 (fr1.trans k3) o2 (getF_e c 3 _ (.inl he)) ?_ ?_
            · intro code h3 v3 hc hev
              clear fin
              generalize (getF c 3 { S with at_ := p1 }).1 = G at *
              unfold AP.f53L1
              rw [hc] at hev
              simp only [I] at *
              simp only [C_seq, C_block, C_cond, goS_n, go_sem, abin_shl, abin_shr, Nat.reduceEqDiff, reduceIte, Nat.reduceAdd, Nat.reduceMul, Nat.reduceLT, Nat.reduceLeDiff, Int.reduceBEq, Int.reduceBNe, Int.reduceLT, Int.reduceLE, Int.reduceEq, ln, decide_eq_true c1, gf, s1, gf1, ne0, d16, d17, k1, w3]
              simp only [C_seq, C_block, C_cond, goS_n, go_sem, abin_shl, abin_shr, Nat.reduceEqDiff, reduceIte, Nat.reduceAdd, Nat.reduceMul, Nat.reduceLT, Nat.reduceLeDiff, Int.reduceBEq, Int.reduceBNe, Int.reduceLT, Int.reduceLE, Int.reduceEq] at hev
              simp only [hev, go_sem, abin_shl, abin_shr, Nat.reduceEqDiff, reduceIte, Nat.reduceAdd, Nat.reduceMul, Nat.reduceLT, Nat.reduceLeDiff, Int.reduceBEq, Int.reduceBNe, Int.reduceLT, Int.reduceLE, Int.reduceEq]
            · by_cases hp : p1 + 3 ≤ 8 * c.text.size
              · have hag : againA c.text y acc p1 = some (0, 3 + valAt c.text p1 3, p1 + 3) := by unfold againA; rw [if_neg h16, if_pos h17, if_pos hp]
                rw [hag]
                have eg : getF c 3 { S with at_ := p1 } = (valAt c.text p1 3, { S with at_ := p1 + 3 }) := by rw [getF, if_pos hp]
                rw [eg]
                exact ⟨rfl, rfl, rfl, by show p1 ≤ p1 + 3; omega⟩
              · have hag : againA c.text y acc p1 = none := by unfold againA; rw [if_neg h16, if_pos h17, if_neg hp]
                rw [hag]
                have eg : getF c 3 { S with at_ := p1 } = (0, { S with at_ := p1, e := 700 }) := by rw [getF, if_neg hp, failS, if_pos he]
                rw [eg]
          · have d17 := beq_f h17
            by_cases h18 : y = 18
            · have d18 := beq_t h18
              obtain ⟨h2, k1, k2, k3⟩ := fget_c s2 7 7 rfl (by omega)
              have hgl : (getF c 7 { S with at_ := p1 }).1 < 128 := by
                unfold getF; split
                · simpa using valAt_lt c.text p1 7
                · simp
              have w3 : IntKind.wrap .i64 (11 + ((getF c 7 { S with at_ := p1 }).1 : Int)) = ((11 + (getF c 7 { S with at_ := p1 }).1 : Nat) : Int) := wrap_nat64 (n := 11 + _) (by omega)
              have o2 : Own h2 v (ints acc) := oa1.mono k3.fl fun i hi => k3.oth i (oa1.lt hi) (hneq i hi).1 (hneq i hi).2
              refine fin 0 (11 + (getF c 7 { S with at_ := p1 }).1) h2 _ (by omega) k2 (fr1.trans k3) o2 (getF_e c 7 _ (.inl he)) ?_ ?_
              · intro code h3 v3 hc hev
                clear fin
                generalize (getF c 7 { S with at_ := p1 }).1 = G at *
                unfold AP.f53L1
                rw [hc] at hev
                simp only [I] at *
                simp only [C_seq, C_block, C_cond, goS_n, go_sem, abin_shl, abin_shr, Nat.reduceEqDiff, reduceIte, Nat.reduceAdd, Nat.reduceMul, Nat.reduceLT, Nat.reduceLeDiff, Int.reduceBEq, Int.reduceBNe, Int.reduceLT, Int.reduceLE, Int.reduceEq, ln, decide_eq_true c1, gf, s1, gf1, ne0, d16, d17, d18, k1, w3]
                simp only [C_seq, C_block, C_cond, goS_n, go_sem, abin_shl, abin_shr, Nat.reduceEqDiff, reduceIte, Nat.reduceAdd, Nat.reduceMul, Nat.reduceLT, Nat.reduceLeDiff, Int.reduceBEq, Int.reduceBNe, Int.reduceLT, Int.reduceLE, Int.reduceEq] at hev
                simp only [hev, go_sem, abin_shl, abin_shr, Nat.reduceEqDiff, reduceIte, Nat.reduceAdd, Nat.reduceMul, Nat.reduceLT, Nat.reduceLeDiff, Int.reduceBEq, Int.reduceBNe, Int.reduceLT, Int.reduceLE, Int.reduceEq]
              · by_cases hp : p1 + 7 ≤ 8 * c.text.size
                · have hag : againA c.text y acc p1 = some (0, 11 + valAt c.text p1 7, p1 + 7) := by unfold againA; rw [if_neg h16, if_neg h17, if_pos h18, if_pos hp]
                  rw [hag]
                  have eg : getF c 7 { S with at_ := p1 } = (valAt c.text p1 7, { S with at_ := p1 + 7 }) := by rw [getF, if_pos hp]
                  rw [eg]
                  exact ⟨rfl, rfl, rfl, by show p1 ≤ p1 + 7; omega⟩
                · have hag : againA c.text y acc p1 = none := by unfold againA; rw [if_neg h16, if_neg h17, if_pos h18, if_neg hp]
                  rw [hag]
                  have eg : getF c 7 { S with at_ := p1 } = (0, { S with at_ := p1, e := 700 }) := by rw [getF, if_neg hp, failS, if_pos he]
                  rw [eg]
            · have d18 := beq_f h18
              have hag : againA c.text y acc p1 = some (y, 1, p1) := by unfold againA; rw [if_neg h16, if_neg h17, if_neg h18]
              refine fin y 1 h1 _ (by omega) s2 fr1 oa1 (.inl he) ?_ (by rw [hag]; exact ⟨rfl, rfl, rfl, Nat.le_refl _⟩)
              intro code h3 v3 hc hev
              clear fin hag
              unfold AP.f53L1
              rw [hc] at hev
              have hev' : evC (callW AP.A) loopW _ [(0, .pobj c.f 0), (1, rbook cl), (2, I many), (7, v), (9, I 1), (10, I y)] h1 = _ := hev
              clear hev
              simp only [I] at *
              simp only [C_seq, C_block, C_cond, goS_n, go_sem, abin_shl, abin_shr, Nat.reduceEqDiff, reduceIte, Nat.reduceAdd, Nat.reduceMul, Nat.reduceLT, Nat.reduceLeDiff, Int.reduceBEq, Int.reduceBNe, Int.reduceLT, Int.reduceLE, Int.reduceEq, ln, decide_eq_true c1, gf, s1, gf1, ne0, d16, d17, d18]
              simp only [C_seq, C_block, C_cond, goS_n, go_sem, abin_shl, abin_shr, Nat.reduceEqDiff, reduceIte, Nat.reduceAdd, Nat.reduceMul, Nat.reduceLT, Nat.reduceLeDiff, Int.reduceBEq, Int.reduceBNe, Int.reduceLT, Int.reduceLE, Int.reduceEq, ln, decide_eq_true c1, gf, s1, gf1, ne0, d16, d17, d18] at hev'
              simp only [hev', go_sem, abin_shl, abin_shr, Nat.reduceEqDiff, reduceIte, Nat.reduceAdd, Nat.reduceMul, Nat.reduceLT, Nat.reduceLeDiff, Int.reduceBEq, Int.reduceBNe, Int.reduceLT, Int.reduceLE, Int.reduceEq]
    · have heq : acc.length = many := by omega
      obtain ⟨e', q1, q2⟩ := flens_stop st (rbook cl) many oa (.inl (by omega))
      refine ⟨h, S, st, fr, ?_⟩
      rw [lensLoop, if_neg hlt, if_neg (by omega)]
      exact ⟨rfl, heq, e', v, q1, q2, oa, hid⟩
end Ab
set_option linter.unusedSimpArgs false
set_option linter.unusedVariables false
namespace Ab
open Go
def scF (c : FC) : SC := ⟨0, 0, c.text, c.most⟩
theorem getF_sc (c : FC) (n : Nat) (S : SS) : getF c n S = getS (scF c) n S := (getF_eq (scF c) c rfl n S).symm
theorem fown_loop {c : FC} (a : Nat) (many : Nat) (hmany : many ≤ 19) (m2 m3 : AV) : ∀ (q p o : List Int) (S : SS) (h : H) (ov : AV), orderL.take many = p ++ q → Ft c S h ov → ov.id? ≠ some a → a ≠ c.f → h.get a = some (ints o) → o.length = 19 → h.floor ≤ a →
    ∃ e' h', Lp AP.A [0, 2, 3, 4, 5, 6, 7] AP.f24L0 [(0, .pobj c.f 0), (2, m2), (3, m3), (4, I many), (5, .sobj a 0 19 1), (6, immI orderL), (7, I p.length)] h = some (.exit 0, e', h') ∧ look e' 0 = .pobj c.f 0 ∧ look e' 2 = m2 ∧ look e' 3 = m3 ∧ look e' 5 = .sobj a 0 19 1 ∧
      Ft c (ownS (scF c) q o S).2 h' ov ∧ h'.get a = some (ints (ownS (scF c) q o S).1) ∧ h'.floor = h.floor ∧ h.next ≤ h'.next ∧ ∀ i, i < h.next → i ≠ c.f → ov.id? ≠ some i → i ≠ a → h'.get i = h.get i
  | [], p, o, S, h, ov, hp, st, hoa, hac, hg, ho, hf => by
    have hlen : p.length = many := by
      have := congrArg List.length hp
      rw [List.length_take, List.append_nil] at this
      have h2 : orderL.length = 19 := rfl
      omega
    refine ⟨[(0, .pobj c.f 0), (2, m2), (3, m3), (4, I many), (5, .sobj a 0 19 1), (6, immI orderL), (7, I p.length), (37, .bool false)], h, Lp_exit ?_, rfl, rfl, rfl, rfl, st, hg, rfl, Nat.le_refl _, fun _ _ _ _ _ => rfl⟩
    have c1 : ¬ (p.length : Int) < (many : Int) := by omega
    simp only [I] at *
    simp only [AP.f24L0, go_sem, abin_shl, abin_shr, Nat.reduceEqDiff, reduceIte, Nat.reduceAdd, Nat.reduceMul, Nat.reduceLT, Nat.reduceLeDiff, Int.reduceBEq, Int.reduceBNe, Int.reduceLT, Int.reduceLE, Int.reduceEq, decide_eq_false c1]
  | s :: q, p, o, S, h, ov, hp, st, hoa, hac, hg, ho, hf => by
    have h2l : orderL.length = 19 := rfl
    have hlen : p.length + (q.length + 1) = many := by
      have := congrArg List.length hp
      rw [List.length_take, List.length_append, List.length_cons] at this
      omega
    have c1 : (p.length : Int) < (many : Int) := by omega
    have hsm : s ∈ orderL := List.mem_of_mem_take (i := many) (by rw [hp]; simp)
    have hs := order_mem s hsm
    obtain ⟨sn, hsn⟩ : ∃ n : Nat, s = n := Int.eq_ofNat_of_zero_le hs.1
    subst hsn
    have hv0 : orderL[p.length]? = some (sn : Int) := by
      have : (orderL.take many)[p.length]? = some (sn : Int) := by rw [hp]; simp
      rw [List.getElem?_take] at this
      split at this
      · exact this
      · cases this
    have hv : (ints orderL)[p.length]? = some (I sn) := ints_get hv0
    have ia : aiadr 1 (immI orderL) (I p.length) = some (.pimm (ints orderL) p.length) := by
      have := aidx_of (show p.length < orderL.length by omega)
      simp only [aiadr, immI, if_true, this, Option.bind_some, Nat.zero_add, Nat.mul_one]
    obtain ⟨h1, k1, k2, k3⟩ := fget_c st 3 3 rfl (by omega)
    rw [getF_sc] at k1 k2
    have hal : a < h.next := h.lt _ _ hg
    have hg1 : h1.get a = some (ints o) := by rw [k3.oth a hal hac hoa]; exact hg
    have a1 : aiadr 1 (.sobj a 0 19 1) (I sn) = some (.pobj a sn) := by simp [aiadr, aidx_of (show sn < 19 by omega)]
    have hset : (ints o).set sn (I ((getS (scF c) 3 S).1 : Nat)) = ints (o.set sn ((getS (scF c) 3 S).1 : Nat)) := by simp [ints, List.map_set]
    have hst : stO h1 a sn 1 [I ((getS (scF c) 3 S).1 : Nat)] (some (ints o)) = some (h1.set a (ints (o.set sn ((getS (scF c) 3 S).1 : Nat)))) := by
      rw [stO_1 (by rw [k3.fl]; exact hf) (by rw [ints_length]; omega) rfl, hset]
    have w2 : IntKind.wrap .i64 ((p.length : Int) + 1) = (((p ++ [(sn : Int)]).length : Nat) : Int) := by
      rw [List.length_append]; exact wrap_nat64 (n := p.length + 1) (by omega)
    have step : evC (callW AP.A) loopW AP.f24L0 (restr [(0, .pobj c.f 0), (2, m2), (3, m3), (4, I many), (5, .sobj a 0 19 1), (6, immI orderL), (7, I p.length)] [0, 2, 3, 4, 5, 6, 7]) h = some (.normal, [(0, .pobj c.f 0), (2, m2), (3, m3), (4, I many), (5, .sobj a 0 19 1), (6, immI orderL), (7, I (p ++ [(sn : Int)]).length)], h1.set a (ints (o.set sn ((getS (scF c) 3 S).1 : Nat)))) := by
      clear hset
      generalize ints (o.set sn ((getS (scF c) 3 S).1 : Nat)) = W at *
      generalize (p ++ [(sn : Int)]).length = B at *
      generalize (getS (scF c) 3 S).1 = G at *
      generalize ints o = OO at *
      generalize immI orderL = RO at *
      unfold AP.f24L0
      refine seq_n (e1 := [(0, .pobj c.f 0), (2, m2), (3, m3), (4, I many), (5, .sobj a 0 19 1), (6, RO), (7, I p.length)]) (h1 := h) ?_ ?_
      · simp only [I] at *
        simp only [go_sem, abin_shl, abin_shr, Nat.reduceEqDiff, reduceIte, Nat.reduceAdd, Nat.reduceMul, Nat.reduceLT, Nat.reduceLeDiff, Int.reduceBEq, Int.reduceBNe, Int.reduceLT, Int.reduceLE, Int.reduceEq, decide_eq_true c1]
      refine seq_n (e1 := [(0, .pobj c.f 0), (2, m2), (3, m3), (4, I many), (5, .sobj a 0 19 1), (6, RO), (7, I p.length)]) (h1 := h1.set a W) ?_ ?_
      · rw [C_block, C_dreg (e' := [(47, .pobj a sn), (46, I G), (45, .pobj c.f 0), (44, I sn), (43, .pimm (ints orderL) p.length), (42, I p.length), (41, RO), (40, .sobj a 0 19 1), (0, .pobj c.f 0), (2, m2), (3, m3), (4, I many), (5, .sobj a 0 19 1), (6, RO), (7, I p.length)]) (h' := h1.set a W) (gs := [h, h1, h1.set a W])]
        · simp only [go_sem, abin_shl, abin_shr, Nat.reduceEqDiff, reduceIte, Nat.reduceAdd, Nat.reduceMul, Nat.reduceLT, Nat.reduceLeDiff, Int.reduceBEq, Int.reduceBNe, Int.reduceLT, Int.reduceLE, Int.reduceEq]
        · simp only [I] at *
          simp only [opsD_nil, opsD_u, goOD_s, preD_t, preD_f, AOp.loud, go_sem, abin_shl, abin_shr, Nat.reduceEqDiff, reduceIte, Nat.reduceAdd, Nat.reduceMul, Nat.reduceLT, Nat.reduceLeDiff, Int.reduceBEq, Int.reduceBNe, Int.reduceLT, Int.reduceLE, Int.reduceEq, ia, hv, k1, a1, hg1, hst]
        · refine stables_c (fun k hk => ?_) rfl
          obtain rfl : k = 1 := by simpa using hk
          refine stable_of (o := ⟨some 44, .load false 1 (.t 43), none⟩) (g := h1) (h' := h1) (d := 44) (u := I sn) rfl rfl rfl rfl ?_ ?_
          · simp only [evOper, go_sem, abin_shl, abin_shr, Nat.reduceEqDiff, reduceIte, Nat.reduceAdd, Nat.reduceMul, Nat.reduceLT, Nat.reduceLeDiff, Int.reduceBEq, Int.reduceBNe, Int.reduceLT, Int.reduceLE, Int.reduceEq, hv]
          · simp only [go_sem, abin_shl, abin_shr, Nat.reduceEqDiff, reduceIte, Nat.reduceAdd, Nat.reduceMul, Nat.reduceLT, Nat.reduceLeDiff, Int.reduceBEq, Int.reduceBNe, Int.reduceLT, Int.reduceLE, Int.reduceEq, I, beq_int]
      · simp only [I] at *
        simp only [go_sem, abin_shl, abin_shr, Nat.reduceEqDiff, reduceIte, Nat.reduceAdd, Nat.reduceMul, Nat.reduceLT, Nat.reduceLeDiff, Int.reduceBEq, Int.reduceBNe, Int.reduceLT, Int.reduceLE, Int.reduceEq, w2]
    have st2 : Ft c (getS (scF c) 3 S).2 (h1.set a (ints (o.set sn ((getS (scF c) 3 S).1 : Nat)))) ov := k2.keep (by simp) (by simp) fun i hi => by
      rw [H.get_set, if_neg]
      rintro rfl
      rcases hi with hi | hi
      · exact hac hi
      · exact hoa hi
    obtain ⟨e', h', q1, q2, q3, q4, q5, q6, q7, q8, q9, q10⟩ := fown_loop a many hmany m2 m3 q (p ++ [(sn : Int)]) (o.set sn ((getS (scF c) 3 S).1 : Nat)) _ _ ov (by rw [hp]; simp) st2 hoa hac (by rw [H.get_set, if_pos rfl, hg1]; rfl) (by simpa using ho) (by simp [k3.fl]; exact hf)
    refine ⟨e', h', Lp_next step q1, q2, q3, q4, q5, ?_, ?_, by rw [q8]; simp [k3.fl], by have := k3.nx; simp at q9; omega, fun i i1 i2 i4 i5 => ?_⟩
    · rw [ownS]; exact q6
    · rw [ownS]; exact q7
    · rw [q10 i (by have := k3.nx; simp; omega) i2 i4 i5, H.get_set, if_neg i5, k3.oth i i1 i2 i4]
theorem flengths_c {c : FC} {S : SS} {h : H} {ov : AV} (cl : List Int) (hcl : cl.length < 1000) (st : Ft c S h ov) (he : S.e = 0) (many : Nat) (hm : many ≤ 400) :
    ∃ h' S' v, callW AP.A 53 [.pobj c.f 0, rbook cl, I many] h = some (v, h') ∧ Ft c S' h' ov ∧ FF c h ov h' ov ∧ match lensLoop c.text cl many (8 * c.text.size + 1) [] S.at_ with
      | some (L, p) => S' = { S with at_ := p } ∧ L.length = many ∧ Own h' v (ints L) ∧ ∀ j, v.id? = some j → h.next ≤ j
      | none => S'.e = 700 := by
  obtain ⟨h', S', q1, q2, q3⟩ := flens_loop h cl hcl many hm (8 * c.text.size + 1) [] S h ov .nils st he (by omega) (FF.refl _ _ _) (.inl ⟨rfl, rfl⟩) (by simp) (fun j q => by cases q) (fun j hj => st.lt hj)
  have close : ∀ e' v, Lp AP.A [0, 1, 2, 7] AP.f53L1 [(0, .pobj c.f 0), (1, rbook cl), (2, I many), (7, .nils)] h = some (.exit 0, e', h') → look e' 7 = v → callW AP.A 53 [.pobj c.f 0, rbook cl, I many] h = some (v, h') := by
    intro e' v r1 r2
    refine plain_c (fn := AP.f53) (e := [(6, v)]) (vs := [v]) rfl rfl rfl ?_ rfl
    simp only [I] at *
    simp only [AP.f53, go_sem, abin_shl, abin_shr, Nat.reduceEqDiff, reduceIte, Nat.reduceAdd, Nat.reduceMul, Nat.reduceLT, Nat.reduceLeDiff, Int.reduceBEq, Int.reduceBNe, Int.reduceLT, Int.reduceLE, Int.reduceEq, evC_loop, r1, r2]
  cases hL : lensLoop c.text cl many (8 * c.text.size + 1) [] S.at_ with
  | some q =>
    rw [hL] at q3
    obtain ⟨r1, r2, e', v', r3, r4, r5, r6⟩ := q3
    exact ⟨h', S', v', close e' v' r3 r4, q1, q2, r1, r2, r5, r6⟩
  | none =>
    rw [hL] at q3
    obtain ⟨r1, ⟨e', v', r3, r4⟩ | ⟨e', r3, r4⟩⟩ := q3
    · exact ⟨h', S', v', close e' v' r3 r4, q1, q2, r1⟩
    · refine ⟨h', S', .nils, ?_, q1, q2, r1⟩
      refine plain_c (fn := AP.f53) (e := e') (vs := [.nils]) rfl rfl rfl ?_ (by simp only [AP.f53, resAll, resOf, r4]; rfl)
      simp only [I] at *
      simp only [AP.f53, go_sem, abin_shl, abin_shr, Nat.reduceEqDiff, reduceIte, Nat.reduceAdd, Nat.reduceMul, Nat.reduceLT, Nat.reduceLeDiff, Int.reduceBEq, Int.reduceBNe, Int.reduceLT, Int.reduceLE, Int.reduceEq, evC_loop, r3]
theorem dynA_short (t : ByteArray) (most : Int) (out : List Nat) {p : Nat} (hp : ¬ p + 14 ≤ 8 * t.size) : dynA t most p out = .error 700 := by
  unfold dynA
  split
  · dsimp only
    split
    · rfl
    · have : ∀ m, lensA t m (p + 10) = none := fun m => by rw [lensA, if_neg (by omega)]
      rw [this]
  · rfl
theorem fdynamic_c {c : FC} {S : SS} {h : H} {ov : AV} (st : Ft c S h ov) (he : S.e = 0) :
    ∃ h' ov' S', callW AP.A 24 [.pobj c.f 0] h = some (.tup [], h') ∧ Ft c S' h' ov' ∧ FF c h ov h' ov' ∧ Fin (dynA c.text c.most S.at_ S.out) S' := by
  obtain ⟨h1, a1, a2, a3⟩ := fget_c st 5 5 rfl (by omega)
  obtain ⟨h2, b1, b2, b3⟩ := fget_c a2 5 5 rfl (by omega)
  obtain ⟨h3, d1, d2, d3⟩ := fget_c b2 4 4 rfl (by omega)
  obtain ⟨A, hA⟩ : ∃ n, n = (getF c 5 S).1 := ⟨_, rfl⟩
  obtain ⟨S1, hS1⟩ : ∃ n, n = (getF c 5 S).2 := ⟨_, rfl⟩
  rw [← hA] at a1; rw [← hS1] at a2 b1 b2 d1 d2
  obtain ⟨B, hB⟩ : ∃ n, n = (getF c 5 S1).1 := ⟨_, rfl⟩
  obtain ⟨S2, hS2⟩ : ∃ n, n = (getF c 5 S1).2 := ⟨_, rfl⟩
  rw [← hB] at b1; rw [← hS2] at b2 d1 d2
  obtain ⟨C, hC⟩ : ∃ n, n = (getF c 4 S2).1 := ⟨_, rfl⟩
  obtain ⟨S3, hS3⟩ : ∃ n, n = (getF c 4 S2).2 := ⟨_, rfl⟩
  rw [← hC] at d1; rw [← hS3] at d2
  have g5 : ∀ S, (getF c 5 S).1 < 32 := fun S => by
    unfold getF; split
    · simpa using valAt_lt c.text S.at_ 5
    · simp
  have hA32 : A < 32 := hA ▸ g5 S
  have hB32 : B < 32 := hB ▸ g5 S1
  have hC16 : C < 16 := by
    rw [hC]; unfold getF; split
    · simpa using valAt_lt c.text S2.at_ 4
    · simp
  have w1 : IntKind.wrap .i64 (257 + (A : Int)) = ((A + 257 : Nat) : Int) := by rw [show 257 + (A : Int) = ((A + 257 : Nat) : Int) by omega]; exact wrap_nat64 (by omega)
  have w2 : IntKind.wrap .i64 (1 + (B : Int)) = ((B + 1 : Nat) : Int) := by rw [show 1 + (B : Int) = ((B + 1 : Nat) : Int) by omega]; exact wrap_nat64 (by omega)
  have w3 : IntKind.wrap .i64 (4 + (C : Int)) = ((C + 4 : Nat) : Int) := by rw [show 4 + (C : Int) = ((C + 4 : Nat) : Int) by omega]; exact wrap_nat64 (by omega)
  have gf3 := d2.gf
  have he3 : S3.e = 0 ∨ S3.e = 700 := by rw [hS3]; exact getF_e c 4 _ (by rw [hS2]; exact getF_e c 5 _ (by rw [hS1]; exact getF_e c 5 S (.inl he)))
  have fr3 := (a3.trans b3).trans d3
  have bad : (S3.e ≠ 0 ∨ 286 < A + 257 ∨ 30 < B + 1) → ∃ h' ov' S', callW AP.A 24 [.pobj c.f 0] h = some (.tup [], h') ∧ Ft c S' h' ov' ∧ FF c h ov h' ov' ∧ S'.e = 700 ∧ (700 : Int) ≠ 0 := by
    intro hb
    obtain ⟨h4, f1, f2, f3⟩ := wrong_c d2
    refine ⟨h4, ov, failS 700 S3, ?_, f2, fr3.trans f3, by rcases he3 with q | q <;> simp [failS, q], by decide⟩
    refine plain_c (fn := AP.f24) (e := []) (vs := []) rfl rfl rfl ?_ rfl
    by_cases c1 : S3.e = 0
    · have c1' := bne_f c1
      by_cases c2 : 286 < A + 257
      · have c2' : (286 : Int) < ((A + 257 : Nat) : Int) := by omega
        simp only [I] at *
        simp only [AP.f24, go_sem, abin_shl, abin_shr, Nat.reduceEqDiff, reduceIte, Nat.reduceAdd, Nat.reduceMul, Nat.reduceLT, Nat.reduceLeDiff, Int.reduceBEq, Int.reduceBNe, Int.reduceLT, Int.reduceLE, Int.reduceEq, a1, b1, d1, w1, w2, w3, gf3, c1', decide_eq_true c2', f1]
      · have c2' : ¬ (286 : Int) < ((A + 257 : Nat) : Int) := by omega
        have c3' : (30 : Int) < ((B + 1 : Nat) : Int) := by
          rcases hb with q | q | q
          · exact absurd c1 q
          · exact absurd q c2
          · omega
        simp only [I] at *
        simp only [AP.f24, go_sem, abin_shl, abin_shr, Nat.reduceEqDiff, reduceIte, Nat.reduceAdd, Nat.reduceMul, Nat.reduceLT, Nat.reduceLeDiff, Int.reduceBEq, Int.reduceBNe, Int.reduceLT, Int.reduceLE, Int.reduceEq, a1, b1, d1, w1, w2, w3, gf3, c1', decide_eq_false c2', decide_eq_true c3', f1]
    · have c1' := bne_t c1
      simp only [I] at *
      simp only [AP.f24, go_sem, abin_shl, abin_shr, Nat.reduceEqDiff, reduceIte, Nat.reduceAdd, Nat.reduceMul, Nat.reduceLT, Nat.reduceLeDiff, Int.reduceBEq, Int.reduceBNe, Int.reduceLT, Int.reduceLE, Int.reduceEq, a1, b1, d1, w1, w2, w3, gf3, c1', f1]
  by_cases hp : S.at_ + 14 ≤ 8 * c.text.size
  · unfold dynA
    have e1 : getF c 5 S = (valAt c.text S.at_ 5, { S with at_ := S.at_ + 5 }) := by rw [getF, if_pos (by omega)]
    rw [e1] at hA hS1; dsimp only at hA hS1
    have e2 : getF c 5 { S with at_ := S.at_ + 5 } = (valAt c.text (S.at_ + 5) 5, { S with at_ := S.at_ + 5 + 5 }) := by rw [getF, if_pos (by show S.at_ + 5 + 5 ≤ _; omega)]
    rw [hS1, e2] at hB hS2; dsimp only at hB hS2
    have e3 : getF c 4 { S with at_ := S.at_ + 5 + 5 } = (valAt c.text (S.at_ + 5 + 5) 4, { S with at_ := S.at_ + 5 + 5 + 4 }) := by rw [getF, if_pos (by show S.at_ + 5 + 5 + 4 ≤ _; omega)]
    rw [hS2, e3] at hC hS3; dsimp only at hC hS3
    rw [if_pos (show S.at_ + 10 ≤ 8 * c.text.size by omega)]
    dsimp only
    rw [← hA, ← hB]
    by_cases hbig : 286 < A + 257 ∨ 30 < B + 1
    · rw [if_pos hbig]; exact bad (.inr hbig)
    rw [if_neg hbig]
    have he30 : S3.e = 0 := by rw [hS3]; exact he
    have hat3 : S3.at_ = S.at_ + 14 := by rw [hS3]
    have c1' : (S3.e != 0) = false := bne_f he30
    have c2' : ¬ (286 : Int) < ((A + 257 : Nat) : Int) := by omega
    have c3' : ¬ (30 : Int) < ((B + 1 : Nat) : Int) := by omega
    have w4 : IntKind.wrap .i64 (((A + 257 : Nat) : Int) + ((B + 1 : Nat) : Int)) = ((A + 257 + (B + 1) : Nat) : Int) := by
      rw [show ((A + 257 : Nat) : Int) + ((B + 1 : Nat) : Int) = ((A + 257 + (B + 1) : Nat) : Int) by omega]; exact wrap_nat64 (by omega)
    obtain ⟨a, ha⟩ : ∃ a, a = h3.next := ⟨_, rfl⟩
    obtain ⟨g0, hg0⟩ : ∃ g, g = h3.alloc (ints (List.replicate 19 0)) := ⟨_, rfl⟩
    have al := d2.alloc (ints (List.replicate 19 0))
    rw [← hg0] at al
    have hga : g0.get a = some (ints (List.replicate 19 0)) := by rw [hg0, H.get_alloc, if_pos ha]
    have oc := order2_c g0
    have bt : ∀ e : Env, birth e (.mksl 1 8 [.int .i64 0] (.c (.int .i64 19)) (.c (.int .i64 19))) = some (ints (List.replicate 19 0), fun i => .sobj i 0 19 1) := fun _ => rfl
    have hac : a ≠ c.f := fun e => by have := d2.lt (.inl e); omega
    have hoa : ov.id? ≠ some a := fun e => by have := d2.lt (.inr e); omega
    obtain ⟨e4, h4, l1, l2, l3, l4, l5, l6, l7, l8, l9, l10⟩ := fown_loop (c := c) a (C + 4) (by omega) (I (A + 257 : Nat)) (I (B + 1 : Nat)) (orderL.take (C + 4)) [] (List.replicate 19 0) S3 g0 ov rfl al.1 hoa hac hga (by simp) (by rw [hg0, ha]; simp; exact d2.nx)
    have l1' : Lp AP.A [0, 2, 3, 4, 5, 6, 7] AP.f24L0 [(0, .pobj c.f 0), (2, I (A + 257 : Nat)), (3, I (B + 1 : Nat)), (4, I (C + 4 : Nat)), (5, .sobj a 0 19 1), (6, immI orderL), (7, I 0)] g0 = some (.exit 0, e4, h4) := l1
    clear l1
    have hn0 : g0.next = h3.next + 1 := by rw [hg0]; simp
    have fr4 : FF c h ov h4 ov := by
      refine ⟨by rw [l8, al.2.fl, fr3.fl], ?_, fun id i1 i2 i4 => ?_, fun i hi => .inl hi⟩
      · have := fr3.nx; omega
      · have := fr3.nx
        rw [l10 id (by omega) i2 i4 (by omega), al.2.oth id (by omega) i2 i4, fr3.oth id i1 i2 i4]
    obtain ⟨cl, hcl⟩ : ∃ cl, cl = (ownS (scF c) (orderL.take (C + 4)) (List.replicate 19 0) S3).1 := ⟨_, rfl⟩
    obtain ⟨S4, hS4⟩ : ∃ cl, cl = (ownS (scF c) (orderL.take (C + 4)) (List.replicate 19 0) S3).2 := ⟨_, rfl⟩
    rw [← hS4] at l6; rw [← hcl] at l7
    have hcll : cl.length = 19 := by rw [hcl, ownS_len]; simp
    have hol : (orderL.take (C + 4)).length = C + 4 := by rw [List.length_take]; show min (C + 4) 19 = C + 4; omega
    have rdc : Rd h4 (.sobj a 0 19 1) (ints cl) := by
      refine ⟨?_, by intro s e; cases e⟩
      simp [srcCells, l7, hcll, List.take_of_length_le]
    have ck := check2_c h4 (.sobj a 0 19 1) cl (by omega) rdc
    have bk := bookOf_c h4 (.sobj a 0 19 1) cl (by omega) rdc
    have gf4 := l6.gf
    have he4 : S4.e = 0 ∨ S4.e = 700 := by rw [hS4]; exact ownS_e _ _ _ _ (.inl he30)
    have bad2 : (S4.e ≠ 0 ∨ checkS cl ≠ 0) → ∃ h' ov' S', callW AP.A 24 [.pobj c.f 0] h = some (.tup [], h') ∧ Ft c S' h' ov' ∧ FF c h ov h' ov' ∧ S'.e = 700 ∧ (700 : Int) ≠ 0 := by
      intro hb
      obtain ⟨h5, f1, f2, f3⟩ := wrong_c l6
      refine ⟨h5, ov, failS 700 S4, ?_, f2, fr4.trans f3, by rcases he4 with q | q <;> simp [failS, q], by decide⟩
      refine plain_c (fn := AP.f24) (e := []) (vs := []) rfl rfl rfl ?_ rfl
      by_cases q1 : S4.e = 0
      · have q1' := bne_f q1
        have q2' : (checkS cl != 0) = true := bne_t (by rcases hb with q | q; exact absurd q1 q; exact q)
        simp only [I] at *
        simp only [AP.f24, go_sem, abin_shl, abin_shr, Nat.reduceEqDiff, reduceIte, Nat.reduceAdd, Nat.reduceMul, Nat.reduceLT, Nat.reduceLeDiff, Int.reduceBEq, Int.reduceBNe, Int.reduceLT, Int.reduceLE, Int.reduceEq, a1, b1, d1, w1, w2, w3, gf3, c1', decide_eq_false c2', decide_eq_false c3', bt, ← hg0, ← ha, oc, evC_loop, l1', l2, l3, l4, l5, gf4, q1', ck, q2', f1]
      · have q1' := bne_t q1
        simp only [I] at *
        simp only [AP.f24, go_sem, abin_shl, abin_shr, Nat.reduceEqDiff, reduceIte, Nat.reduceAdd, Nat.reduceMul, Nat.reduceLT, Nat.reduceLeDiff, Int.reduceBEq, Int.reduceBNe, Int.reduceLT, Int.reduceLE, Int.reduceEq, a1, b1, d1, w1, w2, w3, gf3, c1', decide_eq_false c2', decide_eq_false c3', bt, ← hg0, ← ha, oc, evC_loop, l1', l2, l3, l4, l5, gf4, q1', f1]
    have hlens : lensA c.text (A + 257 + (B + 1)) (S.at_ + 10) = if S.at_ + 14 + 3 * (C + 4) ≤ 8 * c.text.size then (if checkS (ownL c.text (orderL.take (C + 4)) (S.at_ + 14) (List.replicate 19 0)) = 0 then lensLoop c.text (ownL c.text (orderL.take (C + 4)) (S.at_ + 14) (List.replicate 19 0)) (A + 257 + (B + 1)) (8 * c.text.size + 1) [] (S.at_ + 14 + 3 * (C + 4)) else none) else none := by
      have hC' : valAt c.text (S.at_ + 10) 4 = C := hC.symm
      unfold lensA
      rw [if_pos (show S.at_ + 10 + 4 ≤ 8 * c.text.size by omega)]
      dsimp only
      rw [hC', show S.at_ + 10 + 4 = S.at_ + 14 by omega]
    by_cases hp2 : S.at_ + 14 + 3 * (C + 4) ≤ 8 * c.text.size
    · have ok := ownS_ok (scF c) (orderL.take (C + 4)) (List.replicate 19 0) S3 he30 (by rw [hol, hat3]; exact hp2)
      rw [ok] at hcl hS4
      dsimp only at hcl hS4
      rw [hol] at hS4
      rw [hat3] at hcl
      have hcl' : cl = ownL c.text (orderL.take (C + 4)) (S.at_ + 14) (List.replicate 19 0) := hcl
      rw [if_pos hp2, ← hcl'] at hlens
      by_cases hck : checkS cl = 0
      · rw [if_pos hck] at hlens
        have he40 : S4.e = 0 := by rw [hS4]; exact he30
        have hat4 : S4.at_ = S.at_ + 14 + 3 * (C + 4) := by rw [hS4]; show S3.at_ + 3 * (C + 4) = _; rw [hat3]
        have q1' := bne_f he40
        have q2' := bne_f hck
        obtain ⟨h5, S5, av, m1, m2, m3, m4⟩ := flengths_c cl (by omega) l6 he40 (A + 257 + (B + 1)) (by omega)
        have gf5 := m2.gf
        rw [hat4] at m4
        rw [hlens]
        cases hL : lensLoop c.text cl (A + 257 + (B + 1)) (8 * c.text.size + 1) [] (S.at_ + 14 + 3 * (C + 4)) with
        | none =>
          rw [hL] at m4
          have q3' : (S5.e != 0) = true := bne_t (by rw [m4]; decide)
          refine ⟨h5, ov, S5, ?_, m2, fr4.trans m3, m4, by decide⟩
          refine plain_c (fn := AP.f24) (e := [(0, .pobj c.f 0), (2, I (A + 257 : Nat)), (8, av), (71, .bool true)]) (vs := []) rfl rfl rfl ?_ rfl
          simp only [I] at *
          simp only [AP.f24, go_sem, abin_shl, abin_shr, Nat.reduceEqDiff, reduceIte, Nat.reduceAdd, Nat.reduceMul, Nat.reduceLT, Nat.reduceLeDiff, Int.reduceBEq, Int.reduceBNe, Int.reduceLT, Int.reduceLE, Int.reduceEq, a1, b1, d1, w1, w2, w3, gf3, c1', decide_eq_false c2', decide_eq_false c3', bt, ← hg0, ← ha, oc, evC_loop, l1', l2, l3, l4, l5, gf4, q1', ck, q2', bk, w4, m1, gf5, q3']
        | some q =>
          obtain ⟨L, p2⟩ := q
          rw [hL] at m4
          obtain ⟨m4, m5, m6, m7⟩ := m4
          have he5 : S5.e = 0 := by rw [m4]; exact he40
          have q3' := bne_f he5
          have hrng : okLens L := lensA_rng (t := c.text) (many := A + 257 + (B + 1)) (p := S.at_ + 10) (p2 := p2) (by rw [hlens, hL])
          dsimp only
          obtain ⟨id, hav, hgid⟩ : ∃ id, av = .sobj id 0 (A + 257 + (B + 1)) 1 ∧ h5.get id = some (ints L) := by
            rcases m6 with ⟨_, q⟩ | ⟨id, q1, q2, _⟩
            · have := congrArg List.length q; rw [ints_length, m5, List.length_nil] at this; omega
            · exact ⟨id, by rw [q1, ints_length, m5], q2⟩
          have hil : (ints L).length = A + 257 + (B + 1) := by rw [ints_length, m5]
          have s1 := asl_hi (h := h5) (k := A + 257) hgid hil (Nat.le_refl _) (by omega)
          have s2 := asl_lo (h := h5) (k := A + 257) hgid hil (by omega)
          rw [show A + 257 + (B + 1) - (A + 257) = B + 1 by omega] at s2
          rw [← hav] at s1 s2
          obtain ⟨la, hla⟩ : ∃ x, x = L.take (A + 257) := ⟨_, rfl⟩
          obtain ⟨lb, hlb⟩ : ∃ x, x = L.drop (A + 257) := ⟨_, rfl⟩
          have hlal : la.length = A + 257 := by rw [hla, List.length_take]; omega
          have hlbl : lb.length = B + 1 := by rw [hlb, List.length_drop]; omega
          have ra : Rd h5 (.sobj id 0 (A + 257) 1) (ints la) := by
            refine ⟨?_, by intro s e; cases e⟩
            simp only [srcCells, if_true, hgid, Option.bind_some]
            rw [if_pos (by rw [hil]; omega), hla]; simp [ints, List.map_take]; omega
          have rb : Rd h5 (.sobj id (A + 257) (B + 1) 1) (ints lb) := by
            refine ⟨?_, by intro s e; cases e⟩
            simp only [srcCells, if_true, hgid, Option.bind_some]
            rw [if_pos (by rw [hil]; omega), hlb]
            have : (ints (L.drop (A + 257))).length = B + 1 := by rw [ints_length, ← hlb, hlbl]
            rw [this, ints, ints, ← List.map_drop, Nat.mul_one, List.take_of_length_le (by rw [List.length_map, ← hlb, hlbl]; omega)]
          rw [← hla, ← hlb]
          have cka := check2_c h5 _ la (by omega) ra
          have ckb := check2_c h5 _ lb (by omega) rb
          have hra : okLens la := fun y hy => hrng y (List.mem_of_mem_take (hla ▸ hy))
          have hrb : okLens lb := fun y hy => hrng y (List.mem_of_mem_drop (hlb ▸ hy))
          have sgb := sparse_c h5 _ lb (by omega) hrb rb
          have mka := bookOf_c h5 _ la (by omega) ra
          have mkb := bookOf_c h5 _ lb (by omega) rb
          have hel0 : la.getD 256 0 = L.getD 256 0 := by
            rw [hla, List.getD_eq_getElem?_getD, List.getD_eq_getElem?_getD, List.getElem?_take, if_pos (by omega)]
          have hel := ints_getD (l := L) (i := 256) (by omega)
          rw [← hel0] at hel
          obtain ⟨id2, i1, i2, i3⟩ := m6.elem hel
          have i2' : aiadr 1 av (I 256) = some (.pobj id2 256) := i2
          clear i2
          by_cases hbad : checkS la ≠ 0 ∨ la.getD 256 0 = 0 ∨ (checkS lb ≠ 0 ∧ singleS lb = false)
          · rw [if_pos hbad]
            obtain ⟨h6, f1, f2, f3⟩ := wrong_c m2
            refine ⟨h6, ov, failS 700 S5, ?_, f2, (fr4.trans m3).trans f3, by simp [failS, he5], by decide⟩
            refine plain_c (fn := AP.f24) (e := []) (vs := []) rfl rfl rfl ?_ rfl
            by_cases x1 : checkS la = 0
            · have x1' := bne_f x1
              by_cases x2 : la.getD 256 0 = 0
              · have x2' := beq_t x2
                simp only [I] at *
                simp only [AP.f24, go_sem, abin_shl, abin_shr, Nat.reduceEqDiff, reduceIte, Nat.reduceAdd, Nat.reduceMul, Nat.reduceLT, Nat.reduceLeDiff, Int.reduceBEq, Int.reduceBNe, Int.reduceLT, Int.reduceLE, Int.reduceEq, a1, b1, d1, w1, w2, w3, gf3, c1', decide_eq_false c2', decide_eq_false c3', bt, ← hg0, ← ha, oc, evC_loop, l1', l2, l3, l4, l5, gf4, q1', ck, q2', bk, w4, m1, gf5, q3', Option.map_some, Option.map_none, s1, s2, cka, x1', i2', i3, hel, x2', f1]
              · have x2' := beq_f x2
                obtain ⟨x3, x4⟩ : checkS lb ≠ 0 ∧ singleS lb = false := by
                  rcases hbad with q | q | q
                  · exact absurd x1 q
                  · exact absurd q x2
                  · exact q
                have x3' := bne_t x3
                rw [x4] at sgb
                simp only [I] at *
                simp only [AP.f24, go_sem, abin_shl, abin_shr, Nat.reduceEqDiff, reduceIte, Nat.reduceAdd, Nat.reduceMul, Nat.reduceLT, Nat.reduceLeDiff, Int.reduceBEq, Int.reduceBNe, Int.reduceLT, Int.reduceLE, Int.reduceEq, a1, b1, d1, w1, w2, w3, gf3, c1', decide_eq_false c2', decide_eq_false c3', bt, ← hg0, ← ha, oc, evC_loop, l1', l2, l3, l4, l5, gf4, q1', ck, q2', bk, w4, m1, gf5, q3', Option.map_some, Option.map_none, s1, s2, cka, x1', i2', i3, hel, x2', ckb, x3', sgb, f1]
            · have x1' := bne_t x1
              simp only [I] at *
              simp only [AP.f24, go_sem, abin_shl, abin_shr, Nat.reduceEqDiff, reduceIte, Nat.reduceAdd, Nat.reduceMul, Nat.reduceLT, Nat.reduceLeDiff, Int.reduceBEq, Int.reduceBNe, Int.reduceLT, Int.reduceLE, Int.reduceEq, a1, b1, d1, w1, w2, w3, gf3, c1', decide_eq_false c2', decide_eq_false c3', bt, ← hg0, ← ha, oc, evC_loop, l1', l2, l3, l4, l5, gf4, q1', ck, q2', bk, w4, m1, gf5, q3', Option.map_some, Option.map_none, s1, s2, cka, x1', f1]
          · rw [if_neg hbad]
            have x1 : checkS la = 0 := Decidable.byContradiction fun q => hbad (.inl q)
            have x2 : la.getD 256 0 ≠ 0 := fun q => hbad (.inr (.inl q))
            have x1' := bne_f x1
            have x2' := beq_f x2
            obtain ⟨h6, ov6, S6, r1, r2, r3, r4⟩ := fcoded_c la lb (by omega) (by omega) m2 he5
            have last : evC (callW AP.A) loopW (.dreg [0, 1, 2, 3, 4, 5, 6, 7, 8, 9] [
    ⟨(some 99), .mv (.t 0), none⟩,
    ⟨(some 100), .mv (.t 8), none⟩,
    ⟨(some 101), .mv (.t 2), none⟩,
    ⟨(some 102), .sl 1 (.t 100) none (some (.t 101)) none, none⟩,
    ⟨(some 103), .call (.c (.fn 21 [] [])) [(.t 102)], none⟩,
    ⟨(some 104), .mv (.t 8), none⟩,
    ⟨(some 105), .mv (.t 2), none⟩,
    ⟨(some 106), .sl 1 (.t 104) (some (.t 105)) none none, none⟩,
    ⟨(some 107), .call (.c (.fn 21 [] [])) [(.t 106)], none⟩,
    ⟨(some 108), .call (.c (.fn 20 [] [])) [(.t 99), (.t 103), (.t 107)], none⟩] [(7, [0])] []) [(0, .pobj c.f 0), (2, I (A + 257 : Nat)), (8, av)] h5 = some (.normal, [], h6) := by
              rw [C_dreg (e' := [(108, .tup []), (107, rbook lb), (106, .sobj id (A + 257) (B + 1) 1), (105, I (A + 257 : Nat)), (104, av), (103, rbook la), (102, .sobj id 0 (A + 257) 1), (101, I (A + 257 : Nat)), (100, av), (99, .pobj c.f 0), (0, .pobj c.f 0), (2, I (A + 257 : Nat)), (8, av)]) (h' := h6) (gs := [h5, h5, h5, h6])]
              · simp only [go_sem, abin_shl, abin_shr, Nat.reduceEqDiff, reduceIte, Nat.reduceAdd, Nat.reduceMul, Nat.reduceLT, Nat.reduceLeDiff, Int.reduceBEq, Int.reduceBNe, Int.reduceLT, Int.reduceLE, Int.reduceEq]
              · simp only [opsD_nil, opsD_u, goOD_s, preD_t, preD_f, AOp.loud, go_sem, abin_shl, abin_shr, Nat.reduceEqDiff, reduceIte, Nat.reduceAdd, Nat.reduceMul, Nat.reduceLT, Nat.reduceLeDiff, Int.reduceBEq, Int.reduceBNe, Int.reduceLT, Int.reduceLE, Int.reduceEq, Option.map_some, Option.map_none, s1, s2, mka, mkb, r1]
              · refine stables_c (fun k hk => ?_) rfl
                obtain rfl : k = 0 := by simpa using hk
                refine stable_of (o := ⟨some 106, .sl 1 (.t 104) (some (.t 105)) none none, none⟩) (g := h5) (h' := h5) (d := 106) (u := .sobj id (A + 257) (B + 1) 1) rfl rfl rfl rfl ?_ ?_
                · simp only [evOper, go_sem, abin_shl, abin_shr, Nat.reduceEqDiff, reduceIte, Nat.reduceAdd, Nat.reduceMul, Nat.reduceLT, Nat.reduceLeDiff, Int.reduceBEq, Int.reduceBNe, Int.reduceLT, Int.reduceLE, Int.reduceEq, Option.map_some, Option.map_none, s2]
                · simp only [go_sem, abin_shl, abin_shr, Nat.reduceEqDiff, reduceIte, Nat.reduceAdd, Nat.reduceMul, Nat.reduceLT, Nat.reduceLeDiff, Int.reduceBEq, Int.reduceBNe, Int.reduceLT, Int.reduceLE, Int.reduceEq, beq_sobj]
            refine ⟨h6, ov6, S6, ?_, r2, (fr4.trans m3).trans r3, ?_⟩
            · refine plain_n (fn := AP.f24) (e := []) (vs := []) rfl rfl rfl ?_ rfl
              by_cases x3 : checkS lb = 0
              · have x3' := bne_f x3
                simp only [I] at *
                simp only [AP.f24, go_sem, abin_shl, abin_shr, Nat.reduceEqDiff, reduceIte, Nat.reduceAdd, Nat.reduceMul, Nat.reduceLT, Nat.reduceLeDiff, Int.reduceBEq, Int.reduceBNe, Int.reduceLT, Int.reduceLE, Int.reduceEq, a1, b1, d1, w1, w2, w3, gf3, c1', decide_eq_false c2', decide_eq_false c3', bt, ← hg0, ← ha, oc, evC_loop, l1', l2, l3, l4, l5, gf4, q1', ck, q2', bk, w4, m1, gf5, q3', Option.map_some, Option.map_none, s1, s2, cka, x1', i2', i3, hel, x2', ckb, x3', last]
              · have x3' := bne_t x3
                have x4 : singleS lb = true := by
                  cases hs : singleS lb with
                  | true => rfl
                  | false => exact absurd (.inr (.inr ⟨x3, hs⟩)) hbad
                rw [x4] at sgb
                simp only [I] at *
                simp only [AP.f24, go_sem, abin_shl, abin_shr, Nat.reduceEqDiff, reduceIte, Nat.reduceAdd, Nat.reduceMul, Nat.reduceLT, Nat.reduceLeDiff, Int.reduceBEq, Int.reduceBNe, Int.reduceLT, Int.reduceLE, Int.reduceEq, a1, b1, d1, w1, w2, w3, gf3, c1', decide_eq_false c2', decide_eq_false c3', bt, ← hg0, ← ha, oc, evC_loop, l1', l2, l3, l4, l5, gf4, q1', ck, q2', bk, w4, m1, gf5, q3', Option.map_some, Option.map_none, s1, s2, cka, x1', i2', i3, hel, x2', ckb, x3', sgb, last]
            · have h1 : S5.at_ = p2 := by rw [m4]
              have h2 : S5.out = S.out := by rw [m4, hS4, hS3]
              rw [h1, h2] at r4; exact r4
      · rw [if_neg hck] at hlens
        rw [hlens]
        exact bad2 (.inr hck)
    · rw [if_neg hp2] at hlens
      rw [hlens]
      refine bad2 (.inl ?_)
      rw [hS4, ownS_bad (scF c) _ _ S3 he30 (by rw [hat3]; exact hp) (by rw [hol, hat3]; show 8 * c.text.size < _; omega)]; decide
  · rw [dynA_short c.text c.most S.out hp]
    refine bad (.inl ?_)
    rw [hS3, hS2, hS1]
    unfold getF
    by_cases q1 : S.at_ + 5 ≤ 8 * c.text.size
    · simp only [if_pos q1]
      by_cases q2 : S.at_ + 5 + 5 ≤ 8 * c.text.size
      · simp only [if_pos q2]; rw [if_neg (by omega)]; simp [failS, he]
      · simp only [if_neg q2, failS, he, if_true]; split <;> simp
    · simp only [if_neg q1, failS, he, if_true]
      split
      · split <;> simp
      · simp; split <;> simp
end Ab
set_option linter.unusedSimpArgs false
set_option linter.unusedVariables false
namespace Ab
open Go
theorem finf_stop {c : FC} {S : SS} {h : H} {ov : AV} (st : Ft c S h ov) (b : Int) (hs : b ≠ 0 ∨ (b = 0 ∧ S.e ≠ 0)) :
    ∃ e', Lp AP.A [7, 8] AP.f8L0 [(7, .pobj c.f 0), (8, I b)] h = some (.exit 0, e', h) ∧ look e' 7 = .pobj c.f 0 := by
  have gf := st.gf
  refine ⟨[(7, .pobj c.f 0), (29, .bool false)], Lp_exit ?_, rfl⟩
  rcases hs with hb | ⟨hb, he⟩
  · have c1 := beq_f hb
    simp only [I] at *
    simp only [AP.f8L0, go_sem, abin_shl, abin_shr, Nat.reduceEqDiff, reduceIte, Nat.reduceAdd, Nat.reduceMul, Nat.reduceLT, Nat.reduceLeDiff, Int.reduceBEq, Int.reduceBNe, Int.reduceLT, Int.reduceLE, Int.reduceEq, c1]
  · have c1 := beq_t hb
    have c2 := beq_f he
    simp only [I] at *
    simp only [AP.f8L0, go_sem, abin_shl, abin_shr, Nat.reduceEqDiff, reduceIte, Nat.reduceAdd, Nat.reduceMul, Nat.reduceLT, Nat.reduceLeDiff, Int.reduceBEq, Int.reduceBNe, Int.reduceLT, Int.reduceLE, Int.reduceEq, c1, gf, c2]
theorem finf_loop {c : FC} : ∀ (f : Nat) (S : SS) (h : H) (ov : AV), Ft c S h ov → S.e = 0 → 8 * c.text.size < S.at_ + f →
    ∃ e' h' ov' S', Lp AP.A [7, 8] AP.f8L0 [(7, .pobj c.f 0), (8, I 0)] h = some (.exit 0, e', h') ∧ look e' 7 = .pobj c.f 0 ∧ Ft c S' h' ov' ∧ FF c h ov h' ov' ∧ Fin (infLoop c.text c.most f S.at_ S.out) S'
  | 0, S, h, ov, st, he, hk => by have := st.at_le; omega
  | f + 1, S, h, ov, st, he, hk => by
    have gf := st.gf
    rw [he] at gf
    obtain ⟨h1, a1, a2, a3⟩ := fget_c st 1 1 rfl (by omega)
    obtain ⟨h2, b1, b2, b3⟩ := fget_c a2 2 2 rfl (by omega)
    obtain ⟨A, hA⟩ : ∃ n, n = (getF c 1 S).1 := ⟨_, rfl⟩
    obtain ⟨S1, hS1⟩ : ∃ n, n = (getF c 1 S).2 := ⟨_, rfl⟩
    rw [← hA] at a1; rw [← hS1] at a2 b1 b2
    obtain ⟨B, hB⟩ : ∃ n, n = (getF c 2 S1).1 := ⟨_, rfl⟩
    obtain ⟨S2, hS2⟩ : ∃ n, n = (getF c 2 S1).2 := ⟨_, rfl⟩
    rw [← hB] at b1; rw [← hS2] at b2
    have gf2 := b2.gf
    have fr2 := a3.trans b3
    rw [infLoop]
    unfold blockA
    by_cases hp : S.at_ + 3 ≤ 8 * c.text.size
    · rw [if_pos hp]
      have e1 : getF c 1 S = (valAt c.text S.at_ 1, { S with at_ := S.at_ + 1 }) := by rw [getF, if_pos (by omega)]
      rw [e1] at hA hS1; dsimp only at hA hS1
      have e2 : getF c 2 { S with at_ := S.at_ + 1 } = (valAt c.text (S.at_ + 1) 2, { S with at_ := S.at_ + 1 + 2 }) := by rw [getF, if_pos (by show S.at_ + 1 + 2 ≤ _; omega)]
      rw [hS1, e2] at hB hS2; dsimp only at hB hS2
      have he2 : S2.e = 0 := by rw [hS2]; exact he
      have hat : S2.at_ = S.at_ + 3 := by rw [hS2]
      have hout : S2.out = S.out := by rw [hS2]
      have hA2 : A < 2 := by rw [hA]; simpa using valAt_lt c.text S.at_ 1
      dsimp only
      rw [← hA, ← hB]
      have ce := bne_f he2
      have n0 : ((0 : Int) == 0) = true := rfl
      have z0 : ((0 : Int) == 0) = true := rfl
      have close : ∀ (r : Rs) (h' : H) (ov' : AV) (S' : SS), evC (callW AP.A) loopW AP.f8L0 (restr [(7, .pobj c.f 0), (8, I 0)] [7, 8]) h = some (.normal, [(7, .pobj c.f 0), (8, I A)], h') → Ft c S' h' ov' → FF c h2 ov h' ov' → Fin r S' → (∀ q, r = .ok q → S.at_ < q.1) →
          ∃ e' h' ov' S', Lp AP.A [7, 8] AP.f8L0 [(7, .pobj c.f 0), (8, I 0)] h = some (.exit 0, e', h') ∧ look e' 7 = .pobj c.f 0 ∧ Ft c S' h' ov' ∧ FF c h ov h' ov' ∧ Fin (match (match r with | .ok q => (.ok (A == 1, q.1, q.2) : Except Int (Bool × Nat × List Nat)) | .error k => .error k) with | .error k => .error k | .ok (last, p2, o) => if last then .ok (p2, o) else infLoop c.text c.most f p2 o) S' := by
        intro r h' ov' S' step q2 q3 q4 q5
        cases r with
        | error k =>
          have hs : (A : Int) ≠ 0 ∨ ((A : Int) = 0 ∧ S'.e ≠ 0) := by
            by_cases q : (A : Int) = 0
            · exact .inr ⟨q, by rw [q4.1]; exact q4.2⟩
            · exact .inl q
          obtain ⟨e', r1, r2⟩ := finf_stop q2 A hs
          exact ⟨e', h', ov', S', Lp_next step r1, r2, q2, fr2.trans q3, q4⟩
        | ok q =>
          obtain ⟨p2, o⟩ := q
          simp only [Fin] at q4
          dsimp only
          by_cases hA1 : A = 1
          · have hb : (A == 1) = true := by rw [hA1]; rfl
            rw [hb]
            simp only [if_true]
            obtain ⟨e', r1, r2⟩ := finf_stop q2 A (.inl (by omega))
            exact ⟨e', h', ov', S', Lp_next step r1, r2, q2, fr2.trans q3, q4⟩
          · have hA0 : A = 0 := by omega
            have hb : (A == 1) = false := by rw [hA0]; rfl
            rw [hb]
            simp only [Bool.false_eq_true, if_false]
            rw [hA0] at step
            subst q4
            have h5 := q5 (p2, o) rfl
            dsimp only at h5
            obtain ⟨e', h'', ov'', S'', r1, r2, r3, r4, r5⟩ := finf_loop f _ h' ov' q2 rfl (by dsimp only; omega)
            exact ⟨e', h'', ov'', S'', Lp_next step r1, r2, r3, (fr2.trans q3).trans r4, r5⟩
      by_cases d0 : B = 0
      · rw [if_pos d0]
        obtain ⟨h', ov', S', q1, q2, q3, q4⟩ := fstored_c b2 he2
        rw [hat, hout] at q4
        have d0' : ((B : Int) == 0) = true := beq_t (by omega)
        refine close _ h' ov' S' ?_ q2 q3 q4 (fun q hq => ?_)
        · simp only [I] at *
          simp only [AP.f8L0, go_sem, abin_shl, abin_shr, Nat.reduceEqDiff, reduceIte, Nat.reduceAdd, Nat.reduceMul, Nat.reduceLT, Nat.reduceLeDiff, Int.reduceBEq, Int.reduceBNe, Int.reduceLT, Int.reduceLE, Int.reduceEq, gf, a1, b1, gf2, ce, d0', q1]
        · unfold storedA at hq
          dsimp only at hq
          split at hq
          · split at hq
            · obtain ⟨p2, o⟩ := q
              have := storeA_ge hq; dsimp only; omega
            · cases hq
          · cases hq
      · rw [if_neg d0]
        have d0' : ((B : Int) == 0) = false := beq_f (by omega)
        by_cases d1 : B = 1
        · rw [if_pos d1]
          have d1' : ((B : Int) == 1) = true := beq_t (by omega)
          have f1 := fixed2_c h2
          have m1 := bookOf_c h2 (immI fixedL) fixedL (by rw [fixedL_len]; omega) (rd_imm _ _)
          have f2 := fives_c h2
          have m2 := bookOf_c h2 (immI (List.replicate 30 5)) (List.replicate 30 5) (by rw [List.length_replicate]; omega) (rd_imm _ _)
          obtain ⟨h', ov', S', q1, q2, q3, q4⟩ := fcoded_c fixedL (List.replicate 30 5) (by rw [fixedL_len]; omega) (by rw [List.length_replicate]; omega) b2 he2
          rw [hat, hout] at q4
          refine close _ h' ov' S' ?_ q2 q3 q4 (fun q hq => by obtain ⟨p2, o⟩ := q; have := codedA_ge hq; dsimp only; omega)
          generalize rbook fixedL = bf at *
          generalize rbook (List.replicate 30 5) = bd at *
          generalize immI fixedL = vf at *
          generalize immI (List.replicate 30 5) = vd at *
          simp only [I] at *
          simp only [AP.f8L0, go_sem, abin_shl, abin_shr, Nat.reduceEqDiff, reduceIte, Nat.reduceAdd, Nat.reduceMul, Nat.reduceLT, Nat.reduceLeDiff, Int.reduceBEq, Int.reduceBNe, Int.reduceLT, Int.reduceLE, Int.reduceEq, gf, a1, b1, gf2, ce, d0', d1', f1, m1, f2, m2, q1]
        · rw [if_neg d1]
          have d1' : ((B : Int) == 1) = false := beq_f (by omega)
          by_cases d2 : B = 2
          · rw [if_pos d2]
            have d2' : ((B : Int) == 2) = true := beq_t (by omega)
            obtain ⟨h', ov', S', q1, q2, q3, q4⟩ := fdynamic_c b2 he2
            rw [hat, hout] at q4
            refine close _ h' ov' S' ?_ q2 q3 q4 (fun q hq => ?_)
            · simp only [I] at *
              simp only [AP.f8L0, go_sem, abin_shl, abin_shr, Nat.reduceEqDiff, reduceIte, Nat.reduceAdd, Nat.reduceMul, Nat.reduceLT, Nat.reduceLeDiff, Int.reduceBEq, Int.reduceBNe, Int.reduceLT, Int.reduceLE, Int.reduceEq, gf, a1, b1, gf2, ce, d0', d1', d2', q1]
            · have hb : blockA c.text c.most S.at_ S.out = .ok (valAt c.text S.at_ 1 == 1, q.1, q.2) := by
                unfold blockA
                rw [if_pos hp]
                dsimp only
                rw [← hB, if_neg d0, if_neg d1, if_pos d2, hq]
              have := blockA_ge hb
              exact this
          · rw [if_neg d2]
            have d2' : ((B : Int) == 2) = false := beq_f (by omega)
            obtain ⟨h', q1, q2, q3⟩ := wrong_c b2
            refine close (.error 700) h' ov _ ?_ q2 q3 ⟨by simp [failS, he2], by decide⟩ (fun q hq => by cases hq)
            simp only [I] at *
            simp only [AP.f8L0, go_sem, abin_shl, abin_shr, Nat.reduceEqDiff, reduceIte, Nat.reduceAdd, Nat.reduceMul, Nat.reduceLT, Nat.reduceLeDiff, Int.reduceBEq, Int.reduceBNe, Int.reduceLT, Int.reduceLE, Int.reduceEq, gf, a1, b1, gf2, ce, d0', d1', d2', q1]
    · rw [if_neg hp]
      have he2 : S2.e = 700 := by
        by_cases q1 : S.at_ + 1 ≤ 8 * c.text.size
        · have e1 : getF c 1 S = (valAt c.text S.at_ 1, { S with at_ := S.at_ + 1 }) := by rw [getF, if_pos q1]
          rw [e1] at hS1; dsimp only at hS1
          have e2 : getF c 2 S1 = (0, { S1 with e := 700 }) := by rw [getF, if_neg (by rw [hS1]; show ¬ S.at_ + 1 + 2 ≤ _; omega), failS, if_pos (by rw [hS1]; exact he)]
          rw [e2] at hS2
          rw [hS2]
        · have e1 : getF c 1 S = (0, { S with e := 700 }) := by rw [getF, if_neg q1, failS, if_pos he]
          rw [e1] at hS1; dsimp only at hS1
          have e2 : getF c 2 S1 = (0, S1) := by rw [getF, if_neg (by rw [hS1]; show ¬ S.at_ + 2 ≤ _; omega), failS, if_neg (by rw [hS1]; simp)]
          rw [e2] at hS2
          rw [hS2, hS1]
      have ce : (S2.e != 0) = true := bne_t (by rw [he2]; decide)
      refine ⟨[(7, .pobj c.f 0), (8, I A), (9, I B), (38, .bool true)], h2, ov, S2, Lp_exit ?_, rfl, b2, fr2, he2, by decide⟩
      simp only [I] at *
      simp only [AP.f8L0, go_sem, abin_shl, abin_shr, Nat.reduceEqDiff, reduceIte, Nat.reduceAdd, Nat.reduceMul, Nat.reduceLT, Nat.reduceLeDiff, Int.reduceBEq, Int.reduceBNe, Int.reduceLT, Int.reduceLE, Int.reduceEq, gf, a1, b1, gf2, ce]
theorem finflate_c (h : H) (t : ByteArray) (most : Int) (hs : t.size < 1125899906842624) : callW AP.A 8 [.str t, I most] h = some (infV (inflateA t most), h) := by
  unfold inflateA
  by_cases c1 : most < 0
  · rw [if_pos (.inl c1)]
    refine pure_c (fn := AP.f8) (h2 := h.fence) (e := [(4, .str ⟨#[]⟩), (5, I 0), (6, I 700)]) rfl rfl rfl ?_ rfl rfl
    simp only [I] at *
    simp only [AP.f8, go_sem, abin_shl, abin_shr, Nat.reduceEqDiff, reduceIte, Nat.reduceAdd, Nat.reduceMul, Nat.reduceLT, Nat.reduceLeDiff, Int.reduceBEq, Int.reduceBNe, Int.reduceLT, Int.reduceLE, Int.reduceEq, decide_eq_true c1]
  by_cases c2 : 8192 < most
  · rw [if_pos (.inr c2)]
    refine pure_c (fn := AP.f8) (h2 := h.fence) (e := [(4, .str ⟨#[]⟩), (5, I 0), (6, I 700)]) rfl rfl rfl ?_ rfl rfl
    simp only [I] at *
    simp only [AP.f8, go_sem, abin_shl, abin_shr, Nat.reduceEqDiff, reduceIte, Nat.reduceAdd, Nat.reduceMul, Nat.reduceLT, Nat.reduceLeDiff, Int.reduceBEq, Int.reduceBNe, Int.reduceLT, Int.reduceLE, Int.reduceEq, decide_eq_false c1, decide_eq_true c2]
  rw [if_neg (by omega)]
  obtain ⟨h1, hh1⟩ : ∃ g, g = h.fence.alloc [.str t, I 0, .nils, I most, I 0] := ⟨_, rfl⟩
  have st : Ft ⟨h.next, t, most⟩ ⟨0, [], 0⟩ h1 .nils := by
    refine ⟨?_, .inl ⟨rfl, rfl⟩, ?_, by simp [AV.id?], ?_, hs, by simp, by simp; omega, by show most ≤ 900000; omega⟩
    · rw [hh1, H.get_alloc, if_pos (show h.next = h.fence.next from rfl)]; rfl
    · rw [hh1]; simp
    · rw [hh1]; simp
  obtain ⟨e', h3, ov, S, q1, q2, q3, q4, q5⟩ := finf_loop (8 * t.size + 1) ⟨0, [], 0⟩ h1 .nils st rfl (by show 8 * t.size < 0 + (8 * t.size + 1); omega)
  have gf := q3.gf
  have bx : ∀ e : Env, look e 19 = .agg [.str t, .int .i64 0, .nils, .int .i64 most, .int .i64 0] → birth e (.box 5 (.t 19)) = some ([.str t, .int .i64 0, .nils, .int .i64 most, .int .i64 0], fun i => .pobj i 0) := by
    intro e q; simp only [birth, ev_t', q]; rfl
  have fl1 : fillA [.str ⟨#[]⟩, .int .i64 0] [(0, 1, .str t)] = some [.str t, .int .i64 0] := rfl
  have fl2 : fillA [.str ⟨#[]⟩, .int .i64 0, .nils, .int .i64 0, .int .i64 0] [(0, 2, .agg [.str t, .int .i64 0]), (3, 1, .int .i64 most)] = some [.str t, .int .i64 0, .nils, .int .i64 most, .int .i64 0] := rfl
  have hn : h.fence.next = h.next := rfl
  dsimp only at q5
  cases hi : infLoop t most (8 * t.size + 1) 0 [] with
  | error k =>
    rw [hi] at q5
    have c3 : (S.e != 0) = true := bne_t (by rw [q5.1]; exact q5.2)
    have hk : S.e = k := q5.1
    refine pure_c (fn := AP.f8) (h2 := h3) (e := [(4, .str ⟨#[]⟩), (5, I 0), (6, I k)]) rfl rfl rfl ?_ rfl rfl
    rw [hk] at gf c3
    simp only [I] at *
    simp only [AP.f8, go_sem, abin_shl, abin_shr, Nat.reduceEqDiff, reduceIte, Nat.reduceAdd, Nat.reduceMul, Nat.reduceLT, Nat.reduceLeDiff, Int.reduceBEq, Int.reduceBNe, Int.reduceLT, Int.reduceLE, Int.reduceEq, decide_eq_false c1, decide_eq_false c2, hn, List.map_cons, List.map_nil, fl1, fl2]
    rw [bx _ rfl]
    simp only [go_sem, abin_shl, abin_shr, Nat.reduceEqDiff, reduceIte, Nat.reduceAdd, Nat.reduceMul, Nat.reduceLT, Nat.reduceLeDiff, Int.reduceBEq, Int.reduceBNe, Int.reduceLT, Int.reduceLE, Int.reduceEq, ← hh1, hn, evC_loop, q1, q2, gf, c3]
  | ok z =>
    obtain ⟨p, o⟩ := z
    rw [hi] at q5
    simp only [Fin] at q5
    have c3 : (S.e != 0) = false := bne_f (by rw [q5])
    have hb := b2s_own q3.own
    subst q5
    dsimp only at gf hb c3
    have hle := q3.at_le
    dsimp only at hle
    have w2 : IntKind.wrap .i64 ((p : Int) + 7) = ((p + 7 : Nat) : Int) := wrap_nat64 (n := p + 7) (by omega)
    have qd : abin .quo (.int .i64 ((p + 7 : Nat) : Int)) (.int .i64 8) = some (.int .i64 (((p + 7) / 8 : Nat) : Int)) := by
      rw [abin_quo _ _ _ (by omega), show (8 : Int) = ((8 : Nat) : Int) from rfl, tdiv_nat, wrap_nat64 (by omega)]
    refine pure_c (fn := AP.f8) (h2 := h3) (e := [(4, .str (bytesOf o)), (5, I ((p + 7) / 8 : Nat)), (6, I 0)]) rfl rfl rfl ?_ rfl rfl
    generalize (p + 7) / 8 = P at *
    generalize p + 7 = P7 at *
    simp only [I] at *
    simp only [AP.f8, go_sem, abin_shl, abin_shr, Nat.reduceEqDiff, reduceIte, Nat.reduceAdd, Nat.reduceMul, Nat.reduceLT, Nat.reduceLeDiff, Int.reduceBEq, Int.reduceBNe, Int.reduceLT, Int.reduceLE, Int.reduceEq, decide_eq_false c1, decide_eq_false c2, hn, List.map_cons, List.map_nil, fl1, fl2]
    rw [bx _ rfl]
    simp only [go_sem, abin_shl, abin_shr, Nat.reduceEqDiff, reduceIte, Nat.reduceAdd, Nat.reduceMul, Nat.reduceLT, Nat.reduceLeDiff, Int.reduceBEq, Int.reduceBNe, Int.reduceLT, Int.reduceLE, Int.reduceEq, ← hh1, hn, evC_loop, q1, q2, gf, c3, w2, hb, qd]
end Ab
set_option linter.unusedSimpArgs false
set_option linter.unusedVariables false
namespace Ab
open Go
abbrev E7 (k : Int) : Prop := k = 700 ∨ k = 701
theorem storeA_err {t : ByteArray} {most k : Int} : ∀ {n p : Nat} {out : List Nat}, storeA t most n p out = .error k → E7 k
  | 0, p, out, h => by cases h
  | n + 1, p, out, h => by
    unfold storeA at h
    split at h
    · split at h
      · cases h; exact .inr rfl
      · exact storeA_err h
    · cases h; exact .inl rfl
theorem storedA_err {t : ByteArray} {most k : Int} {p : Nat} {out : List Nat} (h : storedA t most p out = .error k) : E7 k := by
  unfold storedA at h
  dsimp only at h
  split at h
  · split at h
    · exact storeA_err h
    · cases h; exact .inl rfl
  · cases h; exact .inl rfl
theorem copyL_err {most k : Int} {d : Nat} : ∀ {n : Nat} {out : List Nat}, copyL most d n out = .error k → E7 k
  | 0, out, h => by cases h
  | n + 1, out, h => by
    unfold copyL at h
    split at h
    · cases h; exact .inr rfl
    · exact copyL_err h
theorem copyA_err {t : ByteArray} {most k : Int} {dl : List Int} {y p : Nat} {out : List Nat} (h : copyA t most dl y p out = .error k) : E7 k := by
  unfold copyA at h
  split at h
  · cases h; exact .inl rfl
  · split at h
    · split at h
      · cases h; exact .inl rfl
      · split at h
        · cases h; exact .inl rfl
        · split at h
          · split at h
            · cases h
            · rename_i q; cases h; exact copyL_err q
          · cases h; exact .inl rfl
    · cases h; exact .inl rfl
theorem codedA_err {t : ByteArray} {most k : Int} {ll dl : List Int} : ∀ {n p : Nat} {out : List Nat}, codedA t most ll dl n p out = .error k → E7 k
  | 0, p, out, h => by cases h; exact .inl rfl
  | n + 1, p, out, h => by
    unfold codedA at h
    split at h
    · cases h; exact .inl rfl
    · split at h
      · split at h
        · cases h; exact .inr rfl
        · exact codedA_err h
      · split at h
        · cases h
        · split at h
          · exact codedA_err h
          · rename_i q; cases h; exact copyA_err q
theorem dynA_err {t : ByteArray} {most k : Int} {p : Nat} {out : List Nat} (h : dynA t most p out = .error k) : E7 k := by
  unfold dynA at h
  dsimp only at h
  split at h
  · split at h
    · cases h; exact .inl rfl
    · split at h
      · cases h; exact .inl rfl
      · split at h
        · cases h; exact .inl rfl
        · exact codedA_err h
  · cases h; exact .inl rfl
theorem blockA_err {t : ByteArray} {most k : Int} {p : Nat} {out : List Nat} (h : blockA t most p out = .error k) : E7 k := by
  unfold blockA at h
  dsimp only at h
  split at h
  · split at h
    · cases h
    · rename_i q
      cases h
      split at q
      · exact storedA_err q
      · split at q
        · exact codedA_err q
        · split at q
          · exact dynA_err q
          · cases q; exact .inl rfl
  · cases h; exact .inl rfl
theorem infLoop_err {t : ByteArray} {most k : Int} : ∀ {n p : Nat} {out : List Nat}, infLoop t most n p out = .error k → E7 k
  | 0, p, out, h => by
    unfold infLoop at h
    cases h; exact .inl rfl
  | n + 1, p, out, h => by
    unfold infLoop at h
    split at h
    · rename_i q; cases h; exact blockA_err q
    · split at h
      · cases h
      · exact infLoop_err h
theorem inflateA_err {t : ByteArray} {most k : Int} (h : inflateA t most = .error k) : E7 k := by
  unfold inflateA at h
  split at h
  · cases h; exact .inl rfl
  · split at h
    · cases h
    · rename_i q; cases h; exact infLoop_err q
end Ab
set_option linter.unusedSimpArgs false
set_option linter.unusedVariables false
namespace Ab
open Go
theorem dt {p : Prop} [Decidable p] (h : p) : decide p = true := decide_eq_true h
theorem df {p : Prop} [Decidable p] (h : ¬ p) : decide p = false := decide_eq_false h
theorem eqt {a b : Int} (h : a = b) : (a == b) = true := by simp [h]
theorem eqf {a b : Int} (h : ¬ a = b) : (a == b) = false := by simp [h]
theorem net {a b : Int} (h : ¬ a = b) : (a != b) = true := by simp [h]
theorem nef {a b : Int} (h : a = b) : (a != b) = false := by simp [h]
theorem wi {n : Int} (h : -9223372036854775808 ≤ n ∧ n < 9223372036854775808) : IntKind.wrap .i64 n = n := wrap_in h.1 (by omega)
theorem wb {n : Int} (h : 0 ≤ n ∧ n < 256) : IntKind.wrap .u8 n = n := by
  simp [IntKind.wrap, IntKind.bits, IntKind.signed]; omega
theorem aix {i : Int} {n : Nat} (h : 0 ≤ i ∧ i < n) : aidx (.int .i64 i) n = some i.toNat := by
  simp [aidx, asI, h]
def at_ : Nat → ACode → ACode
  | 0, .seq a _ => a
  | 0, c => c
  | n + 1, .seq _ b => at_ n b
  | _ + 1, c => c
def tl_ : Nat → ACode → ACode
  | 0, c => c
  | n + 1, .seq _ b => tl_ n b
  | _ + 1, c => c
theorem at_z (a b : ACode) : at_ 0 (.seq a b) = a := rfl
theorem at_s (n : Nat) (a b : ACode) : at_ (n + 1) (.seq a b) = at_ n b := rfl
theorem tl_z (c : ACode) : tl_ 0 c = c := rfl
theorem tl_s (n : Nat) (a b : ACode) : tl_ (n + 1) (.seq a b) = tl_ n b := rfl
theorem del_miss {h : H} {id i : Nat} (e : ¬ i = id) : (h.del id).get i = h.get i := by rw [H.get_del, if_neg e]
theorem nx_fence (h : H) : h.fence.next = h.next := Eq.trans rfl rfl
theorem fl_fence (h : H) : h.fence.floor = h.next := Eq.trans rfl rfl
theorem gt_fence (h : H) (i : Nat) : h.fence.get i = h.get i := Eq.trans rfl rfl
theorem nx_del (h : H) (i : Nat) : (h.del i).next = h.next := Eq.trans rfl rfl
theorem fl_del (h : H) (i : Nat) : (h.del i).floor = h.floor := Eq.trans rfl rfl
theorem get_hit {h : H} {cs : List AV} {i : Nat} (e : i = h.next) : (h.alloc cs).get i = some cs := by rw [H.get_alloc, if_pos e]
theorem get_miss {h : H} {cs : List AV} {i : Nat} (e : ¬ i = h.next) : (h.alloc cs).get i = h.get i := by rw [H.get_alloc, if_neg e]
theorem set_hit {h : H} {cs : List AV} {id i : Nat} (e : i = id) : (h.set id cs).get i = (h.get i).map fun _ => cs := by rw [H.get_set, if_pos e, e]
theorem set_miss {h : H} {cs : List AV} {id i : Nat} (e : ¬ i = id) : (h.set id cs).get i = h.get i := by rw [H.get_set, if_neg e]
def condO {α : Type} (b : Bool) (x : α) : Option α := if b then some x else none
theorem condO_t {α : Type} (x : α) : condO true x = some x := rfl
theorem stO_d (h : H) (id off n : Nat) (v cs : List AV) : stO h id off n v (some cs) = condO (decide (h.floor ≤ id) && (decide (v.length = n) && (decide (off + n ≤ cs.length) && AV.allsc v))) (h.set id (setFrom cs off v)) := by
  simp only [stO, Option.bind_some, condO]
  by_cases c : h.floor ≤ id ∧ v.length = n ∧ off + n ≤ cs.length ∧ AV.allsc v = true
  · rw [if_pos c]; obtain ⟨c1, c2, c3, c4⟩ := c; simp [c1, c2, c3, c4]
  · rw [if_neg c, if_neg]; simpa using c
theorem rdT (n : Nat) (cs : List AV) (off : Nat) : rdc true n cs off = condO (decide (off + n ≤ cs.length)) (.agg ((cs.drop off).take n)) := by
  simp only [rdc, condO, if_true, decide_eq_true_eq]
theorem fill_n (z : List AV) : fillA z [] = some z := rfl
def fillS (r : List (Nat × Nat × AV)) (p : Option (List AV)) : Option (List AV) := p.bind fun z => fillA z r
theorem fillS_s (r : List (Nat × Nat × AV)) (z : List AV) : fillS r (some z) = fillA z r := rfl
theorem fill_c (z : List AV) (o n : Nat) (v : AV) (r : List (Nat × Nat × AV)) : fillA z ((o, n, v) :: r) = fillS r (condO (decide (v.cells.length = n) && (decide (o + n ≤ z.length) && AV.allsc v.cells)) (setFrom z o v.cells)) := by
  simp only [fillA, condO]
  by_cases c : v.cells.length = n ∧ o + n ≤ z.length ∧ AV.allsc v.cells = true
  · rw [if_pos c]; obtain ⟨c1, c2, c3⟩ := c; simp [c1, c2, c3, fillS]
  · rw [if_neg c, if_neg]; · rfl
    simpa using c
def birB (p : Option (List AV)) (f : Nat → AV) : Option (List AV × (Nat → AV)) := p.bind fun cs => some (cs, f)
theorem birB_s (cs : List AV) (f : Nat → AV) : birB (some cs) f = some (cs, f) := rfl
theorem bir_alloc (e : Env) (z : List AV) : birth e (.alloc z) = birB (condO (AV.allsc z) z) (fun i => .pobj i 0) := by
  simp only [birth, condO]; split <;> rfl
theorem bir_box (e : Env) (n : Nat) (x : X) : birth e (.box n x) = birB (condO (decide ((x.ev e).cells.length = n) && AV.allsc (x.ev e).cells) (x.ev e).cells) (fun i => .pobj i 0) := by
  simp only [birth, condO]
  by_cases c : (x.ev e).cells.length = n ∧ AV.allsc (x.ev e).cells = true
  · rw [if_pos c]; simp [c, birB]
  · rw [if_neg c, if_neg]; · rfl
    simpa using c
theorem bir_bslice (e : Env) (sz len : Nat) (z : List AV) (ps : List (Nat × X)) : birth e (.bslice sz len z ps) = birB (fillS (ps.map fun p => (p.1 * sz, sz, p.2.ev e)) (condO (decide (z.length = sz) && (decide (0 < sz) && AV.allsc z)) (repl len z))) (fun i => .sobj i 0 len sz) := by
  simp only [birth, condO]
  by_cases c : z.length = sz ∧ 0 < sz ∧ AV.allsc z = true
  · rw [if_pos c]; simp [c, birB, fillS]
  · rw [if_neg c, if_neg]; · rfl
    simpa using c
theorem repl_z (z : List AV) : repl 0 z = [] := rfl
theorem repl_s (n : Nat) (z : List AV) : repl (n + 1) z = z ++ repl n z := rfl
def goD2 (keep : List Nat) (e : Env) (h : H) (b : Bool) : Res := if b then some (.normal, restr e keep, h) else none
theorem goD2_t (keep : List Nat) (e : Env) (h : H) : goD2 keep e h true = some (.normal, restr e keep, h) := rfl
def goD (c : CallT) (ops : List AOper) (fl : List (Nat × List Nat)) (keep : List Nat) (p : Option (Env × H × List H)) : Res := p.bind fun q => goD2 keep q.1 q.2.1 (stables c ops q.1 q.2.2 fl)
theorem goD_s (c : CallT) (ops : List AOper) (fl : List (Nat × List Nat)) (keep : List Nat) (e : Env) (h : H) (gs : List H) : goD c ops fl keep (some (e, h, gs)) = goD2 keep e h (stables c ops e gs fl) := rfl
theorem C_dregF (c : CallT) (l : LoopT) (ord : List Nat) (ops : List AOper) (x : Nat × List Nat) (fl : List (Nat × List Nat)) (keep : List Nat) (e : Env) (h : H) : evC c l (.dreg ord ops (x :: fl) keep) e h = goD c ops (x :: fl) keep (evOpsD c ops e h) := by
  rw [evC]; rfl
theorem stb_n (c : CallT) (ops : List AOper) (e : Env) (gs : List H) : stables c ops e gs [] = true := rfl
def stK (c : CallT) (ops : List AOper) (e : Env) (gs : List H) (i : Nat) (ks : List Nat) : Bool := ks.all (stable1 c ops e gs i)
theorem stb_c (c : CallT) (ops : List AOper) (e : Env) (gs : List H) (i : Nat) (ks : List Nat) (r : List (Nat × List Nat)) : stables c ops e gs ((i, ks) :: r) = (stK c ops e gs i ks && stables c ops e gs r) := rfl
theorem stK_n (c : CallT) (ops : List AOper) (e : Env) (gs : List H) (i : Nat) : stK c ops e gs i [] = true := rfl
def st1 (c : CallT) (e : Env) (o : Option AOper) (g : Option H) : Bool := match o, g with
  | some o, some g =>
    if o.op.births then
      match o.dst.map (look e) with
      | some (.tup []) => true
      | some v => (match v.id?, birth e o.op with
        | some id, some b => (match g.get id with | some cs => AV.beqs cs b.1 | none => false)
        | _, _ => false)
      | none => false
    else match o.dst.map (look e) with
      | some v => (match evOper c o e g with | some (u, _) => AV.beq u v | none => false)
      | none => false
  | _, _ => false
theorem stK_c (c : CallT) (ops : List AOper) (e : Env) (gs : List H) (i k : Nat) (r : List Nat) : stK c ops e gs i (k :: r) = (st1 c e (ops[i]?) (gs[k]?) && stK c ops e gs i r) := by
  unfold stK
  rw [List.all_cons]
  congr 1
def stV (v : AV) (p : Option (AV × H)) : Bool := match p with | some (u, _) => AV.beq u v | none => false
theorem stV_s (v u : AV) (h : H) : stV v (some (u, h)) = AV.beq u v := rfl
def stB (b : Bool) (x y : Bool) : Bool := if b then x else y
theorem stB_f (x y : Bool) : stB false x y = y := rfl
def st1b (c : CallT) (e : Env) (o : Option AOper) (g : Option H) : Bool := st1 c e o g
theorem st1_u (c : CallT) (e : Env) (d : Nat) (op : AOp) (g : H) : st1 c e (some ⟨some d, op, none⟩) (some g) = stB op.births (st1b c e (some ⟨some d, op, none⟩) (some g)) (stV (look e d) (evOp c e g op)) := by
  unfold st1b st1 stB
  dsimp only
  cases op.births <;> rfl
theorem st1_g (c : CallT) (e : Env) (d : Nat) (op : AOp) (k : Nat) (w : Bool) (g : H) : st1 c e (some ⟨some d, op, some (k, w)⟩) (some g) = stB op.births (st1b c e (some ⟨some d, op, some (k, w)⟩) (some g)) (stV (look e d) (goG w c e g op (look e k))) := by
  unfold st1b st1 stB
  dsimp only
  cases op.births with
  | true => rfl
  | false => rw [evOper_g]; rfl
mutual
theorem beq_refl : ∀ a : AV, AV.beq a a = true
  | .bot => rfl
  | .bool b => by simp [AV.beq]
  | .int k n => by simp [AV.beq]
  | .str s => beq_str s
  | .nilp => rfl
  | .pobj i o => by simp [AV.beq]
  | .pimm c o => by simp [AV.beq, beqs_refl c]
  | .nils => rfl
  | .sobj i o l z => by simp [AV.beq]
  | .simm t c o l z => by simp [AV.beq, beqs_refl c]
  | .fn f a b => by simp [AV.beq, beqs_refl a, beqs_refl b]
  | .nilf => rfl
  | .iface t v => by simp [AV.beq, beq_refl v]
  | .nili => rfl
  | .agg c => by simp [AV.beq, beqs_refl c]
  | .tup c => by simp [AV.beq, beqs_refl c]
theorem beqs_refl : ∀ l : List AV, AV.beqs l l = true
  | [] => rfl
  | a :: l => by simp [AV.beqs, beq_refl a, beqs_refl l]
end
theorem stB_t (x y : Bool) : stB true x y = x := rfl
def beO (c : Option (List AV)) (d : List AV) : Bool := match c with | some cs => AV.beqs cs d | none => false
theorem beO_s (c d : List AV) : beO (some c) d = AV.beqs c d := rfl
def stBv (v : AV) (b : Option (List AV × (Nat → AV))) (g : H) : Bool := match v with
  | .tup [] => true
  | v => match v.id?, b with
    | some id, some b => beO (g.get id) b.1
    | _, _ => false
theorem stBv_t (b : Option (List AV × (Nat → AV))) (g : H) : stBv (.tup []) b g = true := rfl
theorem stBv_p (i o : Nat) (cs : List AV) (f : Nat → AV) (g : H) : stBv (.pobj i o) (some (cs, f)) g = beO (g.get i) cs := rfl
theorem stBv_o (i o l z : Nat) (cs : List AV) (f : Nat → AV) (g : H) : stBv (.sobj i o l z) (some (cs, f)) g = beO (g.get i) cs := rfl
theorem st1b_eq {c : CallT} {e : Env} {d : Nat} {op : AOp} {gd : Option (Nat × Bool)} {g : H} (hb : op.births = true) : st1b c e (some ⟨some d, op, gd⟩) (some g) = stBv (look e d) (birth e op) g := by
  unfold st1b st1
  dsimp only
  rw [hb, if_pos rfl]
  show (match some (look e d) with
      | some (.tup []) => true
      | some v => (match v.id?, birth e op with
        | some id, some b => (match g.get id with | some cs => AV.beqs cs b.1 | none => false)
        | _, _ => false)
      | none => false) = _
  generalize look e d = v
  unfold stBv beO
  cases v with
  | tup vs => cases vs <;> rfl
  | _ => cases birth e op <;> rfl
theorem st1b_alloc (c : CallT) (e : Env) (d : Nat) (z : List AV) (gd : Option (Nat × Bool)) (g : H) : st1b c e (some ⟨some d, .alloc z, gd⟩) (some g) = stBv (look e d) (birth e (.alloc z)) g := st1b_eq rfl
theorem st1b_box (c : CallT) (e : Env) (d n : Nat) (x : X) (gd : Option (Nat × Bool)) (g : H) : st1b c e (some ⟨some d, .box n x, gd⟩) (some g) = stBv (look e d) (birth e (.box n x)) g := st1b_eq rfl
theorem st1b_bslice (c : CallT) (e : Env) (d n m : Nat) (z : List AV) (ps : List (Nat × X)) (gd : Option (Nat × Bool)) (g : H) : st1b c e (some ⟨some d, .bslice n m z ps, gd⟩) (some g) = stBv (look e d) (birth e (.bslice n m z ps)) g := st1b_eq rfl
theorem st1b_mksl (c : CallT) (e : Env) (d n m : Nat) (z : List AV) (x y : X) (gd : Option (Nat × Bool)) (g : H) : st1b c e (some ⟨some d, .mksl n m z x y, gd⟩) (some g) = stBv (look e d) (birth e (.mksl n m z x y)) g := st1b_eq rfl
theorem beq_bool (b : Bool) : AV.beq (.bool b) (.bool b) = true := by simp [AV.beq]
theorem beq_tup0 : AV.beq (.tup []) (.tup []) = true := rfl
theorem beq_nils : AV.beq .nils .nils = true := rfl
theorem beq_simm0 : AV.beq .nilp .nilp = true := rfl
theorem iadr_s (sz id off len : Nat) (i : AV) : aiadr sz (.sobj id off len sz) i = idP id off sz (aidx i len) := by simp [aiadr, idP]
theorem iadr_m (t : Bool) (cells : List AV) (sz off len : Nat) (i : AV) : aiadr sz (.simm t cells off len sz) i = idQ cells off sz (aidx i len) := by simp [aiadr, idQ]
def replM (n : Nat) (z : List AV) : List AV := repl n z
def mkslB (sz bytes : Nat) (zero : List AV) (l c : AV) : Option (List AV × (Nat → AV)) :=
  match l, c with
  | .int .i64 l, .int .i64 c => birB (condO (decide (0 ≤ l) && (decide (l ≤ c) && (decide (c ≤ 9223372036854775807) && (decide ((bytes : Int) * c ≤ 281474976710656) && (decide (zero.length = sz) && (decide (0 < sz) && AV.allsc zero)))))) (replM c.toNat zero)) (fun i => .sobj i 0 l.toNat sz)
  | _, _ => none
theorem mkslB_s (sz bytes : Nat) (zero : List AV) (l c : Int) : mkslB sz bytes zero (.int .i64 l) (.int .i64 c) = birB (condO (decide (0 ≤ l) && (decide (l ≤ c) && (decide (c ≤ 9223372036854775807) && (decide ((bytes : Int) * c ≤ 281474976710656) && (decide (zero.length = sz) && (decide (0 < sz) && AV.allsc zero)))))) (replM c.toNat zero)) (fun i => .sobj i 0 l.toNat sz) := rfl
theorem bir_mksl (e : Env) (sz bytes : Nat) (zero : List AV) (l c : X) : birth e (.mksl sz bytes zero l c) = mkslB sz bytes zero (l.ev e) (c.ev e) := by
  simp only [birth]
  cases l.ev e with
  | int k l => cases k <;> cases c.ev e with
    | int k2 c => cases k2 <;> first
      | rfl
      | (simp only [mkslB_s, condO]
         by_cases q : 0 ≤ l ∧ l ≤ c ∧ c ≤ 9223372036854775807 ∧ (bytes : Int) * c ≤ 281474976710656 ∧ zero.length = sz ∧ 0 < sz ∧ AV.allsc zero = true
         · rw [if_pos q]; obtain ⟨q1, q2, q3, q4, q5, q6, q7⟩ := q
           rw [if_pos]
           · rfl
           · simp [q1, q2, q3, q4, q5, q6, q7]
         · rw [if_neg q, if_neg]
           · rfl
           · simpa using q)
    | _ => rfl
  | _ => cases c.ev e <;> rfl
theorem alen_s (i o l z : Nat) : alen false (.sobj i o l z) = some (.int .i64 l) := rfl
theorem alen_n : alen false .nils = some (.int .i64 0) := rfl
theorem alen_m (t : Bool) (c : List AV) (o l z : Nat) : alen false (.simm t c o l z) = some (.int .i64 l) := rfl
theorem alen_str (s : ByteArray) : alen true (.str s) = some (.int .i64 s.size) := rfl
theorem tn_add (a b : Nat) : ((a : Int) + (b : Int)).toNat = a + b := by omega
theorem tn_nat (a : Nat) : ((a : Int)).toNat = a := by omega
def byN (s : ByteArray) (i : Nat) : Nat := ((s[i]?).map (·.toNat)).getD 0
theorem byN_lt (s : ByteArray) (i : Nat) : byN s i < 256 := by
  unfold byN
  cases s[i]? with
  | none => simp
  | some b => simp; exact b.toNat_lt
theorem idxs_at {s : ByteArray} {i : Int} (h : 0 ≤ i ∧ i < s.size) : aidxs (.str s) (.int .i64 i) = some (.int .u8 (byN s i.toNat : Nat)) := by
  have hi : i.toNat < s.size := by omega
  simp [aidxs, aix h, byN, hi]
def selO {α : Type} (b : Bool) (x y : Option α) : Option α := if b then x else y
theorem selO_t {α : Type} (x y : Option α) : selO true x y = x := rfl
theorem selO_f {α : Type} (x y : Option α) : selO false x y = y := rfl
def srcO (n o k : Nat) (p : Option (List AV)) : Option (Nat × List AV) := p.bind fun cs => condO (decide (o + k * n ≤ cs.length)) (k, (cs.drop o).take (k * n))
theorem srcO_s (n o k : Nat) (cs : List AV) : srcO n o k (some cs) = condO (decide (o + k * n ≤ cs.length)) (k, (cs.drop o).take (k * n)) := rfl
theorem src_o (h : H) (n p o k : Nat) : srcCells h n (.sobj p o k n) = srcO n o k (h.get p) := by
  simp only [srcCells, if_true, srcO]
  cases h.get p with
  | none => rfl
  | some cs => simp only [Option.bind_some, condO, decide_eq_true_eq]
theorem src_m (h : H) (t : Bool) (n o k : Nat) (cs : List AV) : srcCells h n (.simm t cs o k n) = condO (decide (o + k * n ≤ cs.length)) (k, (cs.drop o).take (k * n)) := by
  simp only [srcCells, if_true, condO, decide_eq_true_eq]
theorem src_n (h : H) (n : Nat) : srcCells h n .nils = some (0, []) := Eq.trans rfl rfl
theorem src_s (h : H) (s : ByteArray) : srcCells h 1 (.str s) = some (s.size, s.data.toList.map fun b => .int .u8 b.toNat) := Eq.trans rfl rfl
def appS (h : H) (n z : Nat) (a : AV) (p : Option (Nat × List AV)) : Option (AV × H) := p.bind fun r => aappc h n z a r.1 r.2
theorem appS_s (h : H) (n z : Nat) (a : AV) (m : Nat) (bs : List AV) : appS h n z a (some (m, bs)) = aappc h n z a m bs := rfl
theorem app_b (h : H) (n z : Nat) (a b : AV) : aapp h n z a b = appS h n z a (srcCells h n b) := Eq.trans rfl rfl
def apO (h : H) (n z p o k m : Nat) (bs : List AV) (q : Option (List AV)) : Option (AV × H) := q.bind fun cs =>
  selO (decide (o + (k + m) * n ≤ cs.length)) (some (.sobj p o (k + m) n, h.set p (setFrom cs (o + k * n) bs))) (selO (decide (o + k * n = cs.length) && roomy z (k + m)) (some (.sobj h.next 0 (k + m) n, (h.del p).alloc (cs.drop o ++ bs))) none)
theorem apO_s (h : H) (n z p o k m : Nat) (bs cs : List AV) : apO h n z p o k m bs (some cs) = selO (decide (o + (k + m) * n ≤ cs.length)) (some (.sobj p o (k + m) n, h.set p (setFrom cs (o + k * n) bs))) (selO (decide (o + k * n = cs.length) && roomy z (k + m)) (some (.sobj h.next 0 (k + m) n, (h.del p).alloc (cs.drop o ++ bs))) none) := rfl
theorem apc_o (h : H) (n z p o k m : Nat) (bs : List AV) : aappc h n z (.sobj p o k n) m bs = selO (decide (m = 0)) (some (.sobj p o k n, h)) (selO (AV.allsc bs && (decide (0 < n) && decide (h.floor ≤ p))) (apO h n z p o k m bs (h.get p)) none) := by
  unfold aappc selO
  by_cases c : m = 0
  · simp [c]
  · rw [if_neg c]
    simp only [decide_eq_true_eq, if_neg c]
    by_cases c1 : AV.allsc bs = false ∨ n = 0
    · rw [if_pos c1, if_neg]
      rcases c1 with c1 | c1
      · simp [c1]
      · simp [c1]
    · rw [if_neg c1]
      have q1 : AV.allsc bs = true := by cases q : AV.allsc bs with | true => rfl | false => exact absurd (.inl q) c1
      by_cases c2 : h.floor ≤ p
      · have qq : (AV.allsc bs && (decide (0 < n) && decide (h.floor ≤ p))) = true := by simp [q1, c2]; omega
        simp only [true_and, if_pos c2, qq, if_true, apO, selO]
        cases h.get p with
        | none => rfl
        | some cs => simp only [Option.bind_some, decide_eq_true_eq, Bool.and_eq_true]
      · have qq : (AV.allsc bs && (decide (0 < n) && decide (h.floor ≤ p))) = false := by simp [c2]
        simp only [true_and, if_neg c2, qq]; rfl
theorem apc_n (h : H) (n z m : Nat) (bs : List AV) : aappc h n z .nils m bs = selO (decide (m = 0)) (some (.nils, h)) (selO (AV.allsc bs && (decide (0 < n) && roomy z m)) (some (.sobj h.next 0 m n, h.alloc bs)) none) := by
  unfold aappc selO
  by_cases c : m = 0
  · simp [c]
  · rw [if_neg c]
    simp only [decide_eq_true_eq, if_neg c]
    by_cases c1 : AV.allsc bs = false ∨ n = 0
    · rw [if_pos c1, if_neg]
      rcases c1 with c1 | c1
      · simp [c1]
      · simp [c1]
    · rw [if_neg c1]
      have q1 : AV.allsc bs = true := by cases q : AV.allsc bs with | true => rfl | false => exact absurd (.inl q) c1
      have q2 : 0 < n := by omega
      simp [q1, q2]
theorem roomy_t {b n : Nat} (h : 1 ≤ b ∧ (n + n / 4 + 512) * b ≤ 281474976710656) : roomy b n = true := by simp only [roomy, h.1, h.2, and_self, decide_true]
theorem sl_hi {h : H} {n p o k : Nat} {m : Int} {cs : List AV} (hg : h.get p = some cs) (hn : 0 < n) (hk : o + k * n ≤ cs.length) (hm : 0 ≤ m ∧ m.toNat ≤ (cs.length - o) / n) : asl h n (.sobj p o k n) none (some (.int .i64 m)) none = some (.sobj p o m.toNat n) := by
  have h1 : k ≤ (cs.length - o) / n := by rw [Nat.le_div_iff_mul_le hn]; omega
  simp only [asl, hn, and_self, if_true, hg, Option.bind_some, osbound]
  rw [if_pos ⟨by omega, h1⟩]
  have h3 : sbound (.int .i64 m) ((cs.length - o) / n) = some m.toNat := by
    simp only [sbound, asI, Option.bind_some]
    rw [if_pos]
    omega
  simp [h3]
theorem fm_get {α : Type} {C : α → List AV} {n : Nat} (hC : ∀ x, (C x).length = n) : ∀ {l : List α} {i f : Nat} {x : α}, l[i]? = some x → f < n → (l.flatMap C)[i * n + f]? = (C x)[f]?
  | [], i, f, x, h, _ => by simp at h
  | y :: l, 0, f, x, h, hf => by
    obtain rfl : y = x := by simpa using h
    rw [List.flatMap_cons, Nat.zero_mul, Nat.zero_add, List.getElem?_append_left (by rw [hC]; exact hf)]
  | y :: l, i + 1, f, x, h, hf => by
    rw [List.flatMap_cons, List.getElem?_append_right (by rw [hC, Nat.add_mul]; omega), hC]
    rw [show (i + 1) * n + f - n = i * n + f by rw [Nat.add_mul]; omega]
    exact fm_get hC (by simpa using h) hf
def RdN (n : Nat) (h : H) (v : AV) (k : Nat) (cs : List AV) : Prop := srcCells h n v = some (k, cs) ∧ cs.length = k * n ∧ ∀ s, v ≠ .str s
theorem Rd.rdN {h : H} {v : AV} {cs : List AV} (r : Rd h v cs) : RdN 1 h v cs.length cs := ⟨r.1, by omega, r.2⟩
theorem RdN.len {n : Nat} {h : H} {v : AV} {k : Nat} {cs : List AV} (r : RdN n h v k cs) : alen false v = some (.int .i64 k) := by
  obtain ⟨r, _, hs⟩ := r
  unfold srcCells at r
  split at r
  · obtain ⟨h1, h2⟩ := Prod.mk.inj (Option.some.inj r); subst h1; rfl
  · exact absurd rfl (hs _)
  · split at r
    · simp only [Option.bind_eq_some_iff] at r
      obtain ⟨c, _, r⟩ := r
      split at r
      · obtain ⟨h1, h2⟩ := Prod.mk.inj (Option.some.inj r); simp [alen, h1]
      · cases r
    · cases r
  · split at r
    · split at r
      · obtain ⟨h1, h2⟩ := Prod.mk.inj (Option.some.inj r); simp [alen, h1]
      · cases r
    · cases r
  · cases r
theorem RdN.mono {n : Nat} {h g : H} {v : AV} {k : Nat} {cs : List AV} (r : RdN n h v k cs) (hg : ∀ id c, h.get id = some c → g.get id = some c) : RdN n g v k cs := by
  obtain ⟨r, hl, hs⟩ := r
  refine ⟨?_, hl, hs⟩
  unfold srcCells at r ⊢
  split at r
  · exact r
  · exact r
  · split at r
    · rename_i q; simp only [if_pos q, Option.bind_eq_some_iff] at r ⊢
      obtain ⟨c, h1, r⟩ := r
      exact ⟨c, hg _ _ h1, r⟩
    · cases r
  · exact r
  · cases r
theorem RdN.at_ {n : Nat} {h : H} {v : AV} {k : Nat} {cs : List AV} (r : RdN n h v k cs) : ∃ ad : Int → Nat → AV,
    (∀ i : Int, 0 ≤ i ∧ i < k → aiadr n v (.int .i64 i) = some (ad i 0)) ∧
    (∀ (i : Int) (f g : Nat), 0 ≤ i ∧ i < k → afadr g (ad i f) = some (ad i (f + g))) ∧
    (∀ (i : Int) (f : Nat) (g : H), 0 ≤ i ∧ i < k → nilcB g (ad i f) = some (ad i f, g)) ∧
    (∀ g : H, (∀ id c, h.get id = some c → g.get id = some c) → (∀ (i : Int) (f : Nat) (c : AV), 0 ≤ i ∧ i < k → cs[i.toNat * n + f]? = some c → aload false 1 (ad i f) g = some c) ∧
      ∀ i : Int, 0 ≤ i ∧ i < k → aload true n (ad i 0) g = some (.agg ((cs.drop (i.toNat * n)).take n))) := by
  obtain ⟨r, hl, hs⟩ := r
  unfold srcCells at r
  split at r
  · obtain ⟨h1, h2⟩ := Prod.mk.inj (Option.some.inj r); subst h1
    exact ⟨fun _ _ => .bot, fun i hi => by omega, fun i f g hi => by omega, fun i f g hi => by omega, fun g _ => ⟨fun i f c hi => by omega, fun i hi => by omega⟩⟩
  · exact absurd rfl (hs _)
  · rename_i id off len s
    split at r
    · rename_i q
      subst q
      simp only [Option.bind_eq_some_iff] at r
      obtain ⟨d, hd, r⟩ := r
      split at r
      · rename_i hle
        obtain ⟨h1, h2⟩ := Prod.mk.inj (Option.some.inj r)
        subst h1
        have bnd : ∀ i : Int, 0 ≤ i ∧ i < len → i.toNat * s + s ≤ len * s := fun i hi => by
          have := Nat.mul_le_mul_right s (show i.toNat + 1 ≤ len by omega); rw [Nat.add_mul] at this; omega
        refine ⟨fun i f => .pobj id (off + i.toNat * s + f), fun i hi => by simp [aiadr, aix hi], fun i f g _ => by simp [afadr]; omega, fun i f g _ => rfl, fun g hg => ⟨fun i f c hi hc => ?_, fun i hi => ?_⟩⟩
        · simp only [aload, hg _ _ hd, Option.bind_some, rdc, Bool.false_eq_true, if_false]
          rw [← h2, List.getElem?_take] at hc
          split at hc
          · rw [List.getElem?_drop] at hc; rw [Nat.add_assoc]; exact hc
          · cases hc
        · have := bnd i hi
          simp only [aload, hg _ _ hd, Option.bind_some, rdc, if_true, Nat.add_zero]
          rw [if_pos (by omega), ← h2, List.drop_take, List.take_take, List.drop_drop, Nat.min_eq_left (by omega)]
      · cases r
    · cases r
  · rename_i t cells off len s
    split at r
    · rename_i q
      subst q
      split at r
      · rename_i hle
        obtain ⟨h1, h2⟩ := Prod.mk.inj (Option.some.inj r)
        subst h1
        have bnd : ∀ i : Int, 0 ≤ i ∧ i < len → i.toNat * s + s ≤ len * s := fun i hi => by
          have := Nat.mul_le_mul_right s (show i.toNat + 1 ≤ len by omega); rw [Nat.add_mul] at this; omega
        refine ⟨fun i f => .pimm cells (off + i.toNat * s + f), fun i hi => by simp [aiadr, aix hi], fun i f g _ => by simp [afadr]; omega, fun i f g _ => rfl, fun g hg => ⟨fun i f c hi hc => ?_, fun i hi => ?_⟩⟩
        · simp only [aload, rdc, Bool.false_eq_true, if_false]
          rw [← h2, List.getElem?_take] at hc
          split at hc
          · rw [List.getElem?_drop] at hc; rw [Nat.add_assoc]; exact hc
          · cases hc
        · have := bnd i hi
          simp only [aload, rdc, if_true, Nat.add_zero]
          rw [if_pos (by omega), ← h2, List.drop_take, List.take_take, List.drop_drop, Nat.min_eq_left (by omega)]
      · cases r
    · cases r
  · cases r
def OwnN (n : Nat) (h : H) (v : AV) (k : Nat) (cs : List AV) : Prop := cs.length = k * n ∧ ((v = .nils ∧ k = 0) ∨ ∃ id, v = .sobj id 0 k n ∧ h.get id = some cs ∧ h.floor ≤ id ∧ 0 < k)
theorem OwnN.nil {n : Nat} {h : H} : OwnN n h .nils 0 [] := ⟨by simp, .inl ⟨rfl, rfl⟩⟩
theorem OwnN.mono {n : Nat} {h g : H} {v : AV} {k : Nat} {cs : List AV} (o : OwnN n h v k cs) (hf : g.floor = h.floor) (hg : ∀ i, v.id? = some i → g.get i = h.get i) : OwnN n g v k cs := by
  obtain ⟨l, o⟩ := o
  refine ⟨l, ?_⟩
  rcases o with o | ⟨id, rfl, h1, h2, h3⟩
  · exact .inl o
  · exact .inr ⟨id, rfl, by rw [hg id rfl]; exact h1, by rw [hf]; exact h2, h3⟩
theorem OwnN.sc {n : Nat} {h : H} {v : AV} {k : Nat} {cs : List AV} (o : OwnN n h v k cs) : v.sc = true := by
  rcases o.2 with ⟨rfl, _⟩ | ⟨id, rfl, _⟩ <;> rfl
theorem OwnN.lt {n : Nat} {h : H} {v : AV} {k : Nat} {cs : List AV} (o : OwnN n h v k cs) {i : Nat} (hi : v.id? = some i) : h.floor ≤ i ∧ i < h.next := by
  rcases o.2 with ⟨rfl, _⟩ | ⟨id, rfl, h1, h2⟩
  · cases hi
  · obtain rfl := Option.some.inj hi; exact ⟨h2.1, h.lt _ _ h1⟩
theorem OwnN.rd {n : Nat} {h : H} {v : AV} {k : Nat} {cs : List AV} (o : OwnN n h v k cs) : RdN n h v k cs := by
  obtain ⟨l, o⟩ := o
  rcases o with ⟨rfl, rfl⟩ | ⟨id, rfl, h1, h2⟩
  · have : cs = [] := List.eq_nil_of_length_eq_zero (by omega)
    subst this
    exact ⟨rfl, by simp, fun _ => by simp⟩
  · refine ⟨?_, l, fun _ => by simp⟩
    simp only [srcCells, if_true, h1, Option.bind_some, Nat.zero_add]
    rw [if_pos (by omega), List.drop_zero, List.take_of_length_le (by omega)]
theorem OwnN.app {n : Nat} {h : H} {v : AV} {k : Nat} {cs : List AV} (o : OwnN n h v k cs) (hfn : h.floor ≤ h.next) {z m : Nat} (hm : 0 < m) (hn : 0 < n) (bs : List AV) (hb : bs.length = m * n) (hc : AV.allsc bs = true) (hr : roomy z (k + m) = true) :
    ∃ v' h', aappc h n z v m bs = some (v', h') ∧ OwnN n h' v' (k + m) (cs ++ bs) ∧ h'.floor = h.floor ∧ h.next ≤ h'.next ∧ (∀ i, v.id? ≠ some i → i ≠ h.next → h'.get i = h.get i) ∧ v'.id? = some h.next := by
  obtain ⟨hl, o⟩ := o
  have hll : (cs ++ bs).length = (k + m) * n := by rw [List.length_append, hl, hb, Nat.add_mul]
  rcases o with ⟨rfl, rfl⟩ | ⟨id, rfl, hg, hf, _⟩
  · have : cs = [] := List.eq_nil_of_length_eq_zero (by omega)
    subst this
    refine ⟨.sobj h.next 0 m n, h.alloc bs, ?_, ⟨hll, .inr ⟨h.next, by simp, by simp [H.get_alloc], by simp; omega, by omega⟩⟩, by simp, by simp, fun i _ hi => by rw [H.get_alloc, if_neg hi], rfl⟩
    unfold aappc
    rw [if_neg (by omega), if_neg (by simp [hc]; omega)]
    rw [Nat.zero_add] at hr
    simp only [hr, if_true]
  · have hmn : 0 < m * n := Nat.mul_pos hm hn
    have hnot : ¬ 0 + (k + m) * n ≤ cs.length := by rw [hl, Nat.add_mul]; omega
    refine ⟨.sobj h.next 0 (k + m) n, (h.del id).alloc (cs ++ bs), ?_, ⟨hll, .inr ⟨h.next, by simp, by simp [H.get_alloc], ?_, by omega⟩⟩, by simp, by simp, fun i h1 h2 => ?_, rfl⟩
    · unfold aappc
      rw [if_neg (by omega), if_neg (by simp [hc]; omega)]
      simp only [hf, and_self, if_true, hg, Option.bind_some]
      rw [if_neg hnot, if_pos ⟨by omega, hr⟩]
      simp
    · have := h.lt id cs hg; simp; omega
    · rw [H.get_alloc, H.next_del, if_neg h2, H.get_del, if_neg]
      intro e; subst e; exact h1 rfl
theorem OwnN.push {n : Nat} {h : H} {v : AV} {k : Nat} {cs : List AV} (o : OwnN n h v k cs) (hfn : h.floor ≤ h.next) {z m : Nat} (hm : 0 < m) (hn : 0 < n) (bs : List AV) (hb : bs.length = m * n) (hc : AV.allsc bs = true) (hr : roomy z (k + m) = true) :
    ∃ v' h', aapp (h.alloc bs) n z v (.sobj h.next 0 m n) = some (v', h') ∧ OwnN n h' v' (k + m) (cs ++ bs) ∧ h'.floor = h.floor ∧ h.next + 1 ≤ h'.next ∧ (∀ i, v.id? ≠ some i → i < h.next → h'.get i = h.get i) ∧ v'.id? = some (h.next + 1) := by
  have o1 : OwnN n (h.alloc bs) v k cs := o.mono (by simp) fun i q => by rw [H.get_alloc, if_neg]; have := o.lt q; omega
  obtain ⟨v', h', p1, p2, p3, p4, p5, p6⟩ := o1.app (z := z) (by simp; omega) hm hn bs hb hc hr
  refine ⟨v', h', ?_, p2, by rw [p3]; simp, by simpa using p4, fun i q1 q2 => ?_, by simpa using p6⟩
  · have src : srcCells (h.alloc bs) n (.sobj h.next 0 m n) = some (m, bs) := by
      simp only [srcCells, if_true, H.get_alloc, Option.bind_some, Nat.zero_add]
      rw [if_pos (by omega), List.drop_zero, List.take_of_length_le (by omega)]
    unfold aapp; rw [src, Option.bind_some]; exact p1
  · rw [p5 i q1 (by simp; omega), H.get_alloc, if_neg (by omega)]
def slN (n k : Nat) (cs : List AV) : AV := if k = 0 then .nils else .simm false cs 0 k n
theorem OwnN.snap_ints {n : Nat} {h : H} {v : AV} {k : Nat} {l : List Int} {fl m : Nat} {t : Bool} (o : OwnN n h v k (ints l)) (hf : fl ≤ h.floor) : snap h.get fl (m + 2) t v = some (slN n k (ints l)) := by
  obtain ⟨hl, o⟩ := o
  rw [ints_length] at hl
  rcases o with ⟨rfl, rfl⟩ | ⟨id, rfl, q, h2, hk⟩
  · rfl
  · unfold snap
    rw [if_neg (by omega), q, Option.bind_some, if_pos (by rw [ints_length]; omega)]
    rw [List.drop_zero, List.take_of_length_le (by rw [ints_length]; omega), mapO_ints]
    unfold slN
    rw [if_neg (by omega)]; rfl
attribute [go_sem] List.map_cons List.map_nil Bool.and_true Bool.true_and Bool.and_self List.append_nil Option.map_some Option.map_none Bool.and_false Bool.false_and Bool.or_false Bool.or_true Bool.true_or Bool.false_or Bool.or_self List.take_succ_cons List.take_zero List.drop_zero List.drop_succ_cons Int.cast_ofNat_Int Int.natCast_one Int.natCast_zero List.length_set
theorem qqC : type_of% @dt ∧ type_of% @df ∧ type_of% @eqt ∧ type_of% @eqf ∧ type_of% @net ∧ type_of% @nef ∧ type_of% @wi ∧ type_of% @wb ∧ type_of% @alen_str ∧ type_of% @idxs_at ∧ type_of% @tn_add ∧ type_of% @tn_nat ∧ type_of% @aix ∧ type_of% @get_hit ∧ type_of% @get_miss ∧ type_of% @set_hit ∧ type_of% @set_miss ∧ type_of% @H.floor_alloc ∧ type_of% @H.next_alloc ∧ type_of% @H.floor_set ∧ type_of% @H.next_set ∧ type_of% @stO_d ∧ type_of% @condO_t ∧ type_of% @fill_n ∧ type_of% @fill_c ∧ type_of% @fillS_s ∧ type_of% @bir_bslice ∧ type_of% @bir_alloc ∧ type_of% @bir_box ∧ type_of% @birB_s ∧ type_of% @repl_s ∧ type_of% @repl_z ∧ type_of% @setFrom_nil ∧ type_of% @setFrom_cons ∧ type_of% @allsc_nil ∧ type_of% @allsc_cons ∧ type_of% @iadr_s ∧ type_of% @iadr_m ∧ type_of% @idP_s ∧ type_of% @idQ_s ∧ type_of% @bir_mksl ∧ type_of% @mkslB_s ∧ type_of% @alen_s ∧ type_of% @alen_n ∧ type_of% @alen_m ∧ type_of% @C_dregF ∧ type_of% @goD_s ∧ type_of% @goD2_t ∧ type_of% @stb_n ∧ type_of% @stb_c ∧ type_of% @stK_n ∧ type_of% @stK_c ∧ type_of% @stV_s ∧ type_of% @stB_f ∧ type_of% @beq_int ∧ type_of% @beq_bool ∧ type_of% @beq_tup0 ∧ type_of% @beq_nils ∧ type_of% @beq_simm0 ∧ type_of% @beq_str ∧ type_of% @beq_sobj ∧ type_of% @beq_pobj ∧ type_of% @opsD_nil ∧ type_of% @opsD_u ∧ type_of% @opsD_g ∧ type_of% @goOD_s ∧ type_of% @preD_t ∧ type_of% @preD_f ∧ type_of% @st1_u ∧ type_of% @st1_g ∧ type_of% @eqbB_s ∧ type_of% @beq_refl ∧ type_of% @beqs_refl ∧ type_of% @stB_t ∧ type_of% @beO_s ∧ type_of% @stBv_t ∧ type_of% @stBv_p ∧ type_of% @stBv_o ∧ type_of% @st1b_alloc ∧ type_of% @st1b_box ∧ type_of% @st1b_bslice ∧ type_of% @st1b_mksl := ⟨@dt, @df, @eqt, @eqf, @net, @nef, @wi, @wb, @alen_str, @idxs_at, @tn_add, @tn_nat, @aix, @get_hit, @get_miss, @set_hit, @set_miss, @H.floor_alloc, @H.next_alloc, @H.floor_set, @H.next_set, @stO_d, @condO_t, @fill_n, @fill_c, @fillS_s, @bir_bslice, @bir_alloc, @bir_box, @birB_s, @repl_s, @repl_z, @setFrom_nil, @setFrom_cons, @allsc_nil, @allsc_cons, @iadr_s, @iadr_m, @idP_s, @idQ_s, @bir_mksl, @mkslB_s, @alen_s, @alen_n, @alen_m, @C_dregF, @goD_s, @goD2_t, @stb_n, @stb_c, @stK_n, @stK_c, @stV_s, @stB_f, @beq_int, @beq_bool, @beq_tup0, @beq_nils, @beq_simm0, @beq_str, @beq_sobj, @beq_pobj, @opsD_nil, @opsD_u, @opsD_g, @goOD_s, @preD_t, @preD_f, @st1_u, @st1_g, @eqbB_s, @beq_refl, @beqs_refl, @stB_t, @beO_s, @stBv_t, @stBv_p, @stBv_o, @st1b_alloc, @st1b_box, @st1b_bslice, @st1b_mksl⟩
theorem qqD : type_of% @nx_fence ∧ type_of% @gt_fence ∧ type_of% @fl_fence ∧ type_of% @nx_del ∧ type_of% @fl_del ∧ type_of% @del_miss ∧ type_of% @rdT ∧ type_of% @selO_t ∧ type_of% @selO_f ∧ type_of% @srcO_s ∧ type_of% @src_o ∧ type_of% @src_m ∧ type_of% @src_n ∧ type_of% @src_s ∧ type_of% @appS_s ∧ type_of% @app_b ∧ type_of% @apO_s ∧ type_of% @apc_o ∧ type_of% @apc_n ∧ type_of% @roomy_t ∧ type_of% @at_z ∧ type_of% @at_s ∧ type_of% @tl_z ∧ type_of% @tl_s := ⟨@nx_fence, @gt_fence, @fl_fence, @nx_del, @fl_del, @del_miss, @rdT, @selO_t, @selO_f, @srcO_s, @src_o, @src_m, @src_n, @src_s, @appS_s, @app_b, @apO_s, @apc_o, @apc_n, @roomy_t, @at_z, @at_s, @tl_z, @tl_s⟩
theorem qqH : type_of% @H.next_alloc ∧ type_of% @H.next_set ∧ type_of% @nx_del ∧ type_of% @nx_fence ∧ type_of% @H.floor_alloc ∧ type_of% @H.floor_set ∧ type_of% @fl_del ∧ type_of% @fl_fence := ⟨@H.next_alloc, @H.next_set, @nx_del, @nx_fence, @H.floor_alloc, @H.floor_set, @fl_del, @fl_fence⟩
theorem qqG : type_of% @get_hit ∧ type_of% @get_miss ∧ type_of% @set_hit ∧ type_of% @set_miss ∧ type_of% @del_miss ∧ type_of% @gt_fence := ⟨@get_hit, @get_miss, @set_hit, @set_miss, @del_miss, @gt_fence⟩
end Ab
set_option linter.unusedSimpArgs false
set_option linter.unusedVariables false
set_option maxRecDepth 100000
namespace Ab
open Go
theorem wrap_u32 {n : Nat} (h : n < 4294967296) : IntKind.wrap .u32 (n : Int) = n := by
  have e : IntKind.wrap .u32 (n : Int) = (n : Int) % 4294967296 := by simp [IntKind.wrap, IntKind.bits, IntKind.signed]
  rw [e]; omega
theorem wrap_u32' (n : Int) : IntKind.wrap .u32 n = n % 4294967296 := by simp [IntKind.wrap, IntKind.bits, IntKind.signed]
theorem wu {n : Int} (h : 0 ≤ n ∧ n < 4294967296) : IntKind.wrap .u32 n = n := by rw [wrap_u32']; omega
theorem xor_lt32 {a b : Nat} (ha : a < 4294967296) (hb : b < 4294967296) : a ^^^ b < 4294967296 := Nat.xor_lt_two_pow (n := 32) ha hb
theorem bits_xor32 {a b : Nat} (ha : a < 4294967296) (hb : b < 4294967296) : bits .xor .u32 (a : Int) (b : Int) = ((a ^^^ b : Nat) : Int) := by
  have h3 := xor_lt32 ha hb
  show IntKind.wrap .u32 (((BitVec.ofInt 32 (a : Int) ^^^ BitVec.ofInt 32 (b : Int)).toNat : Nat) : Int) = _
  rw [BitVec.toNat_xor, bv_nat 32 a (by omega), bv_nat 32 b (by omega)]
  exact wrap_u32 h3
theorem bits_and32 {a : Nat} (ha : a < 4294967296) : bits .and .u32 (a : Int) 1 = ((a % 2 : Nat) : Int) := by
  show IntKind.wrap .u32 (((BitVec.ofInt 32 (a : Int) &&& BitVec.ofInt 32 ((1 : Nat) : Int)).toNat : Nat) : Int) = _
  rw [BitVec.toNat_and, bv_nat 32 a (by omega), bv_nat 32 1 (by omega), Nat.and_one_is_mod]
  exact wrap_u32 (by omega)
theorem shr_u32 {a : Nat} (ha : a < 4294967296) : shft .shr .u32 (a : Int) 1 = some (.int .u32 ((a / 2 : Nat) : Int)) := by
  unfold shft
  rw [if_neg (by omega)]
  have e : (2 : Int) ^ min (Int.toNat 1) IntKind.u32.bits = 2 := by decide
  rw [e]
  show some (AV.int .u32 _) = _
  rw [Int.fdiv_eq_ediv_of_nonneg _ (by omega)]
  rfl
theorem inv_u32 {h : H} {a : Nat} (ha : a < 4294967296) : invI h (.int .u32 (a : Int)) = some (.int .u32 ((4294967295 - a : Nat) : Int), h) := by
  rw [invI_s]
  have e : (if IntKind.u32.signed then -1 else IntKind.u32.max) = ((4294967295 : Nat) : Int) := by decide
  rw [e, bits_xor32 (by omega) ha]
  have h2 : 4294967295 ^^^ a = 4294967295 - a := by
    have h1 : a < 2 ^ 32 := by simpa using ha
    have : 4294967295 - a = 2 ^ 32 - (a + 1) := by omega
    rw [this]
    apply Nat.eq_of_testBit_eq
    intro i
    rw [Nat.testBit_two_pow_sub_succ h1, Nat.testBit_xor, show 4294967295 = 2 ^ 32 - 1 from rfl, Nat.testBit_two_pow_sub_one]
    by_cases hi : i < 32
    · simp [hi]
    · have : a.testBit i = false := Nat.testBit_lt_two_pow (Nat.lt_of_lt_of_le h1 (Nat.pow_le_pow_right (by omega) (by omega)))
      simp [hi, this]
  rw [h2]
def crcBit (c : Nat) : Nat := if c % 2 = 1 then (c / 2) ^^^ 3988292384 else c / 2
def crcBits : Nat → Nat → Nat
  | 0, c => c
  | n + 1, c => crcBits n (crcBit c)
def crcByte (c b : Nat) : Nat := crcBits 8 (c ^^^ b)
def crcRun (s : ByteArray) : Nat → Nat → Nat → Nat
  | 0, _, c => c
  | n + 1, i, c => crcRun s n (i + 1) (crcByte c (byN s i))
theorem crcBit_lt {c : Nat} (h : c < 4294967296) : crcBit c < 4294967296 := by
  unfold crcBit; split
  · exact xor_lt32 (by omega) (by omega)
  · omega
theorem crcBits_lt : ∀ (n : Nat) {c : Nat}, c < 4294967296 → crcBits n c < 4294967296
  | 0, _, h => h
  | n + 1, _, h => crcBits_lt n (crcBit_lt h)
theorem crcByte_lt {c b : Nat} (hc : c < 4294967296) (hb : b < 256) : crcByte c b < 4294967296 := crcBits_lt 8 (xor_lt32 hc (by omega))
theorem crcRun_lt (s : ByteArray) : ∀ (n i : Nat) {c : Nat}, c < 4294967296 → crcRun s n i c < 4294967296
  | 0, _, _, h => h
  | n + 1, i, _, h => crcRun_lt s n (i + 1) (crcByte_lt h (byN_lt s i))
theorem join_bits (a b d : AV) (h : H) : ∀ (n c k : Nat), k + n = 8 → c < 4294967296 →
    ∃ e', Lp AP.A [1, 5, 12, 13, 22] AP.f103L0 [(1, a), (5, .int .u32 c), (12, b), (13, d), (22, .int .i64 k)] h = some (.exit 2, e', h) ∧ look e' 1 = a ∧ look e' 5 = .int .u32 (crcBits n c : Nat) ∧ look e' 12 = b ∧ look e' 13 = d
  | 0, c, k, hk, hc => by
    refine ⟨[(1, a), (5, .int .u32 c), (12, b), (13, d), (22, .int .i64 k), (23, .bool false)], Lp_exit ?_, rfl, rfl, rfl, rfl⟩
    simp (disch := omega) only [go_sem, abin_shl, abin_shr, Nat.reduceEqDiff, reduceIte, Nat.reduceAdd, Nat.reduceMul, Nat.reduceLT, Nat.reduceLeDiff, Int.reduceBEq, Int.reduceBNe, Int.reduceLT, Int.reduceLE, Int.reduceEq, qqC, AOp.loud, AOp.births, Int.reduceAdd, Int.reduceSub, Int.reduceMul, Int.reduceNeg, Int.reduceToNat, AP.f103L0]
  | n + 1, c, k, hk, hc => by
    obtain ⟨e', r1, r2, r3, r4, r5⟩ := join_bits a b d h n (crcBit c) (k + 1) (by omega) (crcBit_lt hc)
    have n1 : ((k + 1 : Nat) : Int) = (k : Int) + 1 := by omega
    have x1 := bits_xor32 (a := c / 2) (b := 3988292384) (by omega) (by omega)
    have a1 := bits_and32 hc
    have s1 := shr_u32 hc
    refine ⟨e', Lp_next ?_ r1, r2, r3, r4, r5⟩
    rw [n1]
    unfold crcBit
    by_cases p : c % 2 = 1
    · rw [if_pos p]
      rw [show ((3988292384 : Nat) : Int) = 3988292384 from rfl] at x1
      simp (disch := omega) only [go_sem, abin_shl, abin_shr, Nat.reduceEqDiff, reduceIte, Nat.reduceAdd, Nat.reduceMul, Nat.reduceLT, Nat.reduceLeDiff, Int.reduceBEq, Int.reduceBNe, Int.reduceLT, Int.reduceLE, Int.reduceEq, qqC, AOp.loud, AOp.births, Int.reduceAdd, Int.reduceSub, Int.reduceMul, Int.reduceNeg, Int.reduceToNat, AP.f103L0, a1, s1, x1]
    · rw [if_neg p]
      simp (disch := omega) only [go_sem, abin_shl, abin_shr, Nat.reduceEqDiff, reduceIte, Nat.reduceAdd, Nat.reduceMul, Nat.reduceLT, Nat.reduceLeDiff, Int.reduceBEq, Int.reduceBNe, Int.reduceLT, Int.reduceLE, Int.reduceEq, qqC, AOp.loud, AOp.births, Int.reduceAdd, Int.reduceSub, Int.reduceMul, Int.reduceNeg, Int.reduceToNat, AP.f103L0, a1, s1]
theorem join_loop (s : ByteArray) (hs : s.size < 1125899906842624) (h : H) : ∀ (n i c : Nat), i + n = s.size → c < 4294967296 →
    ∃ e', Lp AP.A [1, 5, 12, 13] AP.f103L1 [(1, .str s), (5, .int .u32 c), (12, .int .i64 s.size), (13, .int .i64 i)] h = some (.exit 0, e', h) ∧ look e' 5 = .int .u32 (crcRun s n i c : Nat)
  | 0, i, c, hi, hc => by
    refine ⟨[(1, .str s), (5, .int .u32 c), (12, .int .i64 s.size), (13, .int .i64 i), (14, .bool false)], Lp_exit ?_, rfl⟩
    simp (disch := omega) only [go_sem, abin_shl, abin_shr, Nat.reduceEqDiff, reduceIte, Nat.reduceAdd, Nat.reduceMul, Nat.reduceLT, Nat.reduceLeDiff, Int.reduceBEq, Int.reduceBNe, Int.reduceLT, Int.reduceLE, Int.reduceEq, qqC, AOp.loud, AOp.births, Int.reduceAdd, Int.reduceSub, Int.reduceMul, Int.reduceNeg, Int.reduceToNat, AP.f103L1]
  | n + 1, i, c, hi, hc => by
    have hb := byN_lt s i
    obtain ⟨e', r1, r2⟩ := join_loop s hs h n (i + 1) (crcByte c (byN s i)) (by omega) (crcByte_lt hc hb)
    obtain ⟨e1, q1, q2, q3, q4, q5⟩ := join_bits (.str s) (.int .i64 s.size) (.int .i64 i) h 8 (c ^^^ byN s i) 0 rfl (xor_lt32 hc (by omega))
    have q1' : Lp AP.A [1, 5, 12, 13, 22] AP.f103L0 [(1, .str s), (5, .int .u32 (c ^^^ byN s i : Nat)), (12, .int .i64 s.size), (13, .int .i64 i), (22, .int .i64 0)] h = some (.exit 2, e1, h) := q1
    clear q1
    have x1 := bits_xor32 hc (show byN s i < 4294967296 by omega)
    have n1 : ((i + 1 : Nat) : Int) = (i : Int) + 1 := by omega
    refine ⟨e', Lp_next ?_ r1, r2⟩
    rw [n1]
    unfold crcByte
    simp (disch := omega) only [go_sem, abin_shl, abin_shr, Nat.reduceEqDiff, reduceIte, Nat.reduceAdd, Nat.reduceMul, Nat.reduceLT, Nat.reduceLeDiff, Int.reduceBEq, Int.reduceBNe, Int.reduceLT, Int.reduceLE, Int.reduceEq, qqC, AOp.loud, AOp.births, Int.reduceAdd, Int.reduceSub, Int.reduceMul, Int.reduceNeg, Int.reduceToNat, AP.f103L1, wu, x1, evC_loop, q1', q2, q3, q4, q5]
def joinA (a : Nat) (s : ByteArray) : Nat := 4294967295 - crcRun s s.size 0 (4294967295 - a)
theorem joinA_lt (a : Nat) (s : ByteArray) : joinA a s < 4294967296 := by unfold joinA; omega
theorem join_c (h : H) (s : ByteArray) (a : Nat) (ha : a < 4294967296) (hs : s.size < 1125899906842624) : callW AP.A 103 [.int .i64 a, .str s] h = some (.int .i64 (joinA a s : Nat), h) := by
  obtain ⟨e', r1, r2⟩ := join_loop s hs h.fence s.size 0 (4294967295 - a) (by omega) (by omega)
  have r1' : Lp AP.A [1, 5, 12, 13] AP.f103L1 [(1, .str s), (5, .int .u32 (4294967295 - a : Nat)), (12, .int .i64 s.size), (13, .int .i64 0)] h.fence = some (.exit 0, e', h.fence) := r1
  clear r1
  have lt := crcRun_lt s s.size 0 (c := 4294967295 - a) (by omega)
  have v1 : ∀ g : H, invI g (.int .u32 (a : Int)) = some (.int .u32 ((4294967295 - a : Nat) : Int), g) := fun g => inv_u32 ha
  have v2 : ∀ g : H, invI g (.int .u32 (crcRun s s.size 0 (4294967295 - a) : Nat)) = some (.int .u32 ((4294967295 - crcRun s s.size 0 (4294967295 - a) : Nat) : Int), g) := fun g => inv_u32 lt
  refine pure_c (fn := AP.f103) (h2 := h.fence) (e := [(4, .int .i64 (joinA a s : Nat))]) rfl rfl rfl ?_ rfl rfl
  unfold joinA
  simp (disch := omega) only [go_sem, abin_shl, abin_shr, Nat.reduceEqDiff, reduceIte, Nat.reduceAdd, Nat.reduceMul, Nat.reduceLT, Nat.reduceLeDiff, Int.reduceBEq, Int.reduceBNe, Int.reduceLT, Int.reduceLE, Int.reduceEq, qqC, AOp.loud, AOp.births, Int.reduceAdd, Int.reduceSub, Int.reduceMul, Int.reduceNeg, Int.reduceToNat, AP.f103, wu, v1, v2, evC_loop, r1', r2]
def isA (x : Int) : Bool := decide (0 ≤ x ∧ x ≤ 4294967295)
theorem is_c (h : H) (x : Int) : callW AP.A 105 [.int .i64 x] h = some (.bool (isA x), h) := by
  refine pure_c (fn := AP.f105) (h2 := h.fence) (e := [(2, .bool (isA x))]) rfl rfl rfl ?_ rfl rfl
  unfold isA
  by_cases c1 : 0 ≤ x
  · by_cases c2 : x ≤ 4294967295
    · simp (disch := omega) only [go_sem, abin_shl, abin_shr, Nat.reduceEqDiff, reduceIte, Nat.reduceAdd, Nat.reduceMul, Nat.reduceLT, Nat.reduceLeDiff, Int.reduceBEq, Int.reduceBNe, Int.reduceLT, Int.reduceLE, Int.reduceEq, qqC, AOp.loud, AOp.births, Int.reduceAdd, Int.reduceSub, Int.reduceMul, Int.reduceNeg, Int.reduceToNat, AP.f105]
    · simp (disch := omega) only [go_sem, abin_shl, abin_shr, Nat.reduceEqDiff, reduceIte, Nat.reduceAdd, Nat.reduceMul, Nat.reduceLT, Nat.reduceLeDiff, Int.reduceBEq, Int.reduceBNe, Int.reduceLT, Int.reduceLE, Int.reduceEq, qqC, AOp.loud, AOp.births, Int.reduceAdd, Int.reduceSub, Int.reduceMul, Int.reduceNeg, Int.reduceToNat, AP.f105]
  · simp (disch := omega) only [go_sem, abin_shl, abin_shr, Nat.reduceEqDiff, reduceIte, Nat.reduceAdd, Nat.reduceMul, Nat.reduceLT, Nat.reduceLeDiff, Int.reduceBEq, Int.reduceBNe, Int.reduceLT, Int.reduceLE, Int.reduceEq, qqC, AOp.loud, AOp.births, Int.reduceAdd, Int.reduceSub, Int.reduceMul, Int.reduceNeg, Int.reduceToNat, AP.f105]
def crcA (s : ByteArray) : Nat := joinA 0 s
theorem of_crc_c (h : H) (s : ByteArray) (hs : s.size < 1125899906842624) : callW AP.A 115 [.str s] h = some (.int .i64 (crcA s : Nat), h) := by
  have k1 := join_c h.fence s 0 (by omega) hs
  have k1' : callW AP.A 103 [.int .i64 0, .str s] h.fence = some (.int .i64 (crcA s : Nat), h.fence) := k1
  refine pure_c (fn := AP.f115) (h2 := h.fence) (e := [(2, .int .i64 (crcA s : Nat))]) rfl rfl rfl ?_ rfl rfl
  simp (disch := omega) only [go_sem, abin_shl, abin_shr, Nat.reduceEqDiff, reduceIte, Nat.reduceAdd, Nat.reduceMul, Nat.reduceLT, Nat.reduceLeDiff, Int.reduceBEq, Int.reduceBNe, Int.reduceLT, Int.reduceLE, Int.reduceEq, qqC, AOp.loud, AOp.births, Int.reduceAdd, Int.reduceSub, Int.reduceMul, Int.reduceNeg, Int.reduceToNat, AP.f115, k1']
theorem turn_bits (a d : AV) (h : H) : ∀ (n c k : Nat), k + n = 8 → c < 4294967296 →
    ∃ e', Lp AP.A [0, 1, 5, 6] AP.f111L0 [(0, .int .u32 c), (1, a), (5, d), (6, .int .i64 k)] h = some (.exit 2, e', h) ∧ look e' 1 = a ∧ look e' 0 = .int .u32 (crcBits n c : Nat) ∧ look e' 5 = d
  | 0, c, k, hk, hc => by
    refine ⟨[(0, .int .u32 c), (1, a), (5, d), (6, .int .i64 k), (20, .bool false)], Lp_exit ?_, rfl, rfl, rfl⟩
    simp (disch := omega) only [go_sem, abin_shl, abin_shr, Nat.reduceEqDiff, reduceIte, Nat.reduceAdd, Nat.reduceMul, Nat.reduceLT, Nat.reduceLeDiff, Int.reduceBEq, Int.reduceBNe, Int.reduceLT, Int.reduceLE, Int.reduceEq, qqC, AOp.loud, AOp.births, Int.reduceAdd, Int.reduceSub, Int.reduceMul, Int.reduceNeg, Int.reduceToNat, AP.f111L0]
  | n + 1, c, k, hk, hc => by
    obtain ⟨e', r1, r2, r3, r4⟩ := turn_bits a d h n (crcBit c) (k + 1) (by omega) (crcBit_lt hc)
    have n1 : ((k + 1 : Nat) : Int) = (k : Int) + 1 := by omega
    have x1 := bits_xor32 (a := c / 2) (b := 3988292384) (by omega) (by omega)
    have a1 := bits_and32 hc
    have s1 := shr_u32 hc
    refine ⟨e', Lp_next ?_ r1, r2, r3, r4⟩
    rw [n1]
    unfold crcBit
    by_cases p : c % 2 = 1
    · rw [if_pos p]
      rw [show ((3988292384 : Nat) : Int) = 3988292384 from rfl] at x1
      simp (disch := omega) only [go_sem, abin_shl, abin_shr, Nat.reduceEqDiff, reduceIte, Nat.reduceAdd, Nat.reduceMul, Nat.reduceLT, Nat.reduceLeDiff, Int.reduceBEq, Int.reduceBNe, Int.reduceLT, Int.reduceLE, Int.reduceEq, qqC, AOp.loud, AOp.births, Int.reduceAdd, Int.reduceSub, Int.reduceMul, Int.reduceNeg, Int.reduceToNat, AP.f111L0, a1, s1, x1]
    · rw [if_neg p]
      simp (disch := omega) only [go_sem, abin_shl, abin_shr, Nat.reduceEqDiff, reduceIte, Nat.reduceAdd, Nat.reduceMul, Nat.reduceLT, Nat.reduceLeDiff, Int.reduceBEq, Int.reduceBNe, Int.reduceLT, Int.reduceLE, Int.reduceEq, qqC, AOp.loud, AOp.births, Int.reduceAdd, Int.reduceSub, Int.reduceMul, Int.reduceNeg, Int.reduceToNat, AP.f111L0, a1, s1]
theorem turn_loop (s : ByteArray) (hs : s.size < 1125899906842624) (h : H) : ∀ (n i c : Nat), i + n = s.size → c < 4294967296 →
    ∃ e', Lp AP.A [0, 1, 5] AP.f111L1 [(0, .int .u32 c), (1, .str s), (5, .int .i64 i)] h = some (.exit 0, e', h) ∧ look e' 0 = .int .u32 (crcRun s n i c : Nat)
  | 0, i, c, hi, hc => by
    refine ⟨[(0, .int .u32 c), (1, .str s), (5, .int .i64 i), (10, .bool false)], Lp_exit ?_, rfl⟩
    simp (disch := omega) only [go_sem, abin_shl, abin_shr, Nat.reduceEqDiff, reduceIte, Nat.reduceAdd, Nat.reduceMul, Nat.reduceLT, Nat.reduceLeDiff, Int.reduceBEq, Int.reduceBNe, Int.reduceLT, Int.reduceLE, Int.reduceEq, qqC, AOp.loud, AOp.births, Int.reduceAdd, Int.reduceSub, Int.reduceMul, Int.reduceNeg, Int.reduceToNat, AP.f111L1]
  | n + 1, i, c, hi, hc => by
    have hb := byN_lt s i
    obtain ⟨e', r1, r2⟩ := turn_loop s hs h n (i + 1) (crcByte c (byN s i)) (by omega) (crcByte_lt hc hb)
    obtain ⟨e1, q1, q2, q3, q4⟩ := turn_bits (.str s) (.int .i64 i) h 8 (c ^^^ byN s i) 0 rfl (xor_lt32 hc (by omega))
    have q1' : Lp AP.A [0, 1, 5, 6] AP.f111L0 [(0, .int .u32 (c ^^^ byN s i : Nat)), (1, .str s), (5, .int .i64 i), (6, .int .i64 0)] h = some (.exit 2, e1, h) := q1
    clear q1
    have x1 := bits_xor32 hc (show byN s i < 4294967296 by omega)
    have n1 : ((i + 1 : Nat) : Int) = (i : Int) + 1 := by omega
    refine ⟨e', Lp_next ?_ r1, r2⟩
    rw [n1]
    unfold crcByte
    simp (disch := omega) only [go_sem, abin_shl, abin_shr, Nat.reduceEqDiff, reduceIte, Nat.reduceAdd, Nat.reduceMul, Nat.reduceLT, Nat.reduceLeDiff, Int.reduceBEq, Int.reduceBNe, Int.reduceLT, Int.reduceLE, Int.reduceEq, qqC, AOp.loud, AOp.births, Int.reduceAdd, Int.reduceSub, Int.reduceMul, Int.reduceNeg, Int.reduceToNat, AP.f111L1, wu, x1, evC_loop, q1', q2, q3, q4]
theorem turn_c (h : H) (s : ByteArray) (c : Nat) (hc : c < 4294967296) (hs : s.size < 1125899906842624) : callW AP.A 111 [.int .u32 c, .str s] h = some (.int .u32 (crcRun s s.size 0 c : Nat), h) := by
  obtain ⟨e', r1, r2⟩ := turn_loop s hs h.fence s.size 0 c (by omega) hc
  have r1' : Lp AP.A [0, 1, 5] AP.f111L1 [(0, .int .u32 c), (1, .str s), (5, .int .i64 0)] h.fence = some (.exit 0, e', h.fence) := r1
  clear r1
  refine pure_c (fn := AP.f111) (h2 := h.fence) (e := [(4, .int .u32 (crcRun s s.size 0 c : Nat))]) rfl rfl rfl ?_ rfl rfl
  simp (disch := omega) only [go_sem, abin_shl, abin_shr, Nat.reduceEqDiff, reduceIte, Nat.reduceAdd, Nat.reduceMul, Nat.reduceLT, Nat.reduceLeDiff, Int.reduceBEq, Int.reduceBNe, Int.reduceLT, Int.reduceLE, Int.reduceEq, qqC, AOp.loud, AOp.births, Int.reduceAdd, Int.reduceSub, Int.reduceMul, Int.reduceNeg, Int.reduceToNat, AP.f111, evC_loop, r1', r2]
theorem crc2_c (h : H) (s : ByteArray) (hs : s.size < 1125899906842624) : callW AP.A 101 [.str s] h = some (.int .i64 (crcA s : Nat), h) := by
  have k1 := turn_c h.fence s 4294967295 (by omega) hs
  have k1' : callW AP.A 111 [.int .u32 4294967295, .str s] h.fence = some (.int .u32 (crcRun s s.size 0 4294967295 : Nat), h.fence) := k1
  have lt := crcRun_lt s s.size 0 (c := 4294967295) (by omega)
  have v2 : ∀ g : H, invI g (.int .u32 (crcRun s s.size 0 4294967295 : Nat)) = some (.int .u32 (crcA s : Nat), g) := fun g => inv_u32 lt
  have lt2 := joinA_lt 0 s
  unfold crcA at v2 ⊢
  refine pure_c (fn := AP.f101) (h2 := h.fence) (e := [(2, .int .i64 (joinA 0 s : Nat))]) rfl rfl rfl ?_ rfl rfl
  simp (disch := omega) only [go_sem, abin_shl, abin_shr, Nat.reduceEqDiff, reduceIte, Nat.reduceAdd, Nat.reduceMul, Nat.reduceLT, Nat.reduceLeDiff, Int.reduceBEq, Int.reduceBNe, Int.reduceLT, Int.reduceLE, Int.reduceEq, qqC, AOp.loud, AOp.births, Int.reduceAdd, Int.reduceSub, Int.reduceMul, Int.reduceNeg, Int.reduceToNat, AP.f101, k1', v2]
end Ab
set_option linter.unusedSimpArgs false
set_option linter.unusedVariables false
set_option maxRecDepth 100000
namespace Ab
open Go
theorem shr_i64n {a s : Nat} (hs : s ≤ 64) : shft .shr .i64 (a : Int) (s : Int) = some (.int .i64 ((a / 2 ^ s : Nat) : Int)) := by
  unfold shft
  rw [if_neg (by omega)]
  simp only [IntKind.bits, Int.toNat_natCast, Nat.min_eq_left hs]
  rw [Int.fdiv_eq_ediv_of_nonneg _ (Int.pow_nonneg (by omega))]
  simp
theorem wrap_u8n (n : Nat) : IntKind.wrap .u8 (n : Int) = ((n % 256 : Nat) : Int) := by rw [wrap_u8']; omega
def lowAt (x i : Nat) : Nat := x / 2 ^ (8 * i) % 256
def lowL (x k : Nat) : List Nat := (List.range k).map (lowAt x)
theorem lowL_succ (x k : Nat) : lowL x (k + 1) = lowL x k ++ [lowAt x k] := by simp [lowL, List.range_succ]
theorem lowL_len (x k : Nat) : (lowL x k).length = k := by simp [lowL]
def lowA (x k : Nat) : ByteArray := bytesOf (lowL x k)
theorem b2s_ownN {h : H} {v : AV} {k : Nat} {l : List Nat} (o : OwnN 1 h v k (bys l)) : b2sB h v (srcCells h 1 v) = some (.str (bytesOf l), h) := by
  rw [o.rd.1]
  simp only [b2sB, Option.bind_some, b2s_bys]
  rcases o.2 with ⟨rfl, _⟩ | ⟨id, rfl, _⟩ <;> rfl
theorem bys_append (a b : List Nat) : bys (a ++ b) = bys a ++ bys b := by simp [bys]
theorem bytes_loop (x : Nat) (k : Nat) (hk : k ≤ 8) : ∀ (m i : Nat) (h : H) (ov : AV), i + m = k → OwnN 1 h ov i (bys (lowL x i)) → h.floor ≤ h.next →
    ∃ e' h' ov', Lp AP.A [0, 1, 5, 6] AP.f161L0 [(0, .int .i64 x), (1, .int .i64 k), (5, ov), (6, .int .i64 i)] h = some (.exit 0, e', h') ∧ look e' 5 = ov' ∧ OwnN 1 h' ov' k (bys (lowL x k))
  | 0, i, h, ov, hi, o, hf => by
    obtain rfl : i = k := by omega
    refine ⟨[(0, .int .i64 x), (1, .int .i64 i), (5, ov), (6, .int .i64 i), (9, .bool false)], h, ov, Lp_exit ?_, rfl, o⟩
    simp (disch := omega) only [go_sem, abin_shl, abin_shr, Nat.reduceEqDiff, reduceIte, Nat.reduceAdd, Nat.reduceMul, Nat.reduceLT, Nat.reduceLeDiff, Int.reduceBEq, Int.reduceBNe, Int.reduceLT, Int.reduceLE, Int.reduceEq, qqC, AOp.loud, AOp.births, Int.reduceAdd, Int.reduceSub, Int.reduceMul, Int.reduceNeg, Int.reduceToNat, AP.f161L0]
  | m + 1, i, h, ov, hi, o, hf => by
    obtain ⟨v', h', p1, p2, p3, p4, p5, p6⟩ := o.push hf (z := 1) (m := 1) (by omega) (by omega) (bys [lowAt x i]) rfl rfl (by simp [roomy]; omega)
    rw [← bys_append, ← lowL_succ] at p2
    obtain ⟨e', h2, ov', r1, r2, r3⟩ := bytes_loop x k hk m (i + 1) h' v' (by omega) p2 (by omega)
    have n1 : ((i + 1 : Nat) : Int) = (i : Int) + 1 := by omega
    have n2 : (8 : Int) * (i : Int) = ((8 * i : Nat) : Int) := by omega
    have s1 := shr_i64n (a := x) (s := 8 * i) (by omega)
    have w1 := wrap_u8n (x / 2 ^ (8 * i))
    simp only [bys, List.map_cons, List.map_nil, lowAt] at p1
    refine ⟨e', h2, ov', Lp_next ?_ r1, r2, r3⟩
    rw [n1]
    simp (disch := omega) only [go_sem, abin_shl, abin_shr, Nat.reduceEqDiff, reduceIte, Nat.reduceAdd, Nat.reduceMul, Nat.reduceLT, Nat.reduceLeDiff, Int.reduceBEq, Int.reduceBNe, Int.reduceLT, Int.reduceLE, Int.reduceEq, qqC, AOp.loud, AOp.births, Int.reduceAdd, Int.reduceSub, Int.reduceMul, Int.reduceNeg, Int.reduceToNat, AP.f161L0, n2, s1, w1, p1]
theorem bytes_c (h : H) (x k : Nat) (hk : k ≤ 8) : callW AP.A 161 [.int .i64 x, .int .i64 k] h = some (.str (lowA x k), h) := by
  obtain ⟨e', h', ov', r1, r2, r3⟩ := bytes_loop x k hk k 0 h.fence .nils (by omega) (by simpa [lowL, bys] using OwnN.nil) (by simp)
  have r1' : Lp AP.A [0, 1, 5, 6] AP.f161L0 [(0, .int .i64 x), (1, .int .i64 k), (5, .nils), (6, .int .i64 0)] h.fence = some (.exit 0, e', h') := r1
  clear r1
  have b := b2s_ownN r3
  refine pure_c (fn := AP.f161) (h2 := h') (e := [(4, .str (lowA x k))]) rfl rfl rfl ?_ rfl rfl
  unfold lowA
  simp (disch := omega) only [go_sem, abin_shl, abin_shr, Nat.reduceEqDiff, reduceIte, Nat.reduceAdd, Nat.reduceMul, Nat.reduceLT, Nat.reduceLeDiff, Int.reduceBEq, Int.reduceBNe, Int.reduceLT, Int.reduceLE, Int.reduceEq, qqC, AOp.loud, AOp.births, Int.reduceAdd, Int.reduceSub, Int.reduceMul, Int.reduceNeg, Int.reduceToNat, AP.f161, evC_loop, r1', r2, b]
theorem low_loop (x k id : Nat) (hk : k ≤ 8) : ∀ (m i : Nat) (h : H), i + m = k → h.get id = some (bys (lowL x i ++ List.replicate m 0)) → h.floor ≤ id →
    ∃ e' h', Lp AP.A [0, 5, 10, 11] AP.f104L0 [(0, .int .i64 x), (5, .sobj id 0 k 1), (10, .int .i64 k), (11, .int .i64 i)] h = some (.exit 0, e', h') ∧ look e' 5 = .sobj id 0 k 1 ∧ h'.get id = some (bys (lowL x k)) ∧ h'.floor = h.floor
  | 0, i, h, hi, hg, hf => by
    obtain rfl : i = k := by omega
    refine ⟨[(0, .int .i64 x), (5, .sobj id 0 i 1), (10, .int .i64 i), (11, .int .i64 i), (12, .bool false)], h, Lp_exit ?_, rfl, by simpa using hg, rfl⟩
    simp (disch := omega) only [go_sem, abin_shl, abin_shr, Nat.reduceEqDiff, reduceIte, Nat.reduceAdd, Nat.reduceMul, Nat.reduceLT, Nat.reduceLeDiff, Int.reduceBEq, Int.reduceBNe, Int.reduceLT, Int.reduceLE, Int.reduceEq, qqC, AOp.loud, AOp.births, Int.reduceAdd, Int.reduceSub, Int.reduceMul, Int.reduceNeg, Int.reduceToNat, AP.f104L0]
  | m + 1, i, h, hi, hg, hf => by
    have g2 : (h.set id (bys (lowL x (i + 1) ++ List.replicate m 0))).get id = some (bys (lowL x (i + 1) ++ List.replicate m 0)) := by rw [set_hit rfl, hg]; rfl
    obtain ⟨e', h', r1, r2, r3, r4⟩ := low_loop x k id hk m (i + 1) _ (by omega) g2 (by simpa using hf)
    have n1 : ((i + 1 : Nat) : Int) = (i : Int) + 1 := by omega
    have n2 : (8 : Int) * (i : Int) = ((8 * i : Nat) : Int) := by omega
    have s1 := shr_i64n (a := x) (s := 8 * i) (by omega)
    have w1 := wrap_u8n (x / 2 ^ (8 * i))
    have st : stO h id i 1 [.int .u8 ((x / 2 ^ (8 * i) % 256 : Nat) : Int)] (some (bys (lowL x i ++ List.replicate (m + 1) 0))) = some (h.set id (bys (lowL x (i + 1) ++ List.replicate m 0))) := by
      rw [stO_1 hf (by simp [lowL_len]) rfl]
      congr 2
      rw [lowL_succ, bys_append, bys_append, bys_append, List.set_append_right _ _ (by simp [lowL_len]), List.append_assoc]
      simp [lowL_len, bys, List.replicate_succ, lowAt]
    refine ⟨e', h', Lp_next ?_ r1, r2, r3, by rw [r4]; simp⟩
    rw [n1]
    simp (disch := omega) only [go_sem, abin_shl, abin_shr, Nat.reduceEqDiff, reduceIte, Nat.reduceAdd, Nat.reduceMul, Nat.reduceLT, Nat.reduceLeDiff, Int.reduceBEq, Int.reduceBNe, Int.reduceLT, Int.reduceLE, Int.reduceEq, qqC, AOp.loud, AOp.births, Int.reduceAdd, Int.reduceSub, Int.reduceMul, Int.reduceNeg, Int.reduceToNat, AP.f104L0, n2, s1, w1, hg, st]
theorem low_c (h : H) (x k : Nat) (hk : k ≤ 8) (hk0 : 0 < k) : callW AP.A 104 [.int .i64 x, .int .i64 k] h = some (.str (lowA x k), h) := by
  obtain ⟨h1, eh1⟩ : ∃ g, g = h.fence.alloc (replM k [.int .u8 0]) := ⟨_, rfl⟩
  have hz : replM k [.int .u8 0] = bys (lowL x 0 ++ List.replicate k 0) := by
    unfold replM; rw [repl_1]; simp [bys, lowL]
  have g1 : h1.get h.next = some (bys (lowL x 0 ++ List.replicate k 0)) := by rw [eh1, get_hit (by simp), hz]
  obtain ⟨e', h', r1, r2, r3, r4⟩ := low_loop x k h.next hk k 0 h1 (by omega) g1 (by rw [eh1]; simp)
  have r1' : Lp AP.A [0, 5, 10, 11] AP.f104L0 [(0, .int .i64 x), (5, .sobj h.next 0 k 1), (10, .int .i64 k), (11, .int .i64 0)] h1 = some (.exit 0, e', h') := r1
  clear r1
  have o : OwnN 1 h' (.sobj h.next 0 k 1) k (bys (lowL x k)) := ⟨by simp [lowL_len], .inr ⟨h.next, rfl, r3, by rw [r4, eh1]; simp, hk0⟩⟩
  have b := b2s_ownN o
  have hn : h.fence.next = h.next := rfl
  refine pure_c (fn := AP.f104) (h2 := h') (e := [(4, .str (lowA x k))]) rfl rfl rfl ?_ rfl rfl
  unfold lowA
  simp (disch := omega) only [go_sem, abin_shl, abin_shr, Nat.reduceEqDiff, reduceIte, Nat.reduceAdd, Nat.reduceMul, Nat.reduceLT, Nat.reduceLeDiff, Int.reduceBEq, Int.reduceBNe, Int.reduceLT, Int.reduceLE, Int.reduceEq, qqC, AOp.loud, AOp.births, Int.reduceAdd, Int.reduceSub, Int.reduceMul, Int.reduceNeg, Int.reduceToNat, AP.f104, evC_loop, hn, ← eh1, r1', r2, b]
end Ab
set_option linter.unusedSimpArgs false
set_option linter.unusedVariables false
set_option maxRecDepth 100000
namespace Ab
open Go
theorem aixk {k : IntKind} {i : Int} {n : Nat} (h : 0 ≤ i ∧ i < n) : aidx (.int k i) n = some i.toNat := by simp [aidx, asI, h]
def okB (b : Nat) : Bool := decide (97 ≤ b ∧ b ≤ 122 ∨ 48 ≤ b ∧ b ≤ 57 ∨ b = 46 ∨ b = 45 ∨ b = 95)
def setB (s : ByteArray) : Nat → Nat → Bool
  | 0, _ => false
  | n + 1, i => decide (i = byN s n) || setB s n i
def ofS : ByteArray := ⟨#[97, 98, 99, 100, 101, 102, 103, 104, 105, 106, 107, 108, 109, 110, 111, 112, 113, 114, 115, 116, 117, 118, 119, 120, 121, 122, 48, 49, 50, 51, 52, 53, 54, 55, 56, 57, 46, 45, 95]⟩
def bT (P : Nat → Bool) : List AV := tab 256 fun i => .bool (P i)
theorem bT_len (P : Nat → Bool) : (bT P).length = 256 := by simp [bT]
theorem bT_get (P : Nat → Bool) {i : Nat} (h : i < 256) : (bT P)[i]? = some (.bool (P i)) := tab_get h
theorem bT_set (s : ByteArray) (n : Nat) : (bT (setB s n)).set (byN s n) (.bool true) = bT (setB s (n + 1)) := by
  unfold bT
  rw [tab_set (byN_lt s n)]
  congr 1
  funext i
  have e : setB s (n + 1) i = (decide (i = byN s n) || setB s n i) := rfl
  rw [e]
  unfold upd
  by_cases h : i = byN s n
  · simp [h]
  · simp [h]
theorem bT_of : bT (setB ofS 39) = bT okB := by
  unfold bT tab
  refine List.map_congr_left fun i hi => ?_
  have hi' : i < 256 := List.mem_range.1 hi
  have : ∀ i, i < 256 → setB ofS 39 i = okB i := by decide +kernel
  rw [this i hi']
theorem mapO_bools (g : Nat → Option (List AV)) (fl n : Nat) (t : Bool) : ∀ l : List Bool, mapO (snap g fl (n + 1) t) (l.map .bool) = some (l.map .bool)
  | [] => rfl
  | b :: l => by
    have := mapO_bools g fl n t l
    simp only [List.map_cons, mapO, this]; rfl
theorem mapO_bT (g : Nat → Option (List AV)) (fl n : Nat) (t : Bool) (P : Nat → Bool) : mapO (snap g fl (n + 1) t) (bT P) = some (bT P) := by
  have e : bT P = ((List.range 256).map P).map .bool := by unfold bT tab; rw [List.map_map]; rfl
  rw [e]; exact mapO_bools g fl n t _
theorem bir_al (e : Env) : birth e (.alloc [.bool false, .bool false, .bool false, .bool false, .bool false, .bool false, .bool false, .bool false, .bool false, .bool false, .bool false, .bool false, .bool false, .bool false, .bool false, .bool false, .bool false, .bool false, .bool false, .bool false, .bool false, .bool false, .bool false, .bool false, .bool false, .bool false, .bool false, .bool false, .bool false, .bool false, .bool false, .bool false, .bool false, .bool false, .bool false, .bool false, .bool false, .bool false, .bool false, .bool false, .bool false, .bool false, .bool false, .bool false, .bool false, .bool false, .bool false, .bool false, .bool false, .bool false, .bool false, .bool false, .bool false, .bool false, .bool false, .bool false, .bool false, .bool false, .bool false, .bool false, .bool false, .bool false, .bool false, .bool false, .bool false, .bool false, .bool false, .bool false, .bool false, .bool false, .bool false, .bool false, .bool false, .bool false, .bool false, .bool false, .bool false, .bool false, .bool false, .bool false, .bool false, .bool false, .bool false, .bool false, .bool false, .bool false, .bool false, .bool false, .bool false, .bool false, .bool false, .bool false, .bool false, .bool false, .bool false, .bool false, .bool false, .bool false, .bool false, .bool false, .bool false, .bool false, .bool false, .bool false, .bool false, .bool false, .bool false, .bool false, .bool false, .bool false, .bool false, .bool false, .bool false, .bool false, .bool false, .bool false, .bool false, .bool false, .bool false, .bool false, .bool false, .bool false, .bool false, .bool false, .bool false, .bool false, .bool false, .bool false, .bool false, .bool false, .bool false, .bool false, .bool false, .bool false, .bool false, .bool false, .bool false, .bool false, .bool false, .bool false, .bool false, .bool false, .bool false, .bool false, .bool false, .bool false, .bool false, .bool false, .bool false, .bool false, .bool false, .bool false, .bool false, .bool false, .bool false, .bool false, .bool false, .bool false, .bool false, .bool false, .bool false, .bool false, .bool false, .bool false, .bool false, .bool false, .bool false, .bool false, .bool false, .bool false, .bool false, .bool false, .bool false, .bool false, .bool false, .bool false, .bool false, .bool false, .bool false, .bool false, .bool false, .bool false, .bool false, .bool false, .bool false, .bool false, .bool false, .bool false, .bool false, .bool false, .bool false, .bool false, .bool false, .bool false, .bool false, .bool false, .bool false, .bool false, .bool false, .bool false, .bool false, .bool false, .bool false, .bool false, .bool false, .bool false, .bool false, .bool false, .bool false, .bool false, .bool false, .bool false, .bool false, .bool false, .bool false, .bool false, .bool false, .bool false, .bool false, .bool false, .bool false, .bool false, .bool false, .bool false, .bool false, .bool false, .bool false, .bool false, .bool false, .bool false, .bool false, .bool false, .bool false, .bool false, .bool false, .bool false, .bool false, .bool false, .bool false, .bool false, .bool false, .bool false, .bool false, .bool false, .bool false, .bool false, .bool false, .bool false, .bool false, .bool false, .bool false, .bool false, .bool false, .bool false, .bool false, .bool false]) = some (bT fun _ => false, fun i => .pobj i 0) := rfl
theorem mk_loop (s : ByteArray) (hs : s.size < 100000) (h7 : ∀ i, i < s.size → byN s i < 128) (id : Nat) : ∀ (m n : Nat) (h : H), n + m = s.size → h.get id = some (bT (setB s n)) → h.floor ≤ id →
    ∃ e' h', Lp AP.A [0, 2, 4] AP.f127L0 [(0, .str s), (2, .pobj id 0), (4, .int .i64 n)] h = some (.exit 0, e', h') ∧ look e' 2 = .pobj id 0 ∧ h'.get id = some (bT (setB s s.size)) ∧ h'.floor = h.floor
  | 0, n, h, hn, hg, hf => by
    obtain rfl : n = s.size := by omega
    refine ⟨[(0, .str s), (2, .pobj id 0), (4, .int .i64 s.size), (9, .bool false)], h, Lp_exit ?_, rfl, hg, rfl⟩
    simp (disch := omega) only [go_sem, abin_shl, abin_shr, Nat.reduceEqDiff, reduceIte, Nat.reduceAdd, Nat.reduceMul, Nat.reduceLT, Nat.reduceLeDiff, Int.reduceBEq, Int.reduceBNe, Int.reduceLT, Int.reduceLE, Int.reduceEq, qqC, AOp.loud, AOp.births, Int.reduceAdd, Int.reduceSub, Int.reduceMul, Int.reduceNeg, Int.reduceToNat, AP.f127L0]
  | m + 1, n, h, hn, hg, hf => by
    have g2 : (h.set id (bT (setB s (n + 1)))).get id = some (bT (setB s (n + 1))) := by rw [set_hit rfl, hg]; rfl
    obtain ⟨e', h', r1, r2, r3, r4⟩ := mk_loop s hs h7 id m (n + 1) _ (by omega) g2 (by simpa using hf)
    have n1 : ((n + 1 : Nat) : Int) = (n : Int) + 1 := by omega
    have hb := byN_lt s n
    have hb7 := h7 n (by omega)
    have ia : aidx (.int .u8 (byN s n : Nat)) 256 = some (byN s n) := by rw [aixk (by omega)]; rfl
    have st : stO h id (byN s n) 1 [.bool true] (some (bT (setB s n))) = some (h.set id (bT (setB s (n + 1)))) := by rw [stO_1 hf (by rw [bT_len]; exact hb) rfl, bT_set]
    refine ⟨e', h', Lp_next ?_ r1, r2, r3, by rw [r4]; simp⟩
    rw [n1]
    generalize bT (setB s n) = T at *
    generalize bT (setB s (n + 1)) = T2 at *
    simp (disch := omega) only [go_sem, abin_shl, abin_shr, Nat.reduceEqDiff, reduceIte, Nat.reduceAdd, Nat.reduceMul, Nat.reduceLT, Nat.reduceLeDiff, Int.reduceBEq, Int.reduceBNe, Int.reduceLT, Int.reduceLE, Int.reduceEq, qqC, AOp.loud, AOp.births, Int.reduceAdd, Int.reduceSub, Int.reduceMul, Int.reduceNeg, Int.reduceToNat, AP.f127L0, ia, hg, st]
theorem stO_all {h : H} {id n : Nat} {v cs : List AV} (hf : h.floor ≤ id) (hv : v.length = n) (hc : cs.length = n) (hs : AV.allsc v = true) : stO h id 0 n v (some cs) = some (h.set id v) := by
  rw [stO_d]
  have e : setFrom cs 0 v = v := by
    have := setFrom_mid cs v [] [] (by omega)
    simpa using this
  simp [hf, hv, hc, hs, e, condO]
theorem bT_sc (P : Nat → Bool) : AV.allsc (bT P) = true := by
  have e : bT P = ((List.range 256).map P).map .bool := by unfold bT tab; rw [List.map_map]; rfl
  rw [e]
  generalize (List.range 256).map P = l
  induction l with
  | nil => rfl
  | cons b l ih => simp [ih]
theorem rdc_bT (P : Nat → Bool) : rdc true 256 (bT P) 0 = some (.agg (bT P)) := by
  simp only [rdc, if_true]
  rw [if_pos (by rw [bT_len]; omega), List.drop_zero, List.take_of_length_le (by rw [bT_len]; omega)]
theorem mkset_c (h : H) (s : ByteArray) (hs : s.size < 100000) (h7 : ∀ i, i < s.size → byN s i < 128) : callW AP.A 127 [.str s] h = some (.tup [.agg (bT (setB s s.size)), .bool true], h) := by
  obtain ⟨h1, eh1⟩ : ∃ g, g = h.fence.alloc (bT fun _ => false) := ⟨_, rfl⟩
  have g1 : h1.get h.next = some (bT (setB s 0)) := by rw [eh1, get_hit (by simp)]; rfl
  obtain ⟨e', h', r1, r2, r3, r4⟩ := mk_loop s hs h7 h.next s.size 0 h1 (by omega) g1 (by rw [eh1]; simp)
  have r1' : Lp AP.A [0, 2, 4] AP.f127L0 [(0, .str s), (2, .pobj h.next 0), (4, .int .i64 0)] h1 = some (.exit 0, e', h') := r1
  clear r1
  obtain ⟨h2, eh2⟩ : ∃ g, g = h'.set h.next (bT (setB s s.size)) := ⟨_, rfl⟩
  have st : stO h' h.next 0 256 (bT (setB s s.size)) (some (bT (setB s s.size))) = some h2 := by
    rw [stO_all (by rw [r4, eh1]; simp) (bT_len _) (bT_len _) (bT_sc _), eh2]
  have g2 : h2.get h.next = some (bT (setB s s.size)) := by rw [eh2, set_hit rfl, r3]; rfl
  have hn : h.fence.next = h.next := rfl
  have rd := rdc_bT (setB s s.size)
  refine pure_c (fn := AP.f127) (h2 := h2) (e := [(2, .pobj h.next 0), (3, .bool true)]) (vs := [.agg (bT (setB s s.size)), .bool true]) rfl rfl rfl ?_ ?_ ?_
  · generalize bT (setB s s.size) = T at *
    simp (disch := omega) only [go_sem, abin_shl, abin_shr, Nat.reduceEqDiff, reduceIte, Nat.reduceAdd, Nat.reduceMul, Nat.reduceLT, Nat.reduceLeDiff, Int.reduceBEq, Int.reduceBNe, Int.reduceLT, Int.reduceLE, Int.reduceEq, AP.f127, bir_al, hn, ← eh1, evC_loop, r1', r2, r3, rd, st]
  · simp only [AP.f127, resAll, resOf, look_hit, load_o, g2, rdO_s, rd, look_miss, ne_eq, Nat.reduceEqDiff, not_false_eq_true]
    rfl
  · show (mapO (snap h2.get h.next 15 true) [.agg (bT (setB s s.size)), .bool true]).bind _ = _
    have m1 : snap h2.get h.next 15 true (.agg (bT (setB s s.size))) = some (.agg (bT (setB s s.size))) := by
      unfold snap; rw [mapO_bT]; rfl
    simp only [mapO, m1]; rfl
theorem has_c (h : H) (id b : Nat) (P : Nat → Bool) (hg : h.get id = some (bT P)) (hb : b < 256) : callW AP.A 132 [.pobj id 0, .int .u8 b] h = some (.bool (P b), h) := by
  have ia : aidx (.int .u8 b) 256 = some b := by rw [aixk (by omega)]; congr 1
  have g := bT_get P hb
  refine plain_c (fn := AP.f132) (h2 := h) (e := [(4, .bool (P b))]) (vs := [.bool (P b)]) rfl rfl rfl ?_ rfl
  generalize bT P = T at *
  simp (disch := omega) only [go_sem, abin_shl, abin_shr, Nat.reduceEqDiff, reduceIte, Nat.reduceAdd, Nat.reduceMul, Nat.reduceLT, Nat.reduceLeDiff, Int.reduceBEq, Int.reduceBNe, Int.reduceLT, Int.reduceLE, Int.reduceEq, qqC, AOp.loud, AOp.births, Int.reduceAdd, Int.reduceSub, Int.reduceMul, Int.reduceNeg, Int.reduceToNat, AP.f132, ia, hg, g]
theorem asls_hi' {s : ByteArray} {n : Nat} (hn : n ≤ s.size) : asls (.str s) none (some (.int .i64 n)) = some (.str (s.extract 0 n)) := asls_hi hn
theorem asls_lo {s : ByteArray} {n : Nat} (hn : n ≤ s.size) : asls (.str s) (some (.int .i64 n)) none = some (.str (s.extract n s.size)) := by
  have : sbound (.int .i64 n) s.size = some n := sb_of hn
  simp [asls, osbound, this]
theorem byN_ext {s : ByteArray} {a b i : Nat} (hb : b ≤ s.size) (hi : a + i < b) : byN (s.extract a b) i = byN s (a + i) := by
  have e : (s.extract a b)[i]? = s[a + i]? := by
    show (s.extract a b).data[i]? = s.data[a + i]?
    rw [ByteArray.data_extract, Array.getElem?_extract]
    have : s.data.size = s.size := rfl
    rw [if_pos (by omega)]
  unfold byN; rw [e]
theorem size_ext {s : ByteArray} {a b : Nat} (hb : b ≤ s.size) : (s.extract a b).size = b - a := by simp [ByteArray.size_extract]; omega
theorem ext_all (s : ByteArray) : s.extract 0 s.size = s := by
  apply ByteArray.ext
  rw [ByteArray.data_extract]
  exact Array.extract_size
theorem ext_ext (s : ByteArray) {n m : Nat} (hm : m ≤ n) : (s.extract 0 n).extract 0 m = s.extract 0 m := by
  apply ByteArray.ext
  rw [ByteArray.data_extract, ByteArray.data_extract, ByteArray.data_extract, Array.extract_extract]
  simp [hm]
theorem right_loop (id : Nat) (P : Nat → Bool) (h : H) (hg : h.get id = some (bT P)) : ∀ (n : Nat) (s : ByteArray), s.size = n → n < 100000 →
    ∃ e' m, Lp AP.A [0, 1] AP.f129L0 [(0, .str s), (1, .pobj id 0)] h = some (.exit 0, e', h) ∧ look e' 0 = .str (s.extract 0 m) ∧ m ≤ s.size ∧ (∀ i, m ≤ i → i < s.size → P (byN s i) = true) ∧ (0 < m → P (byN s (m - 1)) = false)
  | 0, s, hs, hn => by
    refine ⟨[(0, .str s), (1, .pobj id 0), (7, .bool false)], 0, Lp_exit ?_, ?_, by omega, fun i h1 h2 => by omega, fun q => by omega⟩
    · simp (disch := omega) only [go_sem, abin_shl, abin_shr, Nat.reduceEqDiff, reduceIte, Nat.reduceAdd, Nat.reduceMul, Nat.reduceLT, Nat.reduceLeDiff, Int.reduceBEq, Int.reduceBNe, Int.reduceLT, Int.reduceLE, Int.reduceEq, qqC, AOp.loud, AOp.births, Int.reduceAdd, Int.reduceSub, Int.reduceMul, Int.reduceNeg, Int.reduceToNat, AP.f129L0]
    · show AV.str s = _
      congr 1
      have := ext_all s
      rw [hs] at this
      exact this.symm
  | n + 1, s, hs, hn => by
    have hb := byN_lt s n
    have k1 := has_c h id (byN s n) P hg hb
    have n1 : (s.size : Int) - 1 = (n : Int) := by omega
    have sl := asls_hi' (s := s) (n := n) (by omega)
    by_cases c : P (byN s n) = true
    · rw [c] at k1
      obtain ⟨e', m, r1, r2, r3, r4, r5⟩ := right_loop id P h hg n (s.extract 0 n) (by rw [size_ext (by omega)]; omega) (by omega)
      rw [size_ext (by omega)] at r3 r4
      refine ⟨e', m, Lp_next ?_ r1, ?_, by omega, fun i h1 h2 => ?_, fun q => ?_⟩
      · simp (disch := omega) only [go_sem, abin_shl, abin_shr, Nat.reduceEqDiff, reduceIte, Nat.reduceAdd, Nat.reduceMul, Nat.reduceLT, Nat.reduceLeDiff, Int.reduceBEq, Int.reduceBNe, Int.reduceLT, Int.reduceLE, Int.reduceEq, qqC, AOp.loud, AOp.births, Int.reduceAdd, Int.reduceSub, Int.reduceMul, Int.reduceNeg, Int.reduceToNat, AP.f129L0, n1, k1, sl]
      · rw [r2]; congr 1; exact ext_ext s r3
      · by_cases hi : i = n
        · rw [hi]; exact c
        · have := r4 i h1 (by omega)
          rwa [byN_ext (by omega) (by omega), Nat.zero_add] at this
      · have := r5 q
        rwa [byN_ext (by omega) (by omega), Nat.zero_add] at this
    · have c' : P (byN s n) = false := by simpa using c
      rw [c'] at k1
      refine ⟨[(0, .str s), (1, .pobj id 0), (15, .bool true)], s.size, Lp_exit ?_, ?_, Nat.le_refl _, fun i h1 h2 => by omega, fun q => by rw [hs]; exact c'⟩
      · simp (disch := omega) only [go_sem, abin_shl, abin_shr, Nat.reduceEqDiff, reduceIte, Nat.reduceAdd, Nat.reduceMul, Nat.reduceLT, Nat.reduceLeDiff, Int.reduceBEq, Int.reduceBNe, Int.reduceLT, Int.reduceLE, Int.reduceEq, qqC, AOp.loud, AOp.births, Int.reduceAdd, Int.reduceSub, Int.reduceMul, Int.reduceNeg, Int.reduceToNat, AP.f129L0, n1, k1]
      · show AV.str s = _
        congr 1
        exact (ext_all s).symm
theorem ext_lo (s : ByteArray) {n : Nat} (h : s.size = n + 1) : (s.extract 1 s.size).size = n := by rw [size_ext (Nat.le_refl _)]; omega
theorem left_loop (id : Nat) (P : Nat → Bool) (h : H) (hg : h.get id = some (bT P)) : ∀ (n : Nat) (s : ByteArray), s.size = n → n < 100000 → (0 < n → P (byN s (n - 1)) = false) →
    ∃ e' r, Lp AP.A [0, 1] AP.f128L0 [(0, .str s), (1, .pobj id 0)] h = some (.exit 0, e', h) ∧ look e' 0 = .str r ∧ (r.size = 0 ↔ n = 0)
  | 0, s, hs, hn, hp => by
    refine ⟨[(0, .str s), (1, .pobj id 0), (7, .bool false)], s, Lp_exit ?_, rfl, by omega⟩
    simp (disch := omega) only [go_sem, abin_shl, abin_shr, Nat.reduceEqDiff, reduceIte, Nat.reduceAdd, Nat.reduceMul, Nat.reduceLT, Nat.reduceLeDiff, Int.reduceBEq, Int.reduceBNe, Int.reduceLT, Int.reduceLE, Int.reduceEq, qqC, AOp.loud, AOp.births, Int.reduceAdd, Int.reduceSub, Int.reduceMul, Int.reduceNeg, Int.reduceToNat, AP.f128L0]
  | n + 1, s, hs, hn, hp => by
    have hb := byN_lt s 0
    have k1 := has_c h id (byN s 0) P hg hb
    have sl : asls (.str s) (some (.int .i64 1)) none = some (.str (s.extract 1 s.size)) := asls_lo (s := s) (n := 1) (by omega)
    have ix : aidxs (.str s) (.int .i64 0) = some (.int .u8 (byN s 0 : Nat)) := idxs_at (by omega)
    by_cases c : P (byN s 0) = true
    · rw [c] at k1
      have hn0 : n ≠ 0 := fun e => by subst e; have := hp (by omega); simp only [Nat.zero_add, Nat.sub_self] at this; rw [c] at this; cases this
      obtain ⟨e', r, r1, r2, r3⟩ := left_loop id P h hg n (s.extract 1 s.size) (ext_lo s hs) (by omega) (fun q => by
        rw [byN_ext (Nat.le_refl _) (by omega), show 1 + (n - 1) = n + 1 - 1 by omega]; exact hp (by omega))
      refine ⟨e', r, Lp_next ?_ r1, r2, by omega⟩
      clear hp
      simp (disch := omega) only [go_sem, abin_shl, abin_shr, Nat.reduceEqDiff, reduceIte, Nat.reduceAdd, Nat.reduceMul, Nat.reduceLT, Nat.reduceLeDiff, Int.reduceBEq, Int.reduceBNe, Int.reduceLT, Int.reduceLE, Int.reduceEq, dt, df, alen_str, AP.f128L0, k1, sl, ix, Option.map_some, Option.map_none]
    · have c' : P (byN s 0) = false := by simpa using c
      rw [c'] at k1
      refine ⟨[(0, .str s), (1, .pobj id 0), (12, .bool true)], s, Lp_exit ?_, rfl, by omega⟩
      clear hp
      simp (disch := omega) only [go_sem, abin_shl, abin_shr, Nat.reduceEqDiff, reduceIte, Nat.reduceAdd, Nat.reduceMul, Nat.reduceLT, Nat.reduceLeDiff, Int.reduceBEq, Int.reduceBNe, Int.reduceLT, Int.reduceLE, Int.reduceEq, dt, df, alen_str, AP.f128L0, k1, sl, ix, Option.map_some, Option.map_none]
def allOk (s : ByteArray) : Bool := (List.range s.size).all fun i => okB (byN s i)
theorem ofS_size : ofS.size = 39 := rfl
theorem bT_ofS : bT (setB ofS ofS.size) = bT okB := bT_of
theorem tl_c (h : H) (s : ByteArray) (id : Nat) (P : Nat → Bool) (hg : h.get id = some (bT P)) (hs : s.size < 100000) (hp : 0 < s.size → P (byN s (s.size - 1)) = false) : ∃ r, callW AP.A 128 [.str s, .pobj id 0] h = some (.str r, h) ∧ (r.size = 0 ↔ s.size = 0) := by
  obtain ⟨e', r, r1, r2, r3⟩ := left_loop id P h hg s.size s rfl hs hp
  refine ⟨r, plain_c (fn := AP.f128) (h2 := h) (e := [(4, .str r)]) (vs := [.str r]) rfl rfl rfl ?_ rfl, r3⟩
  clear hp
  simp only [go_sem, abin_shl, abin_shr, Nat.reduceEqDiff, reduceIte, Nat.reduceAdd, Nat.reduceMul, Nat.reduceLT, Nat.reduceLeDiff, Int.reduceBEq, Int.reduceBNe, Int.reduceLT, Int.reduceLE, Int.reduceEq, AP.f128, evC_loop, r1, r2]
theorem tr_c (h : H) (s : ByteArray) (id : Nat) (P : Nat → Bool) (hg : h.get id = some (bT P)) (hs : s.size < 100000) :
    ∃ m, callW AP.A 129 [.str s, .pobj id 0] h = some (.str (s.extract 0 m), h) ∧ m ≤ s.size ∧ (∀ i, m ≤ i → i < s.size → P (byN s i) = true) ∧ (0 < m → P (byN s (m - 1)) = false) := by
  obtain ⟨e', m, r1, r2, r3, r4, r5⟩ := right_loop id P h hg s.size s rfl hs
  refine ⟨m, plain_c (fn := AP.f129) (h2 := h) (e := [(4, .str (s.extract 0 m))]) (vs := [.str (s.extract 0 m)]) rfl rfl rfl ?_ rfl, r3, r4, r5⟩
  simp only [go_sem, abin_shl, abin_shr, Nat.reduceEqDiff, reduceIte, Nat.reduceAdd, Nat.reduceMul, Nat.reduceLT, Nat.reduceLeDiff, Int.reduceBEq, Int.reduceBNe, Int.reduceLT, Int.reduceLE, Int.reduceEq, AP.f129, evC_loop, r1, r2]
theorem str_ne {a b : ByteArray} (h : a ≠ b) : (a.data.toList == b.data.toList) = false := by
  rw [beq_eq_false_iff_ne]
  intro e
  apply h
  apply ByteArray.ext
  exact Array.toList_inj.1 e
theorem str_same (a : ByteArray) : (a.data.toList == a.data.toList) = true := by simp
theorem trim_c (h : H) (s : ByteArray) (h0 : 0 < s.size) (hs : s.size < 100000) : ∃ r, callW AP.A 124 [.str s, .str ofS] h = some (.str r, h) ∧ (r.size = 0 ↔ allOk s = true) := by
  have m1 := mkset_c h.fence ofS (by rw [ofS_size]; omega) (by rw [ofS_size]; decide +kernel)
  rw [bT_ofS] at m1
  obtain ⟨h1, eh1⟩ : ∃ g, g = h.fence.alloc (bT fun _ => false) := ⟨_, rfl⟩
  have hn : h.fence.next = h.next := rfl
  have g1 : h1.get h.next = some (bT fun _ => false) := by rw [eh1, get_hit (by simp)]
  obtain ⟨h2, eh2⟩ : ∃ g, g = h1.set h.next (bT okB) := ⟨_, rfl⟩
  have st : stO h1 h.next 0 256 (bT okB) (some (bT fun _ => false)) = some h2 := by
    rw [stO_all (by rw [eh1]; simp) (bT_len _) (bT_len _) (bT_sc _), eh2]
  have g2 : h2.get h.next = some (bT okB) := by rw [eh2, set_hit rfl, g1]; rfl
  obtain ⟨m, a1, a2, a3, a4⟩ := tr_c h2 s h.next okB g2 hs
  have sz := size_ext (s := s) (a := 0) (b := m) a2
  obtain ⟨r, b1, b2⟩ := tl_c h2 (s.extract 0 m) h.next okB g2 (by omega) (fun q => by
    rw [sz, Nat.sub_zero, byN_ext a2 (by omega), Nat.zero_add]; exact a4 (by omega))
  refine ⟨r, ?_, ?_⟩
  · have e1 : abin .eql (.str s) (.str ⟨#[]⟩) = some (.bool false) := by
      rw [str_eql, str_ne]; intro e; rw [e] at h0; exact absurd h0 (by decide)
    have e2 : abin .eql (.str ofS) (.str ⟨#[]⟩) = some (.bool false) := by
      rw [str_eql, str_ne]; intro e; have := ofS_size; rw [e] at this; exact absurd this (by decide)
    have l2 : alen true (.str ofS) = some (.int .i64 39) := rfl
    refine pure_c (fn := AP.f124) (h2 := h2) (e := [(4, .str r)]) rfl rfl rfl ?_ rfl rfl
    clear a3 a4
    generalize bT okB = T at *
    generalize hT : (bT fun _ => false) = T0 at *
    have ba : ∀ e : Env, birth e (.alloc [.bool false, .bool false, .bool false, .bool false, .bool false, .bool false, .bool false, .bool false, .bool false, .bool false, .bool false, .bool false, .bool false, .bool false, .bool false, .bool false, .bool false, .bool false, .bool false, .bool false, .bool false, .bool false, .bool false, .bool false, .bool false, .bool false, .bool false, .bool false, .bool false, .bool false, .bool false, .bool false, .bool false, .bool false, .bool false, .bool false, .bool false, .bool false, .bool false, .bool false, .bool false, .bool false, .bool false, .bool false, .bool false, .bool false, .bool false, .bool false, .bool false, .bool false, .bool false, .bool false, .bool false, .bool false, .bool false, .bool false, .bool false, .bool false, .bool false, .bool false, .bool false, .bool false, .bool false, .bool false, .bool false, .bool false, .bool false, .bool false, .bool false, .bool false, .bool false, .bool false, .bool false, .bool false, .bool false, .bool false, .bool false, .bool false, .bool false, .bool false, .bool false, .bool false, .bool false, .bool false, .bool false, .bool false, .bool false, .bool false, .bool false, .bool false, .bool false, .bool false, .bool false, .bool false, .bool false, .bool false, .bool false, .bool false, .bool false, .bool false, .bool false, .bool false, .bool false, .bool false, .bool false, .bool false, .bool false, .bool false, .bool false, .bool false, .bool false, .bool false, .bool false, .bool false, .bool false, .bool false, .bool false, .bool false, .bool false, .bool false, .bool false, .bool false, .bool false, .bool false, .bool false, .bool false, .bool false, .bool false, .bool false, .bool false, .bool false, .bool false, .bool false, .bool false, .bool false, .bool false, .bool false, .bool false, .bool false, .bool false, .bool false, .bool false, .bool false, .bool false, .bool false, .bool false, .bool false, .bool false, .bool false, .bool false, .bool false, .bool false, .bool false, .bool false, .bool false, .bool false, .bool false, .bool false, .bool false, .bool false, .bool false, .bool false, .bool false, .bool false, .bool false, .bool false, .bool false, .bool false, .bool false, .bool false, .bool false, .bool false, .bool false, .bool false, .bool false, .bool false, .bool false, .bool false, .bool false, .bool false, .bool false, .bool false, .bool false, .bool false, .bool false, .bool false, .bool false, .bool false, .bool false, .bool false, .bool false, .bool false, .bool false, .bool false, .bool false, .bool false, .bool false, .bool false, .bool false, .bool false, .bool false, .bool false, .bool false, .bool false, .bool false, .bool false, .bool false, .bool false, .bool false, .bool false, .bool false, .bool false, .bool false, .bool false, .bool false, .bool false, .bool false, .bool false, .bool false, .bool false, .bool false, .bool false, .bool false, .bool false, .bool false, .bool false, .bool false, .bool false, .bool false, .bool false, .bool false, .bool false, .bool false, .bool false, .bool false, .bool false, .bool false, .bool false, .bool false, .bool false, .bool false, .bool false, .bool false, .bool false, .bool false, .bool false, .bool false, .bool false, .bool false, .bool false, .bool false, .bool false, .bool false, .bool false, .bool false, .bool false]) = some (T0, fun i => .pobj i 0) := fun e => by rw [bir_al, hT]
    simp (disch := omega) only [go_sem, abin_shl, abin_shr, Nat.reduceEqDiff, reduceIte, Nat.reduceAdd, Nat.reduceMul, Nat.reduceLT, Nat.reduceLeDiff, Int.reduceBEq, Int.reduceBNe, Int.reduceLT, Int.reduceLE, Int.reduceEq, AP.f124, ba, hn, ← eh1, e1, e2, l2, eqf, m1, g1, st, a1, b1]
  · rw [b2, sz]
    unfold allOk
    rw [List.all_eq_true]
    constructor
    · intro q i hi
      exact a3 i (by omega) (List.mem_range.1 hi)
    · intro q
      by_cases hm : m = 0
      · omega
      · have := a4 (by omega)
        rw [q (m - 1) (List.mem_range.2 (by omega))] at this
        cases this
def dotS : ByteArray := ⟨#[46]⟩
def dotsS : ByteArray := ⟨#[46, 46]⟩
def nameA (s : ByteArray) : Bool := decide (1 ≤ s.size) && (decide (s.size ≤ 8) && (allOk s && (!(s.data.toList == dotS.data.toList) && !(s.data.toList == dotsS.data.toList))))
theorem name_c (h : H) (s : ByteArray) (hs : s.size < 1125899906842624) : callW AP.A 121 [.str s] h = some (.bool (nameA s), h) := by
  refine pure_c (fn := AP.f121) (h2 := h.fence) (e := [(2, .bool (nameA s))]) rfl rfl rfl ?_ rfl rfl
  unfold nameA
  by_cases c1 : 1 ≤ s.size
  · by_cases c2 : s.size ≤ 8
    · obtain ⟨r, t1, t2⟩ := trim_c h.fence s (by omega) (by omega)
      have t1' : callW AP.A 124 [.str s, .str ⟨#[97, 98, 99, 100, 101, 102, 103, 104, 105, 106, 107, 108, 109, 110, 111, 112, 113, 114, 115, 116, 117, 118, 119, 120, 121, 122, 48, 49, 50, 51, 52, 53, 54, 55, 56, 57, 46, 45, 95]⟩] h.fence = some (.str r, h.fence) := t1
      have e1 : abin .eql (.str r) (.str ⟨#[]⟩) = some (.bool (allOk s)) := by
        rw [str_eql]
        by_cases q : allOk s = true
        · rw [q]
          have : r = ⟨#[]⟩ := by
            apply ByteArray.ext
            exact Array.size_eq_zero_iff.1 (t2.2 q)
          rw [this, str_same]
        · have q' : allOk s = false := by simpa using q
          rw [q', str_ne]
          intro e
          rw [e] at t2
          exact q (t2.1 rfl)
      have e2 : abin .neq (.str s) (.str ⟨#[46]⟩) = some (.bool (!(s.data.toList == dotS.data.toList))) := str_neq _ _
      have e3 : abin .neq (.str s) (.str ⟨#[46, 46]⟩) = some (.bool (!(s.data.toList == dotsS.data.toList))) := str_neq _ _
      clear t1 t2
      generalize (!(s.data.toList == dotS.data.toList)) = B2 at *
      generalize (!(s.data.toList == dotsS.data.toList)) = B3 at *
      generalize allOk s = B1 at *
      cases B1 <;> cases B2 <;> cases B3 <;> simp (disch := omega) only [go_sem, abin_shl, abin_shr, Nat.reduceEqDiff, reduceIte, Nat.reduceAdd, Nat.reduceMul, Nat.reduceLT, Nat.reduceLeDiff, Int.reduceBEq, Int.reduceBNe, Int.reduceLT, Int.reduceLE, Int.reduceEq, qqC, AOp.loud, AOp.births, Int.reduceAdd, Int.reduceSub, Int.reduceMul, Int.reduceNeg, Int.reduceToNat, AP.f121, t1', e1, e2, e3]
    · simp (disch := omega) only [go_sem, abin_shl, abin_shr, Nat.reduceEqDiff, reduceIte, Nat.reduceAdd, Nat.reduceMul, Nat.reduceLT, Nat.reduceLeDiff, Int.reduceBEq, Int.reduceBNe, Int.reduceLT, Int.reduceLE, Int.reduceEq, qqC, AOp.loud, AOp.births, Int.reduceAdd, Int.reduceSub, Int.reduceMul, Int.reduceNeg, Int.reduceToNat, AP.f121]
  · simp (disch := omega) only [go_sem, abin_shl, abin_shr, Nat.reduceEqDiff, reduceIte, Nat.reduceAdd, Nat.reduceMul, Nat.reduceLT, Nat.reduceLeDiff, Int.reduceBEq, Int.reduceBNe, Int.reduceLT, Int.reduceLE, Int.reduceEq, qqC, AOp.loud, AOp.births, Int.reduceAdd, Int.reduceSub, Int.reduceMul, Int.reduceNeg, Int.reduceToNat, AP.f121]
theorem okB_iff (b : Nat) : okB b = true ↔ 97 ≤ b ∧ b ≤ 122 ∨ 48 ≤ b ∧ b ≤ 57 ∨ b = 46 ∨ b = 45 ∨ b = 95 := by simp [okB]
def allFrom (s : ByteArray) : Nat → Nat → Bool
  | 0, _ => true
  | n + 1, i => okB (byN s i) && allFrom s n (i + 1)
theorem allFrom_eq (s : ByteArray) : ∀ n i, allFrom s n i = (List.range n).all fun j => okB (byN s (i + j))
  | 0, _ => rfl
  | n + 1, i => by
    rw [allFrom, allFrom_eq s n (i + 1), List.range_succ_eq_map, List.all_cons, List.all_map]
    simp only [Nat.add_zero]
    congr 1
    refine congrArg (fun f => (List.range n).all f) ?_
    funext j
    simp only [Function.comp, Nat.succ_eq_add_one]
    rw [show i + (j + 1) = i + 1 + j by omega]
theorem nm_loop (s : ByteArray) (hs : s.size < 100000) (h : H) : ∀ (n i : Nat), i + n = s.size →
    (∃ e', Lp AP.A [0, 3] AP.f173L0 [(0, .str s), (3, .int .i64 i)] h = some (.exit 0, e', h) ∧ allFrom s n i = true) ∨
    (∃ e', Lp AP.A [0, 3] AP.f173L0 [(0, .str s), (3, .int .i64 i)] h = some (.ret, e', h) ∧ look e' 2 = .bool false ∧ allFrom s n i = false)
  | 0, i, hi => by
    left
    refine ⟨[(0, .str s), (3, .int .i64 i), (24, .bool false)], Lp_exit ?_, rfl⟩
    simp (disch := omega) only [go_sem, abin_shl, abin_shr, Nat.reduceEqDiff, reduceIte, Nat.reduceAdd, Nat.reduceMul, Nat.reduceLT, Nat.reduceLeDiff, Int.reduceBEq, Int.reduceBNe, Int.reduceLT, Int.reduceLE, Int.reduceEq, qqC, AOp.loud, AOp.births, Int.reduceAdd, Int.reduceSub, Int.reduceMul, Int.reduceNeg, Int.reduceToNat, AP.f173L0]
  | n + 1, i, hi => by
    have hb := byN_lt s i
    have n1 : ((i + 1 : Nat) : Int) = (i : Int) + 1 := by omega
    have ix : aidxs (.str s) (.int .i64 i) = some (.int .u8 (byN s i : Nat)) := by rw [idxs_at (by omega), tn_nat]
    by_cases c : okB (byN s i) = true
    · have e : allFrom s (n + 1) i = allFrom s n (i + 1) := by simp [allFrom, c]
      rw [e]
      have ih := nm_loop s hs h n (i + 1) (by omega)
      rw [okB_iff] at c
      generalize byN s i = b at *
      have step : evC (callW AP.A) loopW AP.f173L0 (restr [(0, .str s), (3, .int .i64 i)] [0, 3]) h = some (.normal, [(0, .str s), (3, .int .i64 ((i : Int) + 1))], h) := by
        clear ih e
        rcases c with c | c | c | c | c
        · simp (disch := omega) only [go_sem, abin_shl, abin_shr, Nat.reduceEqDiff, reduceIte, Nat.reduceAdd, Nat.reduceMul, Nat.reduceLT, Nat.reduceLeDiff, Int.reduceBEq, Int.reduceBNe, Int.reduceLT, Int.reduceLE, Int.reduceEq, qqC, AOp.loud, AOp.births, Int.reduceAdd, Int.reduceSub, Int.reduceMul, Int.reduceNeg, Int.reduceToNat, AP.f173L0, ix]
        · simp (disch := omega) only [go_sem, abin_shl, abin_shr, Nat.reduceEqDiff, reduceIte, Nat.reduceAdd, Nat.reduceMul, Nat.reduceLT, Nat.reduceLeDiff, Int.reduceBEq, Int.reduceBNe, Int.reduceLT, Int.reduceLE, Int.reduceEq, qqC, AOp.loud, AOp.births, Int.reduceAdd, Int.reduceSub, Int.reduceMul, Int.reduceNeg, Int.reduceToNat, AP.f173L0, ix]
        · simp (disch := omega) only [go_sem, abin_shl, abin_shr, Nat.reduceEqDiff, reduceIte, Nat.reduceAdd, Nat.reduceMul, Nat.reduceLT, Nat.reduceLeDiff, Int.reduceBEq, Int.reduceBNe, Int.reduceLT, Int.reduceLE, Int.reduceEq, qqC, AOp.loud, AOp.births, Int.reduceAdd, Int.reduceSub, Int.reduceMul, Int.reduceNeg, Int.reduceToNat, AP.f173L0, ix]
        · simp (disch := omega) only [go_sem, abin_shl, abin_shr, Nat.reduceEqDiff, reduceIte, Nat.reduceAdd, Nat.reduceMul, Nat.reduceLT, Nat.reduceLeDiff, Int.reduceBEq, Int.reduceBNe, Int.reduceLT, Int.reduceLE, Int.reduceEq, qqC, AOp.loud, AOp.births, Int.reduceAdd, Int.reduceSub, Int.reduceMul, Int.reduceNeg, Int.reduceToNat, AP.f173L0, ix]
        · simp (disch := omega) only [go_sem, abin_shl, abin_shr, Nat.reduceEqDiff, reduceIte, Nat.reduceAdd, Nat.reduceMul, Nat.reduceLT, Nat.reduceLeDiff, Int.reduceBEq, Int.reduceBNe, Int.reduceLT, Int.reduceLE, Int.reduceEq, qqC, AOp.loud, AOp.births, Int.reduceAdd, Int.reduceSub, Int.reduceMul, Int.reduceNeg, Int.reduceToNat, AP.f173L0, ix]
      rw [n1] at ih
      rcases ih with ⟨e', r1, r2⟩ | ⟨e', r1, r2, r3⟩
      · exact .inl ⟨e', Lp_next step r1, r2⟩
      · exact .inr ⟨e', Lp_next step r1, r2, r3⟩
    · right
      refine ⟨[(2, .bool false)], Lp_ret ?_, rfl, by simp [allFrom, c]⟩
      rw [okB_iff] at c
      generalize byN s i = b at *
      have c1 : ¬ (97 ≤ b ∧ b ≤ 122) := by omega
      have c2 : ¬ (48 ≤ b ∧ b ≤ 57) := by omega
      have c3 : ¬ b = 46 := by omega
      have c4 : ¬ b = 45 := by omega
      have c5 : ¬ b = 95 := by omega
      clear c
      by_cases d1 : b < 97
      · by_cases d2 : b < 48
        · clear c1 c2; simp (disch := omega) only [go_sem, abin_shl, abin_shr, Nat.reduceEqDiff, reduceIte, Nat.reduceAdd, Nat.reduceMul, Nat.reduceLT, Nat.reduceLeDiff, Int.reduceBEq, Int.reduceBNe, Int.reduceLT, Int.reduceLE, Int.reduceEq, qqC, AOp.loud, AOp.births, Int.reduceAdd, Int.reduceSub, Int.reduceMul, Int.reduceNeg, Int.reduceToNat, AP.f173L0, ix]
        · have : 57 < b := by omega
          clear c1 c2; simp (disch := omega) only [go_sem, abin_shl, abin_shr, Nat.reduceEqDiff, reduceIte, Nat.reduceAdd, Nat.reduceMul, Nat.reduceLT, Nat.reduceLeDiff, Int.reduceBEq, Int.reduceBNe, Int.reduceLT, Int.reduceLE, Int.reduceEq, qqC, AOp.loud, AOp.births, Int.reduceAdd, Int.reduceSub, Int.reduceMul, Int.reduceNeg, Int.reduceToNat, AP.f173L0, ix]
      · have : 122 < b := by omega
        have d2 : ¬ b < 48 := by omega
        clear c1 c2; simp (disch := omega) only [go_sem, abin_shl, abin_shr, Nat.reduceEqDiff, reduceIte, Nat.reduceAdd, Nat.reduceMul, Nat.reduceLT, Nat.reduceLeDiff, Int.reduceBEq, Int.reduceBNe, Int.reduceLT, Int.reduceLE, Int.reduceEq, qqC, AOp.loud, AOp.births, Int.reduceAdd, Int.reduceSub, Int.reduceMul, Int.reduceNeg, Int.reduceToNat, AP.f173L0, ix]
theorem name2_c (h : H) (s : ByteArray) (hs : s.size < 1125899906842624) : callW AP.A 173 [.str s] h = some (.bool (nameA s), h) := by
  have e2 : abin .eql (.str s) (.str ⟨#[46]⟩) = some (.bool (s.data.toList == dotS.data.toList)) := str_eql _ _
  have e3 : abin .eql (.str s) (.str ⟨#[46, 46]⟩) = some (.bool (s.data.toList == dotsS.data.toList)) := str_eql _ _
  unfold nameA
  generalize (s.data.toList == dotS.data.toList) = B2 at *
  generalize (s.data.toList == dotsS.data.toList) = B3 at *
  by_cases c1 : s.size < 1
  · refine pure_c (fn := AP.f173) (h2 := h.fence) (e := [(2, .bool false)]) rfl rfl rfl ?_ rfl (by rw [decide_eq_false (show ¬ 1 ≤ s.size by omega)]; rfl)
    simp (disch := omega) only [go_sem, abin_shl, abin_shr, Nat.reduceEqDiff, reduceIte, Nat.reduceAdd, Nat.reduceMul, Nat.reduceLT, Nat.reduceLeDiff, Int.reduceBEq, Int.reduceBNe, Int.reduceLT, Int.reduceLE, Int.reduceEq, qqC, AOp.loud, AOp.births, Int.reduceAdd, Int.reduceSub, Int.reduceMul, Int.reduceNeg, Int.reduceToNat, AP.f173]
  by_cases c2 : 8 < s.size
  · refine pure_c (fn := AP.f173) (h2 := h.fence) (e := [(2, .bool false)]) rfl rfl rfl ?_ rfl (by rw [decide_eq_false (show ¬ s.size ≤ 8 by omega), Bool.false_and, Bool.and_false]; rfl)
    simp (disch := omega) only [go_sem, abin_shl, abin_shr, Nat.reduceEqDiff, reduceIte, Nat.reduceAdd, Nat.reduceMul, Nat.reduceLT, Nat.reduceLeDiff, Int.reduceBEq, Int.reduceBNe, Int.reduceLT, Int.reduceLE, Int.reduceEq, qqC, AOp.loud, AOp.births, Int.reduceAdd, Int.reduceSub, Int.reduceMul, Int.reduceNeg, Int.reduceToNat, AP.f173]
  rw [decide_eq_true (show 1 ≤ s.size by omega), decide_eq_true (show s.size ≤ 8 by omega), Bool.true_and, Bool.true_and]
  cases B2 with
  | true =>
    refine pure_c (fn := AP.f173) (h2 := h.fence) (e := [(2, .bool false)]) rfl rfl rfl ?_ rfl (by rw [Bool.not_true, Bool.false_and, Bool.and_false]; rfl)
    simp (disch := omega) only [go_sem, abin_shl, abin_shr, Nat.reduceEqDiff, reduceIte, Nat.reduceAdd, Nat.reduceMul, Nat.reduceLT, Nat.reduceLeDiff, Int.reduceBEq, Int.reduceBNe, Int.reduceLT, Int.reduceLE, Int.reduceEq, qqC, AOp.loud, AOp.births, Int.reduceAdd, Int.reduceSub, Int.reduceMul, Int.reduceNeg, Int.reduceToNat, AP.f173, e2]
  | false =>
    cases B3 with
    | true =>
      refine pure_c (fn := AP.f173) (h2 := h.fence) (e := [(2, .bool false)]) rfl rfl rfl ?_ rfl (by rw [Bool.not_true, Bool.and_false, Bool.and_false]; rfl)
      simp (disch := omega) only [go_sem, abin_shl, abin_shr, Nat.reduceEqDiff, reduceIte, Nat.reduceAdd, Nat.reduceMul, Nat.reduceLT, Nat.reduceLeDiff, Int.reduceBEq, Int.reduceBNe, Int.reduceLT, Int.reduceLE, Int.reduceEq, qqC, AOp.loud, AOp.births, Int.reduceAdd, Int.reduceSub, Int.reduceMul, Int.reduceNeg, Int.reduceToNat, AP.f173, e2, e3]
    | false =>
      have ea : allOk s = allFrom s s.size 0 := by rw [allFrom_eq]; simp [allOk]
      rw [ea]
      rcases nm_loop s (by omega) h.fence s.size 0 (by omega) with ⟨e', r1, r2⟩ | ⟨e', r1, r2, r3⟩
      · have r1' : Lp AP.A [0, 3] AP.f173L0 [(0, .str s), (3, .int .i64 0)] h.fence = some (.exit 0, e', h.fence) := r1
        clear r1
        rw [r2]
        refine pure_c (fn := AP.f173) (h2 := h.fence) (e := [(2, .bool true)]) rfl rfl rfl ?_ rfl rfl
        simp (disch := omega) only [go_sem, abin_shl, abin_shr, Nat.reduceEqDiff, reduceIte, Nat.reduceAdd, Nat.reduceMul, Nat.reduceLT, Nat.reduceLeDiff, Int.reduceBEq, Int.reduceBNe, Int.reduceLT, Int.reduceLE, Int.reduceEq, qqC, AOp.loud, AOp.births, Int.reduceAdd, Int.reduceSub, Int.reduceMul, Int.reduceNeg, Int.reduceToNat, AP.f173, e2, e3, evC_loop, r1']
      · have r1' : Lp AP.A [0, 3] AP.f173L0 [(0, .str s), (3, .int .i64 0)] h.fence = some (.ret, e', h.fence) := r1
        clear r1
        rw [r3]
        refine pure_c (fn := AP.f173) (h2 := h.fence) (e := e') (vs := [.bool false]) rfl rfl rfl ?_ (by simp only [AP.f173, resAll, resOf, r2]; rfl) rfl
        simp (disch := omega) only [go_sem, abin_shl, abin_shr, Nat.reduceEqDiff, reduceIte, Nat.reduceAdd, Nat.reduceMul, Nat.reduceLT, Nat.reduceLeDiff, Int.reduceBEq, Int.reduceBNe, Int.reduceLT, Int.reduceLE, Int.reduceEq, qqC, AOp.loud, AOp.births, Int.reduceAdd, Int.reduceSub, Int.reduceMul, Int.reduceNeg, Int.reduceToNat, AP.f173, e2, e3, evC_loop, r1']
end Ab
set_option linter.unusedSimpArgs false
set_option linter.unusedVariables false
set_option maxRecDepth 100000
namespace Ab
open Go
structure Tok where
  lit : Int
  len : Int
  dist : Int
deriving DecidableEq
end Ab
set_option linter.unusedSimpArgs false
set_option linter.unusedVariables false
set_option maxRecDepth 100000
namespace Ab
open Go
def Ext (h g : H) : Prop := ∀ id c, h.get id = some c → g.get id = some c
theorem Ext.refl (h : H) : Ext h h := fun _ _ q => q
theorem Ext.trans {a b c : H} (x : Ext a b) (y : Ext b c) : Ext a c := fun i d q => y i d (x i d q)
theorem Ext.alloc {a h : H} (x : Ext a h) (cs : List AV) : Ext a (h.alloc cs) := fun i d q => by
  have := h.lt _ _ (x i d q)
  rw [H.get_alloc, if_neg (by omega)]; exact x i d q
theorem Ext.set {a h : H} (x : Ext a h) {id : Nat} (hid : a.next ≤ id) (cs : List AV) : Ext a (h.set id cs) := fun i d q => by
  have := a.lt _ _ q
  rw [H.get_set, if_neg (by omega)]; exact x i d q
end Ab
set_option linter.unusedSimpArgs false
set_option linter.unusedVariables false
set_option maxRecDepth 100000
namespace Ab
open Go
def countA (n : Int) : Bool := decide (0 ≤ n) && decide (n ≤ 1048576)
theorem count_c (h : H) (n : Int) : callW AP.A 119 [.int .i64 n] h = some (.bool (countA n), h) := by
  refine pure_c (fn := AP.f119) (h2 := h.fence) (e := [(2, .bool (countA n))]) rfl rfl rfl ?_ rfl rfl
  unfold countA
  by_cases c1 : 0 ≤ n <;> by_cases c2 : n ≤ 1048576 <;> simp (disch := omega) only [go_sem, abin_shl, abin_shr, Nat.reduceEqDiff, reduceIte, Nat.reduceAdd, Nat.reduceMul, Nat.reduceLT, Nat.reduceLeDiff, Int.reduceBEq, Int.reduceBNe, Int.reduceLT, Int.reduceLE, Int.reduceEq, qqC, AOp.loud, AOp.births, Int.reduceAdd, Int.reduceSub, Int.reduceMul, Int.reduceNeg, Int.reduceToNat, AP.f119]
def nodeA (n : Int) : Bool := decide (0 ≤ n) && decide (n < 4)
theorem node_c (h : H) (n : Int) : callW AP.A 120 [.int .i64 n] h = some (.bool (nodeA n), h) := by
  refine pure_c (fn := AP.f120) (h2 := h.fence) (e := [(2, .bool (nodeA n))]) rfl rfl rfl ?_ rfl rfl
  unfold nodeA
  by_cases c1 : 0 ≤ n <;> by_cases c2 : n < 4 <;> simp (disch := omega) only [go_sem, abin_shl, abin_shr, Nat.reduceEqDiff, reduceIte, Nat.reduceAdd, Nat.reduceMul, Nat.reduceLT, Nat.reduceLeDiff, Int.reduceBEq, Int.reduceBNe, Int.reduceLT, Int.reduceLE, Int.reduceEq, qqC, AOp.loud, AOp.births, Int.reduceAdd, Int.reduceSub, Int.reduceMul, Int.reduceNeg, Int.reduceToNat, AP.f120]
def uncount (v : AV) : Bool := match v with | .int .i64 n => !countA n | _ => false
theorem uncount_c (h : H) (n : Int) : callW AP.A 123 [.int .i64 n] h = some (.bool (!countA n), h) := by
  have k1 := count_c h.fence n
  refine pure_c (fn := AP.f123) (h2 := h.fence) (e := [(2, .bool (!countA n))]) rfl rfl rfl ?_ rfl rfl
  simp (disch := omega) only [go_sem, abin_shl, abin_shr, Nat.reduceEqDiff, reduceIte, Nat.reduceAdd, Nat.reduceMul, Nat.reduceLT, Nat.reduceLeDiff, Int.reduceBEq, Int.reduceBNe, Int.reduceLT, Int.reduceLE, Int.reduceEq, qqC, AOp.loud, AOp.births, Int.reduceAdd, Int.reduceSub, Int.reduceMul, Int.reduceNeg, Int.reduceToNat, AP.f123, k1]
def vecA (l : List Int) : Bool := decide (l.length = 4) && l.all countA
theorem any_uncount : ∀ l : List Int, (ints l).any uncount = !l.all countA
  | [] => rfl
  | n :: l => by
    have := any_uncount l
    simp only [ints, List.map_cons, List.any_cons, List.all_cons, Bool.not_and] at *
    rw [this]; rfl
theorem vec_c (h : H) (v : AV) (l : List Int) (rd : Rd h v (ints l)) (hl : l.length < 1125899906842624) : callW AP.A 117 [v] h = some (.bool (vecA l), h) := by
  have rd' := rd.mono (get_fence_mono h)
  have ln := rd'.len
  rw [ints_length] at ln
  simp only [I] at ln
  refine pure_c (fn := AP.f117) (h2 := h.fence) (e := [(2, .bool (vecA l))]) rfl rfl rfl ?_ rfl rfl
  unfold vecA
  by_cases c : l.length = 4
  · have k1 := contains_c (fv := .fn 123 [] []) uncount (fun x hx g => by
      obtain ⟨n, hn, rfl⟩ := List.mem_map.1 hx
      rw [callF_s]; exact uncount_c g n) (by simp; omega) h.fence rd'
    rw [any_uncount] at k1
    have c' : (l.length : Int) = 4 := by omega
    simp (disch := omega) only [go_sem, abin_shl, abin_shr, Nat.reduceEqDiff, reduceIte, Nat.reduceAdd, Nat.reduceMul, Nat.reduceLT, Nat.reduceLeDiff, Int.reduceBEq, Int.reduceBNe, Int.reduceLT, Int.reduceLE, Int.reduceEq, qqC, AOp.loud, AOp.births, Int.reduceAdd, Int.reduceSub, Int.reduceMul, Int.reduceNeg, Int.reduceToNat, AP.f117, ln, k1, Bool.not_not]
  · have c' : ¬ (l.length : Int) = 4 := by omega
    simp (disch := omega) only [go_sem, abin_shl, abin_shr, Nat.reduceEqDiff, reduceIte, Nat.reduceAdd, Nat.reduceMul, Nat.reduceLT, Nat.reduceLeDiff, Int.reduceBEq, Int.reduceBNe, Int.reduceLT, Int.reduceLE, Int.reduceEq, qqC, AOp.loud, AOp.births, Int.reduceAdd, Int.reduceSub, Int.reduceMul, Int.reduceNeg, Int.reduceToNat, AP.f117, ln]
theorem Rd.ints_at {h : H} {v : AV} {l : List Int} (r : Rd h v (ints l)) : ∃ ad : Int → AV, (∀ i : Int, 0 ≤ i ∧ i < l.length → aiadr 1 v (.int .i64 i) = some (ad i)) ∧
    ∀ g : H, Ext h g → ∀ (i : Nat) (n : Int), l[i]? = some n → aload false 1 (ad i) g = some (.int .i64 n) := by
  have r2 := r.rdN
  rw [ints_length] at r2
  obtain ⟨ad, a1, _, _, a3⟩ := r2.at_
  refine ⟨fun i => ad i 0, a1, fun g hg i n hn => ?_⟩
  have hi : i < l.length := (List.getElem?_eq_some_iff.1 hn).1
  refine (a3 g hg).1 i 0 _ ⟨by omega, by omega⟩ ?_
  rw [tn_nat, Nat.mul_one, Nat.add_zero]
  exact ints_get hn
theorem vm_loop {v : AV} {l : List Int} (hl : l.length < 1125899906842624) (h : H) (rd : Rd h v (ints l)) : ∀ (q p : List Int), l = p ++ q →
    (∃ e', Lp AP.A [0, 3] AP.f172L0 [(0, v), (3, .int .i64 p.length)] h = some (.exit 0, e', h) ∧ look e' 0 = v ∧ q.all countA = true) ∨
    (∃ e', Lp AP.A [0, 3] AP.f172L0 [(0, v), (3, .int .i64 p.length)] h = some (.ret, e', h) ∧ look e' 2 = .bool false ∧ q.all countA = false)
  | [], p, hp => by
    left
    have ln := rd.len
    rw [ints_length] at ln
    simp only [I] at ln
    rw [List.append_nil] at hp; subst hp
    refine ⟨[(0, v), (3, .int .i64 l.length), (7, .bool false)], Lp_exit ?_, rfl, rfl⟩
    simp (disch := omega) only [go_sem, abin_shl, abin_shr, Nat.reduceEqDiff, reduceIte, Nat.reduceAdd, Nat.reduceMul, Nat.reduceLT, Nat.reduceLeDiff, Int.reduceBEq, Int.reduceBNe, Int.reduceLT, Int.reduceLE, Int.reduceEq, qqC, AOp.loud, AOp.births, Int.reduceAdd, Int.reduceSub, Int.reduceMul, Int.reduceNeg, Int.reduceToNat, AP.f172L0, ln]
  | n :: q, p, hp => by
    have ln := rd.len
    rw [ints_length] at ln
    simp only [I] at ln
    have hlen : l.length = p.length + (q.length + 1) := by rw [hp]; simp
    have hv : l[p.length]? = some n := by rw [hp]; simp
    obtain ⟨ad, a1, a2⟩ := rd.ints_at
    have b1 := a1 p.length ⟨by omega, by omega⟩
    have b2 := a2 h (Ext.refl h) _ _ hv
    have w1 : ((p.length : Int) + 1) = (((p ++ [n]).length : Nat) : Int) := by simp
    have ih := vm_loop hl h rd q (p ++ [n]) (by rw [hp]; simp)
    rw [← w1] at ih
    rw [List.all_cons]
    clear a1 a2
    by_cases c1 : n < 0
    · right
      refine ⟨[(2, .bool false)], Lp_ret ?_, rfl, by simp [countA]; omega⟩
      clear ih w1
      simp (disch := omega) only [go_sem, abin_shl, abin_shr, Nat.reduceEqDiff, reduceIte, Nat.reduceAdd, Nat.reduceMul, Nat.reduceLT, Nat.reduceLeDiff, Int.reduceBEq, Int.reduceBNe, Int.reduceLT, Int.reduceLE, Int.reduceEq, qqC, AOp.loud, AOp.births, Int.reduceAdd, Int.reduceSub, Int.reduceMul, Int.reduceNeg, Int.reduceToNat, AP.f172L0, ln, b1, b2]
    by_cases c2 : 1048576 < n
    · right
      refine ⟨[(2, .bool false)], Lp_ret ?_, rfl, by simp [countA]; omega⟩
      clear ih w1
      simp (disch := omega) only [go_sem, abin_shl, abin_shr, Nat.reduceEqDiff, reduceIte, Nat.reduceAdd, Nat.reduceMul, Nat.reduceLT, Nat.reduceLeDiff, Int.reduceBEq, Int.reduceBNe, Int.reduceLT, Int.reduceLE, Int.reduceEq, qqC, AOp.loud, AOp.births, Int.reduceAdd, Int.reduceSub, Int.reduceMul, Int.reduceNeg, Int.reduceToNat, AP.f172L0, ln, b1, b2]
    have cn : countA n = true := by simp [countA]; omega
    rw [cn, Bool.true_and]
    have step : evC (callW AP.A) loopW AP.f172L0 (restr [(0, v), (3, .int .i64 p.length)] [0, 3]) h = some (.normal, [(0, v), (3, .int .i64 ((p.length : Int) + 1))], h) := by
      clear ih w1
      simp (disch := omega) only [go_sem, abin_shl, abin_shr, Nat.reduceEqDiff, reduceIte, Nat.reduceAdd, Nat.reduceMul, Nat.reduceLT, Nat.reduceLeDiff, Int.reduceBEq, Int.reduceBNe, Int.reduceLT, Int.reduceLE, Int.reduceEq, qqC, AOp.loud, AOp.births, Int.reduceAdd, Int.reduceSub, Int.reduceMul, Int.reduceNeg, Int.reduceToNat, AP.f172L0, ln, b1, b2]
    rcases ih with ⟨e', r1, r2, r3⟩ | ⟨e', r1, r2, r3⟩
    · exact .inl ⟨e', Lp_next step r1, r2, r3⟩
    · exact .inr ⟨e', Lp_next step r1, r2, r3⟩
theorem vec2_c (h : H) (v : AV) (l : List Int) (rd : Rd h v (ints l)) (hl : l.length < 1125899906842624) : callW AP.A 172 [v] h = some (.bool (vecA l), h) := by
  have rd' := rd.mono (get_fence_mono h)
  have ln := rd'.len
  rw [ints_length] at ln
  simp only [I] at ln
  unfold vecA
  rcases vm_loop hl h.fence rd' l [] rfl with ⟨e', r1, r2, r3⟩ | ⟨e', r1, r2, r3⟩
  · have r1' : Lp AP.A [0, 3] AP.f172L0 [(0, v), (3, .int .i64 0)] h.fence = some (.exit 0, e', h.fence) := r1
    clear r1
    rw [r3, Bool.and_true]
    refine pure_c (fn := AP.f172) (h2 := h.fence) (e := [(2, .bool (decide (l.length = 4)))]) rfl rfl rfl ?_ rfl rfl
    by_cases c : l.length = 4
    · have c' : (l.length : Int) = 4 := by omega
      simp (disch := omega) only [go_sem, abin_shl, abin_shr, Nat.reduceEqDiff, reduceIte, Nat.reduceAdd, Nat.reduceMul, Nat.reduceLT, Nat.reduceLeDiff, Int.reduceBEq, Int.reduceBNe, Int.reduceLT, Int.reduceLE, Int.reduceEq, qqC, AOp.loud, AOp.births, Int.reduceAdd, Int.reduceSub, Int.reduceMul, Int.reduceNeg, Int.reduceToNat, AP.f172, ln, evC_loop, r1', r2]
    · have c' : ¬ (l.length : Int) = 4 := by omega
      simp (disch := omega) only [go_sem, abin_shl, abin_shr, Nat.reduceEqDiff, reduceIte, Nat.reduceAdd, Nat.reduceMul, Nat.reduceLT, Nat.reduceLeDiff, Int.reduceBEq, Int.reduceBNe, Int.reduceLT, Int.reduceLE, Int.reduceEq, qqC, AOp.loud, AOp.births, Int.reduceAdd, Int.reduceSub, Int.reduceMul, Int.reduceNeg, Int.reduceToNat, AP.f172, ln, evC_loop, r1', r2]
  · have r1' : Lp AP.A [0, 3] AP.f172L0 [(0, v), (3, .int .i64 0)] h.fence = some (.ret, e', h.fence) := r1
    clear r1
    rw [r3, Bool.and_false]
    refine pure_c (fn := AP.f172) (h2 := h.fence) (e := e') (vs := [.bool false]) rfl rfl rfl ?_ (by simp only [AP.f172, resAll, resOf, r2]; rfl) rfl
    simp (disch := omega) only [go_sem, abin_shl, abin_shr, Nat.reduceEqDiff, reduceIte, Nat.reduceAdd, Nat.reduceMul, Nat.reduceLT, Nat.reduceLeDiff, Int.reduceBEq, Int.reduceBNe, Int.reduceLT, Int.reduceLE, Int.reduceEq, qqC, AOp.loud, AOp.births, Int.reduceAdd, Int.reduceSub, Int.reduceMul, Int.reduceNeg, Int.reduceToNat, AP.f172, ln, evC_loop, r1', r2]
structure Ent where
  name : ByteArray
  gone : Bool
  vec : List Int
  stamp : Int
  node : Int
  method : Int
  packed : ByteArray
  size : Int
  crc : Int
def entC (e : Ent) (v : AV) : List AV := [.str e.name, .bool e.gone, v, .int .i64 e.stamp, .int .i64 e.node, .int .i64 e.method, .str e.packed, .int .i64 e.size, .int .i64 e.crc]
def headA (e : Ent) : Bool := vecA e.vec && (decide (1 ≤ e.stamp) && (countA e.stamp && nodeA e.node))
structure PE (h : H) (p : AV) (cs : List AV) : Prop where
  nil : ∀ g : H, nilcB g p = some (p, g)
  fld : ∃ q : Nat → AV, (∀ k, afadr k p = some (q k)) ∧ ∀ g : H, Ext h g → ∀ (k : Nat) (c : AV), cs[k]? = some c → aload false 1 (q k) g = some c
theorem head_c (h : H) (p v : AV) (e : Ent) (pe : PE h p (entC e v)) (rd : Rd h v (ints e.vec)) (hl : e.vec.length < 1125899906842624) : callW AP.A 112 [p] h = some (.bool (headA e), h) := by
  have nl := pe.nil
  obtain ⟨q, f1, f2⟩ := pe.fld
  have l2 := f2 h (Ext.refl h) 2 v rfl
  have l3 := f2 h (Ext.refl h) 3 _ rfl
  have l4 := f2 h (Ext.refl h) 4 _ rfl
  have k1 := vec_c h v e.vec rd hl
  have k2 := count_c h e.stamp
  have k3 := node_c h e.node
  have c2 : countA e.stamp = true → 1 ≤ e.stamp → True := fun _ _ => trivial
  refine plain_c (fn := AP.f112) (h2 := h) (e := [(2, .bool (headA e))]) (vs := [.bool (headA e)]) rfl rfl rfl ?_ rfl
  unfold headA
  clear pe f2 rd c2
  generalize vecA e.vec = B1 at *
  generalize countA e.stamp = B2 at *
  generalize nodeA e.node = B3 at *
  by_cases c1 : 1 ≤ e.stamp <;> cases B1 <;> cases B2 <;> cases B3 <;> simp (disch := omega) only [go_sem, abin_shl, abin_shr, Nat.reduceEqDiff, reduceIte, Nat.reduceAdd, Nat.reduceMul, Nat.reduceLT, Nat.reduceLeDiff, Int.reduceBEq, Int.reduceBNe, Int.reduceLT, Int.reduceLE, Int.reduceEq, qqC, AOp.loud, AOp.births, Int.reduceAdd, Int.reduceSub, Int.reduceMul, Int.reduceNeg, Int.reduceToNat, AP.f112, nl, f1, l2, l3, l4, k1, k2, k3]
theorem head2_c (h : H) (v : AV) (e : Ent) (rd : Rd h v (ints e.vec)) (hv : v.sc = true) (hl : e.vec.length < 1125899906842624) : callW AP.A 169 [.agg (entC e v)] h = some (.bool (headA e), h) := by
  have hx : Ext h.fence (h.fence.alloc (entC e v)) := (Ext.refl _).alloc _
  have k1 := vec2_c (h.fence.alloc (entC e v)) v e.vec (rd.mono fun id c q => hx id c q) hl
  have g1 : (h.fence.alloc (entC e v)).get h.next = some (entC e v) := get_hit rfl
  have hn : h.fence.next = h.next := rfl
  refine pure_c (fn := AP.f169) (h2 := h.fence.alloc (entC e v)) (e := [(2, .bool (headA e))]) rfl rfl rfl ?_ rfl rfl
  have hb : ∀ ev : Env, look ev 0 = .agg (entC e v) → birth ev (.box 9 (.t 0)) = some (entC e v, fun i => .pobj i 0) := by
    intro ev q
    simp only [birth, ev_t', q, cells_agg]
    rw [if_pos ⟨rfl, by simp [entC, hv]⟩]
  obtain ⟨h1, eh1⟩ : ∃ g, g = h.fence.alloc (entC e v) := ⟨_, rfl⟩
  rw [← eh1] at k1 g1 ⊢
  have hcnt : headA e = (vecA e.vec && (decide (1 ≤ e.stamp) && (decide (e.stamp ≤ 1048576) && (decide (0 ≤ e.node) && decide (e.node < 4))))) := by
    unfold headA countA nodeA
    by_cases c1 : 1 ≤ e.stamp
    · rw [decide_eq_true (show 0 ≤ e.stamp by omega)]; simp
    · simp [c1]
  rw [hcnt]
  clear hcnt rd hx
  generalize vecA e.vec = B1 at *
  simp only [params_c, params_n, AP.f169]
  rw [C_seq, C_reg, ops_u, op_birth_box, hb _ rfl]
  simp only [birthH_s, hn, ← eh1]
  simp only [entC] at g1
  cases B1 with
  | false => simp (disch := omega) only [go_sem, abin_shl, abin_shr, Nat.reduceEqDiff, reduceIte, Nat.reduceAdd, Nat.reduceMul, Nat.reduceLT, Nat.reduceLeDiff, Int.reduceBEq, Int.reduceBNe, Int.reduceLT, Int.reduceLE, Int.reduceEq, qqC, AOp.loud, AOp.births, Int.reduceAdd, Int.reduceSub, Int.reduceMul, Int.reduceNeg, Int.reduceToNat, k1, g1]
  | true =>
    by_cases c1 : 1 ≤ e.stamp
    · by_cases c2 : e.stamp ≤ 1048576
      · by_cases c3 : 0 ≤ e.node
        · by_cases c4 : e.node < 4 <;> simp (disch := omega) only [go_sem, abin_shl, abin_shr, Nat.reduceEqDiff, reduceIte, Nat.reduceAdd, Nat.reduceMul, Nat.reduceLT, Nat.reduceLeDiff, Int.reduceBEq, Int.reduceBNe, Int.reduceLT, Int.reduceLE, Int.reduceEq, qqC, AOp.loud, AOp.births, Int.reduceAdd, Int.reduceSub, Int.reduceMul, Int.reduceNeg, Int.reduceToNat, k1, g1]
        · simp (disch := omega) only [go_sem, abin_shl, abin_shr, Nat.reduceEqDiff, reduceIte, Nat.reduceAdd, Nat.reduceMul, Nat.reduceLT, Nat.reduceLeDiff, Int.reduceBEq, Int.reduceBNe, Int.reduceLT, Int.reduceLE, Int.reduceEq, qqC, AOp.loud, AOp.births, Int.reduceAdd, Int.reduceSub, Int.reduceMul, Int.reduceNeg, Int.reduceToNat, k1, g1]
      · simp (disch := omega) only [go_sem, abin_shl, abin_shr, Nat.reduceEqDiff, reduceIte, Nat.reduceAdd, Nat.reduceMul, Nat.reduceLT, Nat.reduceLeDiff, Int.reduceBEq, Int.reduceBNe, Int.reduceLT, Int.reduceLE, Int.reduceEq, qqC, AOp.loud, AOp.births, Int.reduceAdd, Int.reduceSub, Int.reduceMul, Int.reduceNeg, Int.reduceToNat, k1, g1]
    · simp (disch := omega) only [go_sem, abin_shl, abin_shr, Nat.reduceEqDiff, reduceIte, Nat.reduceAdd, Nat.reduceMul, Nat.reduceLT, Nat.reduceLeDiff, Int.reduceBEq, Int.reduceBNe, Int.reduceLT, Int.reduceLE, Int.reduceEq, qqC, AOp.loud, AOp.births, Int.reduceAdd, Int.reduceSub, Int.reduceMul, Int.reduceNeg, Int.reduceToNat, k1, g1]
end Ab
