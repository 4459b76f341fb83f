/- Part C5. -/
import Derived.Test.YtolinppbhjljcaaC3
/- The document's own stream: Reader.Get, Align, flow.get, wrong, put. -/
set_option linter.unusedSimpArgs false
set_option linter.unusedVariables false
namespace Ab
open Go

theorem get2_step (h : H) (r : Nat) (s : ByteArray) (R : List AV) (p x i n : Nat) (hg : h.get r = some (.str s :: I p :: R)) (hf : h.floor ≤ r) (hp : p < 8 * s.size) (hs : s.size < 1125899906842624) (hx : x < 2 ^ i) (hi : i < n) (hn : n ≤ 16) :
    evC (callW AP.A) loopW AP.f46L0 [(0, .pobj r 0), (1, I n), (6, I x), (7, I i)] h = some (.normal, [(0, .pobj r 0), (1, I n), (6, I (x + bitAt s p * 2 ^ i : Nat)), (7, I (i + 1 : Nat))], h.set r (.str s :: I (p + 1 : Nat) :: R)) := by
  obtain ⟨b, hb⟩ := byte_at (s := s) (i := p / 8) (by omega)
  have hb8 : b.toNat < 256 := b.toNat_lt
  have hbit : bitAt s p = b.toNat / 2 ^ (p % 8) % 2 := by simp [bitAt, hb]
  have t1 : abin .quo (.int .i64 (p : Int)) (.int .i64 8) = some (.int .i64 ((p / 8 : Nat) : Int)) := by
    rw [abin_quo _ _ _ (by omega), show (8 : Int) = ((8 : Nat) : Int) from rfl, tdiv_nat, wrap_nat64 (by omega)]
  have t2 : abin .rem (.int .i64 (p : Int)) (.int .i64 8) = some (.int .i64 ((p % 8 : Nat) : Int)) := by
    rw [abin_rem _ _ _ (by omega), show (8 : Int) = ((8 : Nat) : Int) from rfl, tmod_nat]
  have a1 : aidxs (.str s) (I (p / 8 : Nat)) = some (.int .u8 b.toNat) := by
    simp only [aidxs, aidx_of (show p / 8 < s.size by omega), Option.bind_some, hb]
  have s1 : shft .shr .u8 (b.toNat : Int) ((p % 8 : Nat) : Int) = some (.int .u8 ((b.toNat / 2 ^ (p % 8) : Nat) : Int)) := shr_u8 (by omega)
  have hlt : b.toNat / 2 ^ (p % 8) < 256 := Nat.lt_of_le_of_lt (Nat.div_le_self _ _) hb8
  have n1 : bits .and .u8 ((b.toNat / 2 ^ (p % 8) : Nat) : Int) 1 = ((bitAt s p : Nat) : Int) := by
    have := bits_and8 (b := 1) hlt (by omega)
    rw [Nat.and_one_is_mod] at this
    rw [hbit]; exact this
  have hbl := bitAt_le s p
  have w2 : IntKind.wrap .i64 ((bitAt s p : Nat) : Int) = ((bitAt s p : Nat) : Int) := wrap_nat64 (by omega)
  have hpow : (2 : Nat) ^ i ≤ 2 ^ 16 := Nat.pow_le_pow_right (by omega) (by omega)
  have hmul : bitAt s p * 2 ^ i ≤ 2 ^ i := by
    have := Nat.mul_le_mul_right (2 ^ i) hbl; simpa using this
  have s2 : shft .shl .i64 ((bitAt s p : Nat) : Int) (i : Int) = some (.int .i64 ((bitAt s p * 2 ^ i : Nat) : Int)) := shl_i64 (by omega) (by omega)
  have o1 : bits .or .i64 (x : Int) ((bitAt s p * 2 ^ i : Nat) : Int) = ((x + bitAt s p * 2 ^ i : Nat) : Int) := by
    rw [bits_or (by omega) (by omega), or_add hx]
  have w3 : IntKind.wrap .i64 ((p : Int) + 1) = ((p + 1 : Nat) : Int) := wrap_nat64 (n := p + 1) (by omega)
  have w4 : IntKind.wrap .i64 ((i : Int) + 1) = ((i + 1 : Nat) : Int) := wrap_nat64 (n := i + 1) (by omega)
  have c1 : (i : Int) < n := by omega
  have hst : stO h r 1 1 [I (p + 1 : Nat)] (some (.str s :: I p :: R)) = some (h.set r (.str s :: I (p + 1 : Nat) :: R)) := stO_1 hf (by simp) rfl
  generalize hB : bitAt s p = B at *
  generalize hD : b.toNat / 2 ^ (p % 8) = D at *
  generalize hE : p / 8 = E at *
  generalize hF : p % 8 = F at *
  generalize hO : x + B * 2 ^ i = O at *
  generalize hM : B * 2 ^ i = W at *
  simp only [I] at *
  simp only [AP.f46L0, go_sem, abin_shl, abin_shr, Nat.reduceEqDiff, reduceIte, Nat.reduceAdd, Nat.reduceMul, Nat.reduceLT, Nat.reduceLeDiff, Int.reduceBEq, Int.reduceBNe, Int.reduceLT, Int.reduceLE, Int.reduceEq, decide_eq_true c1, hg, t1, a1, t2, s1, n1, w2, s2, o1, w3, hst, w4]

theorem get2_loop (r : Nat) (s : ByteArray) (R : List AV) (p n : Nat) (hs : s.size < 1125899906842624) (hp : p + n ≤ 8 * s.size) (hn : n ≤ 16) : ∀ (k i : Nat) (h : H), i + k = n → h.get r = some (.str s :: I (p + i : Nat) :: R) → h.floor ≤ r →
    ∃ e', Lp AP.A [0, 1, 6, 7] AP.f46L0 [(0, .pobj r 0), (1, I n), (6, I (valAt s p i : Nat)), (7, I i)] h = some (.exit 0, e', h.set r (.str s :: I (p + n : Nat) :: R)) ∧ look e' 6 = I (valAt s p n : Nat)
  | 0, i, h, hk, hg, hf => by
    obtain rfl : i = n := by omega
    refine ⟨[(0, .pobj r 0), (1, I i), (6, I (valAt s p i : Nat)), (7, I i), (29, .bool false)], Lp_exit ?_, rfl⟩
    rw [H.set_same hg]
    have c1 : ¬ (i : Int) < i := by omega
    simp only [I] at *
    simp only [AP.f46L0, go_sem, abin_shl, abin_shr, Nat.reduceEqDiff, reduceIte, Nat.reduceAdd, Nat.reduceMul, Nat.reduceLT, Nat.reduceLeDiff, Int.reduceBEq, Int.reduceBNe, Int.reduceLT, Int.reduceLE, Int.reduceEq, decide_eq_false c1]
  | k + 1, i, h, hk, hg, hf => by
    have st := get2_step h r s R (p + i) (valAt s p i) i n hg hf (by omega) hs (valAt_lt s p i) (by omega) hn
    obtain ⟨e', k1, k2⟩ := get2_loop r s R p n hs hp hn k (i + 1) (h.set r (.str s :: I (p + i + 1 : Nat) :: R)) (by omega) (by rw [H.get_set, if_pos rfl, hg]; rfl) (by simpa using hf)
    rw [H.set_set] at k1
    exact ⟨e', Lp_next st k1, k2⟩

theorem get2_ok (h : H) (r : Nat) (s : ByteArray) (R : List AV) (p n : Nat) (hg : h.get r = some (.str s :: I p :: R)) (hf : h.floor ≤ r) (hs : s.size < 1125899906842624) (hp : p + n ≤ 8 * s.size) (hn : n ≤ 16) :
    callW AP.A 46 [.pobj r 0, I n] h = some (.tup [I (valAt s p n : Nat), I 0], h.set r (.str s :: I (p + n : Nat) :: R)) := by
  obtain ⟨e', k1, k2⟩ := get2_loop r s R p n hs hp hn n 0 h (by omega) hg hf
  have k1' : Lp AP.A [0, 1, 6, 7] AP.f46L0 [(0, .pobj r 0), (1, I n), (6, I 0), (7, I 0)] h = some (.exit 0, e', h.set r (.str s :: I (p + n : Nat) :: R)) := k1
  clear k1
  have c0 : ¬ (n : Int) < 0 := by omega
  have c1 : ¬ (16 : Int) < n := by omega
  have w1 : IntKind.wrap .i64 (8 * (s.size : Int)) = ((8 * s.size : Nat) : Int) := wrap_nat64 (n := 8 * s.size) (by omega)
  have w2 : IntKind.wrap .i64 (((8 * s.size : Nat) : Int) - p) = ((8 * s.size - p : Nat) : Int) := by
    rw [← Int.ofNat_sub (by omega)]; exact wrap_nat64 (by omega)
  have c2 : ¬ ((8 * s.size - p : Nat) : Int) < n := by omega
  refine plain_c (fn := AP.f46) (e := [(4, I (valAt s p n : Nat)), (5, I 0)]) rfl rfl rfl ?_ rfl
  generalize hM : 8 * s.size - p = W at *
  generalize hM2 : 8 * s.size = W2 at *
  simp only [I] at *
  simp only [AP.f46, go_sem, abin_shl, abin_shr, Nat.reduceEqDiff, reduceIte, Nat.reduceAdd, Nat.reduceMul, Nat.reduceLT, Nat.reduceLeDiff, Int.reduceBEq, Int.reduceBNe, Int.reduceLT, Int.reduceLE, Int.reduceEq, decide_eq_false c0, decide_eq_false c1, hg, w1, w2, decide_eq_false c2, evC_loop, k1', k2]

theorem get2_end (h : H) (r : Nat) (s : ByteArray) (R : List AV) (p n : Nat) (hg : h.get r = some (.str s :: I p :: R)) (hs : s.size < 1125899906842624) (hp0 : p ≤ 8 * s.size) (hp : 8 * s.size < p + n) (hn : n ≤ 16) :
    callW AP.A 46 [.pobj r 0, I n] h = some (.tup [I 0, I 101], h) := by
  have c0 : ¬ (n : Int) < 0 := by omega
  have c1 : ¬ (16 : Int) < n := by omega
  have w1 : IntKind.wrap .i64 (8 * (s.size : Int)) = ((8 * s.size : Nat) : Int) := wrap_nat64 (n := 8 * s.size) (by omega)
  have w2 : IntKind.wrap .i64 (((8 * s.size : Nat) : Int) - p) = ((8 * s.size - p : Nat) : Int) := by
    rw [← Int.ofNat_sub (by omega)]; exact wrap_nat64 (by omega)
  have c2 : ((8 * s.size - p : Nat) : Int) < n := by omega
  refine plain_c (fn := AP.f46) (e := [(4, I 0), (5, I 101)]) rfl rfl rfl ?_ rfl
  generalize hM : 8 * s.size - p = W at *
  generalize hM2 : 8 * s.size = W2 at *
  simp only [I] at *
  simp only [AP.f46, go_sem, abin_shl, abin_shr, Nat.reduceEqDiff, reduceIte, Nat.reduceAdd, Nat.reduceMul, Nat.reduceLT, Nat.reduceLeDiff, Int.reduceBEq, Int.reduceBNe, Int.reduceLT, Int.reduceLE, Int.reduceEq, decide_eq_false c0, decide_eq_false c1, hg, w1, w2, decide_eq_true c2]

/-! ### The flow -/
structure FC where
  f : Nat
  text : ByteArray
  most : Int

structure Ft (c : FC) (S : SS) (h : H) (ov : AV) : Prop where
  gf : h.get c.f = some [.str c.text, I S.at_, ov, I c.most, I S.e]
  own : Own h ov (bys S.out)
  ff : h.floor ≤ c.f
  of : ov.id? ≠ some c.f
  nx : h.floor ≤ h.next
  sz : c.text.size < 1125899906842624
  at_le : S.at_ ≤ 8 * c.text.size
  ol : (S.out.length : Int) ≤ c.most
  ml : c.most ≤ 900000

structure FF (c : FC) (h : H) (ov : AV) (h' : H) (ov' : AV) : Prop where
  fl : h'.floor = h.floor
  nx : h.next ≤ h'.next
  oth : ∀ id, id < h.next → id ≠ c.f → ov.id? ≠ some id → h'.get id = h.get id
  nb : ∀ i, ov'.id? = some i → ov.id? = some i ∨ h.next ≤ i

theorem FF.refl (c : FC) (h : H) (ov : AV) : FF c h ov h ov := ⟨rfl, Nat.le_refl _, fun _ _ _ _ => rfl, fun _ q => .inl q⟩
theorem FF.trans {c : FC} {h1 h2 h3 : H} {o1 o2 o3 : AV} (a : FF c h1 o1 h2 o2) (b : FF c h2 o2 h3 o3) : FF c h1 o1 h3 o3 := by
  refine ⟨b.fl.trans a.fl, Nat.le_trans a.nx b.nx, fun id h4 h5 h7 => ?_, fun i hi => ?_⟩
  · rw [b.oth id (Nat.lt_of_lt_of_le h4 a.nx) h5 (fun q => ?_), a.oth id h4 h5 h7]
    rcases a.nb id q with q | q
    · exact h7 q
    · omega
  · rcases b.nb i hi with q | q
    · exact a.nb i q
    · exact .inr (Nat.le_trans a.nx q)

theorem Ft.setF {c : FC} {S : SS} {h : H} {ov : AV} (st : Ft c S h ov) {p : Nat} (hp : p ≤ 8 * c.text.size) (e : Int) : Ft c ⟨p, S.out, e⟩ (h.set c.f [.str c.text, I p, ov, I c.most, I e]) ov ∧ FF c h ov (h.set c.f [.str c.text, I p, ov, I c.most, I e]) ov := by
  refine ⟨⟨by rw [H.get_set, if_pos rfl, st.gf]; rfl, st.own.mono (by simp) fun i hi => ?_, by simpa using st.ff, st.of, by simpa using st.nx, st.sz, hp, st.ol, st.ml⟩, ⟨by simp, by simp, fun id h1 h2 h4 => by rw [H.get_set, if_neg h2], fun _ q => .inl q⟩⟩
  rw [H.get_set, if_neg]; intro (e : i = c.f); exact st.of (e ▸ hi)

theorem Ft.keep {c : FC} {S : SS} {h h' : H} {ov : AV} (st : Ft c S h ov) (hf : h'.floor = h.floor) (hn : h.next ≤ h'.next) (hg : ∀ i, i = c.f ∨ ov.id? = some i → h'.get i = h.get i) : Ft c S h' ov :=
  ⟨by rw [hg _ (.inl rfl)]; exact st.gf, st.own.mono hf fun i hi => hg i (.inr hi), by rw [hf]; exact st.ff, st.of, by rw [hf]; exact Nat.le_trans st.nx hn, st.sz, st.at_le, st.ol, st.ml⟩
theorem Ft.lt {c : FC} {S : SS} {h : H} {ov : AV} (st : Ft c S h ov) {i : Nat} (hi : i = c.f ∨ ov.id? = some i) : i < h.next := by
  rcases hi with rfl | hi
  · exact h.lt _ _ st.gf
  · exact st.own.lt hi
theorem Ft.alloc {c : FC} {S : SS} {h : H} {ov : AV} (st : Ft c S h ov) (cs : List AV) : Ft c S (h.alloc cs) ov ∧ FF c h ov (h.alloc cs) ov := by
  refine ⟨st.keep (by simp) (by simp) fun i hi => ?_, ⟨by simp, by simp, fun id h1 _ _ => ?_, fun _ q => .inl q⟩⟩
  · have := st.lt hi; rw [H.get_alloc, if_neg (by omega)]
  · rw [H.get_alloc, if_neg (by omega)]

def getF (c : FC) (n : Nat) (S : SS) : Nat × SS := if S.at_ + n ≤ 8 * c.text.size then (valAt c.text S.at_ n, { S with at_ := S.at_ + n }) else (0, failS 700 S)

theorem getF_eq (c : SC) (d : FC) (ht : c.text = d.text) (n : Nat) (S : SS) : getS c n S = getF d n S := by unfold getS getF; rw [ht]

theorem fget_c {c : FC} {S : SS} {h : H} {ov : AV} (st : Ft c S h ov) (n : Nat) (m : Int) (hm : m = n) (hn : n ≤ 16) : ∃ h', callW AP.A 18 [.pobj c.f 0, I m] h = some (I ((getF c n S).1 : Nat), h') ∧ Ft c (getF c n S).2 h' ov ∧ FF c h ov h' ov := by
  subst hm
  have gf := st.gf
  by_cases hp : S.at_ + n ≤ 8 * c.text.size
  · have g := get2_ok h c.f c.text _ S.at_ n st.gf st.ff st.sz hp hn
    refine ⟨_, ?_, by rw [getF, if_pos hp]; exact (st.setF hp S.e).1, (st.setF hp S.e).2⟩
    rw [getF, if_pos hp]
    have c0 : ((0 : Int) != 0) = false := rfl
    refine plain_c (fn := AP.f18) (e := [(4, I (valAt c.text S.at_ n : Nat))]) rfl rfl rfl ?_ rfl
    simp only [I] at *
    simp only [AP.f18, go_sem, abin_shl, abin_shr, Nat.reduceEqDiff, reduceIte, Nat.reduceAdd, Nat.reduceMul, Nat.reduceLT, Nat.reduceLeDiff, Int.reduceBEq, Int.reduceBNe, Int.reduceLT, Int.reduceLE, Int.reduceEq, g, c0]
  · have g := get2_end h c.f c.text _ S.at_ n st.gf st.sz st.at_le (by omega) hn
    have c0 : ((101 : Int) != 0) = true := rfl
    rw [getF, if_neg hp]
    by_cases he : S.e = 0
    · have c1 := beq_t he
      have hst : stO h c.f 4 1 [I 700] (some [.str c.text, I S.at_, ov, I c.most, I S.e]) = some (h.set c.f [.str c.text, I S.at_, ov, I c.most, I 700]) := stO_1 st.ff (by simp) rfl
      refine ⟨_, ?_, by rw [failS, if_pos he]; exact (st.setF st.at_le 700).1, (st.setF st.at_le 700).2⟩
      refine plain_c (fn := AP.f18) (e := [(4, I 0)]) rfl rfl rfl ?_ rfl
      simp only [I] at *
      simp only [AP.f18, go_sem, abin_shl, abin_shr, Nat.reduceEqDiff, reduceIte, Nat.reduceAdd, Nat.reduceMul, Nat.reduceLT, Nat.reduceLeDiff, Int.reduceBEq, Int.reduceBNe, Int.reduceLT, Int.reduceLE, Int.reduceEq, g, c0, gf, c1, hst]
    · have c1 := beq_f he
      refine ⟨h, ?_, by rw [failS, if_neg he]; exact st, FF.refl _ _ _⟩
      refine plain_c (fn := AP.f18) (e := [(4, I 0)]) rfl rfl rfl ?_ rfl
      simp only [I] at *
      simp only [AP.f18, go_sem, abin_shl, abin_shr, Nat.reduceEqDiff, reduceIte, Nat.reduceAdd, Nat.reduceMul, Nat.reduceLT, Nat.reduceLeDiff, Int.reduceBEq, Int.reduceBNe, Int.reduceLT, Int.reduceLE, Int.reduceEq, g, c0, gf, c1]

theorem wrong_c {c : FC} {S : SS} {h : H} {ov : AV} (st : Ft c S h ov) : ∃ h', callW AP.A 25 [.pobj c.f 0] h = some (.tup [], h') ∧ Ft c (failS 700 S) h' ov ∧ FF c h ov h' ov := by
  have gf := st.gf
  by_cases he : S.e = 0
  · have c1 := beq_t he
    have hst : stO h c.f 4 1 [I 700] (some [.str c.text, I S.at_, ov, I c.most, I S.e]) = some (h.set c.f [.str c.text, I S.at_, ov, I c.most, I 700]) := stO_1 st.ff (by simp) rfl
    refine ⟨_, ?_, by rw [failS, if_pos he]; exact (st.setF st.at_le 700).1, (st.setF st.at_le 700).2⟩
    refine plain_n (fn := AP.f25) (e := []) rfl rfl rfl ?_ rfl
    simp only [I] at *
    simp only [AP.f25, go_sem, abin_shl, abin_shr, Nat.reduceEqDiff, reduceIte, Nat.reduceAdd, Nat.reduceMul, Nat.reduceLT, Nat.reduceLeDiff, Int.reduceBEq, Int.reduceBNe, Int.reduceLT, Int.reduceLE, Int.reduceEq, gf, c1, hst]
  · have c1 := beq_f he
    refine ⟨h, ?_, by rw [failS, if_neg he]; exact st, FF.refl _ _ _⟩
    refine plain_n (fn := AP.f25) (e := []) rfl rfl rfl ?_ rfl
    simp only [I] at *
    simp only [AP.f25, go_sem, abin_shl, abin_shr, Nat.reduceEqDiff, reduceIte, Nat.reduceAdd, Nat.reduceMul, Nat.reduceLT, Nat.reduceLeDiff, Int.reduceBEq, Int.reduceBNe, Int.reduceLT, Int.reduceLE, Int.reduceEq, gf, c1]

theorem falign_c {c : FC} {S : SS} {h : H} {ov : AV} (st : Ft c S h ov) : ∃ h', callW AP.A 47 [.pobj c.f 0] h = some (.tup [], h') ∧ Ft c { S with at_ := (S.at_ + 7) / 8 * 8 } h' ov ∧ FF c h ov h' ov := by
  have gf := st.gf
  have hle := st.at_le
  have hsz := st.sz
  have w2 : IntKind.wrap .i64 ((S.at_ : Int) + 7) = ((S.at_ + 7 : Nat) : Int) := wrap_nat64 (n := S.at_ + 7) (by omega)
  have w3 : IntKind.wrap .i64 (((S.at_ + 7 : Nat) : Int).tdiv 8) = (((S.at_ + 7) / 8 : Nat) : Int) := by
    rw [show (8 : Int) = ((8 : Nat) : Int) from rfl, tdiv_nat]; exact wrap_nat64 (by omega)
  have w4 : IntKind.wrap .i64 ((((S.at_ + 7) / 8 : Nat) : Int) * 8) = (((S.at_ + 7) / 8 * 8 : Nat) : Int) := by
    rw [show (((S.at_ + 7) / 8 : Nat) : Int) * 8 = (((S.at_ + 7) / 8 * 8 : Nat) : Int) by omega]; exact wrap_nat64 (by omega)
  have q : abin .quo (.int .i64 ((S.at_ + 7 : Nat) : Int)) (.int .i64 8) = some (.int .i64 (((S.at_ + 7) / 8 : Nat) : Int)) := by rw [abin_quo _ _ _ (by omega), w3]
  have hst : stO h c.f 1 1 [I ((S.at_ + 7) / 8 * 8 : Nat)] (some [.str c.text, I S.at_, ov, I c.most, I S.e]) = some (h.set c.f [.str c.text, I ((S.at_ + 7) / 8 * 8 : Nat), ov, I c.most, I S.e]) := stO_1 st.ff (by simp) rfl
  have hp : (S.at_ + 7) / 8 * 8 ≤ 8 * c.text.size := by omega
  refine ⟨_, ?_, (st.setF hp S.e).1, (st.setF hp S.e).2⟩
  refine plain_n (fn := AP.f47) (e := []) rfl rfl rfl ?_ rfl
  generalize (S.at_ + 7) / 8 * 8 = P8 at *
  generalize (S.at_ + 7) / 8 = P at *
  generalize S.at_ + 7 = P7 at *
  simp only [I] at *
  simp only [AP.f47, go_sem, abin_shl, abin_shr, Nat.reduceEqDiff, reduceIte, Nat.reduceAdd, Nat.reduceMul, Nat.reduceLT, Nat.reduceLeDiff, Int.reduceBEq, Int.reduceBNe, Int.reduceLT, Int.reduceLE, Int.reduceEq, gf, w2, q, w4, hst]

/-- A byte is put, where nothing has gone wrong. -/
theorem fput_c {c : FC} {S : SS} {h : H} {ov : AV} (st : Ft c S h ov) (he : S.e = 0) (b : Nat) : ∃ h' ov' S', callW AP.A 48 [.pobj c.f 0, .int .u8 b] h = some (.tup [], h') ∧ Ft c S' h' ov' ∧ FF c h ov h' ov' ∧ S' = if c.most ≤ S.out.length then { S with e := 701 } else ⟨S.at_, S.out ++ [b], 0⟩ := by
  have gf := st.gf
  have hol := st.ol
  have hml := st.ml
  have ln := st.own.len
  rw [bys_length] at ln
  have c1 := beq_t he
  by_cases hm : c.most ≤ S.out.length
  · rw [if_pos hm]
    have hst : stO h c.f 4 1 [I 701] (some [.str c.text, I S.at_, ov, I c.most, I S.e]) = some (h.set c.f [.str c.text, I S.at_, ov, I c.most, I 701]) := stO_1 st.ff (by simp) rfl
    have s1 := st.setF st.at_le 701
    have gf1 := s1.1.gf
    refine ⟨_, ov, _, ?_, s1.1, s1.2, rfl⟩
    refine plain_n (fn := AP.f48) (e := []) rfl rfl rfl ?_ rfl
    simp only [I] at *
    simp only [AP.f48, go_sem, abin_shl, abin_shr, Nat.reduceEqDiff, reduceIte, Nat.reduceAdd, Nat.reduceMul, Nat.reduceLT, Nat.reduceLeDiff, Int.reduceBEq, Int.reduceBNe, Int.reduceLT, Int.reduceLE, Int.reduceEq, gf, c1, ln, decide_eq_true hm, hst, gf1]
  · rw [if_neg hm]
    have hfl : c.f < h.next := h.lt _ _ st.gf
    obtain ⟨h1, eh1⟩ : ∃ g, g = h.alloc [.int .u8 b] := ⟨_, rfl⟩
    have hlo1 : ∀ i, i ≠ h.next → h1.get i = h.get i := fun i q => by rw [eh1, H.get_alloc, if_neg q]
    have hfl1 : h1.floor = h.floor := by rw [eh1]; simp
    have hnx1 : h1.next = h.next + 1 := by rw [eh1]; simp
    have ho1 : Own h1 ov (bys S.out) := st.own.mono hfl1 fun i hi => hlo1 i (by have := st.own.lt hi; omega)
    have hnxf := st.nx
    obtain ⟨v', h2, q1, q2, q3, q4, q5, q6⟩ := ho1.app (by omega) (z := 1) (.int .u8 b) rfl (by simp [roomy]; omega)
    have src : srcCells h1 1 (.sobj h.next 0 1 1) = some (1, [.int .u8 b]) := by simp [srcCells, eh1, H.get_alloc]
    have ap : aapp h1 1 1 ov (.sobj h.next 0 1 1) = some (v', h2) := by unfold aapp; rw [src, Option.bind_some]; exact q1
    have gf1 : h1.get c.f = some [.str c.text, I S.at_, ov, I c.most, I S.e] := by rw [hlo1 _ (by omega)]; exact st.gf
    have gf2 : h2.get c.f = some [.str c.text, I S.at_, ov, I c.most, I S.e] := by rw [q5 _ st.of (by omega)]; exact gf1
    have ff2 : h2.floor ≤ c.f := by have := st.ff; omega
    have hv' : v'.cells = [v'] ∧ v'.sc = true := by
      rcases q2 with ⟨rfl, _⟩ | ⟨id, rfl, _⟩ <;> exact ⟨rfl, rfl⟩
    have hst : stO h2 c.f 2 1 v'.cells (some [.str c.text, I S.at_, ov, I c.most, I S.e]) = some (h2.set c.f [.str c.text, I S.at_, v', I c.most, I S.e]) := by rw [hv'.1]; exact stO_1 ff2 (by simp) hv'.2
    have hby : bys (S.out ++ [b]) = bys S.out ++ [.int .u8 b] := by simp [bys]
    have bt : ∀ e : Env, look e 34 = .int .u8 b → birth e (.bslice 1 1 [.int .u8 0] [(0, (.t 34))]) = some ([.int .u8 b], fun i => .sobj i 0 1 1) := by
      intro e q; simp only [birth, List.map_cons, List.map_nil, ev_t', q]; rfl
    refine ⟨h2.set c.f [.str c.text, I S.at_, v', I c.most, I S.e], v', _, ?_, ?_, ?_, rfl⟩
    · refine plain_n (fn := AP.f48) (e := []) rfl rfl rfl ?_ rfl
      simp only [I] at *
      simp only [AP.f48, go_sem, abin_shl, abin_shr, Nat.reduceEqDiff, reduceIte, Nat.reduceAdd, Nat.reduceMul, Nat.reduceLT, Nat.reduceLeDiff, Int.reduceBEq, Int.reduceBNe, Int.reduceLT, Int.reduceLE, Int.reduceEq, gf, c1, ln, decide_eq_false hm]
      rw [bt _ rfl]
      simp only [go_sem, abin_shl, abin_shr, Nat.reduceEqDiff, reduceIte, Nat.reduceAdd, Nat.reduceMul, Nat.reduceLT, Nat.reduceLeDiff, Int.reduceBEq, Int.reduceBNe, Int.reduceLT, Int.reduceLE, Int.reduceEq, ← eh1, ap, gf2, hst]
    · refine ⟨by rw [H.get_set, if_pos rfl, gf2, he]; rfl, ?_, by simpa using ff2, ?_, by simp; omega, st.sz, st.at_le, by simp; omega, st.ml⟩
      · rw [hby]
        refine q2.mono (by simp) fun i hi => ?_
        rw [q6] at hi; cases hi
        rw [H.get_set, if_neg (by omega)]
      · rw [q6]; intro e; have := Option.some.inj e; omega
    · refine ⟨by simp; omega, by simp; omega, fun id a1 a2 a4 => ?_, fun i hi => ?_⟩
      · rw [H.get_set, if_neg a2, q5 id a4 (by omega), hlo1 id (by omega)]
      · rw [q6] at hi; cases hi; right; omega
end Ab

/- The document's own books: bookOf, flow.symbol. -/
set_option linter.unusedSimpArgs false
set_option linter.unusedVariables false
namespace Ab
open Go

/-- The symbols, by length. -/
def flat (l : List Int) : Nat → List Int
  | 0 => []
  | n + 1 => flat l n ++ syms l (n + 1)
def rbC (l : List Int) : Nat → AV := fun i => if i < 16 then I (cnt l i) else slOf (ints (flat l 15))
def rbook (l : List Int) : AV := .pimm (tab 17 (rbC l)) 0

theorem flat_len_le (l : List Int) : ∀ n, (flat l n).length ≤ n * l.length
  | 0 => by simp [flat]
  | n + 1 => by
    rw [flat, List.length_append, Nat.add_mul, Nat.one_mul]
    have := flat_len_le l n
    have := syms_length l (n + 1)
    omega

structure Bkr (h0 h : H) (b : Nat) (D : Nat → AV) (k : Nat) (p S0 : List Int) : Prop where
  get : h.get b = some (tab 17 D)
  fl : h.floor = h0.next
  fb : h0.next ≤ b
  nx : h.floor ≤ h.next
  low : ∀ id, id < h0.next → h.get id = h0.get id
  ck : D k = I (cnt p k)
  own : Own h (D 16) (ints (S0 ++ syms p k))
  nb : (D 16).id? ≠ some b

theorem bo_loop (h0 : H) (b : Nat) (x : AV) (l : List Int) (hl : l.length < 1000) (hx : Rd h0 x (ints l)) (k : Nat) (hk1 : 1 ≤ k) (hk : k ≤ 15) (S0 : List Int) (hS0 : S0.length ≤ 15000) : ∀ (q p : List Int) (D : Nat → AV) (h : H), l = p ++ q → Bkr h0 h b D k p S0 →
    ∃ e' h' D', Lp AP.A [0, 3, 4, 5] AP.f21L0 [(0, x), (3, .pobj b 0), (4, I k), (5, I p.length)] h = some (.exit 2, e', h') ∧ look e' 0 = x ∧ look e' 3 = .pobj b 0 ∧ look e' 4 = I k ∧ Bkr h0 h' b D' k l S0 ∧ ∀ i, i < 16 → i ≠ k → D' i = D i
  | [], p, D, h, hp, bo => by
    rw [List.append_nil] at hp; subst hp
    refine ⟨[(0, x), (3, .pobj b 0), (4, I k), (5, I l.length), (15, .bool false)], h, D, Lp_exit ?_, rfl, rfl, rfl, bo, fun _ _ _ => rfl⟩
    have ln := hx.len
    rw [ints_length] at ln
    have c1 : ¬ (l.length : Int) < (l.length : Int) := by omega
    simp only [I] at *
    simp only [AP.f21L0, go_sem, abin_shl, abin_shr, Nat.reduceEqDiff, reduceIte, Nat.reduceAdd, Nat.reduceMul, Nat.reduceLT, Nat.reduceLeDiff, Int.reduceBEq, Int.reduceBNe, Int.reduceLT, Int.reduceLE, Int.reduceEq, ln, decide_eq_false c1]
  | y :: q, p, D, h, hp, bo => by
    have ln := hx.len
    rw [ints_length] at ln
    have hlen : l.length = p.length + (q.length + 1) := by rw [hp]; simp
    have c1 : (p.length : Int) < (l.length : Int) := by omega
    have hv : (ints l)[p.length]? = some (I y) := ints_get (by rw [hp]; simp)
    obtain ⟨ad, p1, p2⟩ := hx.elem hv
    have hlow : ∀ id c, h0.get id = some c → h.get id = some c := fun id c q => by rw [bo.low id (h0.lt id c q)]; exact q
    have p3 := p2 h hlow
    have w1 : IntKind.wrap .i64 ((p.length : Int) + 1) = (((p ++ [y]).length : Nat) : Int) := by
      rw [List.length_append]; exact wrap_nat64 (n := p.length + 1) (by omega)
    have hcn := cnt_snoc p y k
    have hsn := syms_snoc p y k
    by_cases hy : y = (k : Int)
    · have cb := beq_t hy
      have hcl := cnt_le p k
      rw [if_pos ⟨by omega, hy⟩] at hcn hsn
      have w2 : IntKind.wrap .i64 ((cnt p k : Int) + 1) = ((cnt p k + 1 : Nat) : Int) := wrap_nat64 (n := cnt p k + 1) (by omega)
      have a1 : aidx (I k) 16 = some k := aidx_of (by omega)
      have g1 : (tab 17 D)[k]? = some (I (cnt p k)) := by rw [tab_get (by omega), bo.ck]
      have hfb : h.floor ≤ b := by rw [bo.fl]; exact bo.fb
      obtain ⟨D1, eD1⟩ : ∃ E, E = upd D k (I (cnt p k + 1 : Nat)) := ⟨_, rfl⟩
      have st1 : stO h b k 1 [I (cnt p k + 1 : Nat)] (some (tab 17 D)) = some (h.set b (tab 17 D1)) := by
        rw [stO_1 hfb (by rw [tab_length]; omega) rfl, tab_set (by omega), ← eD1]
      obtain ⟨h1, eh1⟩ : ∃ g, g = h.set b (tab 17 D1) := ⟨_, rfl⟩
      have hbn : b < h.next := h.lt _ _ bo.get
      have g2 : h1.get b = some (tab 17 D1) := by rw [eh1, H.get_set, if_pos rfl, bo.get]; rfl
      have d16 : D1 16 = D 16 := by rw [eD1, upd, if_neg (by omega)]
      have g3 : (tab 17 D1)[16]? = some (D 16) := by rw [tab_get (by omega), d16]
      obtain ⟨h2, eh2⟩ : ∃ g, g = h1.alloc [I p.length] := ⟨_, rfl⟩
      have hn1 : h1.next = h.next := by rw [eh1]; simp
      have hlo2 : ∀ i, i ≠ b → i ≠ h.next → h2.get i = h.get i := fun i q1 q2 => by rw [eh2, H.get_alloc, hn1, if_neg q2, eh1, H.get_set, if_neg q1]
      have hfl2 : h2.floor = h.floor := by rw [eh2, eh1]; simp
      have hnx2 : h2.next = h.next + 1 := by rw [eh2, eh1]; simp
      have o2 : Own h2 (D 16) (ints (S0 ++ syms p k)) := bo.own.mono hfl2 fun i hi => hlo2 i (fun e => bo.nb (e ▸ hi)) (by have := bo.own.lt hi; omega)
      have hsl := syms_length p k
      have hnxf := bo.nx
      obtain ⟨v', h3, q1, q2, q3, q4, q5, q6⟩ := o2.app (by omega) (z := 8) (I p.length) rfl (by simp [roomy]; omega)
      have src : srcCells h2 1 (.sobj h1.next 0 1 1) = some (1, [I p.length]) := by simp [srcCells, eh2, H.get_alloc]
      have ap : aapp h2 1 8 (D 16) (.sobj h1.next 0 1 1) = some (v', h3) := by unfold aapp; rw [src, Option.bind_some]; exact q1
      have g4 : h3.get b = some (tab 17 D1) := by
        rw [q5 b bo.nb (by omega), eh2, H.get_alloc, if_neg (by omega)]; exact g2
      have hv' : v'.cells = [v'] ∧ v'.sc = true := by
        rcases q2 with ⟨rfl, _⟩ | ⟨id, rfl, _⟩ <;> exact ⟨rfl, rfl⟩
      obtain ⟨D2, eD2⟩ : ∃ E, E = upd D1 16 v' := ⟨_, rfl⟩
      have hfb3 : h3.floor ≤ b := by rw [q3, hfl2]; exact hfb
      have st2 : stO h3 b 16 1 v'.cells (some (tab 17 D1)) = some (h3.set b (tab 17 D2)) := by
        rw [hv'.1, stO_1 hfb3 (by rw [tab_length]; omega) hv'.2, tab_set (by omega), ← eD2]
      have bt : ∀ e : Env, look e 39 = .int .i64 p.length → birth e (.bslice 1 1 [.int .i64 0] [(0, .t 39)]) = some ([.int .i64 p.length], fun i => .sobj i 0 1 1) := by
        intro e q; simp only [birth, List.map_cons, List.map_nil, ev_t', q]; rfl
      have step : evC (callW AP.A) loopW AP.f21L0 (restr [(0, x), (3, .pobj b 0), (4, I k), (5, I p.length)] [0, 3, 4, 5]) h = some (.normal, [(0, x), (3, .pobj b 0), (4, I k), (5, I (p ++ [y]).length)], h3.set b (tab 17 D2)) := by
        have gb := bo.get
        generalize tab 17 D = T0 at *
        generalize tab 17 D1 = T1 at *
        generalize tab 17 D2 = T2 at *
        generalize (p ++ [y]).length = B at *
        generalize D 16 = dv at *
        simp only [I] at *
        simp only [AP.f21L0, go_sem, abin_shl, abin_shr, Nat.reduceEqDiff, reduceIte, Nat.reduceAdd, Nat.reduceMul, Nat.reduceLT, Nat.reduceLeDiff, Int.reduceBEq, Int.reduceBNe, Int.reduceLT, Int.reduceLE, Int.reduceEq, ln, decide_eq_true c1, p1, p3, cb, a1, gb, g1, w2, st1, ← eh1, g2, g3]
        rw [bt _ rfl]
        simp only [go_sem, abin_shl, abin_shr, Nat.reduceEqDiff, reduceIte, Nat.reduceAdd, Nat.reduceMul, Nat.reduceLT, Nat.reduceLeDiff, Int.reduceBEq, Int.reduceBNe, Int.reduceLT, Int.reduceLE, Int.reduceEq, ← eh2, ap, g4, st2, w1]
      have bo2 : Bkr h0 (h3.set b (tab 17 D2)) b D2 k (p ++ [y]) S0 := by
        refine ⟨by rw [H.get_set, if_pos rfl, g4]; rfl, by simp [q3, hfl2, bo.fl], bo.fb, by simp; omega, fun id hid => ?_, ?_, ?_, ?_⟩
        · have hd : id ≠ b := by have := bo.fb; omega
          rw [H.get_set, if_neg hd]
          have hidn : id < h.next := by have := bo.fb; omega
          by_cases hq : (D 16).id? = some id
          · exfalso
            have hfloor : h.floor ≤ id := by
              rcases bo.own with ⟨e, _⟩ | ⟨j, e, _, hj, _⟩
              · rw [e] at hq; cases hq
              · rw [e] at hq; obtain rfl := Option.some.inj hq; exact hj
            rw [bo.fl] at hfloor; omega
          · rw [q5 id hq (by omega), hlo2 id hd (by omega), bo.low id hid]
        · rw [eD2, upd, if_neg (by omega), eD1, upd, if_pos rfl, hcn]
        · rw [eD2, upd, if_pos rfl]
          have : ints (S0 ++ syms (p ++ [y]) k) = ints (S0 ++ syms p k) ++ [I p.length] := by rw [hsn, ← List.append_assoc, ints_append]; rfl
          rw [this]
          refine q2.mono (by simp) fun i hi => ?_
          rw [q6] at hi; cases hi
          rw [H.get_set, if_neg (by omega)]
        · rw [eD2, upd, if_pos rfl, q6]; intro e; have := Option.some.inj e; omega
      obtain ⟨e', h', D', r1, r2, r3, r4, r5, r6⟩ := bo_loop h0 b x l hl hx k hk1 hk S0 hS0 q (p ++ [y]) D2 _ (by rw [hp]; simp) bo2
      exact ⟨e', h', D', Lp_next step r1, r2, r3, r4, r5, fun i h1 h2 => by rw [r6 i h1 h2, eD2, upd, if_neg (by omega), eD1, upd, if_neg h2]⟩
    · have cb := beq_f hy
      rw [if_neg (fun q => hy q.2), Nat.add_zero] at hcn
      rw [if_neg (fun q => hy q.2), List.append_nil] at hsn
      have step : evC (callW AP.A) loopW AP.f21L0 (restr [(0, x), (3, .pobj b 0), (4, I k), (5, I p.length)] [0, 3, 4, 5]) h = some (.normal, [(0, x), (3, .pobj b 0), (4, I k), (5, I (p ++ [y]).length)], h) := by
        generalize (p ++ [y]).length = B at *
        simp only [I] at *
        simp only [AP.f21L0, go_sem, abin_shl, abin_shr, Nat.reduceEqDiff, reduceIte, Nat.reduceAdd, Nat.reduceMul, Nat.reduceLT, Nat.reduceLeDiff, Int.reduceBEq, Int.reduceBNe, Int.reduceLT, Int.reduceLE, Int.reduceEq, ln, decide_eq_true c1, p1, p3, cb, w1]
      have bo2 : Bkr h0 h b D k (p ++ [y]) S0 := ⟨bo.get, bo.fl, bo.fb, bo.nx, bo.low, by rw [hcn]; exact bo.ck, by rw [hsn]; exact bo.own, bo.nb⟩
      obtain ⟨e', h', D', r1, r2, r3, r4, r5, r6⟩ := bo_loop h0 b x l hl hx k hk1 hk S0 hS0 q (p ++ [y]) D _ (by rw [hp]; simp) bo2
      exact ⟨e', h', D', Lp_next step r1, r2, r3, r4, r5, r6⟩

theorem cnt_nil (n : Nat) : cnt [] n = 0 := by unfold cnt; split <;> rfl
theorem syms_nil (n : Nat) : syms [] n = [] := by unfold syms; split <;> rfl

theorem bo_outer (h0 : H) (b : Nat) (x : AV) (l : List Int) (hl : l.length < 1000) (hx : Rd h0 x (ints l)) : ∀ (m k : Nat) (D : Nat → AV) (h : H), k + m = 16 → 1 ≤ k →
    h.get b = some (tab 17 D) → h.floor = h0.next → h0.next ≤ b → h.floor ≤ h.next → (∀ id, id < h0.next → h.get id = h0.get id) → (∀ i, i < k → D i = I (cnt l i)) → (∀ i, k ≤ i → i < 16 → D i = I 0) → Own h (D 16) (ints (flat l (k - 1))) → (D 16).id? ≠ some b →
    ∃ e' h' D', Lp AP.A [0, 3, 4] AP.f21L1 [(0, x), (3, .pobj b 0), (4, I k)] h = some (.exit 0, e', h') ∧ look e' 3 = .pobj b 0 ∧ h'.get b = some (tab 17 D') ∧ h'.floor = h0.next ∧ (∀ i, i < 16 → D' i = I (cnt l i)) ∧ Own h' (D' 16) (ints (flat l 15))
  | 0, k, D, h, hk, hk1, hg, hf, hfb, hnx, hlow, hc, hz, ho, hnb => by
    obtain rfl : k = 16 := by omega
    refine ⟨[(0, x), (3, .pobj b 0), (4, I 16), (9, .bool false)], h, D, Lp_exit ?_, rfl, hg, hf, hc, ho⟩
    have c1 : ¬ (((16 : Nat) : Int) ≤ 15) := by omega
    simp only [I] at *
    simp only [AP.f21L1, go_sem, abin_shl, abin_shr, Nat.reduceEqDiff, reduceIte, Nat.reduceAdd, Nat.reduceMul, Nat.reduceLT, Nat.reduceLeDiff, Int.reduceBEq, Int.reduceBNe, Int.reduceLT, Int.reduceLE, Int.reduceEq, decide_eq_false c1]
    rfl
  | m + 1, k, D, h, hk, hk1, hg, hf, hfb, hnx, hlow, hc, hz, ho, hnb => by
    have c1 : (k : Int) ≤ 15 := by omega
    have hfl := flat_len_le l (k - 1)
    have hS0 : (flat l (k - 1)).length ≤ 15000 := by
      have : (k - 1) * l.length ≤ 15 * 1000 := Nat.mul_le_mul (by omega) (by omega)
      omega
    have bo : Bkr h0 h b D k [] (flat l (k - 1)) := ⟨hg, hf, hfb, hnx, hlow, by rw [cnt_nil, hz k (Nat.le_refl _) (by omega)]; rfl, by rw [syms_nil, List.append_nil]; exact ho, hnb⟩
    obtain ⟨e1, h1, D1, r1, r2, r3, r4, r5, r6⟩ := bo_loop h0 b x l hl hx k hk1 (by omega) _ hS0 l [] D h rfl bo
    have r1' : Lp AP.A [0, 3, 4, 5] AP.f21L0 [(0, x), (3, .pobj b 0), (4, I k), (5, I 0)] h = some (.exit 2, e1, h1) := r1
    clear r1
    have w1 : IntKind.wrap .i64 ((k : Int) + 1) = ((k + 1 : Nat) : Int) := wrap_nat64 (n := k + 1) (by omega)
    have step : evC (callW AP.A) loopW AP.f21L1 (restr [(0, x), (3, .pobj b 0), (4, I k)] [0, 3, 4]) h = some (.normal, [(0, x), (3, .pobj b 0), (4, I (k + 1 : Nat))], h1) := by
      simp only [I] at *
      simp only [AP.f21L1, go_sem, abin_shl, abin_shr, Nat.reduceEqDiff, reduceIte, Nat.reduceAdd, Nat.reduceMul, Nat.reduceLT, Nat.reduceLeDiff, Int.reduceBEq, Int.reduceBNe, Int.reduceLT, Int.reduceLE, Int.reduceEq, decide_eq_true c1, evC_loop, r1', r2, r3, r4, w1]
    have hfk : flat l (k + 1 - 1) = flat l (k - 1) ++ syms l k := by
      obtain ⟨j, rfl⟩ : ∃ j, k = j + 1 := ⟨k - 1, by omega⟩
      rfl
    obtain ⟨e', h', D', q1, q2, q3, q4, q5, q6⟩ := bo_outer h0 b x l hl hx m (k + 1) D1 h1 (by omega) (by omega) r5.get r5.fl r5.fb r5.nx r5.low
      (fun i hi => by
        by_cases e : i = k
        · subst e; exact r5.ck
        · rw [r6 i (by omega) e]; exact hc i (by omega))
      (fun i h1 h2 => by rw [r6 i h2 (by omega)]; exact hz i (by omega) h2) (by rw [hfk]; exact r5.own) r5.nb
    exact ⟨e', h', D', Lp_next step q1, q2, q3, q4, q5, q6⟩

def rb0 : Nat → AV := fun i => if i < 16 then I 0 else .nils

theorem bookOf_c (h : H) (x : AV) (l : List Int) (hl : l.length < 1000) (hx : Rd h x (ints l)) : callW AP.A 21 [x] h = some (rbook l, h) := by
  obtain ⟨h1, eh1⟩ : ∃ g, g = h.fence.alloc (tab 17 rb0) := ⟨_, rfl⟩
  have hg1 : h1.get h.next = some (tab 17 rb0) := by rw [eh1, H.get_alloc, if_pos (show h.next = h.fence.next from rfl)]
  obtain ⟨e', h2, D, q1, q2, q3, q4, q5, q6⟩ := bo_outer h h.next x l hl hx 15 1 rb0 h1 rfl (by omega) hg1 (by rw [eh1]; simp) (Nat.le_refl _) (by rw [eh1]; simp)
    (fun id hid => by rw [eh1, H.get_alloc, if_neg (by show id ≠ h.next; omega)]; rfl)
    (fun i hi => by obtain rfl : i = 0 := by omega
                    rfl)
    (fun i h1 h2 => by simp only [rb0, if_pos h2]) (.inl ⟨rfl, rfl⟩) (by intro e; cases e)
  have q1' : Lp AP.A [0, 3, 4] AP.f21L1 [(0, x), (3, .pobj h.next 0), (4, I 1)] h1 = some (.exit 0, e', h2) := q1
  clear q1
  refine pure_c (fn := AP.f21) (h2 := h2) (e := [(2, .pobj h.next 0)]) (vs := [.pobj h.next 0]) rfl rfl rfl ?_ rfl ?_
  · unfold AP.f21
    refine seq_n (e1 := [(0, x)]) (h1 := h.fence) rfl ?_
    refine seq_n (e1 := [(0, x), (3, .pobj h.next 0)]) (h1 := h1) (by rw [eh1]; rfl) ?_
    simp only [I] at *
    simp only [go_sem, abin_shl, abin_shr, Nat.reduceEqDiff, reduceIte, Nat.reduceAdd, Nat.reduceMul, Nat.reduceLT, Nat.reduceLeDiff, Int.reduceBEq, Int.reduceBNe, Int.reduceLT, Int.reduceLE, Int.reduceEq, evC_loop, q1', q2]
  · show snap h2.get h.next 16 true (.pobj h.next 0) = _
    have hm : mapO (snap h2.get h.next 15 false) (tab 17 D) = some (tab 17 (rbC l)) := by
      refine mapO_of 17 fun i hi => ?_
      by_cases c1 : i < 16
      · rw [q5 i c1, rbC, if_pos c1]; rfl
      · obtain rfl : i = 16 := by omega
        rw [rbC, if_neg (by omega)]
        exact snap_own (n := 13) q6 (by rw [q4]; exact Nat.le_refl _) (mapO_ints _ _ _ _ _)
    simp only [snap, if_neg (Nat.lt_irrefl _), q3, Option.bind_some, hm, rbook]
end Ab

/- The document's own stream: symbol, stored; its tables. -/
set_option linter.unusedSimpArgs false
set_option linter.unusedVariables false
namespace Ab
open Go

theorem flat_get (l : List Int) {n i : Nat} (hi : i < (syms l (n + 1)).length) : ∀ m, n + 1 ≤ m → (flat l m)[(flat l n).length + i]? = (syms l (n + 1))[i]?
  | 0, h => by omega
  | m + 1, h => by
    rw [flat]
    by_cases e : n = m
    · subst e
      rw [List.getElem?_append_right (by omega), Nat.add_sub_cancel_left]
    · have ih := flat_get l hi m (by omega)
      have hlt : (flat l n).length + i < (flat l m).length := by
        have : ((syms l (n + 1))[i]?).isSome = true := by rw [List.getElem?_eq_getElem hi]; rfl
        rw [← ih] at this
        obtain ⟨x, hx⟩ := Option.isSome_iff_exists.1 this
        exact (List.getElem?_eq_some_iff.1 hx).1
      rw [List.getElem?_append_left hlt]; exact ih

theorem fsym_stop {c : FC} {S : SS} {h : H} {ov : AV} (st : Ft c S h ov) (b : AV) (v f a n : Int) (hs : n = 16 ∨ (n ≤ 15 ∧ S.e ≠ 0)) :
    ∃ e', Lp AP.A [0, 1, 5, 6, 7, 8] AP.f49L0 [(0, .pobj c.f 0), (1, b), (5, I v), (6, I f), (7, I a), (8, I n)] h = some (.exit 0, e', h) ∧ look e' 0 = .pobj c.f 0 := by
  have gf := st.gf
  refine ⟨[(0, .pobj c.f 0), (1, b), (5, I v), (6, I f), (7, I a), (8, I n), (17, .bool false)], Lp_exit ?_, rfl⟩
  rcases hs with hn | ⟨hn, he⟩
  · have c1 : ¬ n ≤ 15 := by omega
    simp only [I] at *
    simp only [AP.f49L0, go_sem, abin_shl, abin_shr, Nat.reduceEqDiff, reduceIte, Nat.reduceAdd, Nat.reduceMul, Nat.reduceLT, Nat.reduceLeDiff, Int.reduceBEq, Int.reduceBNe, Int.reduceLT, Int.reduceLE, Int.reduceEq, decide_eq_false c1]
  · have c2 : (S.e == 0) = false := beq_f he
    simp only [I] at *
    simp only [AP.f49L0, go_sem, abin_shl, abin_shr, Nat.reduceEqDiff, reduceIte, Nat.reduceAdd, Nat.reduceMul, Nat.reduceLT, Nat.reduceLeDiff, Int.reduceBEq, Int.reduceBNe, Int.reduceLT, Int.reduceLE, Int.reduceEq, decide_eq_true hn, gf, c2]

theorem or_even {v x : Nat} (hx : x < 2) : (v * 2 ||| x) = v * 2 + x := by
  have := Nat.two_pow_add_eq_or_of_lt (i := 1) (show x < 2 ^ 1 by omega) v
  rw [Nat.mul_comm v 2]
  simpa using this.symm

theorem fsym_loop {c : FC} (l : List Int) (hl : l.length < 1000) : ∀ (k n v : Nat) (S : SS) (h : H) (ov : AV), n + 1 + k = 16 → v < 2 ^ n → firstC l (n + 1) ≤ (v * 2 : Nat) → Ft c S h ov → S.e = 0 →
    ∃ h' S', Ft c S' h' ov ∧ FF c h ov h' ov ∧ match symA c.text l k (n + 1) v S.at_ with
      | some (y, p) => S' = { S with at_ := p } ∧ ∃ e', Lp AP.A [0, 1, 5, 6, 7, 8] AP.f49L0 [(0, .pobj c.f 0), (1, rbook l), (5, I (v * 2 : Nat)), (6, I (firstC l (n + 1))), (7, I (flat l n).length), (8, I (n + 1 : Nat))] h = some (.ret, e', h') ∧ look e' 4 = I y
      | none => (S'.e = 0 ∧ ∃ e', Lp AP.A [0, 1, 5, 6, 7, 8] AP.f49L0 [(0, .pobj c.f 0), (1, rbook l), (5, I (v * 2 : Nat)), (6, I (firstC l (n + 1))), (7, I (flat l n).length), (8, I (n + 1 : Nat))] h = some (.exit 0, e', h') ∧ look e' 0 = .pobj c.f 0) ∨
          (S'.e = 700 ∧ ∃ e', Lp AP.A [0, 1, 5, 6, 7, 8] AP.f49L0 [(0, .pobj c.f 0), (1, rbook l), (5, I (v * 2 : Nat)), (6, I (firstC l (n + 1))), (7, I (flat l n).length), (8, I (n + 1 : Nat))] h = some (.ret, e', h') ∧ look e' 4 = I (-1))
  | 0, n, v, S, h, ov, hk, hv, hf, st, he => by
    obtain ⟨e', q1, q2⟩ := fsym_stop st (rbook l) (v * 2 : Nat) (firstC l (n + 1)) (flat l n).length (n + 1 : Nat) (.inl (by omega))
    exact ⟨h, S, st, FF.refl _ _ _, by simp only [symA]; exact .inl ⟨he, e', q1, q2⟩⟩
  | k + 1, n, v, S, h, ov, hk, hv, hf, st, he => by
    have gf := st.gf
    obtain ⟨h1, k1, k2, k3⟩ := fget_c st 1 1 rfl (by omega)
    have c1 : ((n + 1 : Nat) : Int) ≤ 15 := by omega
    have hp : 2 ^ n ≤ 2 ^ 14 := Nat.pow_le_pow_right (by omega) (by omega)
    by_cases hat : S.at_ + 1 ≤ 8 * c.text.size
    · have eg : getF c 1 S = (valAt c.text S.at_ 1, { S with at_ := S.at_ + 1 }) := by rw [getF, if_pos hat]
      rw [eg] at k1 k2
      dsimp only at k1 k2
      have gf1 := k2.gf
      dsimp only at gf1
      rw [symA, if_pos hat]
      obtain ⟨x, hx⟩ : ∃ x, x = valAt c.text S.at_ 1 := ⟨_, rfl⟩
      have hx2 : x < 2 := by rw [hx]; simpa using valAt_lt c.text S.at_ 1
      rw [← hx] at k1 ⊢
      have o1 : bits .or .i64 ((v * 2 : Nat) : Int) (x : Int) = ((v * 2 + x : Nat) : Int) := by rw [bits_or (by omega) (by omega), or_even hx2]
      have ce : (S.e != 0) = false := bne_f he
      have hcl := cnt_le l (n + 1)
      have hfb := firstC_bd (show l.length < 100000 by omega) (n + 1)
      have hp2 := pow_le_15 (show n + 1 ≤ 15 by omega)
      have a1 : aidx (I (n + 1 : Nat)) 16 = some (n + 1) := aidx_of (by omega)
      have g1 : (tab 17 (rbC l))[n + 1]? = some (I (cnt l (n + 1))) := by rw [tab_get (by omega), rbC, if_pos (by omega)]
      have g2 : (tab 17 (rbC l))[16]? = some (slOf (ints (flat l 15))) := by rw [tab_get (by omega), rbC, if_neg (by omega)]
      have w1 : IntKind.wrap .i64 (((v * 2 + x : Nat) : Int) - (cnt l (n + 1) : Int)) = ((v * 2 + x : Nat) : Int) - (cnt l (n + 1) : Int) := wrap_in (by omega) (by omega)
      have hsc := syms_cnt l (n + 1)
      have hfll := flat_len_le l n
      have hfln : n * l.length ≤ 15 * 1000 := Nat.mul_le_mul (by omega) (by omega)
      have hrb : rbook l = .pimm (tab 17 (rbC l)) 0 := rfl
      have hf2 : firstC l (n + 1 + 1) = (firstC l (n + 1) + cnt l (n + 1)) * 2 := rfl
      by_cases hlt : ((v * 2 + x : Nat) : Int) - (cnt l (n + 1) : Int) < firstC l (n + 1)
      · -- found
        obtain ⟨i, hi⟩ : ∃ i : Nat, ((v * 2 + x : Nat) : Int) - firstC l (n + 1) = i := Int.eq_ofNat_of_zero_le (by omega)
        have hil : i < (syms l (n + 1)).length := by omega
        obtain ⟨y, hy⟩ : ∃ y, (syms l (n + 1))[i]? = some y := ⟨_, List.getElem?_eq_getElem hil⟩
        have hfd : findS l (n + 1) ((v * 2 + x : Nat) : Int) = some y := by rw [findS, if_pos (by omega), hi, Int.toNat_natCast, hy]
        rw [hfd]
        have hflat := flat_get l hil 15 (by omega)
        rw [hy] at hflat
        have hfl15 : (flat l n).length + i < (flat l 15).length := (List.getElem?_eq_some_iff.1 hflat).1
        have hne : ints (flat l 15) ≠ [] := by intro e; have := congrArg List.length e; simp at this; simp [this] at hfl15
        have hs : slOf (ints (flat l 15)) = .simm false (ints (flat l 15)) 0 (ints (flat l 15)).length 1 := by rw [slOf, if_neg hne]
        rw [hs] at g2
        have w2 : IntKind.wrap .i64 (((flat l n).length : Int) + ((v * 2 + x : Nat) : Int)) = (((flat l n).length + (v * 2 + x) : Nat) : Int) := by
          rw [show ((flat l n).length : Int) + ((v * 2 + x : Nat) : Int) = (((flat l n).length + (v * 2 + x) : Nat) : Int) by omega]; exact wrap_nat64 (by omega)
        have w3 : IntKind.wrap .i64 ((((flat l n).length + (v * 2 + x) : Nat) : Int) - firstC l (n + 1)) = (((flat l n).length + i : Nat) : Int) := by
          rw [show (((flat l n).length + (v * 2 + x) : Nat) : Int) - firstC l (n + 1) = (((flat l n).length + i : Nat) : Int) by omega]; exact wrap_nat64 (by omega)
        have a2 : aiadr 1 (.simm false (ints (flat l 15)) 0 (ints (flat l 15)).length 1) (I ((flat l n).length + i : Nat)) = some (.pimm (ints (flat l 15)) ((flat l n).length + i)) := by
          have := aidx_of (show (flat l n).length + i < (ints (flat l 15)).length by rw [ints_length]; exact hfl15)
          simp only [aiadr, if_true, this, Option.bind_some, Nat.zero_add, Nat.mul_one]
        have g3 := ints_get hflat
        refine ⟨h1, _, k2, k3, rfl, [(4, I y)], Lp_ret ?_, rfl⟩
        rw [hrb]
        clear hrb hs hne hflat hy hfd hf2
        generalize tab 17 (rbC l) = T at *
        generalize ints (flat l 15) = FS at *
        generalize (flat l n).length = FL at *
        generalize firstC l (n + 1) = FC1 at *
        generalize FL + (v * 2 + x) = VV at *
        generalize FL + i = VI2 at *
        generalize v * 2 + x = VX at *
        generalize v * 2 = V2 at *
        simp only [I] at *
        simp only [AP.f49L0, go_sem, abin_shl, abin_shr, Nat.reduceEqDiff, reduceIte, Nat.reduceAdd, Nat.reduceMul, Nat.reduceLT, Nat.reduceLeDiff, Int.reduceBEq, Int.reduceBNe, Int.reduceLT, Int.reduceLE, Int.reduceEq, decide_eq_true c1, gf, he, k1, o1, gf1, ce, a1, g1, w1, decide_eq_true hlt, g2, w2, w3, a2, g3]
      · have hfd : findS l (n + 1) ((v * 2 + x : Nat) : Int) = none := by rw [findS, if_pos (by omega), List.getElem?_eq_none (by omega)]
        rw [hfd]
        have w2 : IntKind.wrap .i64 (((flat l n).length : Int) + (cnt l (n + 1) : Int)) = ((flat l (n + 1)).length : Int) := by
          rw [show ((flat l n).length : Int) + (cnt l (n + 1) : Int) = ((flat l (n + 1)).length : Int) by rw [flat, List.length_append, hsc]; omega]
          refine wrap_nat64 ?_
          rw [flat, List.length_append, hsc]; omega
        have w3 : IntKind.wrap .i64 (firstC l (n + 1) + (cnt l (n + 1) : Int)) = firstC l (n + 1) + (cnt l (n + 1) : Int) := wrap_in (by omega) (by omega)
        have s1 : shft .shl .i64 (firstC l (n + 1) + (cnt l (n + 1) : Int)) 1 = some (.int .i64 (firstC l (n + 1 + 1))) := by
          obtain ⟨z, hz⟩ : ∃ z : Nat, firstC l (n + 1) + (cnt l (n + 1) : Int) = z := Int.eq_ofNat_of_zero_le (by omega)
          have := shl_i64 (a := z) (s := 1) (by omega) (by omega)
          rw [hf2, hz]
          rw [show ((1 : Nat) : Int) = 1 from rfl] at this
          rw [this]; simp
        have s2 : shft .shl .i64 ((v * 2 + x : Nat) : Int) 1 = some (.int .i64 (((v * 2 + x) * 2 : Nat) : Int)) := by
          have := shl_i64 (a := v * 2 + x) (s := 1) (by omega) (by omega)
          exact this
        have w4 : IntKind.wrap .i64 (((n + 1 : Nat) : Int) + 1) = ((n + 1 + 1 : Nat) : Int) := wrap_nat64 (n := n + 1 + 1) (by omega)
        have step : evC (callW AP.A) loopW AP.f49L0 (restr [(0, .pobj c.f 0), (1, rbook l), (5, I (v * 2 : Nat)), (6, I (firstC l (n + 1))), (7, I (flat l n).length), (8, I (n + 1 : Nat))] [0, 1, 5, 6, 7, 8]) h = some (.normal, [(0, .pobj c.f 0), (1, rbook l), (5, I ((v * 2 + x) * 2 : Nat)), (6, I (firstC l (n + 1 + 1))), (7, I (flat l (n + 1)).length), (8, I (n + 1 + 1 : Nat))], h1) := by
          rw [hrb]
          clear hrb hfd
          generalize tab 17 (rbC l) = T at *
          generalize (flat l n).length = FL at *
          generalize (flat l (n + 1)).length = FL1 at *
          generalize firstC l (n + 1) = FC1 at *
          generalize firstC l (n + 1 + 1) = FC2 at *
          generalize (v * 2 + x) * 2 = VV at *
          generalize v * 2 + x = VX at *
          generalize v * 2 = V2 at *
          rw [he] at gf gf1
          simp only [I] at *
          simp only [AP.f49L0, go_sem, abin_shl, abin_shr, Nat.reduceEqDiff, reduceIte, Nat.reduceAdd, Nat.reduceMul, Nat.reduceLT, Nat.reduceLeDiff, Int.reduceBEq, Int.reduceBNe, Int.reduceLT, Int.reduceLE, Int.reduceEq, decide_eq_true c1, gf, k1, o1, gf1, a1, g1, w1, decide_eq_false hlt, w2, w3, s1, s2, w4]
        have hv2 : v * 2 + x < 2 ^ (n + 1) := by rw [Nat.pow_succ]; omega
        obtain ⟨h', S', q1, q2, q3⟩ := fsym_loop l hl k (n + 1) (v * 2 + x) _ h1 ov (by omega) hv2 (by rw [hf2]; omega) k2 he
        refine ⟨h', S', q1, k3.trans q2, ?_⟩
        dsimp only at q3 ⊢
        cases hy : symA c.text l k (n + 1 + 1) (v * 2 + x) (S.at_ + 1) with
        | none =>
          rw [hy] at q3
          rcases q3 with ⟨q3, e', q4, q5⟩ | ⟨q3, e', q4, q5⟩
          · exact .inl ⟨q3, e', Lp_next step q4, q5⟩
          · exact .inr ⟨q3, e', Lp_next step q4, q5⟩
        | some yp =>
          rw [hy] at q3
          obtain ⟨q3, e', q4, q5⟩ := q3
          exact ⟨q3, e', Lp_next step q4, q5⟩
    · have eg : getF c 1 S = (0, { S with e := 700 }) := by rw [getF, if_neg hat, failS, if_pos he]
      rw [eg] at k1 k2
      dsimp only at k1 k2
      have gf1 := k2.gf
      dsimp only at gf1
      rw [symA, if_neg hat]
      have o1 : bits .or .i64 ((v * 2 : Nat) : Int) ((0 : Nat) : Int) = ((v * 2 : Nat) : Int) := by rw [bits_or (by omega) (by omega)]; simp
      refine ⟨h1, _, k2, k3, .inr ⟨rfl, [(4, I (-1))], Lp_ret ?_, rfl⟩⟩
      rw [he] at gf
      generalize v * 2 = V2 at *
      simp only [I] at *
      simp only [AP.f49L0, go_sem, abin_shl, abin_shr, Nat.reduceEqDiff, reduceIte, Nat.reduceAdd, Nat.reduceMul, Nat.reduceLT, Nat.reduceLeDiff, Int.reduceBEq, Int.reduceBNe, Int.reduceLT, Int.reduceLE, Int.reduceEq, decide_eq_true c1, gf, k1, o1, gf1]

theorem fsymbol_c {c : FC} {S : SS} {h : H} {ov : AV} (l : List Int) (hl : l.length < 1000) (st : Ft c S h ov) (he : S.e = 0) :
    ∃ h' S' y, callW AP.A 49 [.pobj c.f 0, rbook l] h = some (I y, h') ∧ Ft c S' h' ov ∧ FF c h ov h' ov ∧ match symA c.text l 15 1 0 S.at_ with
      | some (z, p) => S' = { S with at_ := p } ∧ y = z
      | none => S'.e = 700 ∧ y = -1 := by
  obtain ⟨h1, S1, q1, q2, q3⟩ := fsym_loop l hl 15 0 0 S h ov (by omega) (by simp) (by simp [firstC, cnt]) st he
  have conv : ∀ r, Lp AP.A [0, 1, 5, 6, 7, 8] AP.f49L0 [(0, .pobj c.f 0), (1, rbook l), (5, I (0 * 2 : Nat)), (6, I (firstC l (0 + 1))), (7, I (flat l 0).length), (8, I (0 + 1 : Nat))] h = r → Lp AP.A [0, 1, 5, 6, 7, 8] AP.f49L0 [(0, .pobj c.f 0), (1, rbook l), (5, I 0), (6, I 0), (7, I 0), (8, I 1)] h = r := by
    intro r hr
    have h1 : firstC l (0 + 1) = 0 := by simp [firstC, cnt]
    rw [h1] at hr
    exact hr
  cases hy : symA c.text l 15 1 0 S.at_ with
  | some yp =>
    have hy' : symA c.text l 15 (0 + 1) 0 S.at_ = some yp := hy
    rw [hy'] at q3
    obtain ⟨q3, e', q4, q5⟩ := q3
    refine ⟨h1, S1, yp.1, ?_, q1, q2, q3, rfl⟩
    have q6 := conv _ q4
    clear q4
    refine plain_c (fn := AP.f49) (e := e') (vs := [I yp.1]) rfl rfl rfl ?_ (by simp only [AP.f49, resAll, resOf, q5]; rfl)
    simp only [I] at *
    simp only [AP.f49, go_sem, abin_shl, abin_shr, Nat.reduceEqDiff, reduceIte, Nat.reduceAdd, Nat.reduceMul, Nat.reduceLT, Nat.reduceLeDiff, Int.reduceBEq, Int.reduceBNe, Int.reduceLT, Int.reduceLE, Int.reduceEq, evC_loop, q6]
  | none =>
    have hy' : symA c.text l 15 (0 + 1) 0 S.at_ = none := hy
    rw [hy'] at q3
    rcases q3 with ⟨q3, e', q4, q5⟩ | ⟨q3, e', q4, q5⟩
    · have q6 := conv _ q4
      clear q4
      obtain ⟨h2, r1, r2, r3⟩ := wrong_c q1
      refine ⟨h2, failS 700 S1, -1, ?_, r2, q2.trans r3, by simp [failS, q3], rfl⟩
      refine plain_c (fn := AP.f49) (e := [(4, I (-1))]) rfl rfl rfl ?_ rfl
      simp only [I] at *
      simp only [AP.f49, go_sem, abin_shl, abin_shr, Nat.reduceEqDiff, reduceIte, Nat.reduceAdd, Nat.reduceMul, Nat.reduceLT, Nat.reduceLeDiff, Int.reduceBEq, Int.reduceBNe, Int.reduceLT, Int.reduceLE, Int.reduceEq, evC_loop, q6, q5, r1]
    · have q6 := conv _ q4
      clear q4
      refine ⟨h1, S1, -1, ?_, q1, q2, q3, rfl⟩
      refine plain_c (fn := AP.f49) (e := e') (vs := [I (-1)]) rfl rfl rfl ?_ (by simp only [AP.f49, resAll, resOf, q5]; rfl)
      simp only [I] at *
      simp only [AP.f49, go_sem, abin_shl, abin_shr, Nat.reduceEqDiff, reduceIte, Nat.reduceAdd, Nat.reduceMul, Nat.reduceLT, Nat.reduceLeDiff, Int.reduceBEq, Int.reduceBNe, Int.reduceLT, Int.reduceLE, Int.reduceEq, evC_loop, q6]
end Ab

/- The document's own stream: tables, stored, coded. -/
set_option linter.unusedSimpArgs false
set_option linter.unusedVariables false
namespace Ab
open Go

theorem lenOf2_c (h : H) (y : Nat) (hy : y < 1000000) : callW AP.A 50 [I y] h = some (tup3 (lenOf y), h) := by
  by_cases c1 : y ≤ 256
  · rw [lenOf, if_pos (.inl c1)]
    refine pure_c (fn := AP.f50) (h2 := h.fence) (e := [(2, I 0), (3, I 0), (4, I 600)]) rfl rfl rfl ?_ rfl rfl
    have c1' : (y : Int) < 257 := by omega
    simp only [I] at *
    simp only [AP.f50, go_sem, abin_shl, abin_shr, Nat.reduceEqDiff, reduceIte, Nat.reduceAdd, Nat.reduceMul, Nat.reduceLT, Nat.reduceLeDiff, Int.reduceBEq, Int.reduceBNe, Int.reduceLT, Int.reduceLE, Int.reduceEq, decide_eq_true c1']
  have c1' : ¬ (y : Int) < 257 := by omega
  by_cases c2 : 285 < y
  · rw [lenOf, if_pos (.inr c2)]
    refine pure_c (fn := AP.f50) (h2 := h.fence) (e := [(2, I 0), (3, I 0), (4, I 600)]) rfl rfl rfl ?_ rfl rfl
    have c2' : (285 : Int) < y := by omega
    simp only [I] at *
    simp only [AP.f50, go_sem, abin_shl, abin_shr, Nat.reduceEqDiff, reduceIte, Nat.reduceAdd, Nat.reduceMul, Nat.reduceLT, Nat.reduceLeDiff, Int.reduceBEq, Int.reduceBNe, Int.reduceLT, Int.reduceLE, Int.reduceEq, decide_eq_false c1', decide_eq_true c2']
  have c2' : ¬ (285 : Int) < y := by omega
  rw [lenOf, if_neg (by omega)]
  by_cases c3 : y = 285
  · rw [if_pos c3]
    refine pure_c (fn := AP.f50) (h2 := h.fence) (e := [(2, I 258), (3, I 0), (4, I 0)]) rfl rfl rfl ?_ rfl rfl
    have c3' : ((y : Int) == 285) = true := beq_t (by omega)
    simp only [I] at *
    simp only [AP.f50, go_sem, abin_shl, abin_shr, Nat.reduceEqDiff, reduceIte, Nat.reduceAdd, Nat.reduceMul, Nat.reduceLT, Nat.reduceLeDiff, Int.reduceBEq, Int.reduceBNe, Int.reduceLT, Int.reduceLE, Int.reduceEq, decide_eq_false c1', decide_eq_false c2', c3']
  rw [if_neg c3]
  have c3' : ((y : Int) == 285) = false := beq_f (by omega)
  by_cases c4 : y < 265
  · rw [if_pos c4]
    refine pure_c (fn := AP.f50) (h2 := h.fence) (e := [(2, I (y - 254 : Nat)), (3, I 0), (4, I 0)]) rfl rfl rfl ?_ rfl rfl
    have c4' : (y : Int) < 265 := by omega
    have w3 : IntKind.wrap .i64 ((y : Int) - 254) = ((y - 254 : Nat) : Int) := by rw [show (y : Int) - 254 = ((y - 254 : Nat) : Int) by omega]; exact wrap_nat64 (by omega)
    simp only [I] at *
    simp only [AP.f50, go_sem, abin_shl, abin_shr, Nat.reduceEqDiff, reduceIte, Nat.reduceAdd, Nat.reduceMul, Nat.reduceLT, Nat.reduceLeDiff, Int.reduceBEq, Int.reduceBNe, Int.reduceLT, Int.reduceLE, Int.reduceEq, decide_eq_false c1', decide_eq_false c2', c3', decide_eq_true c4', w3]
  rw [if_neg c4]
  have c4' : ¬ (y : Int) < 265 := by omega
  obtain ⟨k, hk⟩ : ∃ k : Nat, y - 261 = k := ⟨_, rfl⟩
  have w1 : IntKind.wrap .i64 ((y : Int) - 261) = (k : Int) := by rw [show (y : Int) - 261 = (k : Int) by omega]; exact wrap_nat64 (by omega)
  rw [show (y - 257) / 4 - 1 = k / 4 - 0 by omega, Nat.sub_zero, show (y - 257) % 4 = k % 4 by omega]
  have q1 : abin .quo (.int .i64 (k : Int)) (.int .i64 4) = some (.int .i64 ((k / 4 : Nat) : Int)) := by
    rw [abin_quo _ _ _ (by omega), show (4 : Int) = ((4 : Nat) : Int) from rfl, tdiv_nat, wrap_nat64 (by omega)]
  have q2 : abin .rem (.int .i64 (k : Int)) (.int .i64 4) = some (.int .i64 ((k % 4 : Nat) : Int)) := by
    rw [abin_rem _ _ _ (by omega), show (4 : Int) = ((4 : Nat) : Int) from rfl, tmod_nat]
  have w4 : IntKind.wrap .i64 (4 + ((k % 4 : Nat) : Int)) = ((4 + k % 4 : Nat) : Int) := by rw [show 4 + ((k % 4 : Nat) : Int) = ((4 + k % 4 : Nat) : Int) by omega]; exact wrap_nat64 (by omega)
  have hp : 2 ^ (k / 4) ≤ 2 ^ 5 := Nat.pow_le_pow_right (by omega) (by omega)
  have hm : (4 + k % 4) * 2 ^ (k / 4) ≤ 7 * 2 ^ 5 := Nat.mul_le_mul (by omega) hp
  have q3 : shft .shl .i64 ((4 + k % 4 : Nat) : Int) ((k / 4 : Nat) : Int) = some (.int .i64 (((4 + k % 4) * 2 ^ (k / 4) : Nat) : Int)) := shl_i64 (by omega) (by omega)
  generalize (4 + k % 4) * 2 ^ (k / 4) = P at *
  have w5 : IntKind.wrap .i64 (3 + (P : Int)) = ((3 + P : Nat) : Int) := by rw [show 3 + (P : Int) = ((3 + P : Nat) : Int) by omega]; exact wrap_nat64 (by omega)
  refine pure_c (fn := AP.f50) (h2 := h.fence) (e := [(2, I (3 + P : Nat)), (3, I (k / 4 : Nat)), (4, I 0)]) rfl rfl rfl ?_ rfl rfl
  simp only [I] at *
  simp only [AP.f50, go_sem, abin_shl, abin_shr, Nat.reduceEqDiff, reduceIte, Nat.reduceAdd, Nat.reduceMul, Nat.reduceLT, Nat.reduceLeDiff, Int.reduceBEq, Int.reduceBNe, Int.reduceLT, Int.reduceLE, Int.reduceEq, decide_eq_false c1', decide_eq_false c2', c3', decide_eq_false c4', w1, q1, q2, w4, q3, w5]

theorem distOf2_c (h : H) (y : Nat) (hy : y < 1000000) : callW AP.A 51 [I y] h = some (tup3 (distOf y), h) := by
  have c0 : ¬ (y : Int) < 0 := by omega
  by_cases c1 : 30 ≤ y
  · rw [distOf, if_pos c1]
    refine pure_c (fn := AP.f51) (h2 := h.fence) (e := [(2, I 0), (3, I 0), (4, I 600)]) rfl rfl rfl ?_ rfl rfl
    have c1' : (29 : Int) < y := by omega
    simp only [I] at *
    simp only [AP.f51, go_sem, abin_shl, abin_shr, Nat.reduceEqDiff, reduceIte, Nat.reduceAdd, Nat.reduceMul, Nat.reduceLT, Nat.reduceLeDiff, Int.reduceBEq, Int.reduceBNe, Int.reduceLT, Int.reduceLE, Int.reduceEq, decide_eq_false c0, decide_eq_true c1']
  have c1' : ¬ (29 : Int) < y := by omega
  rw [distOf, if_neg c1]
  by_cases c2 : y < 4
  · rw [if_pos c2]
    refine pure_c (fn := AP.f51) (h2 := h.fence) (e := [(2, I (1 + y : Nat)), (3, I 0), (4, I 0)]) rfl rfl rfl ?_ rfl rfl
    have c2' : (y : Int) < 4 := by omega
    have w3 : IntKind.wrap .i64 ((y : Int) + 1) = ((1 + y : Nat) : Int) := by rw [show (y : Int) + 1 = ((1 + y : Nat) : Int) by omega]; exact wrap_nat64 (by omega)
    simp only [I] at *
    simp only [AP.f51, go_sem, abin_shl, abin_shr, Nat.reduceEqDiff, reduceIte, Nat.reduceAdd, Nat.reduceMul, Nat.reduceLT, Nat.reduceLeDiff, Int.reduceBEq, Int.reduceBNe, Int.reduceLT, Int.reduceLE, Int.reduceEq, decide_eq_false c0, decide_eq_false c1', decide_eq_true c2', w3]
  rw [if_neg c2]
  have c2' : ¬ (y : Int) < 4 := by omega
  have w1 : IntKind.wrap .i64 ((y : Int) - 2) = ((y - 2 : Nat) : Int) := by rw [show (y : Int) - 2 = ((y - 2 : Nat) : Int) by omega]; exact wrap_nat64 (by omega)
  have q1 : abin .quo (.int .i64 ((y - 2 : Nat) : Int)) (.int .i64 2) = some (.int .i64 ((y / 2 - 1 : Nat) : Int)) := by
    rw [abin_quo _ _ _ (by omega), show (2 : Int) = ((2 : Nat) : Int) from rfl, tdiv_nat, wrap_nat64 (by omega), show (y - 2) / 2 = y / 2 - 1 by omega]
  have q2 : abin .rem (.int .i64 (y : Int)) (.int .i64 2) = some (.int .i64 ((y % 2 : Nat) : Int)) := by
    rw [abin_rem _ _ _ (by omega), show (2 : Int) = ((2 : Nat) : Int) from rfl, tmod_nat]
  have w4 : IntKind.wrap .i64 (2 + ((y % 2 : Nat) : Int)) = ((2 + y % 2 : Nat) : Int) := by rw [show 2 + ((y % 2 : Nat) : Int) = ((2 + y % 2 : Nat) : Int) by omega]; exact wrap_nat64 (by omega)
  have hp : 2 ^ (y / 2 - 1) ≤ 2 ^ 13 := Nat.pow_le_pow_right (by omega) (by omega)
  have hm : (2 + y % 2) * 2 ^ (y / 2 - 1) ≤ 3 * 2 ^ 13 := Nat.mul_le_mul (by omega) hp
  have q3 : shft .shl .i64 ((2 + y % 2 : Nat) : Int) ((y / 2 - 1 : Nat) : Int) = some (.int .i64 (((2 + y % 2) * 2 ^ (y / 2 - 1) : Nat) : Int)) := shl_i64 (by omega) (by omega)
  generalize (2 + y % 2) * 2 ^ (y / 2 - 1) = P at *
  have w5 : IntKind.wrap .i64 (1 + (P : Int)) = ((1 + P : Nat) : Int) := by rw [show 1 + (P : Int) = ((1 + P : Nat) : Int) by omega]; exact wrap_nat64 (by omega)
  refine pure_c (fn := AP.f51) (h2 := h.fence) (e := [(2, I (1 + P : Nat)), (3, I (y / 2 - 1 : Nat)), (4, I 0)]) rfl rfl rfl ?_ rfl rfl
  simp only [I] at *
  simp only [AP.f51, go_sem, abin_shl, abin_shr, Nat.reduceEqDiff, reduceIte, Nat.reduceAdd, Nat.reduceMul, Nat.reduceLT, Nat.reduceLeDiff, Int.reduceBEq, Int.reduceBNe, Int.reduceLT, Int.reduceLE, Int.reduceEq, decide_eq_false c0, decide_eq_false c1', decide_eq_false c2', w1, q1, q2, w4, q3, w5]

/-! ### A stored block -/
theorem fstore_stop {c : FC} {S : SS} {h : H} {ov : AV} (st : Ft c S h ov) (n i : Nat) (hs : n ≤ i ∨ (i < n ∧ S.e ≠ 0)) :
    ∃ e', Lp AP.A [0, 2, 4] AP.f19L0 [(0, .pobj c.f 0), (2, I n), (4, I i)] h = some (.exit 0, e', h) := by
  have gf := st.gf
  refine ⟨[(0, .pobj c.f 0), (2, I n), (4, I i), (36, .bool false)], Lp_exit ?_⟩
  rcases hs with hn | ⟨hn, he⟩
  · have c1 : ¬ (i : Int) < n := by omega
    simp only [I] at *
    simp only [AP.f19L0, go_sem, abin_shl, abin_shr, Nat.reduceEqDiff, reduceIte, Nat.reduceAdd, Nat.reduceMul, Nat.reduceLT, Nat.reduceLeDiff, Int.reduceBEq, Int.reduceBNe, Int.reduceLT, Int.reduceLE, Int.reduceEq, decide_eq_false c1]
  · have c1 : (i : Int) < n := by omega
    have c2 := beq_f he
    simp only [I] at *
    simp only [AP.f19L0, go_sem, abin_shl, abin_shr, Nat.reduceEqDiff, reduceIte, Nat.reduceAdd, Nat.reduceMul, Nat.reduceLT, Nat.reduceLeDiff, Int.reduceBEq, Int.reduceBNe, Int.reduceLT, Int.reduceLE, Int.reduceEq, decide_eq_true c1, gf, c2]

theorem fstore_loop {c : FC} (n : Nat) (hn : n ≤ 65535) : ∀ (m i : Nat) (S : SS) (h : H) (ov : AV), i + m = n → Ft c S h ov → S.e = 0 →
    ∃ e' h' ov' S', Lp AP.A [0, 2, 4] AP.f19L0 [(0, .pobj c.f 0), (2, I n), (4, I i)] h = some (.exit 0, e', h') ∧ Ft c S' h' ov' ∧ FF c h ov h' ov' ∧ Fin (storeA c.text c.most m S.at_ S.out) S'
  | 0, i, S, h, ov, hm, st, he => by
    obtain ⟨e', q⟩ := fstore_stop st n i (.inl (by omega))
    exact ⟨e', h, ov, S, q, st, FF.refl _ _ _, by simp only [storeA, Fin]; cases S; simp_all⟩
  | m + 1, i, S, h, ov, hm, st, he => by
    have gf := st.gf
    obtain ⟨h1, k1, k2, k3⟩ := fget_c st 8 8 rfl (by omega)
    have c1 : (i : Int) < n := by omega
    have w1 : IntKind.wrap .i64 ((i : Int) + 1) = ((i + 1 : Nat) : Int) := wrap_nat64 (n := i + 1) (by omega)
    by_cases hp : S.at_ + 8 ≤ 8 * c.text.size
    · have eg : getF c 8 S = (valAt c.text S.at_ 8, { S with at_ := S.at_ + 8 }) := by rw [getF, if_pos hp]
      rw [eg] at k1 k2
      dsimp only at k1 k2
      have gf1 := k2.gf
      obtain ⟨h2, ov2, S2, p1, p2, p3, p4⟩ := fput_c k2 he (valAt c.text S.at_ 8)
      have hb := valAt_lt c.text S.at_ 8
      have w2 : IntKind.wrap .u8 ((valAt c.text S.at_ 8 : Nat) : Int) = ((valAt c.text S.at_ 8 : Nat) : Int) := wrap_u8 (by simpa using hb)
      have step : evC (callW AP.A) loopW AP.f19L0 (restr [(0, .pobj c.f 0), (2, I n), (4, I i)] [0, 2, 4]) h = some (.normal, [(0, .pobj c.f 0), (2, I n), (4, I (i + 1 : Nat))], h2) := by
        dsimp only at gf1
        rw [he] at gf gf1
        simp only [I] at *
        simp only [AP.f19L0, go_sem, abin_shl, abin_shr, Nat.reduceEqDiff, reduceIte, Nat.reduceAdd, Nat.reduceMul, Nat.reduceLT, Nat.reduceLeDiff, Int.reduceBEq, Int.reduceBNe, Int.reduceLT, Int.reduceLE, Int.reduceEq, decide_eq_true c1, gf, k1, gf1, w2, p1, w1]
      rw [storeA, if_pos hp]
      dsimp only at p4
      by_cases hm' : c.most ≤ S.out.length
      · rw [if_pos hm'] at p4 ⊢
        have he2 : S2.e = 701 := by rw [p4]
        have hs : n ≤ i + 1 ∨ (i + 1 < n ∧ S2.e ≠ 0) := by
          by_cases q : i + 1 < n
          · exact .inr ⟨q, by rw [he2]; decide⟩
          · exact .inl (by omega)
        obtain ⟨e', q⟩ := fstore_stop p2 n (i + 1) hs
        exact ⟨e', h2, ov2, _, Lp_next step q, p2, k3.trans p3, he2, by decide⟩
      · rw [if_neg hm'] at p4 ⊢
        subst p4
        obtain ⟨e', h', ov', S', q1, q2, q3, q4⟩ := fstore_loop n hn m (i + 1) _ h2 ov2 (by omega) p2 rfl
        exact ⟨e', h', ov', S', Lp_next step q1, q2, (k3.trans p3).trans q3, q4⟩
    · have eg : getF c 8 S = (0, { S with e := 700 }) := by rw [getF, if_neg hp, failS, if_pos he]
      rw [eg] at k1 k2
      dsimp only at k1 k2
      have gf1 := k2.gf
      have step : evC (callW AP.A) loopW AP.f19L0 (restr [(0, .pobj c.f 0), (2, I n), (4, I i)] [0, 2, 4]) h = some (.normal, [(0, .pobj c.f 0), (2, I n), (4, I (i + 1 : Nat))], h1) := by
        dsimp only at gf1
        rw [he] at gf
        simp only [I] at *
        simp only [AP.f19L0, go_sem, abin_shl, abin_shr, Nat.reduceEqDiff, reduceIte, Nat.reduceAdd, Nat.reduceMul, Nat.reduceLT, Nat.reduceLeDiff, Int.reduceBEq, Int.reduceBNe, Int.reduceLT, Int.reduceLE, Int.reduceEq, decide_eq_true c1, gf, k1, gf1, w1]
      rw [storeA, if_neg hp]
      have hs : n ≤ i + 1 ∨ (i + 1 < n ∧ (700 : Int) ≠ 0) := by
        by_cases q : i + 1 < n
        · exact .inr ⟨q, by decide⟩
        · exact .inl (by omega)
      obtain ⟨e', q⟩ := fstore_stop k2 n (i + 1) hs
      exact ⟨e', h1, ov, _, Lp_next step q, k2, k3, rfl, by decide⟩

theorem bits_xor64 {a b : Nat} (ha : a < 65536) (hb : b < 65536) : bits .xor .i64 (a : Int) (b : Int) = ((a ^^^ b : Nat) : Int) := by
  have h3 : a ^^^ b < 2 ^ 16 := Nat.xor_lt_two_pow (by simpa using ha) (by simpa using hb)
  show IntKind.wrap .i64 (((BitVec.ofInt 64 (a : Int) ^^^ BitVec.ofInt 64 (b : Int)).toNat : Nat) : Int) = _
  rw [BitVec.toNat_xor, bv_nat 64 a (by omega), bv_nat 64 b (by omega)]
  exact wrap_nat64 (by omega)
theorem xor_full_nat {n : Nat} (hn : n < 65536) : n ^^^ 65535 = 65535 - n := by
  have h1 := xor_full hn
  have h2 := bits_xor64 hn (b := 65535) (by omega)
  rw [show ((65535 : Nat) : Int) = 65535 from rfl, h1] at h2
  omega
theorem xor_iff {a b : Nat} (ha : a < 65536) (hb : b < 65536) : a ^^^ b = 65535 ↔ a + b = 65535 := by
  have h1 := xor_full_nat ha
  constructor
  · intro h
    have : b = a ^^^ 65535 := by rw [← h, ← Nat.xor_assoc, Nat.xor_self, Nat.zero_xor]
    omega
  · intro h
    have : b = a ^^^ 65535 := by omega
    rw [this, ← Nat.xor_assoc, Nat.xor_self, Nat.zero_xor]

theorem getF_e (c : FC) (n : Nat) (S : SS) (h : S.e = 0 ∨ S.e = 700) : (getF c n S).2.e = 0 ∨ (getF c n S).2.e = 700 := by
  unfold getF; split
  · exact h
  · rcases h with h | h <;> simp [failS, h]
theorem getF_lt (c : FC) (S : SS) (n : Nat) (hn : n ≤ 16) : (getF c n S).1 < 65536 := by
  unfold getF; split
  · have := valAt_lt c.text S.at_ n
    have := Nat.pow_le_pow_right (show 0 < 2 by omega) hn
    simp at *; omega
  · simp

theorem fstored_c {c : FC} {S : SS} {h : H} {ov : AV} (st : Ft c S h ov) (he : S.e = 0) :
    ∃ h' ov' S', callW AP.A 19 [.pobj c.f 0] h = some (.tup [], h') ∧ Ft c S' h' ov' ∧ FF c h ov h' ov' ∧ Fin (storedA c.text c.most S.at_ S.out) S' := by
  obtain ⟨h1, a1, a2, a3⟩ := falign_c st
  obtain ⟨p, hp⟩ : ∃ p, p = (S.at_ + 7) / 8 * 8 := ⟨_, rfl⟩
  rw [← hp] at a2
  have hS : storedA c.text c.most S.at_ S.out = if p + 32 ≤ 8 * c.text.size then (if valAt c.text p 16 + valAt c.text (p + 16) 16 = 65535 then storeA c.text c.most (valAt c.text p 16) (p + 32) S.out else .error 700) else .error 700 := by
    rw [hp]; rfl
  rw [hS]; clear hS
  obtain ⟨h2, b1, b2, b3⟩ := fget_c a2 16 16 rfl (by omega)
  obtain ⟨h3, d1, d2, d3⟩ := fget_c b2 16 16 rfl (by omega)
  obtain ⟨n, hn⟩ : ∃ n, n = (getF c 16 { S with at_ := p }).1 := ⟨_, rfl⟩
  obtain ⟨S2, hS2⟩ : ∃ n, n = (getF c 16 { S with at_ := p }).2 := ⟨_, rfl⟩
  obtain ⟨m, hm⟩ : ∃ n, n = (getF c 16 S2).1 := ⟨_, rfl⟩
  obtain ⟨S3, hS3⟩ : ∃ n, n = (getF c 16 S2).2 := ⟨_, rfl⟩
  rw [← hn] at b1; rw [← hS2] at b2 d1 d2; rw [← hm] at d1; rw [← hS3] at d2
  have hn16 : n < 65536 := hn ▸ getF_lt c _ 16 (by omega)
  have hm16 : m < 65536 := hm ▸ getF_lt c _ 16 (by omega)
  have x1 := bits_xor64 hn16 hm16
  have gf3 := d2.gf
  by_cases h32 : p + 32 ≤ 8 * c.text.size
  · have e2 : getF c 16 { S with at_ := p } = (valAt c.text p 16, { S with at_ := p + 16 }) := by rw [getF, if_pos (by show p + 16 ≤ _; omega)]
    rw [e2] at hn hS2; dsimp only at hn hS2; subst hS2
    have e3 : getF c 16 { S with at_ := p + 16 } = (valAt c.text (p + 16) 16, { S with at_ := p + 16 + 16 }) := by rw [getF, if_pos (by show p + 16 + 16 ≤ _; omega)]
    rw [e3] at hm hS3; dsimp only at hm hS3; subst hS3
    dsimp only at gf3
    rw [he] at gf3
    rw [if_pos h32, ← hn, ← hm]
    by_cases hx : n + m = 65535
    · rw [if_pos hx]
      have c1 : (((n ^^^ m : Nat) : Int) != 65535) = false := bne_f (by have := (xor_iff hn16 hm16).2 hx; omega)
      obtain ⟨e', h', ov', S', q1, q2, q3, q4⟩ := fstore_loop n (by omega) n 0 _ h3 ov (by omega) d2 he
      have q1' : Lp AP.A [0, 2, 4] AP.f19L0 [(0, .pobj c.f 0), (2, I n), (4, I 0)] h3 = some (.exit 0, e', h') := q1
      clear q1
      refine ⟨h', ov', S', ?_, q2, ((a3.trans b3).trans d3).trans q3, q4⟩
      refine plain_n (fn := AP.f19) (e := []) (vs := []) rfl rfl rfl ?_ rfl
      simp only [I] at *
      simp only [AP.f19, go_sem, abin_shl, abin_shr, Nat.reduceEqDiff, reduceIte, Nat.reduceAdd, Nat.reduceMul, Nat.reduceLT, Nat.reduceLeDiff, Int.reduceBEq, Int.reduceBNe, Int.reduceLT, Int.reduceLE, Int.reduceEq, evC_loop, a1, b1, d1, gf3, x1, c1, q1']
    · rw [if_neg hx]
      have c1 : (((n ^^^ m : Nat) : Int) != 65535) = true := bne_t (fun e => hx ((xor_iff hn16 hm16).1 (by omega)))
      obtain ⟨h4, f1, f2, f3⟩ := wrong_c d2
      have he4 : (failS 700 { S with at_ := p + 16 + 16 }).e = 700 := by simp [failS, he]
      have hs : n ≤ 0 ∨ (0 < n ∧ (failS 700 { S with at_ := p + 16 + 16 }).e ≠ 0) := by
        by_cases q : 0 < n
        · exact .inr ⟨q, by rw [he4]; decide⟩
        · exact .inl (by omega)
      obtain ⟨e', q⟩ := fstore_stop f2 n 0 hs
      have q' : Lp AP.A [0, 2, 4] AP.f19L0 [(0, .pobj c.f 0), (2, I n), (4, I 0)] h4 = some (.exit 0, e', h4) := q
      clear q
      refine ⟨h4, ov, _, ?_, f2, ((a3.trans b3).trans d3).trans f3, he4, by decide⟩
      refine plain_n (fn := AP.f19) (e := []) (vs := []) rfl rfl rfl ?_ rfl
      simp only [I] at *
      simp only [AP.f19, go_sem, abin_shl, abin_shr, Nat.reduceEqDiff, reduceIte, Nat.reduceAdd, Nat.reduceMul, Nat.reduceLT, Nat.reduceLeDiff, Int.reduceBEq, Int.reduceBNe, Int.reduceLT, Int.reduceLE, Int.reduceEq, evC_loop, a1, b1, d1, gf3, x1, c1, f1, q']
  · rw [if_neg h32]
    have he3 : S3.e = 700 := by
      rw [hS3, hS2]
      unfold getF
      by_cases q1 : p + 16 ≤ 8 * c.text.size
      · simp only [if_pos q1]
        rw [if_neg (by omega)]; simp [failS, he]
      · simp only [if_neg q1, failS, he, if_true]
        split <;> simp
    have c0 : (S3.e == 0) = false := beq_f (by rw [he3]; decide)
    have hs : n ≤ 0 ∨ (0 < n ∧ S3.e ≠ 0) := by
      by_cases q : 0 < n
      · exact .inr ⟨q, by rw [he3]; decide⟩
      · exact .inl (by omega)
    obtain ⟨e', q⟩ := fstore_stop d2 n 0 hs
    have q' : Lp AP.A [0, 2, 4] AP.f19L0 [(0, .pobj c.f 0), (2, I n), (4, I 0)] h3 = some (.exit 0, e', h3) := q
    clear q
    refine ⟨h3, ov, S3, ?_, d2, (a3.trans b3).trans d3, he3, by decide⟩
    refine plain_n (fn := AP.f19) (e := []) (vs := []) rfl rfl rfl ?_ rfl
    simp only [I] at *
    simp only [AP.f19, go_sem, abin_shl, abin_shr, Nat.reduceEqDiff, reduceIte, Nat.reduceAdd, Nat.reduceMul, Nat.reduceLT, Nat.reduceLeDiff, Int.reduceBEq, Int.reduceBNe, Int.reduceLT, Int.reduceLE, Int.reduceEq, evC_loop, a1, b1, d1, gf3, c0, q']
end Ab

/- The document's own stream: coded. -/
set_option linter.unusedSimpArgs false
set_option linter.unusedVariables false
namespace Ab
open Go

theorem fcopy_stop {c : FC} {S : SS} {h : H} {ov : AV} (st : Ft c S h ov) (a b : AV) (n d i : Nat) (hs : n ≤ i ∨ (i < n ∧ S.e ≠ 0)) :
    ∃ e', Lp AP.A [0, 1, 2, 10, 14, 15] AP.f20L0 [(0, .pobj c.f 0), (1, a), (2, b), (10, I n), (14, I d), (15, I i)] h = some (.exit 2, e', h) ∧ look e' 0 = .pobj c.f 0 ∧ look e' 1 = a ∧ look e' 2 = b := by
  have gf := st.gf
  refine ⟨[(0, .pobj c.f 0), (1, a), (2, b), (10, I n), (14, I d), (15, I i), (107, .bool false)], Lp_exit ?_, rfl, rfl, rfl⟩
  rcases hs with hn | ⟨hn, he⟩
  · have c1 : ¬ (i : Int) < n := by omega
    simp only [I] at *
    simp only [AP.f20L0, go_sem, abin_shl, abin_shr, Nat.reduceEqDiff, reduceIte, Nat.reduceAdd, Nat.reduceMul, Nat.reduceLT, Nat.reduceLeDiff, Int.reduceBEq, Int.reduceBNe, Int.reduceLT, Int.reduceLE, Int.reduceEq, decide_eq_false c1]
  · have c1 : (i : Int) < n := by omega
    have c2 := beq_f he
    simp only [I] at *
    simp only [AP.f20L0, go_sem, abin_shl, abin_shr, Nat.reduceEqDiff, reduceIte, Nat.reduceAdd, Nat.reduceMul, Nat.reduceLT, Nat.reduceLeDiff, Int.reduceBEq, Int.reduceBNe, Int.reduceLT, Int.reduceLE, Int.reduceEq, decide_eq_true c1, gf, c2]

theorem fcopy_loop {c : FC} (a b : AV) (d : Nat) (hd : 0 < d) (n : Nat) (hn : n ≤ 65535) : ∀ (m i : Nat) (S : SS) (h : H) (ov : AV), i + m = n → Ft c S h ov → S.e = 0 → d ≤ S.out.length →
    ∃ e' h' ov' S', Lp AP.A [0, 1, 2, 10, 14, 15] AP.f20L0 [(0, .pobj c.f 0), (1, a), (2, b), (10, I n), (14, I d), (15, I i)] h = some (.exit 2, e', h') ∧ look e' 0 = .pobj c.f 0 ∧ look e' 1 = a ∧ look e' 2 = b ∧ Ft c S' h' ov' ∧ FF c h ov h' ov' ∧ match copyL c.most d m S.out with
      | .ok o => S' = { S with out := o }
      | .error k => S'.e = k ∧ k ≠ 0
  | 0, i, S, h, ov, hm, st, he, hl => by
    obtain ⟨e', q, q2⟩ := fcopy_stop st a b n d i (.inl (by omega))
    exact ⟨e', h, ov, S, q, q2.1, q2.2.1, q2.2.2, st, FF.refl _ _ _, by simp only [copyL]⟩
  | m + 1, i, S, h, ov, hm, st, he, hl => by
    have gf := st.gf
    have hol := st.ol
    have hml := st.ml
    have ln := st.own.len
    rw [bys_length] at ln
    have c1 : (i : Int) < n := by omega
    have w1 : IntKind.wrap .i64 ((i : Int) + 1) = ((i + 1 : Nat) : Int) := wrap_nat64 (n := i + 1) (by omega)
    have w2 : IntKind.wrap .i64 ((S.out.length : Int) - d) = ((S.out.length - d : Nat) : Int) := by rw [show (S.out.length : Int) - d = ((S.out.length - d : Nat) : Int) by omega]; exact wrap_nat64 (by omega)
    have hb := bys_get (l := S.out) (i := S.out.length - d) (by omega)
    obtain ⟨id, i1, i2, i3⟩ := st.own.elem hb
    obtain ⟨h2, ov2, S2, p1, p2, p3, p4⟩ := fput_c st he (S.out.getD (S.out.length - d) 0)
    have step : evC (callW AP.A) loopW AP.f20L0 (restr [(0, .pobj c.f 0), (1, a), (2, b), (10, I n), (14, I d), (15, I i)] [0, 1, 2, 10, 14, 15]) h = some (.normal, [(0, .pobj c.f 0), (1, a), (2, b), (10, I n), (14, I d), (15, I (i + 1 : Nat))], h2) := by
      clear i1
      rw [he] at gf
      simp only [I] at *
      simp only [AP.f20L0, go_sem, abin_shl, abin_shr, Nat.reduceEqDiff, reduceIte, Nat.reduceAdd, Nat.reduceMul, Nat.reduceLT, Nat.reduceLeDiff, Int.reduceBEq, Int.reduceBNe, Int.reduceLT, Int.reduceLE, Int.reduceEq, decide_eq_true c1, gf, ln, w2, i2, i3, hb, p1, w1]
    rw [copyL]
    by_cases hm' : c.most ≤ S.out.length
    · rw [if_pos hm'] at p4 ⊢
      have he2 : S2.e = 701 := by rw [p4]
      have hs : n ≤ i + 1 ∨ (i + 1 < n ∧ S2.e ≠ 0) := by
        by_cases q : i + 1 < n
        · exact .inr ⟨q, by rw [he2]; decide⟩
        · exact .inl (by omega)
      obtain ⟨e', q, q2⟩ := fcopy_stop p2 a b n d (i + 1) hs
      exact ⟨e', h2, ov2, _, Lp_next step q, q2.1, q2.2.1, q2.2.2, p2, p3, he2, by decide⟩
    · rw [if_neg hm'] at p4 ⊢
      subst p4
      obtain ⟨e', h', ov', S', q1, q2, q3, q4, q5, q6, q7⟩ := fcopy_loop a b d hd n hn m (i + 1) _ h2 ov2 (by omega) p2 rfl (by simp; omega)
      refine ⟨e', h', ov', S', Lp_next step q1, q2, q3, q4, q5, p3.trans q6, ?_⟩
      dsimp only at q7 ⊢
      rw [he]
      exact q7

theorem fcoded_stop {c : FC} {S : SS} {h : H} {ov : AV} (st : Ft c S h ov) (a b : AV) (hs : S.e ≠ 0) :
    ∃ e', Lp AP.A [0, 1, 2] AP.f20L1 [(0, .pobj c.f 0), (1, a), (2, b)] h = some (.exit 0, e', h) := by
  have gf := st.gf
  refine ⟨[(0, .pobj c.f 0), (1, a), (2, b), (20, .bool false)], Lp_exit ?_⟩
  have c2 := beq_f hs
  simp only [I] at *
  simp only [AP.f20L1, go_sem, abin_shl, abin_shr, Nat.reduceEqDiff, reduceIte, Nat.reduceAdd, Nat.reduceMul, Nat.reduceLT, Nat.reduceLeDiff, Int.reduceBEq, Int.reduceBNe, Int.reduceLT, Int.reduceLE, Int.reduceEq, gf, c2]

theorem fcoded_loop {c : FC} (ll dl : List Int) (hll : ll.length < 1000) (hdl : dl.length < 1000) : ∀ (k : Nat) (S : SS) (h : H) (ov : AV), Ft c S h ov → S.e = 0 → 8 * c.text.size < S.at_ + k →
    ∃ e' h' ov' S', (Lp AP.A [0, 1, 2] AP.f20L1 [(0, .pobj c.f 0), (1, rbook ll), (2, rbook dl)] h = some (.ret, e', h') ∨ Lp AP.A [0, 1, 2] AP.f20L1 [(0, .pobj c.f 0), (1, rbook ll), (2, rbook dl)] h = some (.exit 0, e', h')) ∧ Ft c S' h' ov' ∧ FF c h ov h' ov' ∧ Fin (codedA c.text c.most ll dl k S.at_ S.out) S'
  | 0, S, h, ov, st, he, hk => by have := st.at_le; omega
  | k + 1, S, h, ov, st, he, hk => by
    have gf := st.gf
    rw [he] at gf
    obtain ⟨h1, S1, z, s1, s2, s3, s4⟩ := fsymbol_c ll hll st he
    have gf1 := s2.gf
    rw [codedA]
    cases hz : symA c.text ll 15 1 0 S.at_ with
    | none =>
      rw [hz] at s4
      obtain ⟨s4, s5⟩ := s4
      have ce : (S1.e != 0) = true := bne_t (by rw [s4]; decide)
      refine ⟨[(0, .pobj c.f 0), (1, rbook ll), (2, rbook dl), (6, I z), (32, .bool true)], h1, ov, S1, .inl (Lp_ret ?_), s2, s3, s4, by decide⟩
      simp only [I] at *
      simp only [AP.f20L1, go_sem, abin_shl, abin_shr, Nat.reduceEqDiff, reduceIte, Nat.reduceAdd, Nat.reduceMul, Nat.reduceLT, Nat.reduceLeDiff, Int.reduceBEq, Int.reduceBNe, Int.reduceLT, Int.reduceLE, Int.reduceEq, gf, s1, gf1, ce]
    | some zp =>
      obtain ⟨z2, p1⟩ := zp
      rw [hz] at s4
      obtain ⟨s4, s5⟩ := s4
      subst s5 s4
      dsimp only at gf1
      rw [he] at gf1
      have zb := symA_bd hz
      obtain ⟨y, hy⟩ : ∃ n : Nat, z = n := Int.eq_ofNat_of_zero_le zb.1
      subst hy
      dsimp only
      by_cases c1 : (y : Int) < 256
      · rw [if_pos c1]
        have w1 : IntKind.wrap .u8 (y : Int) = y := wrap_u8 (by omega)
        have c256 : ((y : Int) == 256) = false := beq_f (by omega)
        obtain ⟨h2, ov2, S2, p1', p2', p3', p4'⟩ := fput_c s2 he y
        have step : evC (callW AP.A) loopW AP.f20L1 (restr [(0, .pobj c.f 0), (1, rbook ll), (2, rbook dl)] [0, 1, 2]) h = some (.normal, [(0, .pobj c.f 0), (1, rbook ll), (2, rbook dl)], h2) := by
          simp only [I] at *
          simp only [AP.f20L1, go_sem, abin_shl, abin_shr, Nat.reduceEqDiff, reduceIte, Nat.reduceAdd, Nat.reduceMul, Nat.reduceLT, Nat.reduceLeDiff, Int.reduceBEq, Int.reduceBNe, Int.reduceLT, Int.reduceLE, Int.reduceEq, gf, s1, gf1, c256, decide_eq_true c1, w1, p1']
        dsimp only at p4'
        by_cases hm : c.most ≤ S.out.length
        · rw [if_pos hm] at p4' ⊢
          have he2 : S2.e = 701 := by rw [p4']
          obtain ⟨e', q⟩ := fcoded_stop p2' (rbook ll) (rbook dl) (by rw [he2]; decide)
          exact ⟨e', h2, ov2, _, .inr (Lp_next step q), p2', s3.trans p3', he2, by decide⟩
        · rw [if_neg hm] at p4' ⊢
          subst p4'
          obtain ⟨e', h', ov', S', q1, q2, q3, q4⟩ := fcoded_loop ll dl hll hdl k _ h2 ov2 p2' rfl (by dsimp only; omega)
          refine ⟨e', h', ov', S', ?_, q2, (s3.trans p3').trans q3, q4⟩
          rcases q1 with q1 | q1
          · exact .inl (Lp_next step q1)
          · exact .inr (Lp_next step q1)
      · rw [if_neg c1]
        by_cases c2 : (y : Int) = 256
        · rw [if_pos c2]
          refine ⟨[(0, .pobj c.f 0), (1, rbook ll), (2, rbook dl), (6, I y), (32, .bool true)], h1, ov, _, .inl (Lp_ret ?_), s2, s3, ?_⟩
          · have c2' := beq_t c2
            simp only [I] at *
            simp only [AP.f20L1, go_sem, abin_shl, abin_shr, Nat.reduceEqDiff, reduceIte, Nat.reduceAdd, Nat.reduceMul, Nat.reduceLT, Nat.reduceLeDiff, Int.reduceBEq, Int.reduceBNe, Int.reduceLT, Int.reduceLE, Int.reduceEq, gf, s1, gf1, c2']
          · simp only [Fin]; rw [he]
        · rw [if_neg c2]
          have c256 := beq_f c2
          have lo := lenOf2_c h1 y (by omega)
          rw [Int.toNat_natCast]
          unfold copyA
          have n600 : ((600 : Int) != 0) = true := rfl
          have n0 : ((0 : Int) != 0) = false := rfl
          cases hlo : lenOf y with
          | none =>
            rw [hlo] at lo
            obtain ⟨h2, f1, f2, f3⟩ := wrong_c s2
            refine ⟨[], h2, ov, _, .inl (Lp_ret ?_), f2, s3.trans f3, by simp [failS, he], by decide⟩
            simp only [I, tup3] at *
            simp only [AP.f20L1, go_sem, abin_shl, abin_shr, Nat.reduceEqDiff, reduceIte, Nat.reduceAdd, Nat.reduceMul, Nat.reduceLT, Nat.reduceLeDiff, Int.reduceBEq, Int.reduceBNe, Int.reduceLT, Int.reduceLE, Int.reduceEq, gf, s1, gf1, c256, decide_eq_false c1, lo, n600, f1]
          | some le =>
            obtain ⟨least, extra⟩ := le
            rw [hlo] at lo
            obtain ⟨b1, b2, b3⟩ := lenOf_bd hlo
            obtain ⟨h2, k1, k2, k3⟩ := fget_c s2 extra extra rfl (by omega)
            dsimp only
            by_cases hp : p1 + extra ≤ 8 * c.text.size
            · have eg : getF c extra { S with at_ := p1 } = (valAt c.text p1 extra, { S with at_ := p1 + extra }) := by rw [getF, if_pos hp]
              rw [eg] at k1 k2
              dsimp only at k1 k2
              rw [if_pos hp]
              have gf2 := k2.gf
              dsimp only at gf2
              rw [he] at gf2
              have hve := valAt_lt c.text p1 extra
              have hve2 : 2 ^ extra ≤ 2 ^ 5 := Nat.pow_le_pow_right (by omega) b2
              have w1 : IntKind.wrap .i64 ((least : Int) + (valAt c.text p1 extra : Int)) = ((least + valAt c.text p1 extra : Nat) : Int) := by
                rw [show (least : Int) + (valAt c.text p1 extra : Int) = ((least + valAt c.text p1 extra : Nat) : Int) by omega]; exact wrap_nat64 (by omega)
              obtain ⟨h3, S3, z, s1', s2', s3', s4'⟩ := fsymbol_c dl hdl k2 he
              have gf3 := s2'.gf
              dsimp only at s4'
              cases hz2 : symA c.text dl 15 1 0 (p1 + extra) with
              | none =>
                rw [hz2] at s4'
                obtain ⟨s4', s5'⟩ := s4'
                have ce3 : (S3.e != 0) = true := bne_t (by rw [s4']; decide)
                refine ⟨[(0, .pobj c.f 0), (1, rbook ll), (2, rbook dl), (10, I (least + valAt c.text p1 extra : Nat)), (11, I z), (66, .bool true)], h3, ov, S3, .inl (Lp_ret ?_), s2', (s3.trans k3).trans s3', s4', by decide⟩
                simp only [I, tup3] at *
                simp only [AP.f20L1, go_sem, abin_shl, abin_shr, Nat.reduceEqDiff, reduceIte, Nat.reduceAdd, Nat.reduceMul, Nat.reduceLT, Nat.reduceLeDiff, Int.reduceBEq, Int.reduceBNe, Int.reduceLT, Int.reduceLE, Int.reduceEq, gf, s1, gf1, c256, decide_eq_false c1, lo, n0, k1, w1, gf2, s1', gf3, ce3]
              | some zp =>
                obtain ⟨z2, p2⟩ := zp
                rw [hz2] at s4'
                obtain ⟨s4', s5'⟩ := s4'
                subst s5' s4'
                have zb2 := symA_bd hz2
                obtain ⟨zn, hzn⟩ : ∃ n : Nat, z = n := Int.eq_ofNat_of_zero_le zb2.1
                subst hzn
                have dob := distOf2_c h3 zn (by omega)
                dsimp only at gf3 ⊢
                rw [he] at gf3
                rw [Int.toNat_natCast]
                cases hdo : distOf zn with
                | none =>
                  rw [hdo] at dob
                  obtain ⟨h4, f1, f2, f3⟩ := wrong_c s2'
                  refine ⟨[], h4, ov, _, .inl (Lp_ret ?_), f2, ((s3.trans k3).trans s3').trans f3, by simp [failS, he], by decide⟩
                  simp only [I, tup3] at *
                  simp only [AP.f20L1, go_sem, abin_shl, abin_shr, Nat.reduceEqDiff, reduceIte, Nat.reduceAdd, Nat.reduceMul, Nat.reduceLT, Nat.reduceLeDiff, Int.reduceBEq, Int.reduceBNe, Int.reduceLT, Int.reduceLE, Int.reduceEq, gf, s1, gf1, c256, decide_eq_false c1, lo, n0, k1, w1, gf2, s1', gf3, dob, n600, f1]
                | some lx =>
                  obtain ⟨ld, xd⟩ := lx
                  rw [hdo] at dob
                  obtain ⟨d1, d2, d3⟩ := distOf_bd hdo
                  obtain ⟨h4, v1, v2, v3⟩ := fget_c s2' xd xd rfl (by omega)
                  obtain ⟨x, hx⟩ : ∃ x, x = (getF c xd { S with at_ := p2 }).1 := ⟨_, rfl⟩
                  obtain ⟨S4, hS4⟩ : ∃ x, x = (getF c xd { S with at_ := p2 }).2 := ⟨_, rfl⟩
                  rw [← hx] at v1; rw [← hS4] at v2
                  have hxb : x < 65536 := hx ▸ getF_lt c _ xd (by omega)
                  have w2 : IntKind.wrap .i64 ((ld : Int) + (x : Int)) = ((ld + x : Nat) : Int) := by
                    rw [show (ld : Int) + (x : Int) = ((ld + x : Nat) : Int) by omega]; exact wrap_nat64 (by omega)
                  have gf4 := v2.gf
                  have ln := v2.own.len
                  rw [bys_length] at ln
                  have frs := ((s3.trans k3).trans s3').trans v3
                  dsimp only
                  -- to the loop of the copy
                  have toLoop : ∀ (h5 : H) (e6 : Env) (h6 : H), ((S4.e = 0 ∧ S4.out.length < ld + x ∧ callW AP.A 25 [.pobj c.f 0] h4 = some (.tup [], h5)) ∨ ((S4.e ≠ 0 ∨ ¬ S4.out.length < ld + x) ∧ h5 = h4)) → Lp AP.A [0, 1, 2, 10, 14, 15] AP.f20L0 [(0, .pobj c.f 0), (1, rbook ll), (2, rbook dl), (10, I (least + valAt c.text p1 extra : Nat)), (14, I (ld + x : Nat)), (15, I 0)] h5 = some (.exit 2, e6, h6) →
                      look e6 0 = .pobj c.f 0 → look e6 1 = rbook ll → look e6 2 = rbook dl → evC (callW AP.A) loopW AP.f20L1 (restr [(0, .pobj c.f 0), (1, rbook ll), (2, rbook dl)] [0, 1, 2]) h = some (.normal, [(0, .pobj c.f 0), (1, rbook ll), (2, rbook dl)], h6) := by
                    intro h5 e6 h6 hcase q6 l0 l1 l2
                    rcases hcase with ⟨g1, g2, g3⟩ | ⟨g1, rfl⟩
                    · have g2' : (S4.out.length : Int) < ((ld + x : Nat) : Int) := by omega
                      have g1' := beq_t g1
                      simp only [I, tup3] at *
                      simp only [AP.f20L1, go_sem, abin_shl, abin_shr, Nat.reduceEqDiff, reduceIte, Nat.reduceAdd, Nat.reduceMul, Nat.reduceLT, Nat.reduceLeDiff, Int.reduceBEq, Int.reduceBNe, Int.reduceLT, Int.reduceLE, Int.reduceEq, gf, s1, gf1, c256, decide_eq_false c1, lo, n0, k1, w1, gf2, s1', gf3, dob, v1, w2, gf4, g1', ln, decide_eq_true g2', g3, evC_loop, q6, l0, l1, l2]
                    · by_cases g3 : S4.e = 0
                      · have g2 : ¬ S4.out.length < ld + x := by
                          rcases g1 with q | q
                          · exact absurd g3 q
                          · exact q
                        have g2' : ¬ (S4.out.length : Int) < ((ld + x : Nat) : Int) := by omega
                        have g1' := beq_t g3
                        clear g1
                        simp only [I, tup3] at *
                        simp only [AP.f20L1, go_sem, abin_shl, abin_shr, Nat.reduceEqDiff, reduceIte, Nat.reduceAdd, Nat.reduceMul, Nat.reduceLT, Nat.reduceLeDiff, Int.reduceBEq, Int.reduceBNe, Int.reduceLT, Int.reduceLE, Int.reduceEq, gf, s1, gf1, c256, decide_eq_false c1, lo, n0, k1, w1, gf2, s1', gf3, dob, v1, w2, gf4, g1', ln, decide_eq_false g2', evC_loop, q6, l0, l1, l2]
                      · have g1' := beq_f g3
                        clear g1
                        simp only [I, tup3] at *
                        simp only [AP.f20L1, go_sem, abin_shl, abin_shr, Nat.reduceEqDiff, reduceIte, Nat.reduceAdd, Nat.reduceMul, Nat.reduceLT, Nat.reduceLeDiff, Int.reduceBEq, Int.reduceBNe, Int.reduceLT, Int.reduceLE, Int.reduceEq, gf, s1, gf1, c256, decide_eq_false c1, lo, n0, k1, w1, gf2, s1', gf3, dob, v1, w2, gf4, g1', ln, evC_loop, q6, l0, l1, l2]
                  by_cases hp2 : p2 + xd ≤ 8 * c.text.size
                  · have egx : getF c xd { S with at_ := p2 } = (valAt c.text p2 xd, { S with at_ := p2 + xd }) := by rw [getF, if_pos hp2]
                    rw [egx] at hx hS4; dsimp only at hx hS4
                    subst hS4
                    rw [← hx]
                    by_cases hbk : S.out.length < ld + x
                    · rw [if_neg (fun q => by omega)]
                      obtain ⟨h5, f1, f2, f3⟩ := wrong_c v2
                      have he5 : (failS 700 { S with at_ := p2 + xd }).e = 700 := by simp [failS, he]
                      obtain ⟨e6, q6, q7, q8, q9⟩ := fcopy_stop f2 (rbook ll) (rbook dl) (least + valAt c.text p1 extra) (ld + x) 0 (.inr ⟨by omega, by rw [he5]; decide⟩)
                      have step := toLoop h5 e6 h5 (.inl ⟨he, hbk, f1⟩) q6 q7 q8 q9
                      obtain ⟨e', q⟩ := fcoded_stop f2 (rbook ll) (rbook dl) (by rw [he5]; decide)
                      exact ⟨e', h5, ov, _, .inr (Lp_next step q), f2, frs.trans f3, he5, by decide⟩
                    · rw [if_pos ⟨hp2, by omega⟩]
                      obtain ⟨e6, h6, ov6, S6, q1, q2, q3, q4, q5, q6, q7⟩ := fcopy_loop (c := c) (rbook ll) (rbook dl) (ld + x) (by omega) (least + valAt c.text p1 extra) (by omega) (least + valAt c.text p1 extra) 0 _ h4 ov (by omega) v2 he (by dsimp only; omega)
                      have step := toLoop h4 e6 h6 (.inr ⟨.inr hbk, rfl⟩) q1 q2 q3 q4
                      dsimp only at q7
                      cases hcl : copyL c.most (ld + x) (least + valAt c.text p1 extra) S.out with
                      | error q =>
                        rw [hcl] at q7
                        obtain ⟨e', q'⟩ := fcoded_stop q5 (rbook ll) (rbook dl) (by rw [q7.1]; exact q7.2)
                        exact ⟨e', h6, ov6, S6, .inr (Lp_next step q'), q5, frs.trans q6, q7⟩
                      | ok o =>
                        rw [hcl] at q7
                        dsimp only at q7
                        subst q7
                        obtain ⟨e', h', ov', S', r1, r2, r3, r4⟩ := fcoded_loop ll dl hll hdl k _ h6 ov6 q5 he (by dsimp only; omega)
                        refine ⟨e', h', ov', S', ?_, r2, (frs.trans q6).trans r3, r4⟩
                        rcases r1 with r1 | r1
                        · exact .inl (Lp_next step r1)
                        · exact .inr (Lp_next step r1)
                  · rw [if_neg (fun q => hp2 q.1)]
                    have he4 : S4.e = 700 := by rw [hS4, getF, if_neg hp2]; simp [failS, he]
                    obtain ⟨e6, q6, q7, q8, q9⟩ := fcopy_stop v2 (rbook ll) (rbook dl) (least + valAt c.text p1 extra) (ld + x) 0 (.inr ⟨by omega, by rw [he4]; decide⟩)
                    have step := toLoop h4 e6 h4 (.inr ⟨.inl (by rw [he4]; decide), rfl⟩) q6 q7 q8 q9
                    obtain ⟨e', q⟩ := fcoded_stop v2 (rbook ll) (rbook dl) (by rw [he4]; decide)
                    exact ⟨e', h4, ov, _, .inr (Lp_next step q), v2, frs, he4, by decide⟩
            · have eg : getF c extra { S with at_ := p1 } = (0, { S with at_ := p1, e := 700 }) := by rw [getF, if_neg hp, failS, if_pos he]
              rw [eg] at k1 k2
              dsimp only at k1 k2
              rw [if_neg hp]
              have gf2 := k2.gf
              have w1 : IntKind.wrap .i64 ((least : Int) + ((0 : Nat) : Int)) = ((least : Nat) : Int) := by
                rw [show (least : Int) + ((0 : Nat) : Int) = ((least : Nat) : Int) by omega]; exact wrap_nat64 (by omega)
              have n7 : ((700 : Int) != 0) = true := rfl
              refine ⟨[(0, .pobj c.f 0), (1, rbook ll), (2, rbook dl), (10, I least), (58, .bool true)], h2, ov, _, .inl (Lp_ret ?_), k2, s3.trans k3, rfl, by decide⟩
              simp only [I, tup3] at *
              simp only [AP.f20L1, go_sem, abin_shl, abin_shr, Nat.reduceEqDiff, reduceIte, Nat.reduceAdd, Nat.reduceMul, Nat.reduceLT, Nat.reduceLeDiff, Int.reduceBEq, Int.reduceBNe, Int.reduceLT, Int.reduceLE, Int.reduceEq, gf, s1, gf1, c256, decide_eq_false c1, lo, n0, k1, w1, gf2, n7]

theorem fcoded_c {c : FC} {S : SS} {h : H} {ov : AV} (ll dl : List Int) (hll : ll.length < 1000) (hdl : dl.length < 1000) (st : Ft c S h ov) (he : S.e = 0) :
    ∃ h' ov' S', callW AP.A 20 [.pobj c.f 0, rbook ll, rbook dl] h = some (.tup [], h') ∧ Ft c S' h' ov' ∧ FF c h ov h' ov' ∧ Fin (codedA c.text c.most ll dl (8 * c.text.size + 1) S.at_ S.out) S' := by
  obtain ⟨e', h', ov', S', q1, q2, q3, q4⟩ := fcoded_loop ll dl hll hdl (8 * c.text.size + 1) S h ov st he (by omega)
  refine ⟨h', ov', S', ?_, q2, q3, q4⟩
  rcases q1 with q1 | q1
  · refine plain_c (fn := AP.f20) (e := e') (vs := []) rfl rfl rfl ?_ rfl
    simp only [AP.f20, go_sem, abin_shl, abin_shr, Nat.reduceEqDiff, reduceIte, Nat.reduceAdd, Nat.reduceMul, Nat.reduceLT, Nat.reduceLeDiff, Int.reduceBEq, Int.reduceBNe, Int.reduceLT, Int.reduceLE, Int.reduceEq, evC_loop, q1]
  · refine plain_n (fn := AP.f20) (e := []) (vs := []) rfl rfl rfl ?_ rfl
    simp only [AP.f20, go_sem, abin_shl, abin_shr, Nat.reduceEqDiff, reduceIte, Nat.reduceAdd, Nat.reduceMul, Nat.reduceLT, Nat.reduceLeDiff, Int.reduceBEq, Int.reduceBNe, Int.reduceLT, Int.reduceLE, Int.reduceEq, evC_loop, q1]
end Ab
