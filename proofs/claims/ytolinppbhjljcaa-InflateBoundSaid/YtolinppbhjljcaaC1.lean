/- Part C1. -/
import Derived.Test.YtolinppbhjljcaaA3
import Derived.Test.YtolinppbhjljcaaAP
/- Whole numbers: bits, shifts. -/
set_option linter.unusedSimpArgs false
set_option linter.unusedVariables false
namespace Ab
open Go

theorem bv_nat (w n : Nat) (h : n < 2 ^ w) : (BitVec.ofInt w (n : Int)).toNat = n := by
  rw [BitVec.ofInt_natCast, BitVec.toNat_ofNat, Nat.mod_eq_of_lt h]

theorem wrap_nat64 {n : Nat} (h : n < 9223372036854775808) : IntKind.wrap .i64 (n : Int) = n := wrap_in (by omega) (by omega)
theorem wrap_u8 {n : Nat} (h : n < 256) : IntKind.wrap .u8 (n : Int) = n := by
  have e : IntKind.wrap .u8 (n : Int) = (n : Int) % 256 := by simp [IntKind.wrap, IntKind.bits, IntKind.signed]
  rw [e]; omega
theorem wrap_u8' (n : Int) : IntKind.wrap .u8 n = n % 256 := by simp [IntKind.wrap, IntKind.bits, IntKind.signed]

theorem bits_or {a b : Nat} (ha : a < 9223372036854775808) (hb : b < 9223372036854775808) : bits .or .i64 (a : Int) (b : Int) = ((a ||| b : Nat) : Int) := by
  have h1 : a < 2 ^ 63 := by simpa using ha
  have h2 : b < 2 ^ 63 := by simpa using hb
  have h3 : a ||| b < 2 ^ 63 := Nat.or_lt_two_pow h1 h2
  show IntKind.wrap .i64 (((BitVec.ofInt 64 (a : Int) ||| BitVec.ofInt 64 (b : Int)).toNat : Nat) : Int) = _
  rw [BitVec.toNat_or, bv_nat 64 a (by omega), bv_nat 64 b (by omega)]
  exact wrap_nat64 (by simpa using h3)

theorem bits_and8 {a b : Nat} (ha : a < 256) (hb : b < 256) : bits .and .u8 (a : Int) (b : Int) = ((a &&& b : Nat) : Int) := by
  have h3 : a &&& b < 2 ^ 8 := Nat.and_lt_two_pow _ (by simpa using hb)
  show IntKind.wrap .u8 (((BitVec.ofInt 8 (a : Int) &&& BitVec.ofInt 8 (b : Int)).toNat : Nat) : Int) = _
  rw [BitVec.toNat_and, bv_nat 8 a (by omega), bv_nat 8 b (by omega)]
  exact wrap_u8 (by simpa using h3)

/-- A bit above what there is. -/
theorem or_add {x b i : Nat} (hx : x < 2 ^ i) : x ||| b * 2 ^ i = x + b * 2 ^ i := by
  have := Nat.two_pow_add_eq_or_of_lt hx b
  rw [Nat.or_comm, Nat.mul_comm b, ← this, Nat.add_comm]

@[simp] theorem abin_shr {k j : IntKind} {a b : Int} : abin .shr (.int k a) (.int j b) = shft .shr k a b := rfl
@[simp] theorem abin_shl {k j : IntKind} {a b : Int} : abin .shl (.int k a) (.int j b) = shft .shl k a b := rfl

theorem shr_u8 {a s : Nat} (hs : s ≤ 8) : shft .shr .u8 (a : Int) (s : Int) = some (.int .u8 ((a / 2 ^ s : Nat) : Int)) := by
  unfold shft
  rw [if_neg (by omega)]
  simp only [IntKind.bits, Int.toNat_natCast, Nat.min_eq_left hs]
  congr 2
  rw [Int.fdiv_eq_ediv_of_nonneg _ (Int.pow_nonneg (by omega))]
  simp
theorem shl_i64 {a s : Nat} (hs : s ≤ 64) (h : a * 2 ^ s < 9223372036854775808) : shft .shl .i64 (a : Int) (s : Int) = some (.int .i64 ((a * 2 ^ s : Nat) : Int)) := by
  unfold shft
  rw [if_neg (by omega)]
  simp only [IntKind.bits, Int.toNat_natCast, Nat.min_eq_left hs]
  congr 2
  rw [← wrap_nat64 h]; simp

/-- Bit number p of a text. -/
def bitAt (s : ByteArray) (p : Nat) : Nat := ((s[p / 8]?).map (·.toNat)).getD 0 / 2 ^ (p % 8) % 2
theorem bitAt_le (s : ByteArray) (p : Nat) : bitAt s p ≤ 1 := by unfold bitAt; omega

/-- The value of n bits from p on, the lowest first. -/
def valAt (s : ByteArray) (p : Nat) : Nat → Nat
  | 0 => 0
  | n + 1 => valAt s p n + bitAt s (p + n) * 2 ^ n
theorem valAt_lt (s : ByteArray) (p : Nat) : ∀ n, valAt s p n < 2 ^ n
  | 0 => by simp [valAt]
  | n + 1 => by
    have h := valAt_lt s p n
    have b := bitAt_le s (p + n)
    have hb : bitAt s (p + n) = 0 ∨ bitAt s (p + n) = 1 := by omega
    rw [valAt, Nat.pow_succ]
    rcases hb with hb | hb <;> rw [hb] <;> omega
end Ab

/- bits.Reader: Of, Get, Align, At. -/
set_option linter.unusedSimpArgs false
set_option linter.unusedVariables false
namespace Ab
open Go
attribute [local congr] bind_cl

theorem tdiv_nat (a b : Nat) : Int.tdiv (a : Int) (b : Int) = ((a / b : Nat) : Int) := by simp
theorem tmod_nat (a b : Nat) : Int.tmod (a : Int) (b : Int) = ((a % b : Nat) : Int) := by rw [Int.tmod_eq_emod_of_nonneg (by omega)]; simp

theorem byte_at {s : ByteArray} {i : Nat} (h : i < s.size) : ∃ b : UInt8, s[i]? = some b := ⟨s[i], by simp [h]⟩

set_option maxHeartbeats 1000000 in
theorem get_step (h : H) (r : Nat) (s : ByteArray) (p x i n : Nat) (hg : h.get r = some [.str s, I p]) (hf : h.floor ≤ r) (hp : p < 8 * s.size) (hs : s.size < 1125899906842624) (hx : x < 2 ^ i) (hi : i < n) (hn : n ≤ 16) :
    evC (callW AP.A) loopW AP.f58L0 [(0, .pobj r 0), (6, I x), (32, I n), (33, I i)] h = some (.normal, [(0, .pobj r 0), (6, I (x + bitAt s p * 2 ^ i : Nat)), (32, I n), (33, I (i + 1 : Nat))], h.set r [.str s, I (p + 1 : Nat)]) := by
  obtain ⟨b, hb⟩ := byte_at (s := s) (i := p / 8) (by omega)
  have hb8 : b.toNat < 256 := b.toNat_lt
  have hbit : bitAt s p = b.toNat / 2 ^ (p % 8) % 2 := by simp [bitAt, hb]
  have t1 : Int.tdiv (p : Int) 8 = ((p / 8 : Nat) : Int) := tdiv_nat p 8
  have t2 : Int.tmod (p : Int) 8 = ((p % 8 : Nat) : Int) := tmod_nat p 8
  have w1 : IntKind.wrap .i64 ((p / 8 : Nat) : Int) = ((p / 8 : Nat) : Int) := wrap_nat64 (by omega)
  have a1 : aidx (I (p / 8 : Nat)) s.size = some (p / 8) := aidx_of (by omega)
  have s1 : shft .shr .u8 (b.toNat : Int) ((p % 8 : Nat) : Int) = some (.int .u8 ((b.toNat / 2 ^ (p % 8) : Nat) : Int)) := shr_u8 (by omega)
  have hlt : b.toNat / 2 ^ (p % 8) < 256 := Nat.lt_of_le_of_lt (Nat.div_le_self _ _) hb8
  have n1 : bits .and .u8 ((b.toNat / 2 ^ (p % 8) : Nat) : Int) 1 = ((bitAt s p : Nat) : Int) := by
    have := bits_and8 (b := 1) hlt (by omega)
    rw [Nat.and_one_is_mod] at this
    rw [hbit]; exact this
  have hbl := bitAt_le s p
  have w2 : IntKind.wrap .i64 ((bitAt s p : Nat) : Int) = ((bitAt s p : Nat) : Int) := wrap_nat64 (by omega)
  have hpow : (2 : Nat) ^ i ≤ 2 ^ 16 := Nat.pow_le_pow_right (by omega) (by omega)
  have hmul : bitAt s p * 2 ^ i ≤ 2 ^ i := by
    have := Nat.mul_le_mul_right (2 ^ i) hbl; simpa using this
  have s2 : shft .shl .i64 ((bitAt s p : Nat) : Int) (i : Int) = some (.int .i64 ((bitAt s p * 2 ^ i : Nat) : Int)) := shl_i64 (by omega) (by omega)
  have o1 : bits .or .i64 (x : Int) ((bitAt s p * 2 ^ i : Nat) : Int) = ((x + bitAt s p * 2 ^ i : Nat) : Int) := by
    rw [bits_or (by omega) (by omega), or_add hx]
  have w3 : IntKind.wrap .i64 ((p : Int) + 1) = ((p + 1 : Nat) : Int) := wrap_nat64 (n := p + 1) (by omega)
  have w4 : IntKind.wrap .i64 ((i : Int) + 1) = ((i + 1 : Nat) : Int) := wrap_nat64 (n := i + 1) (by omega)
  generalize hB : bitAt s p = B at *
  generalize hD : b.toNat / 2 ^ (p % 8) = D at *
  generalize hE : p / 8 = E at *
  generalize hF : p % 8 = F at *
  generalize hO : x + B * 2 ^ i = O at *
  generalize hM : B * 2 ^ i = W at *
  simp only [I] at *
  simp [AP.f58L0, evC, evOps, evOpsD, evOper, evOp, hg, abin_quo, abin_rem, t1, t2, w1, aidxs, a1, hb, s1, n1, w2, s2, o1, w3, w4, hi, hf]

theorem get_loop (r : Nat) (s : ByteArray) (p n : Nat) (hs : s.size < 1125899906842624) (hp : p + n ≤ 8 * s.size) (hn : n ≤ 16) : ∀ (k i : Nat) (h : H), i + k = n → h.get r = some [.str s, I (p + i : Nat)] → h.floor ≤ r →
    ∃ e', Lp AP.A [0, 6, 32, 33] AP.f58L0 [(0, .pobj r 0), (6, I (valAt s p i : Nat)), (32, I n), (33, I i)] h = some (.exit 1, e', h.set r [.str s, I (p + n : Nat)]) ∧ look e' 6 = I (valAt s p n : Nat)
  | 0, i, h, hk, hg, hf => by
    obtain rfl : i = n := by omega
    refine ⟨[(0, .pobj r 0), (6, I (valAt s p i : Nat)), (32, I i), (33, I i), (34, .bool false)], Lp_exit ?_, rfl⟩
    rw [H.set_same hg]
    simp [AP.f58L0, evC, evOps, evOper, evOp, I]
  | k + 1, i, h, hk, hg, hf => by
    have st := get_step h r s (p + i) (valAt s p i) i n hg hf (by omega) hs (valAt_lt s p i) (by omega) hn
    obtain ⟨e', k1, k2⟩ := get_loop r s p n hs hp hn k (i + 1) (h.set r [.str s, I (p + i + 1 : Nat)]) (by omega) (by rw [H.get_set, if_pos rfl, hg]; rfl) (by simpa using hf)
    rw [H.set_set] at k1
    exact ⟨e', Lp_next st k1, k2⟩

theorem get_ok (h : H) (r : Nat) (s : ByteArray) (p n : Nat) (hg : h.get r = some [.str s, I p]) (hf : h.floor ≤ r) (hs : s.size < 1125899906842624) (hp : p + n ≤ 8 * s.size) (hn : n ≤ 16) :
    callW AP.A 58 [.pobj r 0, I n] h = some (.tup [I (valAt s p n : Nat), I 0], h.set r [.str s, I (p + n : Nat)]) := by
  obtain ⟨e', k1, k2⟩ := get_loop r s p n hs hp hn n 0 h (by omega) hg hf
  have l1 := block_loop (k := [6]) k1
  simp only [restr_cons, restr_nil, k2] at l1
  have c0 : ¬ (n : Int) < 0 := by omega
  have c1 : ¬ (16 : Int) < n := by omega
  have w1 : IntKind.wrap .i64 (8 * (s.size : Int)) = ((8 * s.size : Nat) : Int) := wrap_nat64 (n := 8 * s.size) (by omega)
  have w2 : IntKind.wrap .i64 (((8 * s.size : Nat) : Int) - p) = ((8 * s.size - p : Nat) : Int) := by
    rw [← Int.ofNat_sub (by omega)]; exact wrap_nat64 (by omega)
  have c2 : ¬ ((8 * s.size - p : Nat) : Int) < n := by omega
  refine plain_c (fn := AP.f58) (e := [(4, I (valAt s p n : Nat)), (5, I 0)]) rfl rfl rfl ?_ rfl
  unfold AP.f58
  refine seq_n (e1 := [(0, .pobj r 0), (1, I n)]) (h1 := h) rfl ?_
  refine seq_n (e1 := [(0, .pobj r 0), (1, I n)]) (h1 := h) ?_ ?_
  · generalize hM : 8 * s.size - p = W at *
    generalize hM2 : 8 * s.size = W2 at *
    simp only [I] at *
    simp [evC, evOps, evOpsD, evOper, evOp, aeqn, unb, hg, alen, w1, w2, c0, c1, c2]
  refine seq_n (e1 := [(0, .pobj r 0), (1, I n), (6, I 0)]) (h1 := h) rfl ?_
  refine seq_n (e1 := [(6, I (valAt s p n : Nat))]) (h1 := h.set r [.str s, I (p + n : Nat)]) ?_ ?_
  · refine seq_n (e1 := [(0, .pobj r 0), (6, I 0), (32, I n), (33, I 0)]) (h1 := h) rfl ?_
    exact l1
  exact seq_n (e1 := [(4, I (valAt s p n : Nat)), (5, I 0)]) (h1 := h.set r [.str s, I (p + n : Nat)]) rfl rfl

theorem get_end (h : H) (r : Nat) (s : ByteArray) (p n : Nat) (hg : h.get r = some [.str s, I p]) (hs : s.size < 1125899906842624) (hp0 : p ≤ 8 * s.size) (hp : 8 * s.size < p + n) (hn : n ≤ 16) :
    callW AP.A 58 [.pobj r 0, I n] h = some (.tup [I 0, I 101], h) := by
  have c0 : ¬ (n : Int) < 0 := by omega
  have c1 : ¬ (16 : Int) < n := by omega
  have w1 : IntKind.wrap .i64 (8 * (s.size : Int)) = ((8 * s.size : Nat) : Int) := wrap_nat64 (n := 8 * s.size) (by omega)
  have w2 : IntKind.wrap .i64 (((8 * s.size : Nat) : Int) - p) = ((8 * s.size - p : Nat) : Int) := by
    rw [← Int.ofNat_sub (by omega)]; exact wrap_nat64 (by omega)
  have c2 : ((8 * s.size - p : Nat) : Int) < n := by omega
  refine plain_c (fn := AP.f58) (e := [(4, I 0), (5, I 101)]) rfl rfl rfl ?_ rfl
  unfold AP.f58
  refine seq_n (e1 := [(0, .pobj r 0), (1, I n)]) (h1 := h) rfl ?_
  refine seq_r ?_
  generalize hM : 8 * s.size - p = W at *
  generalize hM2 : 8 * s.size = W2 at *
  simp only [I] at *
  simp [evC, evOps, evOpsD, evOper, evOp, aeqn, unb, hg, alen, w1, w2, c0, c1, c2]
end Ab

/- huff.Make -/
set_option linter.unusedSimpArgs false
set_option linter.unusedVariables false
namespace Ab
open Go
attribute [local congr] bind_cl

/-- How many of the lengths are n (none is 0, as the book has it). -/
def cnt (l : List Int) (n : Nat) : Nat := if n = 0 then 0 else l.countP (fun x => x == (n : Int))
/-- The symbols of length n, rising. -/
def syms (l : List Int) (n : Nat) : List Int := if n = 0 then [] else l.zipIdx.filterMap fun p => if p.1 = (n : Int) then some (p.2 : Int) else none

theorem cnt_snoc (p : List Int) (x : Int) (n : Nat) : cnt (p ++ [x]) n = cnt p n + if n ≠ 0 ∧ x = (n : Int) then 1 else 0 := by
  unfold cnt
  by_cases hn : n = 0
  · simp [hn]
  · simp [hn, List.countP_append, List.countP_cons]
theorem syms_snoc (p : List Int) (x : Int) (n : Nat) : syms (p ++ [x]) n = syms p n ++ if n ≠ 0 ∧ x = (n : Int) then [(p.length : Int)] else [] := by
  unfold syms
  by_cases hn : n = 0
  · simp [hn]
  · simp [hn, List.zipIdx_append, List.filterMap_append]
    split <;> simp_all
theorem syms_length (l : List Int) (n : Nat) : (syms l n).length ≤ l.length := by
  unfold syms
  split
  · simp
  · refine Nat.le_trans (List.length_filterMap_le _ _) ?_
    simp
theorem cnt_le (l : List Int) (n : Nat) : cnt l n ≤ l.length := by
  unfold cnt
  split
  · omega
  · exact List.countP_le_length

/-- The book while the lengths are taken: its cells. -/
structure Bk (h0 h : H) (b : Nat) (C : Nat → AV) (p : List Int) : Prop where
  get : h.get b = some (tab 49 C)
  fl : h.floor = h0.next
  fb : h0.next ≤ b
  nx : h.floor ≤ h.next
  low : ∀ id, id < h0.next → h.get id = h0.get id
  c16 : ∀ n, n < 16 → C (16 + n) = I (cnt p n)
  own : ∀ n, n < 16 → Own h (C (32 + n)) (ints (syms p n))
  nb : ∀ n, n < 16 → (C (32 + n)).id? ≠ some b
  dis : ∀ n m, n < 16 → m < 16 → n ≠ m → ∀ i, (C (32 + n)).id? = some i → (C (32 + m)).id? ≠ some i

set_option maxHeartbeats 1000000 in
theorem make_step (h0 h : H) (b : Nat) (C : Nat → AV) (p : List Int) (n : Nat) (x : AV) (N : Int) (bk : Bk h0 h b C p) (hn1 : 0 < n) (hn : n < 16) (hp : p.length < 100000) (hel : ∃ a, aiadr 1 x (I p.length) = some a ∧ ∀ g : H, (∀ id c, h0.get id = some c → g.get id = some c) → aload false 1 a g = some (I n)) (hN : (p.length : Int) < N) :
    ∃ h' C', evC (callW AP.A) loopW AP.f41L1 [(3, .pobj b 0), (10, x), (11, I N), (12, I p.length)] h = some (.normal, [(3, .pobj b 0), (10, x), (11, I N), (12, I (p.length + 1))], h') ∧ Bk h0 h' b C' (p ++ [(n : Int)]) ∧ ∀ i, (i < 16 ∨ i = 48) → C' i = C i := by
  obtain ⟨a, ha1, ha2⟩ := hel
  have hlow : ∀ id c, h0.get id = some c → h.get id = some c := fun id c q => by rw [bk.low id (h0.lt id c q)]; exact q
  have hld := ha2 h hlow
  have hx : aidx (I n) 16 = some n := aidx_of hn
  have g1 : (tab 49 C)[16 + n]? = some (I (cnt p n)) := by rw [tab_get (by omega), bk.c16 n hn]
  have hcl := cnt_le p n
  have hw : IntKind.wrap .i64 ((cnt p n : Int) + 1) = cnt p n + 1 := wrap_in (by omega) (by omega)
  have hw2 : IntKind.wrap .i64 ((p.length : Int) + 1) = p.length + 1 := wrap_in (by omega) (by omega)
  have hfb : h.floor ≤ b := by rw [bk.fl]; exact bk.fb
  have hs1 : (tab 49 C).set (16 + n) (I (cnt p n + 1)) = tab 49 (upd C (16 + n) (I (cnt p n + 1))) := tab_set (by omega) _
  obtain ⟨C1, eC1⟩ : ∃ D, D = upd C (16 + n) (I (cnt p n + 1)) := ⟨_, rfl⟩
  rw [← eC1] at hs1
  obtain ⟨h1, eh1⟩ : ∃ g, g = (h.set b (tab 49 C1)).alloc [I p.length] := ⟨_, rfl⟩
  have hbn : b < h.next := h.lt _ _ bk.get
  have hb1 : h1.get b = some (tab 49 C1) := by
    rw [eh1, H.get_alloc, H.next_set, if_neg (by omega), H.get_set, if_pos rfl, bk.get]; rfl
  have hC1 : C1 (32 + n) = C (32 + n) := by rw [eC1, upd, if_neg (by omega)]
  have hlo1 : ∀ i, i ≠ b → i ≠ h.next → h1.get i = h.get i := fun i q1 q2 => by
    rw [eh1, H.get_alloc, H.next_set, if_neg q2, H.get_set, if_neg q1]
  have hfl1 : h1.floor = h.floor := by rw [eh1]; simp
  have hnx1 : h1.next = h.next + 1 := by rw [eh1]; simp
  have ho1 : ∀ m, m < 16 → Own h1 (C (32 + m)) (ints (syms p m)) := fun m hm =>
    (bk.own m hm).mono hfl1 fun i hi => hlo1 i (fun e => bk.nb m hm (e ▸ hi)) (by have := (bk.own m hm).lt hi; omega)
  have hsl := syms_length p n
  have hnxf := bk.nx
  obtain ⟨v', h2, q1, q2, q3, q4, q5, q6⟩ := (ho1 n hn).app (by omega) (z := 8) (I p.length) rfl (by simp [roomy]; omega)
  have g2 : (tab 49 C1)[32 + n]? = some (C (32 + n)) := by rw [tab_get (by omega), hC1]
  have hb2 : h2.get b = some (tab 49 C1) := by rw [q5 b (bk.nb n hn) (by omega)]; exact hb1
  have hs2 : (tab 49 C1).set (32 + n) v' = tab 49 (upd C1 (32 + n) v') := tab_set (by omega) _
  have hfl2 : h2.floor ≤ b := by have := bk.fb; have := bk.fl; omega
  have hv' : v'.cells = [v'] ∧ v'.sc = true := by
    rcases q2 with ⟨rfl, _⟩ | ⟨id, rfl, _⟩ <;> exact ⟨rfl, rfl⟩
  have b1 : 16 + n ≤ 48 := by omega
  have b2 : 32 + n ≤ 48 := by omega
  have hal : (h.set b (tab 49 C1)).get b = some (tab 49 C1) := by rw [H.get_set, if_pos rfl, bk.get]; rfl
  have hal2 : h1.get h.next = some [I p.length] := by rw [eh1, H.get_alloc, H.next_set, if_pos rfl]
  refine ⟨h2.set b (tab 49 (upd C1 (32 + n) v')), upd C1 (32 + n) v', ?_, ?_, fun i hi => by rw [upd, if_neg (by omega), eC1, upd, if_neg (by omega)]⟩
  · simp only [I] at *
    simp [AP.f41L1, evC, evOps, evOpsD, evOper, evOp, evBirth, birth, ha1, hld, hN, hn1, hx, bk.get, g1, hw, hw2, hfb, hs1, repl, fillA, aapp, srcCells, H.get_alloc, AOp.loud, b1, b2, hal, g2, ← eh1, hal2, q1, hb2, hs2, hfl2, hv'.1, hv'.2]
  · refine ⟨by rw [H.get_set, if_pos rfl, hb2]; rfl, by simp; rw [q3, hfl1, bk.fl], bk.fb, by simp; omega, fun id hid => ?_, fun m hm => ?_, fun m hm => ?_, fun m hm => ?_, fun m k hm hk hne i hi => ?_⟩
    · have hfb' := bk.fb
      have hfl' := bk.fl
      rw [H.get_set, if_neg (by omega), q5 id ?_ (by omega), hlo1 id (by omega) (by omega), bk.low id hid]
      intro hi
      rcases bk.own n hn with ⟨e, _⟩ | ⟨k, e, _, q⟩
      · rw [e] at hi; cases hi
      · rw [e] at hi; cases hi; have := q.1; omega
    · rw [upd, if_neg (by omega), eC1, upd, cnt_snoc]
      by_cases e : m = n
      · subst e; rw [if_pos rfl, if_pos ⟨by omega, rfl⟩]; simp
      · rw [if_neg (by omega), bk.c16 m hm, if_neg (by omega)]; simp
    · have hm32 : upd C1 (32 + n) v' (32 + m) = if m = n then v' else C (32 + m) := by
        simp only [upd]
        by_cases e : m = n
        · rw [if_pos (by omega), if_pos e]
        · rw [if_neg (by omega), if_neg e, eC1, upd, if_neg (by omega)]
      rw [hm32, syms_snoc]
      by_cases e : m = n
      · subst e
        rw [if_pos rfl, if_pos ⟨by omega, rfl⟩, ints_append]
        refine q2.mono (by simp) fun i hi => ?_
        rw [H.get_set, if_neg]
        intro e2; subst e2; rw [q6] at hi; cases hi; omega
      · rw [if_neg e, if_neg (by omega), List.append_nil]
        refine (ho1 m hm).mono (by simp; omega) fun i hi => ?_
        have hlt := (bk.own m hm).lt hi
        rw [H.get_set, if_neg (fun (e2 : i = b) => bk.nb m hm (e2 ▸ hi)), q5 i (bk.dis m n hm hn e i hi) (by omega)]
    · have hm32 : upd C1 (32 + n) v' (32 + m) = if m = n then v' else C (32 + m) := by
        simp only [upd]
        by_cases e : m = n
        · rw [if_pos (by omega), if_pos e]
        · rw [if_neg (by omega), if_neg e, eC1, upd, if_neg (by omega)]
      rw [hm32]
      by_cases e : m = n
      · rw [if_pos e, q6]; intro e2; cases e2; omega
      · rw [if_neg e]; exact bk.nb m hm
    · have hm32 : ∀ m, upd C1 (32 + n) v' (32 + m) = if m = n then v' else C (32 + m) := fun m => by
        simp only [upd]
        by_cases e : m = n
        · rw [if_pos (by omega), if_pos e]
        · rw [if_neg (by omega), if_neg e, eC1, upd, if_neg (by omega)]
      rw [hm32] at hi ⊢
      by_cases e : m = n
      · rw [if_pos e, q6] at hi
        cases hi
        rw [if_neg (by omega)]
        intro e2; have := (bk.own k hk).lt e2; omega
      · rw [if_neg e] at hi
        by_cases e3 : k = n
        · rw [if_pos e3, q6]; intro e2; cases e2; have := (bk.own m hm).lt hi; omega
        · rw [if_neg e3]; exact bk.dis m k hm hk hne i hi
set_option maxHeartbeats 1000000 in
theorem make_zero (h0 h : H) (b : Nat) (C : Nat → AV) (p : List Int) (x : AV) (N : Int) (bk : Bk h0 h b C p) (hp : p.length < 100000) (hel : ∃ a, aiadr 1 x (I p.length) = some a ∧ ∀ g : H, (∀ id c, h0.get id = some c → g.get id = some c) → aload false 1 a g = some (I 0)) (hN : (p.length : Int) < N) :
    evC (callW AP.A) loopW AP.f41L1 [(3, .pobj b 0), (10, x), (11, I N), (12, I p.length)] h = some (.normal, [(3, .pobj b 0), (10, x), (11, I N), (12, I (p.length + 1))], h) ∧ Bk h0 h b C (p ++ [0]) := by
  obtain ⟨a, ha1, ha2⟩ := hel
  have hlow : ∀ id c, h0.get id = some c → h.get id = some c := fun id c q => by rw [bk.low id (h0.lt id c q)]; exact q
  have hld := ha2 h hlow
  have hw2 : IntKind.wrap .i64 ((p.length : Int) + 1) = p.length + 1 := wrap_in (by omega) (by omega)
  refine ⟨?_, ⟨bk.get, bk.fl, bk.fb, bk.nx, bk.low, fun n hn => ?_, fun n hn => ?_, bk.nb, bk.dis⟩⟩
  · simp only [I] at *
    simp [AP.f41L1, evC, evOps, evOpsD, evOper, evOp, ha1, hld, hN, hw2]
  · rw [bk.c16 n hn, cnt_snoc, if_neg (by omega)]; simp
  · have := bk.own n hn
    rw [syms_snoc, if_neg (by omega), List.append_nil]; exact this

/-- All lengths are taken. -/
theorem make_loop (h0 : H) (b : Nat) (x : AV) (l : List Int) (hl : l.length < 100000) (hr : ∀ y ∈ l, 0 ≤ y ∧ y < 16) (hx : Rd h0 x (ints l)) : ∀ (m : Nat) (p q : List Int) (C : Nat → AV) (h : H), l = p ++ q → q.length = m → Bk h0 h b C p →
    ∃ h' C' e', Lp AP.A [3, 10, 11, 12] AP.f41L1 [(3, .pobj b 0), (10, x), (11, I l.length), (12, I p.length)] h = some (.exit 0, e', h') ∧ look e' 3 = .pobj b 0 ∧ Bk h0 h' b C' l ∧ ∀ i, (i < 16 ∨ i = 48) → C' i = C i
  | 0, p, [], C, h, hpq, _, bk => by
    refine ⟨h, C, ?_⟩
    have : l = p := by simpa using hpq
    subst this
    refine ⟨_, Lp_exit (e' := [(3, .pobj b 0), (10, x), (11, I l.length), (12, I l.length), (13, .bool false)]) ?_, rfl, bk, fun _ _ => rfl⟩
    simp [AP.f41L1, evC, evOps, evOper, evOp, I]
  | m + 1, p, y :: q, C, h, hpq, hm, bk => by
    have hmem : y ∈ l := by rw [hpq]; simp
    obtain ⟨h1, h2⟩ := hr y hmem
    have hget : l[p.length]? = some y := by rw [hpq]; simp
    have hel := hx.elem (ints_get hget)
    have hlen : p.length < l.length := (List.getElem?_eq_some_iff.1 hget).1
    obtain ⟨n, rfl⟩ := Int.eq_ofNat_of_zero_le h1
    have next : ∃ h' C', evC (callW AP.A) loopW AP.f41L1 [(3, .pobj b 0), (10, x), (11, I l.length), (12, I p.length)] h = some (.normal, [(3, .pobj b 0), (10, x), (11, I l.length), (12, I (p.length + 1))], h') ∧ Bk h0 h' b C' (p ++ [(n : Int)]) ∧ ∀ i, (i < 16 ∨ i = 48) → C' i = C i := by
      by_cases hn : n = 0
      · subst hn
        have z := make_zero h0 h b C p x l.length bk (by omega) hel (by omega)
        exact ⟨h, C, z.1, z.2, fun _ _ => rfl⟩
      · exact make_step h0 h b C p n x l.length bk (by omega) (by omega) (by omega) hel (by omega)
    obtain ⟨h', C', s1, bk', hC'⟩ := next
    have ih := make_loop h0 b x l hl hr hx m (p ++ [(n : Int)]) q C' h' (by rw [hpq]; simp) (by simpa using hm) bk'
    obtain ⟨h2, C2, e2, k1, k2, k3, k4⟩ := ih
    exact ⟨h2, C2, e2, Lp_next s1 (by simpa using k1), k2, k3, fun i hi => by rw [k4 i hi, hC' i hi]⟩

def firstC (l : List Int) : Nat → Int
  | 0 => 0
  | n + 1 => (firstC l n + cnt l n) * 2
def leftC (l : List Int) : Nat → Int
  | 0 => 1
  | n + 1 => leftC l n * 2 - cnt l (n + 1)

theorem firstC_bd {l : List Int} (hl : l.length < 100000) (n : Nat) : 0 ≤ firstC l n ∧ firstC l n ≤ 200000 * 2 ^ n - 200000 := by
  induction n with
  | zero => simp [firstC]
  | succ n ih => have := cnt_le l n; simp only [firstC, Int.pow_succ]; omega
theorem leftC_bd {l : List Int} (hl : l.length < 100000) (n : Nat) : - (200000 * 2 ^ n - 100000) ≤ leftC l n ∧ leftC l n ≤ 2 ^ n := by
  induction n with
  | zero => simp [leftC]
  | succ n ih => have := cnt_le l (n + 1); simp only [leftC, Int.pow_succ]; omega

theorem pow_le_15 {m : Nat} (hm : m ≤ 15) : (2 : Int) ^ m ≤ 32768 := by
  have h : (2 : Nat) ^ m ≤ 2 ^ 15 := Nat.pow_le_pow_right (by omega) hm
  have h2 : ((2 ^ m : Nat) : Int) ≤ ((2 ^ 15 : Nat) : Int) := Int.ofNat_le.2 h
  simpa using h2

/-- Storing a cell of the book's other two parts. -/
theorem Bk.put {h0 h : H} {b : Nat} {C : Nat → AV} {p : List Int} (bk : Bk h0 h b C p) {i : Nat} (hi : i < 16 ∨ i = 48) (v : AV) : Bk h0 (h.set b (tab 49 (upd C i v))) b (upd C i v) p := by
  have c : ∀ j, 16 ≤ j → j < 48 → upd C i v j = C j := fun j h1 h2 => by rw [upd, if_neg (by omega)]
  have hbn : b < h.next := h.lt _ _ bk.get
  refine ⟨by rw [H.get_set, if_pos rfl, bk.get]; rfl, by simp [bk.fl], bk.fb, by simp [bk.nx], fun id hid => ?_, fun n hn => ?_, fun n hn => ?_, fun n hn => ?_, fun n m hn hm hne k hk => ?_⟩
  · have := bk.fb
    rw [H.get_set, if_neg (by omega)]; exact bk.low id hid
  · rw [c _ (by omega) (by omega)]; exact bk.c16 n hn
  · rw [c _ (by omega) (by omega)]
    refine (bk.own n hn).mono (by simp) fun k hk => ?_
    rw [H.get_set, if_neg]; intro (e : k = b); exact bk.nb n hn (e ▸ hk)
  · rw [c _ (by omega) (by omega)]; exact bk.nb n hn
  · rw [c _ (by omega) (by omega)] at hk ⊢; exact bk.dis n m hn hm hne k hk

set_option maxHeartbeats 1000000 in
theorem make2_step (h0 h : H) (b : Nat) (C : Nat → AV) (l : List Int) (m : Nat) (bk : Bk h0 h b C l) (hl : l.length < 100000) (hm : m < 15) (hc : C 48 = I (leftC l m)) :
    evC (callW AP.A) loopW AP.f41L0 [(3, .pobj b 0), (6, I (firstC l m)), (7, I (m + 1))] h =
      some (.normal, [(3, .pobj b 0), (6, I (firstC l (m + 1))), (7, I (m + 1 + 1))], (h.set b (tab 49 (upd C (m + 1) (I (firstC l (m + 1)))))).set b (tab 49 (upd (upd C (m + 1) (I (firstC l (m + 1)))) 48 (I (leftC l (m + 1)))))) := by
  have hp := pow_le_15 (m := m) (by omega)
  have hf := firstC_bd hl m
  have hlf := leftC_bd hl m
  have c1 := cnt_le l m
  have c2 := cnt_le l (m + 1)
  have w1 : IntKind.wrap .i64 (m : Int) = m := wrap_in (by omega) (by omega)
  have w2 : IntKind.wrap .i64 (firstC l m + cnt l m) = firstC l m + cnt l m := wrap_in (by omega) (by omega)
  have w3 : IntKind.wrap .i64 ((firstC l m + cnt l m) * 2) = firstC l (m + 1) := wrap_in (by omega) (by omega)
  have w4 : IntKind.wrap .i64 (leftC l m * 2) = leftC l m * 2 := wrap_in (by omega) (by omega)
  have w5 : IntKind.wrap .i64 (leftC l m * 2 - cnt l (m + 1)) = leftC l (m + 1) := wrap_in (by omega) (by omega)
  have w6 : IntKind.wrap .i64 ((m : Int) + 1 + 1) = m + 1 + 1 := wrap_in (by omega) (by omega)
  have x1 : aidx (I m) 16 = some m := aidx_of (by omega)
  have x2 : aidx (I (m + 1)) 16 = some (m + 1) := aidx_of (i := m + 1) (by omega)
  have g1 : (tab 49 C)[16 + m]? = some (I (cnt l m)) := by rw [tab_get (by omega), bk.c16 m (by omega)]
  obtain ⟨C1, e1⟩ : ∃ D, D = upd C (m + 1) (I (firstC l (m + 1))) := ⟨_, rfl⟩
  have s1 : (tab 49 C).set (m + 1) (I (firstC l (m + 1))) = tab 49 C1 := by rw [e1]; exact tab_set (by omega) _
  have g2 : (tab 49 C1)[16 + (m + 1)]? = some (I (cnt l (m + 1))) := by rw [tab_get (by omega), e1, upd, if_neg (by omega), bk.c16 (m + 1) (by omega)]
  have g3 : (tab 49 C1)[48]? = some (I (leftC l m)) := by rw [tab_get (by omega), e1, upd, if_neg (by omega), hc]
  have g4 : C1 48 = I (leftC l m) := by rw [e1, upd, if_neg (by omega), hc]
  have s2 : (tab 49 C1).set 48 (I (leftC l (m + 1))) = tab 49 (upd C1 48 (I (leftC l (m + 1)))) := tab_set (by omega) _
  have hfb : h.floor ≤ b := by rw [bk.fl]; exact bk.fb
  have ge : (h.set b (tab 49 C1)).get b = some (tab 49 C1) := by rw [H.get_set, if_pos rfl, bk.get]; rfl
  have b1 : m + 1 ≤ 48 := by omega
  have b3 : m ≤ 47 := by omega
  have b4 : m ≤ 14 := by omega
  have b2 : (m : Int) + 1 ≤ 15 := by omega
  rw [← e1]
  simp only [I] at *
  simp [AP.f41L0, evC, evOps, evOpsD, evOper, evOp, bk.get, w1, w2, w3, w4, w5, w6, x1, x2, g1, g2, g3, g4, s1, s2, hfb, ge, b1, b2, b3, b4]

theorem make2_loop (h0 : H) (b : Nat) (l : List Int) (hl : l.length < 100000) : ∀ (k m : Nat) (C : Nat → AV) (h : H), m + k = 15 → Bk h0 h b C l → C 48 = I (leftC l m) → (∀ i, i ≤ m → C i = I (firstC l i)) →
    ∃ h' C' e', Lp AP.A [3, 6, 7] AP.f41L0 [(3, .pobj b 0), (6, I (firstC l m)), (7, I (m + 1))] h = some (.exit 2, e', h') ∧ look e' 3 = .pobj b 0 ∧ Bk h0 h' b C' l ∧ C' 48 = I (leftC l 15) ∧ ∀ i, i ≤ 15 → C' i = I (firstC l i)
  | 0, m, C, h, hk, bk, hc, hf => by
    obtain rfl : m = 15 := by omega
    refine ⟨h, C, [(3, .pobj b 0), (6, I (firstC l 15)), (7, I 16), (45, .bool false)], Lp_exit ?_, rfl, bk, hc, hf⟩
    have e : ((15 : Nat) : Int) + 1 = 16 := rfl
    rw [e]
    simp [AP.f41L0, evC, evOps, evOper, evOp, I]
  | k + 1, m, C, h, hk, bk, hc, hf => by
    have st := make2_step h0 h b C l m bk hl (by omega) hc
    have bk1 := (bk.put (i := m + 1) (.inl (by omega)) (I (firstC l (m + 1)))).put (i := 48) (.inr rfl) (I (leftC l (m + 1)))
    obtain ⟨h', C', e', k1, k2⟩ := make2_loop h0 b l hl k (m + 1) _ _ (by omega) bk1 (by simp [upd]) (fun i hi => by
      rw [upd, if_neg (by omega), upd]
      by_cases e : i = m + 1
      · rw [if_pos e, e]
      · rw [if_neg e]; exact hf i (by omega))
    exact ⟨h', C', e', Lp_next st (by simpa using k1), k2⟩

/-! ### The whole -/
/-- The book that is made, its cells. -/
def slOf (l : List AV) : AV := if l = [] then .nils else .simm false l 0 l.length 1
def bookC (l : List Int) : Nat → AV := fun i => if i < 16 then I (firstC l i) else if i < 32 then I (cnt l (i - 16)) else if i < 48 then slOf (ints (syms l (i - 32))) else I (leftC l 15)
def bookV (l : List Int) : AV := .pimm (tab 49 (bookC l)) 0

theorem mapO_of {f : AV → Option AV} {C D : Nat → AV} : ∀ (n : Nat), (∀ i, i < n → f (C i) = some (D i)) → mapO f (tab n C) = some (tab n D) := by
  have key : ∀ (l : List Nat), (∀ i ∈ l, f (C i) = some (D i)) → mapO f (l.map C) = some (l.map D) := by
    intro l
    induction l with
    | nil => intro _; rfl
    | cons i l ih => intro h; simp [mapO, h i (by simp), ih (fun j hj => h j (by simp [hj]))]
  exact fun n h => key _ fun i hi => h i (List.mem_range.1 hi)

theorem mapO_ints (g : Nat → Option (List AV)) (fl n : Nat) (t : Bool) : ∀ l : List Int, mapO (snap g fl (n + 1) t) (ints l) = some (ints l)
  | [] => rfl
  | x :: l => by
    have := mapO_ints g fl n t l
    simp only [ints, List.map_cons, mapO] at this ⊢
    rw [this]; rfl

theorem mapO_id {f : AV → Option AV} : ∀ {l : List AV}, (∀ x ∈ l, f x = some x) → mapO f l = some l
  | [], _ => rfl
  | x :: l, h => by simp [mapO, h x (by simp), mapO_id (l := l) fun y hy => h y (by simp [hy])]

theorem snap_own {h : H} {v : AV} {cs : List AV} {fl n : Nat} (o : Own h v cs) (hf : fl ≤ h.floor) (hm : mapO (snap h.get fl (n + 1) false) cs = some cs) : snap h.get fl (n + 2) false v = some (slOf cs) := by
  rcases o with ⟨rfl, rfl⟩ | ⟨id, rfl, hg, hfl, hne⟩
  · rfl
  · have h1 : ¬ id < fl := by omega
    simp only [snap, if_neg h1, hg, Option.bind_some, Nat.zero_add, Nat.mul_one, List.drop_zero, List.take_length, Nat.le_refl, if_true, hm, slOf, if_neg hne]

def C0 : Nat → AV := fun i => if i < 32 then I 0 else if i < 48 then .nils else I 1

set_option maxHeartbeats 1000000 in
theorem make_c (h : H) (x : AV) (l : List Int) (hl : l.length < 100000) (hr : ∀ y ∈ l, 0 ≤ y ∧ y < 16) (hx : Rd h x (ints l)) : callW AP.A 41 [x] h = some (bookV l, h) := by
  have hb0 : Bk h (h.fence.alloc (tab 49 C0)) h.next C0 [] := by
    refine ⟨by simp [H.get_alloc], by simp, Nat.le_refl _, by simp, fun id hid => ?_, fun n hn => ?_, fun n hn => ?_, fun n hn => ?_, fun n m hn hm hne i hi => ?_⟩
    · rw [H.get_alloc, if_neg (by simp; omega)]; rfl
    · simp only [C0, cnt, List.countP_nil]; rw [if_pos (by omega)]; simp
    · simp only [C0]; rw [if_neg (by omega), if_pos (by omega)]
      exact .inl ⟨rfl, by unfold syms; split <;> rfl⟩
    · simp only [C0]; rw [if_neg (by omega), if_pos (by omega)]; exact nofun
    · simp only [C0] at hi; rw [if_neg (by omega), if_pos (by omega)] at hi; cases hi
  obtain ⟨h1, D1, e1, k1, k2, bk1, k3⟩ := make_loop h h.next x l hl hr hx l.length [] l C0 _ rfl rfl hb0
  obtain ⟨h2, D2, e2, k4, k5, bk2, k6, k7⟩ := make2_loop h h.next l hl 15 0 D1 h1 rfl bk1 (by rw [k3 48 (.inr rfl)]; rfl) (fun i hi => by
    obtain rfl : i = 0 := by omega
    rw [k3 0 (.inl (by omega))]; rfl)
  have kx : evC (callW AP.A) loopW AP.f41.body (params 0 [x]) h.fence = some (.ret, [(2, .pobj h.next 0)], h2) := by
    unfold AP.f41
    refine seq_n (e1 := [(0, x)]) (h1 := h.fence) rfl ?_
    refine seq_n (e1 := [(0, x), (3, .pobj h.next 0)]) (h1 := h.fence.alloc (tab 49 C0)) rfl ?_
    refine seq_n (e1 := [(3, .pobj h.next 0)]) (h1 := h1) ?_ ?_
    · refine seq_n (e1 := [(3, .pobj h.next 0), (10, x), (11, I l.length), (12, I 0)]) (h1 := h.fence.alloc (tab 49 C0)) ?_ ?_
      · simp [evC, evOps, evOper, evOp, hx.len, I]
      · have := block_loop (k := [3]) k1
        simp only [restr_cons, restr_nil, k2] at this
        exact this
    refine seq_n (e1 := [(3, .pobj h.next 0), (6, I 0)]) (h1 := h1) rfl ?_
    refine seq_n (e1 := [(3, .pobj h.next 0)]) (h1 := h2) ?_ ?_
    · refine seq_n (e1 := [(3, .pobj h.next 0), (6, I 0), (7, I 1)]) (h1 := h1) rfl ?_
      have := block_loop (k := [3]) k4
      simp only [restr_cons, restr_nil, k5] at this
      exact this
    exact seq_n (e1 := [(2, .pobj h.next 0)]) (h1 := h2) rfl rfl
  have hsn : snap h2.get h.next 16 true (.pobj h.next 0) = some (bookV l) := by
    have hm : mapO (snap h2.get h.next 15 false) (tab 49 D2) = some (tab 49 (bookC l)) := by
      refine mapO_of 49 fun i hi => ?_
      by_cases c1 : i < 16
      · rw [k7 i (by omega), bookC, if_pos c1]; rfl
      by_cases c2 : i < 32
      · have := bk2.c16 (i - 16) (by omega)
        rw [show 16 + (i - 16) = i by omega] at this
        rw [this, bookC, if_neg c1, if_pos c2]; rfl
      by_cases c3 : i < 48
      · have := bk2.own (i - 32) (by omega)
        rw [show 32 + (i - 32) = i by omega] at this
        rw [bookC, if_neg c1, if_neg c2, if_pos c3]
        exact snap_own (n := 13) this (by rw [bk2.fl]; exact Nat.le_refl _) (mapO_ints _ _ _ _ _)
      · obtain rfl : i = 48 := by omega
        rw [k6, bookC, if_neg c1, if_neg c2, if_neg c3]; rfl
    simp only [snap, if_neg (Nat.lt_irrefl _), bk2.get, Option.bind_some, hm, bookV]
  exact pure_c (fn := AP.f41) rfl rfl rfl kx rfl hsn
end Ab

/- The stream of package inflate: fails, get, put. -/
set_option linter.unusedSimpArgs false
set_option linter.unusedVariables false
namespace Ab
open Go
attribute [local congr] bind_cl

theorem plain_n {A : AProg} {f : Nat} {fn : AFunc} {args : List AV} {h h2 : H} {e : Env} {vs : List AV} (hf : A f = some fn) (hnp : args.length = fn.np) (hp : fn.pure = false)
    (hx : evC (callW A) loopW fn.body (params 0 args) h = some (.normal, e, h2)) (hres : resAll e h2 fn.res = some vs) : callW A f args h = some (tupOf vs, h2) := by
  refine call_of hf ?_
  unfold runF
  rw [if_pos hnp]
  simp [hp, hx, fin, hres]

def bys (l : List Nat) : List AV := l.map fun (b : Nat) => AV.int .u8 (b : Int)
@[simp] theorem bys_length (l : List Nat) : (bys l).length = l.length := by simp [bys]

/-- What a stream has come to. -/
structure SS where
  at_ : Nat
  out : List Nat
  e : Int

/-- Where a stream lies, and what does not turn. -/
structure SC where
  s : Nat
  r : Nat
  text : ByteArray
  most : Int

structure St (c : SC) (S : SS) (h : H) (ov : AV) : Prop where
  gs : h.get c.s = some [.pobj c.r 0, ov, I c.most, I S.e]
  gr : h.get c.r = some [.str c.text, I S.at_]
  own : Own h ov (bys S.out)
  sr : c.s ≠ c.r
  fs : h.floor ≤ c.s
  fr : h.floor ≤ c.r
  os : ov.id? ≠ some c.s
  or : ov.id? ≠ some c.r
  nx : h.floor ≤ h.next
  sz : c.text.size < 1125899906842624
  at_le : S.at_ ≤ 8 * c.text.size
  ol : (S.out.length : Int) ≤ c.most
  ml : c.most ≤ 900000

/-- All else stays. -/
structure Fr (c : SC) (h : H) (ov : AV) (h' : H) (ov' : AV) : Prop where
  fl : h'.floor = h.floor
  nx : h.next ≤ h'.next
  oth : ∀ id, id < h.next → id ≠ c.s → id ≠ c.r → ov.id? ≠ some id → h'.get id = h.get id
  nb : ∀ i, ov'.id? = some i → ov.id? = some i ∨ h.next ≤ i

theorem Fr.refl (c : SC) (h : H) (ov : AV) : Fr c h ov h ov := ⟨rfl, Nat.le_refl _, fun _ _ _ _ _ => rfl, fun _ q => .inl q⟩
theorem Fr.trans {c : SC} {h1 h2 h3 : H} {o1 o2 o3 : AV} (a : Fr c h1 o1 h2 o2) (b : Fr c h2 o2 h3 o3) : Fr c h1 o1 h3 o3 := by
  refine ⟨b.fl.trans a.fl, Nat.le_trans a.nx b.nx, fun id h4 h5 h6 h7 => ?_, fun i hi => ?_⟩
  · rw [b.oth id (Nat.lt_of_lt_of_le h4 a.nx) h5 h6 (fun q => ?_), a.oth id h4 h5 h6 h7]
    rcases a.nb id q with q | q
    · exact h7 q
    · omega
  · rcases b.nb i hi with q | q
    · exact a.nb i q
    · exact .inr (Nat.le_trans a.nx q)

/-- The stream's own cells turn. -/
theorem St.setS {c : SC} {S : SS} {h : H} {ov : AV} (st : St c S h ov) (e : Int) : St c { S with e := e } (h.set c.s [.pobj c.r 0, ov, I c.most, I e]) ov ∧ Fr c h ov (h.set c.s [.pobj c.r 0, ov, I c.most, I e]) ov := by
  refine ⟨⟨by rw [H.get_set, if_pos rfl, st.gs]; rfl, by rw [H.get_set, if_neg (Ne.symm st.sr)]; exact st.gr, st.own.mono (by simp) fun i hi => ?_, st.sr, by simpa using st.fs, by simpa using st.fr, st.os, st.or, by simpa using st.nx, st.sz, st.at_le, st.ol, st.ml⟩, ⟨by simp, by simp, fun id h1 h2 h3 h4 => by rw [H.get_set, if_neg h2], fun _ q => .inl q⟩⟩
  rw [H.get_set, if_neg]; intro (e : i = c.s); exact st.os (e ▸ hi)
theorem St.setR {c : SC} {S : SS} {h : H} {ov : AV} (st : St c S h ov) {p : Nat} (hp : p ≤ 8 * c.text.size) : St c { S with at_ := p } (h.set c.r [.str c.text, I p]) ov ∧ Fr c h ov (h.set c.r [.str c.text, I p]) ov := by
  refine ⟨⟨by rw [H.get_set, if_neg st.sr]; exact st.gs, by rw [H.get_set, if_pos rfl, st.gr]; rfl, st.own.mono (by simp) fun i hi => ?_, st.sr, by simpa using st.fs, by simpa using st.fr, st.os, st.or, by simpa using st.nx, st.sz, hp, st.ol, st.ml⟩, ⟨by simp, by simp, fun id h1 h2 h3 h4 => by rw [H.get_set, if_neg h3], fun _ q => .inl q⟩⟩
  rw [H.get_set, if_neg]; intro (e : i = c.r); exact st.or (e ▸ hi)

def failS (k : Int) (S : SS) : SS := if S.e = 0 then { S with e := k } else S

theorem fails_c {c : SC} {S : SS} {h : H} {ov : AV} (st : St c S h ov) (k : Int) : ∃ h', callW AP.A 45 [.pobj c.s 0, I k] h = some (.tup [], h') ∧ St c (failS k S) h' ov ∧ Fr c h ov h' ov := by
  have gs := st.gs
  have fs := st.fs
  by_cases he : S.e = 0
  · refine ⟨_, ?_, by rw [failS, if_pos he]; exact (st.setS k).1, (st.setS k).2⟩
    refine plain_n (fn := AP.f45) (e := []) rfl rfl rfl ?_ rfl
    simp only [I] at *
    simp [AP.f45, params, evC, evOps, evOper, evOp, gs, he, fs]
  · refine ⟨h, ?_, by rw [failS, if_neg he]; exact st, Fr.refl _ _ _⟩
    refine plain_n (fn := AP.f45) (e := []) rfl rfl rfl ?_ rfl
    simp only [I] at *
    simp [AP.f45, params, evC, evOps, evOper, evOp, gs, he, fs]

def getS (c : SC) (n : Nat) (S : SS) : Nat × SS := if S.at_ + n ≤ 8 * c.text.size then (valAt c.text S.at_ n, { S with at_ := S.at_ + n }) else (0, failS 700 S)

theorem get_c {c : SC} {S : SS} {h : H} {ov : AV} (st : St c S h ov) {n : Nat} (hn : n ≤ 16) : ∃ h', callW AP.A 38 [.pobj c.s 0, I n] h = some (I ((getS c n S).1 : Nat), h') ∧ St c (getS c n S).2 h' ov ∧ Fr c h ov h' ov := by
  have gs := st.gs
  by_cases hp : S.at_ + n ≤ 8 * c.text.size
  · have g := get_ok h c.r c.text S.at_ n st.gr st.fr st.sz hp hn
    refine ⟨_, ?_, by rw [getS, if_pos hp]; exact (st.setR hp).1, (st.setR hp).2⟩
    rw [getS, if_pos hp]
    refine plain_c (fn := AP.f38) (e := [(4, I (valAt c.text S.at_ n : Nat))]) rfl rfl rfl ?_ rfl
    simp only [I] at *
    simp [AP.f38, params, evC, evOps, evOper, evOp, gs, evArgs, g]
  · have g := get_end h c.r c.text S.at_ n st.gr st.sz st.at_le (by omega) hn
    obtain ⟨h', k1, k2, k3⟩ := fails_c st 700
    refine ⟨h', ?_, by rw [getS, if_neg hp]; exact k2, k3⟩
    rw [getS, if_neg hp]
    refine plain_c (fn := AP.f38) (e := [(4, I 0)]) rfl rfl rfl ?_ rfl
    simp only [I] at *
    simp [AP.f38, params, evC, evOps, evOper, evOp, gs, evArgs, g, k1]

def putS (c : SC) (b : Nat) (S : SS) : SS :=
  let T := if c.most ≤ S.out.length then failS 701 S else S
  if T.e = 0 then { T with out := T.out ++ [b] } else T

theorem Own.len {h : H} {v : AV} {cs : List AV} (o : Own h v cs) : alen false v = some (I cs.length) := by
  rcases o with ⟨rfl, rfl⟩ | ⟨id, rfl, _⟩ <;> rfl

theorem put_c {c : SC} {S : SS} {h : H} {ov : AV} (st : St c S h ov) {b : Nat} : ∃ h' ov', callW AP.A 59 [.pobj c.s 0, .int .u8 b] h = some (.tup [], h') ∧ St c (putS c b S) h' ov' ∧ Fr c h ov h' ov' := by
  have gs0 := st.gs
  have hol := st.ol
  have hml := st.ml
  have ln := st.own.len
  rw [bys_length] at ln
  by_cases hm : c.most ≤ S.out.length
  · obtain ⟨h1, k1, k2, k3⟩ := fails_c st 701
    have he : (failS 701 S).e ≠ 0 := by unfold failS; split <;> simp_all
    have hp : putS c b S = failS 701 S := by unfold putS; simp only [if_pos hm, if_neg he]
    have gs1 := k2.gs
    refine ⟨h1, ov, ?_, by rw [hp]; exact k2, k3⟩
    refine plain_n (fn := AP.f59) (e := []) rfl rfl rfl ?_ rfl
    simp only [I] at *
    simp [AP.f59, params, evC, evOps, evOpsD, evOper, evOp, gs0, ln, hm, evArgs, k1, gs1, he]
  by_cases he : S.e = 0
  · have hp : putS c b S = { S with out := S.out ++ [b] } := by unfold putS; simp only [if_neg hm, if_pos he]
    have hsl : c.s < h.next := h.lt _ _ st.gs
    have hrl : c.r < h.next := h.lt _ _ st.gr
    obtain ⟨h1, eh1⟩ : ∃ g, g = h.alloc [.int .u8 b] := ⟨_, rfl⟩
    have hlo1 : ∀ i, i ≠ h.next → h1.get i = h.get i := fun i q => by rw [eh1, H.get_alloc, if_neg q]
    have hfl1 : h1.floor = h.floor := by rw [eh1]; simp
    have hnx1 : h1.next = h.next + 1 := by rw [eh1]; simp
    have ho1 : Own h1 ov (bys S.out) := st.own.mono hfl1 fun i hi => hlo1 i (by have := st.own.lt hi; omega)
    have hnxf := st.nx
    obtain ⟨v', h2, q1, q2, q3, q4, q5, q6⟩ := ho1.app (by omega) (z := 1) (.int .u8 b) rfl (by simp [roomy]; omega)
    have hal2 : h1.get h.next = some [.int .u8 b] := by rw [eh1, H.get_alloc, if_pos rfl]
    have gs1 : h1.get c.s = some [.pobj c.r 0, ov, I c.most, I S.e] := by rw [hlo1 _ (by omega)]; exact st.gs
    have gs2 : h2.get c.s = some [.pobj c.r 0, ov, I c.most, I S.e] := by rw [q5 _ st.os (by omega)]; exact gs1
    have gr2 : h2.get c.r = some [.str c.text, I S.at_] := by rw [q5 _ st.or (by omega), hlo1 _ (by omega)]; exact st.gr
    have fs2 : h2.floor ≤ c.s := by have := st.fs; omega
    have hv' : v'.cells = [v'] ∧ v'.sc = true := by
      rcases q2 with ⟨rfl, _⟩ | ⟨id, rfl, _⟩ <;> exact ⟨rfl, rfl⟩
    have hby : bys (S.out ++ [b]) = bys S.out ++ [.int .u8 b] := by simp [bys]
    refine ⟨h2.set c.s [.pobj c.r 0, v', I c.most, I S.e], v', ?_, ?_, ?_⟩
    · refine plain_n (fn := AP.f59) (e := []) rfl rfl rfl ?_ rfl
      simp only [I] at *
      simp [AP.f59, params, evC, evOps, evOpsD, evOper, evOp, evBirth, birth, repl, fillA, aapp, srcCells, gs0, ln, hm, he, ← eh1, hal2, gs1, q1, gs2, fs2, hv'.1, hv'.2]
    · rw [hp]
      refine ⟨by rw [H.get_set, if_pos rfl, gs2]; rfl, by rw [H.get_set, if_neg (Ne.symm st.sr)]; exact gr2, ?_, st.sr, by simpa using fs2, by have := st.fr; simp; omega, ?_, ?_, by simp; omega, st.sz, st.at_le, by simp; omega, st.ml⟩
      · rw [hby]
        refine q2.mono (by simp) fun i hi => ?_
        rw [q6] at hi; cases hi
        rw [H.get_set, if_neg (by omega)]
      · rw [q6]; intro e; have := Option.some.inj e; omega
      · rw [q6]; intro e; have := Option.some.inj e; omega
    · refine ⟨by simp; omega, by simp; omega, fun id a1 a2 a3 a4 => ?_, fun i hi => ?_⟩
      · rw [H.get_set, if_neg a2, q5 id a4 (by omega), hlo1 id (by omega)]
      · rw [q6] at hi; cases hi; right; omega
  · have hp : putS c b S = S := by unfold putS; simp only [if_neg hm, if_neg he]
    refine ⟨h, ov, ?_, by rw [hp]; exact st, Fr.refl _ _ _⟩
    refine plain_n (fn := AP.f59) (e := []) rfl rfl rfl ?_ rfl
    simp only [I] at *
    simp [AP.f59, params, evC, evOps, evOpsD, evOper, evOp, gs0, ln, hm, he]
end Ab

/- huff.Book.Find of a made book. -/
set_option linter.unusedSimpArgs false
set_option linter.unusedVariables false
namespace Ab
open Go

theorem syms_cnt (l : List Int) (n : Nat) : (syms l n).length = cnt l n := by
  have key : ∀ (l : List Int) (k : Nat), ((l.zipIdx k).filterMap fun p => if p.1 = (n : Int) then some (p.2 : Int) else none).length = l.countP (fun x => x == (n : Int)) := by
    intro l
    induction l with
    | nil => intro k; rfl
    | cons x l ih =>
      intro k
      rw [List.zipIdx_cons, List.filterMap_cons, List.countP_cons]
      by_cases h : x = (n : Int)
      · simp only [if_pos h, List.length_cons, ih (k + 1)]; simp [h]
      · simp only [if_neg h, ih (k + 1)]; simp [h]
  unfold syms cnt
  split
  · rfl
  · exact key l 0

/-- The symbol of a code, if there is one. -/
def findS (l : List Int) (n : Nat) (v : Int) : Option Int := if firstC l n ≤ v then (syms l n)[(v - firstC l n).toNat]? else none

set_option maxHeartbeats 1000000 in
theorem find_c (h : H) (l : List Int) (hl : l.length < 100000) (n : Nat) (hn1 : 1 ≤ n) (hn : n ≤ 15) (v : Int) (hv0 : 0 ≤ v) (hv : v < 1000000) :
    callW AP.A 72 [bookV l, I n, I v] h = some (match findS l n v with | some y => .tup [I y, .bool true] | none => .tup [I 0, .bool false], h) := by
  have hp := pow_le_15 hn
  have hf := firstC_bd hl n
  have hc := cnt_le l n
  have hsc := syms_cnt l n
  have c1 : ¬ ((n : Int) < 1) := by omega
  have c2 : ¬ (15 : Int) < n := by omega
  have a1 : aidx (I n) 16 = some n := aidx_of (by omega)
  have e1 : bookC l n = I (firstC l n) := by rw [bookC, if_pos (by omega)]
  have e2 : bookC l (16 + n) = I (cnt l n) := by rw [bookC, if_neg (by omega), if_pos (by omega), show 16 + n - 16 = n by omega]
  have e3 : bookC l (32 + n) = slOf (ints (syms l n)) := by rw [bookC, if_neg (by omega), if_neg (by omega), if_pos (by omega), show 32 + n - 32 = n by omega]
  have g1 : (tab 49 (bookC l))[n]? = some (I (firstC l n)) := by rw [tab_get (by omega), e1]
  have g2 : (tab 49 (bookC l))[16 + n]? = some (I (cnt l n)) := by rw [tab_get (by omega), e2]
  have g3 : (tab 49 (bookC l))[32 + n]? = some (slOf (ints (syms l n))) := by rw [tab_get (by omega), e3]
  have hb : bookV l = .pimm (tab 49 (bookC l)) 0 := rfl
  rw [hb]
  clear hb e1 e2 e3
  generalize tab 49 (bookC l) = T at g1 g2 g3 ⊢
  by_cases k1 : v < firstC l n
  · have : findS l n v = none := by rw [findS, if_neg (by omega)]
    rw [this]
    refine plain_c (fn := AP.f72) (e := [(6, I 0), (7, .bool false)]) rfl rfl rfl ?_ rfl
    simp only [I] at *
    simp only [AP.f72, go_sem, abin_shl, abin_shr, Nat.reduceEqDiff, reduceIte, Nat.reduceAdd, Nat.reduceMul, Nat.reduceLT, Nat.reduceLeDiff, Int.reduceBEq, Int.reduceBNe, Int.reduceLT, Int.reduceLE, Int.reduceEq, decide_eq_false c1, decide_eq_false c2, a1, g1, decide_eq_true k1]
  have w1 : IntKind.wrap .i64 (v - firstC l n) = v - firstC l n := wrap_in (by omega) (by omega)
  by_cases k2 : (cnt l n : Int) ≤ v - firstC l n
  · have : findS l n v = none := by rw [findS, if_pos (by omega), List.getElem?_eq_none (by omega)]
    rw [this]
    refine plain_c (fn := AP.f72) (e := [(6, I 0), (7, .bool false)]) rfl rfl rfl ?_ rfl
    simp only [I] at *
    simp only [AP.f72, go_sem, abin_shl, abin_shr, Nat.reduceEqDiff, reduceIte, Nat.reduceAdd, Nat.reduceMul, Nat.reduceLT, Nat.reduceLeDiff, Int.reduceBEq, Int.reduceBNe, Int.reduceLT, Int.reduceLE, Int.reduceEq, decide_eq_false c1, decide_eq_false c2, a1, g1, g2, decide_eq_false k1, w1, decide_eq_true k2]
  · obtain ⟨i, hi⟩ : ∃ i : Nat, v - firstC l n = i := Int.eq_ofNat_of_zero_le (by omega)
    have hil : i < (syms l n).length := by omega
    obtain ⟨y, hy⟩ : ∃ y, (syms l n)[i]? = some y := ⟨_, List.getElem?_eq_getElem hil⟩
    have : findS l n v = some y := by rw [findS, if_pos (by omega), hi, Int.toNat_natCast, hy]
    rw [this]
    have hne : ints (syms l n) ≠ [] := by intro e; have := congrArg List.length e; simp at this; simp [this] at hil
    have hs : slOf (ints (syms l n)) = .simm false (ints (syms l n)) 0 (ints (syms l n)).length 1 := by rw [slOf, if_neg hne]
    rw [hs] at g3
    have a2 : aiadr 1 (.simm false (ints (syms l n)) 0 (ints (syms l n)).length 1) (I i) = some (.pimm (ints (syms l n)) i) := by
      simp [aiadr, aidx_of (show i < (syms l n).length from hil)]
    have g4 := ints_get hy
    rw [hi] at w1 k2
    refine plain_c (fn := AP.f72) (e := [(6, I y), (7, .bool true)]) rfl rfl rfl ?_ rfl
    simp only [I] at *
    simp only [AP.f72, go_sem, abin_shl, abin_shr, Nat.reduceEqDiff, reduceIte, Nat.reduceAdd, Nat.reduceMul, Nat.reduceLT, Nat.reduceLeDiff, Int.reduceBEq, Int.reduceBNe, Int.reduceLT, Int.reduceLE, Int.reduceEq, decide_eq_false c1, decide_eq_false c2, a1, g1, g2, decide_eq_false k1, hi, w1, decide_eq_false k2, g3, a2, g4]
end Ab

/- bits.Of, Reader.Align, Reader.At, and what is common to the stream. -/
set_option linter.unusedSimpArgs false
set_option linter.unusedVariables false
namespace Ab
open Go

theorem of_c (h : H) (s : ByteArray) : callW AP.A 14 [.str s] h = some (.pobj h.next 0, h.alloc [.str s, I 0]) := by
  refine plain_c (fn := AP.f14) (e := [(2, .pobj h.next 0)]) rfl rfl rfl ?_ rfl
  have b : birth [(4, .agg [.str s, I 0]), (3, .str s), (0, .str s)] (.box 2 (.t 4)) = some ([.str s, I 0], fun i => .pobj i 0) := rfl
  have f : fillA [.str ⟨#[]⟩, .int .i64 0] [(0, 1, .str s)] = some [.str s, I 0] := rfl
  simp only [I] at *
  simp only [AP.f14, go_sem, abin_shl, abin_shr, Nat.reduceEqDiff, reduceIte, Nat.reduceAdd, Nat.reduceMul, Nat.reduceLT, Nat.reduceLeDiff, Int.reduceBEq, Int.reduceBNe, Int.reduceLT, Int.reduceLE, Int.reduceEq, List.map_cons, List.map_nil, f, b]

theorem align_c (h : H) (r : Nat) (s : ByteArray) (p : Nat) (hg : h.get r = some [.str s, I p]) (hf : h.floor ≤ r) (hs : s.size < 1125899906842624) (hp : p ≤ 8 * s.size) :
    callW AP.A 16 [.pobj r 0] h = some (I 0, h.set r [.str s, I ((p + 7) / 8 * 8 : Nat)]) := by
  refine plain_c (fn := AP.f16) (e := [(2, I 0)]) rfl rfl rfl ?_ rfl
  have w1 : IntKind.wrap .i64 ((p : Int) + 8) = ((p + 8 : Nat) : Int) := wrap_nat64 (n := p + 8) (by omega)
  have w2 : IntKind.wrap .i64 (((p + 8 : Nat) : Int) - 1) = ((p + 7 : Nat) : Int) := by
    rw [show ((p + 8 : Nat) : Int) - 1 = ((p + 7 : Nat) : Int) by omega]; exact wrap_nat64 (by omega)
  have w3 : IntKind.wrap .i64 (((p + 7 : Nat) : Int).tdiv 8) = (((p + 7) / 8 : Nat) : Int) := by
    rw [show (8 : Int) = ((8 : Nat) : Int) from rfl, tdiv_nat]; exact wrap_nat64 (by omega)
  have w4 : IntKind.wrap .i64 ((((p + 7) / 8 : Nat) : Int) * 8) = (((p + 7) / 8 * 8 : Nat) : Int) := by
    rw [show (((p + 7) / 8 : Nat) : Int) * 8 = (((p + 7) / 8 * 8 : Nat) : Int) by omega]; exact wrap_nat64 (by omega)
  have st : ∀ v, stO h r 1 1 [.int .i64 v] (some [.str s, .int .i64 p]) = some (h.set r [.str s, .int .i64 v]) := fun v => stO_1 hf (by simp) rfl
  have q : abin .quo (.int .i64 ((p + 7 : Nat) : Int)) (.int .i64 8) = some (.int .i64 (((p + 7) / 8 : Nat) : Int)) := by rw [abin_quo _ _ _ (by omega), w3]
  simp only [I] at *
  simp only [AP.f16, go_sem, abin_shl, abin_shr, Nat.reduceEqDiff, reduceIte, Nat.reduceAdd, Nat.reduceMul, Nat.reduceLT, Nat.reduceLeDiff, Int.reduceBEq, Int.reduceBNe, Int.reduceLT, Int.reduceLE, Int.reduceEq, hg, w1, w2, q, w4, st]

theorem at_c (h : H) (r : Nat) (s : ByteArray) (p : Nat) (hg : h.get r = some [.str s, I p]) : callW AP.A 17 [.pobj r 0] h = some (I p, h) := by
  refine plain_c (fn := AP.f17) (e := [(2, I p)]) rfl rfl rfl ?_ rfl
  simp only [I] at *
  simp only [AP.f17, go_sem, abin_shl, abin_shr, Nat.reduceEqDiff, reduceIte, Nat.reduceAdd, Nat.reduceMul, Nat.reduceLT, Nat.reduceLeDiff, Int.reduceBEq, Int.reduceBNe, Int.reduceLT, Int.reduceLE, Int.reduceEq, hg]
end Ab

/- stream.value, stream.symbol. -/
set_option linter.unusedSimpArgs false
set_option linter.unusedVariables false
namespace Ab
open Go

theorem get_n {c : SC} {S : SS} {h : H} {ov : AV} (st : St c S h ov) (n : Nat) (m : Int) (hm : m = n) (hn : n ≤ 16) : ∃ h', callW AP.A 38 [.pobj c.s 0, I m] h = some (I ((getS c n S).1 : Nat), h') ∧ St c (getS c n S).2 h' ov ∧ Fr c h ov h' ov := by
  subst hm; exact get_c st hn

theorem value_c {c : SC} {S : SS} {h : H} {ov : AV} (st : St c S h ov) {n least : Nat} (hn : n ≤ 16) (hl : least < 100000) : ∃ h', callW AP.A 73 [.pobj c.s 0, I least, I n, I 0] h = some (I ((least + (getS c n S).1 : Nat)), h') ∧ St c (getS c n S).2 h' ov ∧ Fr c h ov h' ov := by
  obtain ⟨h', k1, k2, k3⟩ := get_c st hn
  refine ⟨h', ?_, k2, k3⟩
  have hb : (getS c n S).1 < 65536 := by
    unfold getS; split
    · have := valAt_lt c.text S.at_ n
      have := Nat.pow_le_pow_right (show 0 < 2 by omega) hn
      simp at *; omega
    · simp
  have w : IntKind.wrap .i64 ((least : Int) + ((getS c n S).1 : Nat)) = ((least + (getS c n S).1 : Nat) : Int) := by
    rw [show (least : Int) + ((getS c n S).1 : Nat) = ((least + (getS c n S).1 : Nat) : Int) by omega]; exact wrap_nat64 (by omega)
  refine plain_c (fn := AP.f73) (e := [(8, I ((least + (getS c n S).1 : Nat)))]) rfl rfl rfl ?_ rfl
  simp only [I] at *
  simp only [AP.f73, go_sem, abin_shl, abin_shr, Nat.reduceEqDiff, reduceIte, Nat.reduceAdd, Nat.reduceMul, Nat.reduceLT, Nat.reduceLeDiff, Int.reduceBEq, Int.reduceBNe, Int.reduceLT, Int.reduceLE, Int.reduceEq, k1, w]

theorem value_bad {c : SC} {S : SS} {h : H} {ov : AV} (st : St c S h ov) (he : S.e = 0) : ∃ h' S', callW AP.A 73 [.pobj c.s 0, I 0, I 0, I 600] h = some (I 0, h') ∧ St c S' h' ov ∧ Fr c h ov h' ov ∧ S'.e = 700 := by
  obtain ⟨h1, k1, k2, k3⟩ := fails_c st 700
  obtain ⟨h', l1, l2, l3⟩ := get_c k2 (n := 0) (by omega)
  have hS : failS 700 S = { S with e := 700 } := by rw [failS, if_pos he]
  have hle := st.at_le
  have hg : getS c 0 (failS 700 S) = (0, failS 700 S) := by
    rw [getS, if_pos (by rw [hS]; exact hle)]; rfl
  rw [hg] at l1 l2
  have l1' : callW AP.A 38 [.pobj c.s 0, I 0] h1 = some (I 0, h') := l1
  clear l1
  refine ⟨h', _, ?_, l2, k3.trans l3, by rw [hS]⟩
  have w : IntKind.wrap .i64 (0 + 0) = 0 := wrap_in (by omega) (by omega)
  refine plain_c (fn := AP.f73) (e := [(8, I 0)]) rfl rfl rfl ?_ rfl
  simp only [I] at *
  simp only [AP.f73, go_sem, abin_shl, abin_shr, Nat.reduceEqDiff, reduceIte, Nat.reduceAdd, Nat.reduceMul, Nat.reduceLT, Nat.reduceLeDiff, Int.reduceBEq, Int.reduceBNe, Int.reduceLT, Int.reduceLE, Int.reduceEq, k1, l1', w]

/-- The next symbol, so many bits at most, and where it ends. -/
def symA (t : ByteArray) (l : List Int) : Nat → Nat → Nat → Nat → Option (Int × Nat)
  | 0, _, _, _ => none
  | k + 1, n, v, p => if p + 1 ≤ 8 * t.size then (match findS l n ((v * 2 + valAt t p 1 : Nat) : Int) with | some y => some (y, p + 1) | none => symA t l k (n + 1) (v * 2 + valAt t p 1) (p + 1)) else none

theorem sym_stop {c : SC} {S : SS} {h : H} {ov : AV} (st : St c S h ov) (l : List Int) (v n : Nat) (hs : n = 16 ∨ (n ≤ 15 ∧ S.e ≠ 0)) :
    ∃ e', Lp AP.A [0, 1, 5, 6] AP.f60L0 [(0, .pobj c.s 0), (1, bookV l), (5, I v), (6, I n)] h = some (.exit 0, e', h) ∧ look e' 0 = .pobj c.s 0 := by
  have gs := st.gs
  refine ⟨[(0, .pobj c.s 0), (1, bookV l), (5, I v), (6, I n), (17, .bool false)], Lp_exit ?_, rfl⟩
  rcases hs with hn | ⟨hn, he⟩
  · have c1 : ¬ (n : Int) ≤ 15 := by omega
    simp only [I] at *
    simp only [AP.f60L0, go_sem, abin_shl, abin_shr, Nat.reduceEqDiff, reduceIte, Nat.reduceAdd, Nat.reduceMul, Nat.reduceLT, Nat.reduceLeDiff, Int.reduceBEq, Int.reduceBNe, Int.reduceLT, Int.reduceLE, Int.reduceEq, decide_eq_false c1]
  · have c1 : (n : Int) ≤ 15 := by omega
    have c2 : (S.e == 0) = false := beq_f he
    simp only [I] at *
    simp only [AP.f60L0, go_sem, abin_shl, abin_shr, Nat.reduceEqDiff, reduceIte, Nat.reduceAdd, Nat.reduceMul, Nat.reduceLT, Nat.reduceLeDiff, Int.reduceBEq, Int.reduceBNe, Int.reduceLT, Int.reduceLE, Int.reduceEq, decide_eq_true c1, gs, c2]

theorem sym_loop {c : SC} (l : List Int) (hl : l.length < 100000) : ∀ (k n v : Nat) (S : SS) (h : H) (ov : AV), n + k = 16 → 1 ≤ n → v < 2 ^ (n - 1) → St c S h ov → S.e = 0 →
    ∃ h' S', St c S' h' ov ∧ Fr c h ov h' ov ∧ match symA c.text l k n v S.at_ with
      | some (y, p) => S' = { S with at_ := p } ∧ ∃ e', Lp AP.A [0, 1, 5, 6] AP.f60L0 [(0, .pobj c.s 0), (1, bookV l), (5, I v), (6, I n)] h = some (.ret, e', h') ∧ look e' 4 = I y
      | none => (S'.e = 0 ∨ S'.e = 700) ∧ ∃ e', Lp AP.A [0, 1, 5, 6] AP.f60L0 [(0, .pobj c.s 0), (1, bookV l), (5, I v), (6, I n)] h = some (.exit 0, e', h') ∧ look e' 0 = .pobj c.s 0
  | 0, n, v, S, h, ov, hk, hn, hv, st, he => by
    obtain ⟨e', q1, q2⟩ := sym_stop st l v n (.inl (by omega))
    exact ⟨h, S, st, Fr.refl _ _ _, by simp only [symA]; exact ⟨.inl he, e', q1, q2⟩⟩
  | k + 1, n, v, S, h, ov, hk, hn, hv, st, he => by
    have gs := st.gs
    obtain ⟨h1, k1, k2, k3⟩ := get_n st 1 1 rfl (by omega)
    obtain ⟨x, hx⟩ : ∃ x, x = (getS c 1 S).1 := ⟨_, rfl⟩
    obtain ⟨S1, hS1⟩ : ∃ x, x = (getS c 1 S).2 := ⟨_, rfl⟩
    rw [← hx] at k1; rw [← hS1] at k2
    have hp : 2 ^ n ≤ 2 ^ 15 := Nat.pow_le_pow_right (by omega) (by omega)
    have h2 : 2 ^ (n - 1 + 1) = 2 ^ (n - 1) * 2 := Nat.pow_succ 2 (n - 1)
    rw [show n - 1 + 1 = n by omega] at h2
    obtain ⟨P, hP⟩ : ∃ P : Nat, P = 2 ^ (n - 1) := ⟨_, rfl⟩
    rw [← hP] at h2 hv
    obtain ⟨Q, hQ⟩ : ∃ Q : Nat, Q = 2 ^ n := ⟨_, rfl⟩
    rw [← hQ] at h2 hp
    simp only [Nat.reducePow] at hp
    have hx1 : x < 2 := by
      rw [hx]; unfold getS; split
      · have := valAt_lt c.text S.at_ 1; simpa using this
      · simp
    have hv' : v * 2 + x < Q := by omega
    have w1 : IntKind.wrap .i64 ((v : Int) * 2) = ((v * 2 : Nat) : Int) := by
      rw [show (v : Int) * 2 = ((v * 2 : Nat) : Int) by omega]; exact wrap_nat64 (by omega)
    have w2 : IntKind.wrap .i64 (((v * 2 : Nat) : Int) + (x : Int)) = ((v * 2 + x : Nat) : Int) := by
      rw [show ((v * 2 : Nat) : Int) + (x : Int) = ((v * 2 + x : Nat) : Int) by omega]; exact wrap_nat64 (by omega)
    have w3 : IntKind.wrap .i64 ((n : Int) + 1) = ((n + 1 : Nat) : Int) := wrap_nat64 (n := n + 1) (by omega)
    have c1 : (n : Int) ≤ 15 := by omega
    have fc := find_c h1 l hl n hn (by omega) ((v * 2 + x : Nat) : Int) (by omega) (by omega)
    have gs1 := k2.gs
    have step : (findS l n ((v * 2 + x : Nat) : Int) = none ∨ S1.e ≠ 0) → evC (callW AP.A) loopW AP.f60L0 (restr [(0, .pobj c.s 0), (1, bookV l), (5, I v), (6, I n)] [0, 1, 5, 6]) h = some (.normal, [(0, .pobj c.s 0), (1, bookV l), (5, I (v * 2 + x : Nat)), (6, I (n + 1 : Nat))], h1) := by
      intro hc
      rcases hc with hc | hc
      · rw [hc] at fc
        simp only [I] at *
        simp only [AP.f60L0, go_sem, abin_shl, abin_shr, Nat.reduceEqDiff, reduceIte, Nat.reduceAdd, Nat.reduceMul, Nat.reduceLT, Nat.reduceLeDiff, Int.reduceBEq, Int.reduceBNe, Int.reduceLT, Int.reduceLE, Int.reduceEq, decide_eq_true c1, gs, he, k1, w1, w2, fc, w3]
      · have c2 : (S1.e == 0) = false := beq_f hc
        cases hf : findS l n ((v * 2 + x : Nat) : Int) with
        | none =>
          rw [hf] at fc
          simp only [I] at *
          simp only [AP.f60L0, go_sem, abin_shl, abin_shr, Nat.reduceEqDiff, reduceIte, Nat.reduceAdd, Nat.reduceMul, Nat.reduceLT, Nat.reduceLeDiff, Int.reduceBEq, Int.reduceBNe, Int.reduceLT, Int.reduceLE, Int.reduceEq, decide_eq_true c1, gs, he, k1, w1, w2, fc, w3]
        | some y =>
          rw [hf] at fc
          simp only [I] at *
          simp only [AP.f60L0, go_sem, abin_shl, abin_shr, Nat.reduceEqDiff, reduceIte, Nat.reduceAdd, Nat.reduceMul, Nat.reduceLT, Nat.reduceLeDiff, Int.reduceBEq, Int.reduceBNe, Int.reduceLT, Int.reduceLE, Int.reduceEq, decide_eq_true c1, gs, he, k1, w1, w2, fc, w3, gs1, c2]
    by_cases hat : S.at_ + 1 ≤ 8 * c.text.size
    · have eg : getS c 1 S = (valAt c.text S.at_ 1, { S with at_ := S.at_ + 1 }) := by rw [getS, if_pos hat]
      rw [eg] at hx hS1
      dsimp only at hx hS1
      subst hx hS1
      rw [symA, if_pos hat]
      cases hf : findS l n ((v * 2 + valAt c.text S.at_ 1 : Nat) : Int) with
      | none =>
        obtain ⟨h', S', q1, q2, q3⟩ := sym_loop l hl k (n + 1) (v * 2 + valAt c.text S.at_ 1) _ h1 ov (by omega) (by omega) (by rw [Nat.add_sub_cancel, ← hQ]; exact hv') k2 he
        refine ⟨h', S', q1, k3.trans q2, ?_⟩
        dsimp only at q3 ⊢
        have sp := step (.inl hf)
        cases hy : symA c.text l k (n + 1) (v * 2 + valAt c.text S.at_ 1) (S.at_ + 1) with
        | none =>
          rw [hy] at q3
          obtain ⟨q3, e', q4, q5⟩ := q3
          exact ⟨q3, e', Lp_next sp q4, q5⟩
        | some y =>
          rw [hy] at q3
          obtain ⟨q3, e', q4, q5⟩ := q3
          exact ⟨q3, e', Lp_next sp q4, q5⟩
      | some y =>
        refine ⟨h1, _, k2, k3, rfl, [(4, I y)], Lp_ret ?_, rfl⟩
        rw [hf] at fc
        simp only [I] at *
        simp only [AP.f60L0, go_sem, abin_shl, abin_shr, Nat.reduceEqDiff, reduceIte, Nat.reduceAdd, Nat.reduceMul, Nat.reduceLT, Nat.reduceLeDiff, Int.reduceBEq, Int.reduceBNe, Int.reduceLT, Int.reduceLE, Int.reduceEq, decide_eq_true c1, gs, he, k1, w1, w2, fc, w3, gs1]
    · have eg : getS c 1 S = (0, { S with e := 700 }) := by rw [getS, if_neg hat, failS, if_pos he]
      rw [eg] at hx hS1
      dsimp only at hx hS1
      subst hx hS1
      rw [symA, if_neg hat]
      have hst : n + 1 = 16 ∨ (n + 1 ≤ 15 ∧ (700 : Int) ≠ 0) := by omega
      obtain ⟨e', q1, q2⟩ := sym_stop k2 l (v * 2 + 0) (n + 1) hst
      exact ⟨h1, _, k2, k3, .inr rfl, e', Lp_next (step (.inr (by simp))) q1, q2⟩

theorem symbol_c {c : SC} {S : SS} {h : H} {ov : AV} (l : List Int) (hl : l.length < 100000) (st : St c S h ov) (he : S.e = 0) :
    ∃ h' S' y, callW AP.A 60 [.pobj c.s 0, bookV l] h = some (I y, h') ∧ St c S' h' ov ∧ Fr c h ov h' ov ∧ match symA c.text l 15 1 0 S.at_ with
      | some (z, p) => S' = { S with at_ := p } ∧ y = z
      | none => S'.e = 700 ∧ y = 256 := by
  obtain ⟨h1, S1, q1, q2, q3⟩ := sym_loop l hl 15 1 0 S h ov (by omega) (by omega) (by simp) st he
  cases hy : symA c.text l 15 1 0 S.at_ with
  | some yp =>
    rw [hy] at q3
    obtain ⟨q3, e', q4, q5⟩ := q3
    refine ⟨h1, S1, yp.1, ?_, q1, q2, q3, rfl⟩
    refine plain_c (fn := AP.f60) (e := e') (vs := [I yp.1]) rfl rfl rfl ?_ (by simp only [AP.f60, resAll, resOf, q5]; rfl)
    have q6 : Lp AP.A [0, 1, 5, 6] AP.f60L0 [(0, .pobj c.s 0), (1, bookV l), (5, I 0), (6, I 1)] h = some (.ret, e', h1) := q4
    clear q4
    simp only [I] at *
    simp only [AP.f60, go_sem, abin_shl, abin_shr, Nat.reduceEqDiff, reduceIte, Nat.reduceAdd, Nat.reduceMul, Nat.reduceLT, Nat.reduceLeDiff, Int.reduceBEq, Int.reduceBNe, Int.reduceLT, Int.reduceLE, Int.reduceEq, evC_loop, q6]
  | none =>
    rw [hy] at q3
    obtain ⟨q3, e', q4, q5⟩ := q3
    obtain ⟨h2, r1, r2, r3⟩ := fails_c q1 700
    refine ⟨h2, failS 700 S1, 256, ?_, r2, q2.trans r3, ?_, rfl⟩
    · refine plain_c (fn := AP.f60) (e := [(4, I 256)]) rfl rfl rfl ?_ rfl
      have q6 : Lp AP.A [0, 1, 5, 6] AP.f60L0 [(0, .pobj c.s 0), (1, bookV l), (5, I 0), (6, I 1)] h = some (.exit 0, e', h1) := q4
      clear q4
      simp only [I] at *
      simp only [AP.f60, go_sem, abin_shl, abin_shr, Nat.reduceEqDiff, reduceIte, Nat.reduceAdd, Nat.reduceMul, Nat.reduceLT, Nat.reduceLeDiff, Int.reduceBEq, Int.reduceBNe, Int.reduceLT, Int.reduceLE, Int.reduceEq, evC_loop, q6, q5, r1]
    · rcases q3 with q3 | q3 <;> simp [failS, q3]
end Ab

/- table.LengthOf, table.DistOf. -/
set_option linter.unusedSimpArgs false
set_option linter.unusedVariables false
namespace Ab
open Go

/-- A symbol's least length, and its extra bits. -/
def lenOf (y : Nat) : Option (Nat × Nat) :=
  if y ≤ 256 ∨ 285 < y then none else if y = 285 then some (258, 0) else if y < 265 then some (y - 254, 0) else some (3 + (4 + (y - 257) % 4) * 2 ^ ((y - 257) / 4 - 1), (y - 257) / 4 - 1)
/-- A symbol's least distance, and its extra bits. -/
def distOf (y : Nat) : Option (Nat × Nat) :=
  if 30 ≤ y then none else if y < 4 then some (1 + y, 0) else some (1 + (2 + y % 2) * 2 ^ (y / 2 - 1), y / 2 - 1)

theorem lenOf_bd {y a b : Nat} (h : lenOf y = some (a, b)) : a ≤ 258 ∧ b ≤ 5 ∧ 0 < a := by
  have key : ∀ y < 286, ∀ a b, lenOf y = some (a, b) → a ≤ 258 ∧ b ≤ 5 ∧ 0 < a := by
    intro y hy a b h
    have : ((lenOf y).map fun p => decide (p.1 ≤ 258 ∧ p.2 ≤ 5 ∧ 0 < p.1)) = (lenOf y).map fun _ => true := by
      clear h
      revert y
      decide +kernel
    rw [h] at this
    simpa using this
  by_cases hy : y < 286
  · exact key y hy a b h
  · rw [lenOf, if_pos (by omega)] at h; cases h
theorem distOf_bd {y a b : Nat} (h : distOf y = some (a, b)) : a ≤ 24577 ∧ b ≤ 13 ∧ 0 < a := by
  have key : ∀ y < 30, ∀ a b, distOf y = some (a, b) → a ≤ 24577 ∧ b ≤ 13 ∧ 0 < a := by
    intro y hy a b h
    have : ((distOf y).map fun p => decide (p.1 ≤ 24577 ∧ p.2 ≤ 13 ∧ 0 < p.1)) = (distOf y).map fun _ => true := by
      clear h
      revert y
      decide +kernel
    rw [h] at this
    simpa using this
  by_cases hy : y < 30
  · exact key y hy a b h
  · rw [distOf, if_pos (by omega)] at h; cases h

def tup3 (o : Option (Nat × Nat)) : AV := match o with
  | some p => .tup [I p.1, I p.2, I 0]
  | none => .tup [I 0, I 0, I 600]

theorem lenOf_c (h : H) (y : Nat) (hy : y < 1000000) : callW AP.A 74 [I y] h = some (tup3 (lenOf y), h) := by
  have d1 : decide ((y : Int) ≤ 256) = decide (y ≤ 256) := by by_cases q : y ≤ 256 <;> simp [q] <;> omega
  have w1 : IntKind.wrap .i64 ((y : Int) - 256) = (y : Int) - 256 := wrap_in (by omega) (by omega)
  have w2 : IntKind.wrap .i64 ((y : Int) - 256 - 1) = (y : Int) - 257 := by rw [show (y : Int) - 256 - 1 = (y : Int) - 257 by omega]; exact wrap_in (by omega) (by omega)
  by_cases c1 : y ≤ 256
  · rw [lenOf, if_pos (.inl c1)]
    refine pure_c (fn := AP.f74) (h2 := h.fence) (e := [(2, I 0), (3, I 0), (4, I 600)]) rfl rfl rfl ?_ rfl rfl
    have c1' : (y : Int) ≤ 256 := by omega
    simp only [I] at *
    simp only [AP.f74, go_sem, abin_shl, abin_shr, Nat.reduceEqDiff, reduceIte, Nat.reduceAdd, Nat.reduceMul, Nat.reduceLT, Nat.reduceLeDiff, Int.reduceBEq, Int.reduceBNe, Int.reduceLT, Int.reduceLE, Int.reduceEq, w1, w2, decide_eq_true c1']
  have c1' : ¬ (y : Int) ≤ 256 := by omega
  by_cases c2 : 285 < y
  · rw [lenOf, if_pos (.inr c2)]
    refine pure_c (fn := AP.f74) (h2 := h.fence) (e := [(2, I 0), (3, I 0), (4, I 600)]) rfl rfl rfl ?_ rfl rfl
    have c2' : (285 : Int) < y := by omega
    simp only [I] at *
    simp only [AP.f74, go_sem, abin_shl, abin_shr, Nat.reduceEqDiff, reduceIte, Nat.reduceAdd, Nat.reduceMul, Nat.reduceLT, Nat.reduceLeDiff, Int.reduceBEq, Int.reduceBNe, Int.reduceLT, Int.reduceLE, Int.reduceEq, w1, w2, decide_eq_false c1', decide_eq_true c2']
  have c2' : ¬ (285 : Int) < y := by omega
  rw [lenOf, if_neg (by omega)]
  by_cases c3 : y = 285
  · rw [if_pos c3]
    refine pure_c (fn := AP.f74) (h2 := h.fence) (e := [(2, I 258), (3, I 0), (4, I 0)]) rfl rfl rfl ?_ rfl rfl
    have c3' : ((y : Int) == 285) = true := beq_t (by omega)
    simp only [I] at *
    simp only [AP.f74, go_sem, abin_shl, abin_shr, Nat.reduceEqDiff, reduceIte, Nat.reduceAdd, Nat.reduceMul, Nat.reduceLT, Nat.reduceLeDiff, Int.reduceBEq, Int.reduceBNe, Int.reduceLT, Int.reduceLE, Int.reduceEq, w1, w2, decide_eq_false c1', decide_eq_false c2', c3']
  rw [if_neg c3]
  have c3' : ((y : Int) == 285) = false := beq_f (by omega)
  by_cases c4 : y < 265
  · rw [if_pos c4]
    refine pure_c (fn := AP.f74) (h2 := h.fence) (e := [(2, I (y - 254 : Nat)), (3, I 0), (4, I 0)]) rfl rfl rfl ?_ rfl rfl
    have c4' : (y : Int) - 257 < 8 := by omega
    have w3 : IntKind.wrap .i64 (3 + ((y : Int) - 257)) = ((y - 254 : Nat) : Int) := by rw [show 3 + ((y : Int) - 257) = ((y - 254 : Nat) : Int) by omega]; exact wrap_nat64 (by omega)
    simp only [I] at *
    simp only [AP.f74, go_sem, abin_shl, abin_shr, Nat.reduceEqDiff, reduceIte, Nat.reduceAdd, Nat.reduceMul, Nat.reduceLT, Nat.reduceLeDiff, Int.reduceBEq, Int.reduceBNe, Int.reduceLT, Int.reduceLE, Int.reduceEq, w1, w2, decide_eq_false c1', decide_eq_false c2', c3', decide_eq_true c4', w3]
  rw [if_neg c4]
  have c4' : ¬ (y : Int) - 257 < 8 := by omega
  obtain ⟨k, hk⟩ : ∃ k : Nat, (y : Int) - 257 = k := Int.eq_ofNat_of_zero_le (by omega)
  have hk' : y - 257 = k := by omega
  rw [hk] at w2 c4'
  rw [hk']
  have q1 : abin .quo (.int .i64 (k : Int)) (.int .i64 4) = some (.int .i64 ((k / 4 : Nat) : Int)) := by
    rw [abin_quo _ _ _ (by omega), show (4 : Int) = ((4 : Nat) : Int) from rfl, tdiv_nat, wrap_nat64 (by omega)]
  have q2 : abin .rem (.int .i64 (k : Int)) (.int .i64 4) = some (.int .i64 ((k % 4 : Nat) : Int)) := by
    rw [abin_rem _ _ _ (by omega), show (4 : Int) = ((4 : Nat) : Int) from rfl, tmod_nat]
  have w3 : IntKind.wrap .i64 (((k / 4 : Nat) : Int) - 1) = ((k / 4 - 1 : Nat) : Int) := by rw [show ((k / 4 : Nat) : Int) - 1 = ((k / 4 - 1 : Nat) : Int) by omega]; exact wrap_nat64 (by omega)
  have w4 : IntKind.wrap .i64 (4 + ((k % 4 : Nat) : Int)) = ((4 + k % 4 : Nat) : Int) := by rw [show 4 + ((k % 4 : Nat) : Int) = ((4 + k % 4 : Nat) : Int) by omega]; exact wrap_nat64 (by omega)
  have hp : 2 ^ (k / 4 - 1) ≤ 2 ^ 5 := Nat.pow_le_pow_right (by omega) (by omega)
  have hm : (4 + k % 4) * 2 ^ (k / 4 - 1) ≤ 7 * 2 ^ 5 := Nat.mul_le_mul (by omega) hp
  have q3 : shft .shl .i64 ((4 + k % 4 : Nat) : Int) ((k / 4 - 1 : Nat) : Int) = some (.int .i64 (((4 + k % 4) * 2 ^ (k / 4 - 1) : Nat) : Int)) := shl_i64 (by omega) (by omega)
  generalize (4 + k % 4) * 2 ^ (k / 4 - 1) = P at *
  have w5 : IntKind.wrap .i64 (3 + (P : Int)) = ((3 + P : Nat) : Int) := by rw [show 3 + (P : Int) = ((3 + P : Nat) : Int) by omega]; exact wrap_nat64 (by omega)
  refine pure_c (fn := AP.f74) (h2 := h.fence) (e := [(2, I (3 + P : Nat)), (3, I (k / 4 - 1 : Nat)), (4, I 0)]) rfl rfl rfl ?_ rfl rfl
  simp only [I] at *
  simp only [AP.f74, go_sem, abin_shl, abin_shr, Nat.reduceEqDiff, reduceIte, Nat.reduceAdd, Nat.reduceMul, Nat.reduceLT, Nat.reduceLeDiff, Int.reduceBEq, Int.reduceBNe, Int.reduceLT, Int.reduceLE, Int.reduceEq, w1, w2, decide_eq_false c1', decide_eq_false c2', c3', decide_eq_false c4', q1, q2, w3, w4, q3, w5]

theorem distOf_c (h : H) (y : Nat) (hy : y < 1000000) : callW AP.A 75 [I y] h = some (tup3 (distOf y), h) := by
  have c0 : ¬ (y : Int) < 0 := by omega
  by_cases c1 : 30 ≤ y
  · rw [distOf, if_pos c1]
    refine pure_c (fn := AP.f75) (h2 := h.fence) (e := [(2, I 0), (3, I 0), (4, I 600)]) rfl rfl rfl ?_ rfl rfl
    have c1' : (30 : Int) ≤ y := by omega
    simp only [I] at *
    simp only [AP.f75, go_sem, abin_shl, abin_shr, Nat.reduceEqDiff, reduceIte, Nat.reduceAdd, Nat.reduceMul, Nat.reduceLT, Nat.reduceLeDiff, Int.reduceBEq, Int.reduceBNe, Int.reduceLT, Int.reduceLE, Int.reduceEq, decide_eq_false c0, decide_eq_true c1']
  have c1' : ¬ (30 : Int) ≤ y := by omega
  rw [distOf, if_neg c1]
  by_cases c2 : y < 4
  · rw [if_pos c2]
    refine pure_c (fn := AP.f75) (h2 := h.fence) (e := [(2, I (1 + y : Nat)), (3, I 0), (4, I 0)]) rfl rfl rfl ?_ rfl rfl
    have c2' : (y : Int) < 4 := by omega
    have w3 : IntKind.wrap .i64 (1 + (y : Int)) = ((1 + y : Nat) : Int) := by rw [show 1 + (y : Int) = ((1 + y : Nat) : Int) by omega]; exact wrap_nat64 (by omega)
    simp only [I] at *
    simp only [AP.f75, go_sem, abin_shl, abin_shr, Nat.reduceEqDiff, reduceIte, Nat.reduceAdd, Nat.reduceMul, Nat.reduceLT, Nat.reduceLeDiff, Int.reduceBEq, Int.reduceBNe, Int.reduceLT, Int.reduceLE, Int.reduceEq, decide_eq_false c0, decide_eq_false c1', decide_eq_true c2', w3]
  rw [if_neg c2]
  have c2' : ¬ (y : Int) < 4 := by omega
  have q1 : abin .quo (.int .i64 (y : Int)) (.int .i64 2) = some (.int .i64 ((y / 2 : Nat) : Int)) := by
    rw [abin_quo _ _ _ (by omega), show (2 : Int) = ((2 : Nat) : Int) from rfl, tdiv_nat, wrap_nat64 (by omega)]
  have q2 : abin .rem (.int .i64 (y : Int)) (.int .i64 2) = some (.int .i64 ((y % 2 : Nat) : Int)) := by
    rw [abin_rem _ _ _ (by omega), show (2 : Int) = ((2 : Nat) : Int) from rfl, tmod_nat]
  have w3 : IntKind.wrap .i64 (((y / 2 : Nat) : Int) - 1) = ((y / 2 - 1 : Nat) : Int) := by rw [show ((y / 2 : Nat) : Int) - 1 = ((y / 2 - 1 : Nat) : Int) by omega]; exact wrap_nat64 (by omega)
  have w4 : IntKind.wrap .i64 (2 + ((y % 2 : Nat) : Int)) = ((2 + y % 2 : Nat) : Int) := by rw [show 2 + ((y % 2 : Nat) : Int) = ((2 + y % 2 : Nat) : Int) by omega]; exact wrap_nat64 (by omega)
  have hp : 2 ^ (y / 2 - 1) ≤ 2 ^ 13 := Nat.pow_le_pow_right (by omega) (by omega)
  have hm : (2 + y % 2) * 2 ^ (y / 2 - 1) ≤ 3 * 2 ^ 13 := Nat.mul_le_mul (by omega) hp
  have q3 : shft .shl .i64 ((2 + y % 2 : Nat) : Int) ((y / 2 - 1 : Nat) : Int) = some (.int .i64 (((2 + y % 2) * 2 ^ (y / 2 - 1) : Nat) : Int)) := shl_i64 (by omega) (by omega)
  generalize (2 + y % 2) * 2 ^ (y / 2 - 1) = P at *
  have w5 : IntKind.wrap .i64 (1 + (P : Int)) = ((1 + P : Nat) : Int) := by rw [show 1 + (P : Int) = ((1 + P : Nat) : Int) by omega]; exact wrap_nat64 (by omega)
  refine pure_c (fn := AP.f75) (h2 := h.fence) (e := [(2, I (1 + P : Nat)), (3, I (y / 2 - 1 : Nat)), (4, I 0)]) rfl rfl rfl ?_ rfl rfl
  simp only [I] at *
  simp only [AP.f75, go_sem, abin_shl, abin_shr, Nat.reduceEqDiff, reduceIte, Nat.reduceAdd, Nat.reduceMul, Nat.reduceLT, Nat.reduceLeDiff, Int.reduceBEq, Int.reduceBNe, Int.reduceLT, Int.reduceLE, Int.reduceEq, decide_eq_false c0, decide_eq_false c1', decide_eq_false c2', q1, q2, w3, w4, q3, w5]
end Ab

/- stream.stored, stream.copies, stream.coded. -/
set_option linter.unusedSimpArgs false
set_option linter.unusedVariables false
namespace Ab
open Go

/-- What a stream comes to: the place and the bytes, or what was met. -/
abbrev Rs := Except Int (Nat × List Nat)
def Fin (r : Rs) (S : SS) : Prop := match r with
  | .ok q => S = ⟨q.1, q.2, 0⟩
  | .error k => S.e = k ∧ k ≠ 0

theorem puts_ok {c : SC} {S : SS} (b : Nat) (he : S.e = 0) (hm : ¬ c.most ≤ S.out.length) : putS c b S = ⟨S.at_, S.out ++ [b], 0⟩ := by
  simp only [putS, if_neg hm, he, if_true]
theorem puts_long {c : SC} {S : SS} (b : Nat) (he : S.e = 0) (hm : c.most ≤ S.out.length) : (putS c b S).e = 701 := by
  simp [putS, hm, failS, he]

/-- Bytes, one after the other. -/
def storeA (t : ByteArray) (most : Int) : Nat → Nat → List Nat → Rs
  | 0, p, out => .ok (p, out)
  | n + 1, p, out => if p + 8 ≤ 8 * t.size then (if most ≤ out.length then .error 701 else storeA t most n (p + 8) (out ++ [valAt t p 8])) else .error 700

theorem store_stop {c : SC} {S : SS} {h : H} {ov : AV} (st : St c S h ov) (n : Nat) (hs : n = 0 ∨ S.e ≠ 0) :
    ∃ e', Lp AP.A [0, 2] AP.f39L0 [(0, .pobj c.s 0), (2, I n)] h = some (.exit 0, e', h) := by
  have gs := st.gs
  refine ⟨[(0, .pobj c.s 0), (2, I n), (26, .bool false)], Lp_exit ?_⟩
  by_cases hn : n = 0
  · have c1 : ¬ (0 : Int) < n := by omega
    simp only [I] at *
    simp only [AP.f39L0, go_sem, abin_shl, abin_shr, Nat.reduceEqDiff, reduceIte, Nat.reduceAdd, Nat.reduceMul, Nat.reduceLT, Nat.reduceLeDiff, Int.reduceBEq, Int.reduceBNe, Int.reduceLT, Int.reduceLE, Int.reduceEq, decide_eq_false c1]
  · have c1 : (0 : Int) < n := by omega
    have c2 : (S.e == 0) = false := beq_f (by omega)
    simp only [I] at *
    simp only [AP.f39L0, go_sem, abin_shl, abin_shr, Nat.reduceEqDiff, reduceIte, Nat.reduceAdd, Nat.reduceMul, Nat.reduceLT, Nat.reduceLeDiff, Int.reduceBEq, Int.reduceBNe, Int.reduceLT, Int.reduceLE, Int.reduceEq, decide_eq_true c1, gs, c2]

theorem store_loop {c : SC} : ∀ (n : Nat) (S : SS) (h : H) (ov : AV), St c S h ov → S.e = 0 → n ≤ 65535 →
    ∃ e' h' ov' S', Lp AP.A [0, 2] AP.f39L0 [(0, .pobj c.s 0), (2, I n)] h = some (.exit 0, e', h') ∧ St c S' h' ov' ∧ Fr c h ov h' ov' ∧ Fin (storeA c.text c.most n S.at_ S.out) S'
  | 0, S, h, ov, st, he, hn => by
    obtain ⟨e', q⟩ := store_stop st 0 (.inl rfl)
    exact ⟨e', h, ov, S, q, st, Fr.refl _ _ _, by simp only [storeA, Fin]; cases S; simp_all⟩
  | n + 1, S, h, ov, st, he, hn => by
    have gs := st.gs
    obtain ⟨h1, k1, k2, k3⟩ := get_n st 8 8 rfl (by omega)
    have gs1 := k2.gs
    have c1 : (0 : Int) < ((n + 1 : Nat) : Int) := by omega
    have w1 : IntKind.wrap .i64 (((n + 1 : Nat) : Int) - 1) = (n : Int) := by rw [show ((n + 1 : Nat) : Int) - 1 = (n : Int) by omega]; exact wrap_nat64 (by omega)
    by_cases hp : S.at_ + 8 ≤ 8 * c.text.size
    · have eg : getS c 8 S = (valAt c.text S.at_ 8, { S with at_ := S.at_ + 8 }) := by rw [getS, if_pos hp]
      rw [eg] at k1 k2 gs1
      dsimp only at k1 k2 gs1
      obtain ⟨h2, ov2, p1, p2, p3⟩ := put_c k2 (b := valAt c.text S.at_ 8)
      have hb := valAt_lt c.text S.at_ 8
      have w2 : IntKind.wrap .u8 ((valAt c.text S.at_ 8 : Nat) : Int) = ((valAt c.text S.at_ 8 : Nat) : Int) := wrap_u8 (by simpa using hb)
      have step : evC (callW AP.A) loopW AP.f39L0 (restr [(0, .pobj c.s 0), (2, I (n + 1 : Nat))] [0, 2]) h = some (.normal, [(0, .pobj c.s 0), (2, I n)], h2) := by
        simp only [I] at *
        simp only [AP.f39L0, go_sem, abin_shl, abin_shr, Nat.reduceEqDiff, reduceIte, Nat.reduceAdd, Nat.reduceMul, Nat.reduceLT, Nat.reduceLeDiff, Int.reduceBEq, Int.reduceBNe, Int.reduceLT, Int.reduceLE, Int.reduceEq, decide_eq_true c1, gs, he, k1, gs1, w2, p1, w1]
      rw [storeA, if_pos hp]
      by_cases hm : c.most ≤ S.out.length
      · rw [if_pos hm]
        have hl := puts_long (c := c) (S := { S with at_ := S.at_ + 8 }) (valAt c.text S.at_ 8) he hm
        obtain ⟨e', q⟩ := store_stop p2 n (.inr (by rw [hl]; decide))
        exact ⟨e', h2, ov2, _, Lp_next step q, p2, k3.trans p3, hl, by decide⟩
      · rw [if_neg hm]
        rw [puts_ok (S := { S with at_ := S.at_ + 8 }) _ he hm] at p2
        obtain ⟨e', h', ov', S', q1, q2, q3, q4⟩ := store_loop n _ h2 ov2 p2 rfl (by omega)
        exact ⟨e', h', ov', S', Lp_next step q1, q2, (k3.trans p3).trans q3, q4⟩
    · have eg : getS c 8 S = (0, { S with e := 700 }) := by rw [getS, if_neg hp, failS, if_pos he]
      rw [eg] at k1 k2 gs1
      dsimp only at k1 k2 gs1
      have step : evC (callW AP.A) loopW AP.f39L0 (restr [(0, .pobj c.s 0), (2, I (n + 1 : Nat))] [0, 2]) h = some (.normal, [(0, .pobj c.s 0), (2, I n)], h1) := by
        simp only [I] at *
        simp only [AP.f39L0, go_sem, abin_shl, abin_shr, Nat.reduceEqDiff, reduceIte, Nat.reduceAdd, Nat.reduceMul, Nat.reduceLT, Nat.reduceLeDiff, Int.reduceBEq, Int.reduceBNe, Int.reduceLT, Int.reduceLE, Int.reduceEq, decide_eq_true c1, gs, he, k1, gs1, w1]
      rw [storeA, if_neg hp]
      obtain ⟨e', q⟩ := store_stop k2 n (.inr (by simp))
      exact ⟨e', h1, ov, _, Lp_next step q, k2, k3, rfl, by decide⟩

/-- A stored block, behind its three bits. -/
def storedA (t : ByteArray) (most : Int) (p0 : Nat) (out : List Nat) : Rs :=
  let p := (p0 + 7) / 8 * 8
  if p + 32 ≤ 8 * t.size then (if valAt t p 16 + valAt t (p + 16) 16 = 65535 then storeA t most (valAt t p 16) (p + 32) out else .error 700) else .error 700

theorem xor_full {n : Nat} (hn : n < 65536) : bits .xor .i64 (n : Int) 65535 = ((65535 - n : Nat) : Int) := by
  have h1 : n < 2 ^ 16 := by simpa using hn
  show IntKind.wrap .i64 (((BitVec.ofInt 64 (n : Int) ^^^ BitVec.ofInt 64 ((65535 : Nat) : Int)).toNat : Nat) : Int) = _
  rw [BitVec.toNat_xor, bv_nat 64 n (by omega), bv_nat 64 65535 (by omega)]
  have h2 : n ^^^ 65535 = 65535 - n := by
    have : 65535 - n = 2 ^ 16 - (n + 1) := by omega
    rw [this]
    apply Nat.eq_of_testBit_eq
    intro i
    rw [Nat.testBit_two_pow_sub_succ h1, Nat.testBit_xor, show 65535 = 2 ^ 16 - 1 from rfl, Nat.testBit_two_pow_sub_one]
    by_cases hi : i < 16
    · simp [hi]
    · have : n.testBit i = false := Nat.testBit_lt_two_pow (Nat.lt_of_lt_of_le h1 (Nat.pow_le_pow_right (by omega) (by omega)))
      simp [hi, this]
  rw [h2]; exact wrap_nat64 (by omega)

theorem St.align {c : SC} {S : SS} {h : H} {ov : AV} (st : St c S h ov) : ∃ h', callW AP.A 16 [.pobj c.r 0] h = some (I 0, h') ∧ St c { S with at_ := (S.at_ + 7) / 8 * 8 } h' ov ∧ Fr c h ov h' ov := by
  have hle := st.at_le
  have := st.setR (p := (S.at_ + 7) / 8 * 8) (by omega)
  exact ⟨_, align_c h c.r c.text S.at_ st.gr st.fr st.sz st.at_le, this.1, this.2⟩

theorem stored_c {c : SC} {S : SS} {h : H} {ov : AV} (st : St c S h ov) (he : S.e = 0) :
    ∃ h' ov' S', callW AP.A 39 [.pobj c.s 0] h = some (.tup [], h') ∧ St c S' h' ov' ∧ Fr c h ov h' ov' ∧ Fin (storedA c.text c.most S.at_ S.out) S' := by
  have gs := st.gs
  obtain ⟨h1, a1, a2, a3⟩ := st.align
  obtain ⟨p, hp⟩ : ∃ p, p = (S.at_ + 7) / 8 * 8 := ⟨_, rfl⟩
  rw [← hp] at a2
  have hS : storedA c.text c.most S.at_ S.out = if p + 32 ≤ 8 * c.text.size then (if valAt c.text p 16 + valAt c.text (p + 16) 16 = 65535 then storeA c.text c.most (valAt c.text p 16) (p + 32) S.out else .error 700) else .error 700 := by
    rw [hp]; rfl
  rw [hS]; clear hS
  obtain ⟨h2, b1, b2, b3⟩ := get_n a2 16 16 rfl (by omega)
  obtain ⟨h3, d1, d2, d3⟩ := get_n b2 16 16 rfl (by omega)
  obtain ⟨n, hn⟩ : ∃ n, n = (getS c 16 { S with at_ := p }).1 := ⟨_, rfl⟩
  obtain ⟨S2, hS2⟩ : ∃ n, n = (getS c 16 { S with at_ := p }).2 := ⟨_, rfl⟩
  obtain ⟨m, hm⟩ : ∃ n, n = (getS c 16 S2).1 := ⟨_, rfl⟩
  obtain ⟨S3, hS3⟩ : ∃ n, n = (getS c 16 S2).2 := ⟨_, rfl⟩
  rw [← hn] at b1; rw [← hS2] at b2 d1 d2; rw [← hm] at d1; rw [← hS3] at d2
  have hn16 : n < 65536 := by
    rw [hn]; unfold getS; split
    · simpa using valAt_lt c.text p 16
    · simp
  have x1 := xor_full hn16
  by_cases hx : m = 65535 - n
  · have c1 : ((m : Int) != ((65535 - n : Nat) : Int)) = false := bne_f (by omega)
    have fin : ∀ e' h', Lp AP.A [0, 2] AP.f39L0 [(0, .pobj c.s 0), (2, I n)] h3 = some (.exit 0, e', h') → callW AP.A 39 [.pobj c.s 0] h = some (.tup [], h') := by
      intro e' h' q
      refine plain_n (fn := AP.f39) (e := []) rfl rfl rfl ?_ rfl
      simp only [I] at *
      simp only [AP.f39, go_sem, abin_shl, abin_shr, Nat.reduceEqDiff, reduceIte, Nat.reduceAdd, Nat.reduceMul, Nat.reduceLT, Nat.reduceLeDiff, Int.reduceBEq, Int.reduceBNe, Int.reduceLT, Int.reduceLE, Int.reduceEq, evC_loop, gs, a1, b1, d1, x1, c1, q]
    by_cases h32 : p + 32 ≤ 8 * c.text.size
    · have e2 : getS c 16 { S with at_ := p } = (valAt c.text p 16, { S with at_ := p + 16 }) := by rw [getS, if_pos (by show p + 16 ≤ _; omega)]
      rw [e2] at hn hS2; dsimp only at hn hS2; subst hS2
      have e3 : getS c 16 { S with at_ := p + 16 } = (valAt c.text (p + 16) 16, { S with at_ := p + 16 + 16 }) := by rw [getS, if_pos (by show p + 16 + 16 ≤ _; omega)]
      rw [e3] at hm hS3; dsimp only at hm hS3; subst hS3
      rw [if_pos h32, ← hn, ← hm, if_pos (by omega)]
      obtain ⟨e', h', ov', S', q1, q2, q3, q4⟩ := store_loop n _ h3 ov d2 he (by omega)
      exact ⟨h', ov', S', fin e' h' q1, q2, ((a3.trans b3).trans d3).trans q3, q4⟩
    · rw [if_neg h32]
      have he3 : S3.e = 700 := by
        rw [hS3, hS2]
        unfold getS
        by_cases q1 : p + 16 ≤ 8 * c.text.size
        · simp only [if_pos q1]
          rw [if_neg (by omega)]; simp [failS, he]
        · simp only [if_neg q1, failS, he, if_true]
          split <;> simp
      obtain ⟨e', q⟩ := store_stop d2 n (.inr (by rw [he3]; decide))
      exact ⟨h3, ov, S3, fin e' h3 q, d2, (a3.trans b3).trans d3, he3, by decide⟩
  · have c1 : ((m : Int) != ((65535 - n : Nat) : Int)) = true := bne_t (by omega)
    obtain ⟨h4, f1, f2, f3⟩ := fails_c d2 700
    have he4 : (failS 700 S3).e = 700 := by
      have : S3.e = 0 ∨ S3.e = 700 := by
        rw [hS3, hS2]
        unfold getS
        by_cases q1 : p + 16 ≤ 8 * c.text.size
        · simp only [if_pos q1]
          split <;> simp [failS, he]
        · simp only [if_neg q1, failS, he, if_true]
          split <;> simp
      rcases this with q | q <;> simp [failS, q]
    obtain ⟨e', q⟩ := store_stop f2 n (.inr (by rw [he4]; decide))
    refine ⟨h4, ov, failS 700 S3, ?_, f2, ((a3.trans b3).trans d3).trans f3, ?_⟩
    · refine plain_n (fn := AP.f39) (e := []) rfl rfl rfl ?_ rfl
      simp only [I] at *
      simp only [AP.f39, go_sem, abin_shl, abin_shr, Nat.reduceEqDiff, reduceIte, Nat.reduceAdd, Nat.reduceMul, Nat.reduceLT, Nat.reduceLeDiff, Int.reduceBEq, Int.reduceBNe, Int.reduceLT, Int.reduceLE, Int.reduceEq, evC_loop, gs, a1, b1, d1, x1, c1, f1, q]
    · by_cases h32 : p + 32 ≤ 8 * c.text.size
      · have e2 : getS c 16 { S with at_ := p } = (valAt c.text p 16, { S with at_ := p + 16 }) := by rw [getS, if_pos (by show p + 16 ≤ _; omega)]
        rw [e2] at hn hS2; dsimp only at hn hS2; subst hS2
        have e3 : getS c 16 { S with at_ := p + 16 } = (valAt c.text (p + 16) 16, { S with at_ := p + 16 + 16 }) := by rw [getS, if_pos (by show p + 16 + 16 ≤ _; omega)]
        rw [e3] at hm hS3; dsimp only at hm hS3
        rw [if_pos h32, ← hn, ← hm, if_neg (by omega)]
        exact ⟨he4, by decide⟩
      · rw [if_neg h32]; exact ⟨he4, by decide⟩
end Ab

/- stream.copies, stream.coded. -/
set_option linter.unusedSimpArgs false
set_option linter.unusedVariables false
namespace Ab
open Go

/-- So many bytes again, from so far back. -/
def copyL (most : Int) (d : Nat) : Nat → List Nat → Except Int (List Nat)
  | 0, out => .ok out
  | n + 1, out => if most ≤ out.length then .error 701 else copyL most d n (out ++ [out.getD (out.length - d) 0])

/-- All bytes are such. -/
def Byt (l : List Nat) : Prop := ∀ b ∈ l, b < 256

theorem copy_stop {c : SC} {S : SS} {h : H} {ov : AV} (st : St c S h ov) (n d : Nat) (hs : n = 0 ∨ S.e ≠ 0) :
    ∃ e', Lp AP.A [0, 6, 8] AP.f61L0 [(0, .pobj c.s 0), (6, I n), (8, I d)] h = some (.exit 0, e', h) := by
  have gs := st.gs
  refine ⟨[(0, .pobj c.s 0), (6, I n), (8, I d), (53, .bool false)], Lp_exit ?_⟩
  by_cases hn : n = 0
  · have c1 : ¬ (0 : Int) < n := by omega
    simp only [I] at *
    simp only [AP.f61L0, go_sem, abin_shl, abin_shr, Nat.reduceEqDiff, reduceIte, Nat.reduceAdd, Nat.reduceMul, Nat.reduceLT, Nat.reduceLeDiff, Int.reduceBEq, Int.reduceBNe, Int.reduceLT, Int.reduceLE, Int.reduceEq, decide_eq_false c1]
  · have c1 : (0 : Int) < n := by omega
    have c2 : (S.e == 0) = false := beq_f (by omega)
    simp only [I] at *
    simp only [AP.f61L0, go_sem, abin_shl, abin_shr, Nat.reduceEqDiff, reduceIte, Nat.reduceAdd, Nat.reduceMul, Nat.reduceLT, Nat.reduceLeDiff, Int.reduceBEq, Int.reduceBNe, Int.reduceLT, Int.reduceLE, Int.reduceEq, decide_eq_true c1, gs, c2]

theorem Own.elem {h : H} {v : AV} {cs : List AV} (o : Own h v cs) {i : Nat} {x : AV} (hx : cs[i]? = some x) : ∃ id, v = .sobj id 0 cs.length 1 ∧ aiadr 1 v (I i) = some (.pobj id i) ∧ h.get id = some cs := by
  have hi : i < cs.length := (List.getElem?_eq_some_iff.1 hx).1
  rcases o with ⟨rfl, rfl⟩ | ⟨id, rfl, h1, _⟩
  · simp at hi
  · exact ⟨id, rfl, by simp [aiadr, aidx_of hi], h1⟩

theorem bys_get {l : List Nat} {i : Nat} (h : i < l.length) : (bys l)[i]? = some (.int .u8 (l.getD i 0 : Nat)) := by
  simp [bys, List.getElem?_map, h, List.getD]

theorem copy_loop {c : SC} (d : Nat) (hd : 0 < d) : ∀ (n : Nat) (S : SS) (h : H) (ov : AV), St c S h ov → S.e = 0 → d ≤ S.out.length → n ≤ 65535 → 
    ∃ e' h' ov' S', Lp AP.A [0, 6, 8] AP.f61L0 [(0, .pobj c.s 0), (6, I n), (8, I d)] h = some (.exit 0, e', h') ∧ St c S' h' ov' ∧ Fr c h ov h' ov' ∧ match copyL c.most d n S.out with
      | .ok o => S' = { S with out := o }
      | .error k => S'.e = k ∧ k ≠ 0
  | 0, S, h, ov, st, he, hl, hn => by
    obtain ⟨e', q⟩ := copy_stop st 0 d (.inl rfl)
    exact ⟨e', h, ov, S, q, st, Fr.refl _ _ _, by simp only [copyL]⟩
  | n + 1, S, h, ov, st, he, hl, hn => by
    have gs := st.gs
    have hol := st.ol
    have hml := st.ml
    have ln := st.own.len
    rw [bys_length] at ln
    have c1 : (0 : Int) < ((n + 1 : Nat) : Int) := by omega
    have w1 : IntKind.wrap .i64 (((n + 1 : Nat) : Int) - 1) = (n : Int) := by rw [show ((n + 1 : Nat) : Int) - 1 = (n : Int) by omega]; exact wrap_nat64 (by omega)
    have w2 : IntKind.wrap .i64 ((S.out.length : Int) - d) = ((S.out.length - d : Nat) : Int) := by rw [show (S.out.length : Int) - d = ((S.out.length - d : Nat) : Int) by omega]; exact wrap_nat64 (by omega)
    have hb := bys_get (l := S.out) (i := S.out.length - d) (by omega)
    obtain ⟨id, i1, i2, i3⟩ := st.own.elem hb
    obtain ⟨h2, ov2, p1, p2, p3⟩ := put_c st (b := S.out.getD (S.out.length - d) 0)
    have step : evC (callW AP.A) loopW AP.f61L0 (restr [(0, .pobj c.s 0), (6, I (n + 1 : Nat)), (8, I d)] [0, 6, 8]) h = some (.normal, [(0, .pobj c.s 0), (6, I n), (8, I d)], h2) := by
      clear i1
      simp only [I] at *
      simp only [AP.f61L0, go_sem, abin_shl, abin_shr, Nat.reduceEqDiff, reduceIte, Nat.reduceAdd, Nat.reduceMul, Nat.reduceLT, Nat.reduceLeDiff, Int.reduceBEq, Int.reduceBNe, Int.reduceLT, Int.reduceLE, Int.reduceEq, decide_eq_true c1, gs, he, ln, w2, i2, i3, hb, p1, w1]
    rw [copyL]
    by_cases hm : c.most ≤ S.out.length
    · rw [if_pos hm]
      have hl := puts_long (c := c) (S := S) (S.out.getD (S.out.length - d) 0) he hm
      obtain ⟨e', q⟩ := copy_stop p2 n d (.inr (by rw [hl]; decide))
      exact ⟨e', h2, ov2, _, Lp_next step q, p2, p3, hl, by decide⟩
    · rw [if_neg hm]
      rw [puts_ok _ he hm] at p2
      obtain ⟨e', h', ov', S', q1, q2, q3, q4⟩ := copy_loop d hd n _ h2 ov2 p2 rfl (by simp; omega) (by omega)
      refine ⟨e', h', ov', S', Lp_next step q1, q2, p3.trans q3, ?_⟩
      dsimp only at q4 ⊢
      rw [he]
      exact q4

/-- A copy, whose length's symbol was read. -/
def copyA (t : ByteArray) (most : Int) (dl : List Int) (y : Nat) (p : Nat) (out : List Nat) : Rs :=
  match lenOf y with
  | none => .error 700
  | some (least, extra) =>
    if p + extra ≤ 8 * t.size then
      match symA t dl 15 1 0 (p + extra) with
      | none => .error 700
      | some (z, p2) => match distOf z.toNat with
        | none => .error 700
        | some (ld, xd) =>
          if p2 + xd ≤ 8 * t.size ∧ ld + valAt t p2 xd ≤ out.length then
            (match copyL most (ld + valAt t p2 xd) (least + valAt t p extra) out with
            | .ok o => .ok (p2 + xd, o)
            | .error k => .error k)
          else .error 700
    else .error 700

theorem syms_mem {l : List Int} {n : Nat} {y : Int} (h : y ∈ syms l n) : 0 ≤ y ∧ y < l.length := by
  unfold syms at h
  split at h
  · cases h
  · rw [List.mem_filterMap] at h
    obtain ⟨q, hq, h⟩ := h
    split at h
    · obtain rfl := Option.some.inj h
      have := List.mem_zipIdx hq
      omega
    · cases h
theorem findS_bd {l : List Int} {n : Nat} {v y : Int} (h : findS l n v = some y) : 0 ≤ y ∧ y < l.length := by
  unfold findS at h
  split at h
  · exact syms_mem (List.mem_of_getElem? h)
  · cases h
theorem symA_bd {t : ByteArray} {l : List Int} : ∀ {k n v p : Nat} {y : Int} {p2 : Nat}, symA t l k n v p = some (y, p2) → 0 ≤ y ∧ y < l.length ∧ p < p2 ∧ p2 ≤ 8 * t.size
  | 0, _, _, _, _, _, h => by cases h
  | k + 1, n, v, p, y, p2, h => by
    rw [symA] at h
    split at h
    · split at h
      · rename_i hf
        obtain ⟨rfl, rfl⟩ := Prod.mk.inj (Option.some.inj h)
        have := findS_bd hf
        omega
      · have := symA_bd h
        omega
    · cases h

theorem copies_c {c : SC} {S : SS} {h : H} {ov : AV} (dl : List Int) (hdl : dl.length < 100000) (st : St c S h ov) (he : S.e = 0) (y : Nat) (hy : y < 100000) :
    ∃ h' ov' S', callW AP.A 61 [.pobj c.s 0, I y, bookV dl] h = some (.tup [], h') ∧ St c S' h' ov' ∧ Fr c h ov h' ov' ∧ Fin (copyA c.text c.most dl y S.at_ S.out) S' := by
  have lo := lenOf_c h y (by omega)
  unfold copyA
  cases hlo : lenOf y with
  | none =>
    rw [hlo] at lo
    obtain ⟨h1, S1, k1, k2, k3, k4⟩ := value_bad st he
    have gs1 := k2.gs
    have c1 : (S1.e != 0) = true := bne_t (by omega)
    refine ⟨h1, ov, S1, ?_, k2, k3, k4, by decide⟩
    refine plain_c (fn := AP.f61) (e := [(0, .pobj c.s 0), (2, bookV dl), (6, I 0), (20, .bool true)]) (vs := []) rfl rfl rfl ?_ rfl
    simp only [I, tup3] at *
    simp only [AP.f61, go_sem, abin_shl, abin_shr, Nat.reduceEqDiff, reduceIte, Nat.reduceAdd, Nat.reduceMul, Nat.reduceLT, Nat.reduceLeDiff, Int.reduceBEq, Int.reduceBNe, Int.reduceLT, Int.reduceLE, Int.reduceEq, lo, k1, gs1, c1]
  | some le =>
    obtain ⟨least, extra⟩ := le
    rw [hlo] at lo
    obtain ⟨b1, b2, b3⟩ := lenOf_bd hlo
    obtain ⟨h1, k1, k2, k3⟩ := value_c st (n := extra) (least := least) (by omega) (by omega)
    dsimp only
    by_cases hp : S.at_ + extra ≤ 8 * c.text.size
    · have eg : getS c extra S = (valAt c.text S.at_ extra, { S with at_ := S.at_ + extra }) := by rw [getS, if_pos hp]
      rw [eg] at k1 k2
      dsimp only at k1 k2
      rw [if_pos hp]
      have gs1 := k2.gs
      have hve := valAt_lt c.text S.at_ extra
      have hve2 : 2 ^ extra ≤ 2 ^ 5 := Nat.pow_le_pow_right (by omega) b2
      obtain ⟨h2, S2, z, s1, s2, s3, s4⟩ := symbol_c dl hdl k2 he
      have gs2 := s2.gs
      have c1 : (S.e != 0) = false := bne_f he
      dsimp only at s4 gs1
      cases hz : symA c.text dl 15 1 0 (S.at_ + extra) with
      | none =>
        rw [hz] at s4
        obtain ⟨s4, s5⟩ := s4
        have c2 : (S2.e != 0) = true := bne_t (by omega)
        refine ⟨h2, ov, S2, ?_, s2, k3.trans s3, s4, by decide⟩
        refine plain_c (fn := AP.f61) (e := [(0, .pobj c.s 0), (6, I (least + valAt c.text S.at_ extra : Nat)), (7, I z), (28, .bool true)]) (vs := []) rfl rfl rfl ?_ rfl
        simp only [I, tup3] at *
        simp only [AP.f61, go_sem, abin_shl, abin_shr, Nat.reduceEqDiff, reduceIte, Nat.reduceAdd, Nat.reduceMul, Nat.reduceLT, Nat.reduceLeDiff, Int.reduceBEq, Int.reduceBNe, Int.reduceLT, Int.reduceLE, Int.reduceEq, lo, k1, gs1, c1, s1, gs2, c2]
      | some zp =>
        obtain ⟨z2, p2⟩ := zp
        rw [hz] at s4
        obtain ⟨s4, s5⟩ := s4
        subst s5 s4
        have zb := symA_bd hz
        obtain ⟨zn, hzn⟩ : ∃ n : Nat, z = n := Int.eq_ofNat_of_zero_le zb.1
        subst hzn
        have dob := distOf_c h2 zn (by omega)
        have c2 : (S.e != 0) = false := bne_f he
        dsimp only at gs2 ⊢
        rw [Int.toNat_natCast]
        cases hdo : distOf zn with
        | none =>
          rw [hdo] at dob
          obtain ⟨h3, S3, v1, v2, v3, v4⟩ := value_bad s2 he
          have gs3 := v2.gs
          have ln := v2.own.len
          rw [bys_length] at ln
          have hn0 : ¬ ((S3.out.length : Int) < 0) := by omega
          obtain ⟨e', q⟩ := copy_stop v2 (least + valAt c.text S.at_ extra) 0 (.inr (by rw [v4]; decide))
          refine ⟨h3, ov, S3, ?_, v2, (k3.trans s3).trans v3, v4, by decide⟩
          refine plain_n (fn := AP.f61) (e := []) (vs := []) rfl rfl rfl ?_ rfl
          have q' : Lp AP.A [0, 6, 8] AP.f61L0 [(0, .pobj c.s 0), (6, I (least + valAt c.text S.at_ extra : Nat)), (8, I 0)] h3 = some (.exit 0, e', h3) := q
          clear q
          simp only [I, tup3] at *
          simp only [AP.f61, go_sem, abin_shl, abin_shr, Nat.reduceEqDiff, reduceIte, Nat.reduceAdd, Nat.reduceMul, Nat.reduceLT, Nat.reduceLeDiff, Int.reduceBEq, Int.reduceBNe, Int.reduceLT, Int.reduceLE, Int.reduceEq, evC_loop, lo, k1, gs1, c1, s1, gs2, c2, dob, v1, gs3, ln, decide_eq_false hn0, q']
        | some lx =>
          obtain ⟨ld, xd⟩ := lx
          rw [hdo] at dob
          obtain ⟨d1, d2, d3⟩ := distOf_bd hdo
          obtain ⟨h3, v1, v2, v3⟩ := value_c s2 (n := xd) (least := ld) (by omega) (by omega)
          obtain ⟨x, hx⟩ : ∃ x, x = (getS c xd { S with at_ := p2 }).1 := ⟨_, rfl⟩
          obtain ⟨S3, hS3⟩ : ∃ x, x = (getS c xd { S with at_ := p2 }).2 := ⟨_, rfl⟩
          rw [← hx] at v1; rw [← hS3] at v2
          have ho3 : S3.out = S.out := by rw [hS3]; unfold getS; split <;> simp [failS]; split <;> rfl
          have gs3 := v2.gs
          have ln := v2.own.len
          rw [bys_length] at ln
          dsimp only
          by_cases hbk : S3.out.length < ld + x
          · have hbk' : (S3.out.length : Int) < ((ld + x : Nat) : Int) := by omega
            obtain ⟨h4, f1, f2, f3⟩ := fails_c v2 700
            have he4 : (failS 700 S3).e = 700 := by
              have : S3.e = 0 ∨ S3.e = 700 := by
                rw [hS3]; unfold getS; split
                · exact .inl he
                · right; simp [failS, he]
              rcases this with q | q <;> simp [failS, q]
            have hneg : ¬ (p2 + xd ≤ 8 * c.text.size ∧ ld + valAt c.text p2 xd ≤ S.out.length) := by
              intro ⟨q1, q2⟩
              have : getS c xd { S with at_ := p2 } = (valAt c.text p2 xd, { S with at_ := p2 + xd }) := by rw [getS, if_pos q1]
              rw [this] at hx; dsimp only at hx; rw [ho3] at hbk; omega
            rw [if_neg hneg]
            obtain ⟨e', q⟩ := copy_stop f2 (least + valAt c.text S.at_ extra) (ld + x) (.inr (by rw [he4]; decide))
            refine ⟨h4, ov, failS 700 S3, ?_, f2, ((k3.trans s3).trans v3).trans f3, he4, by decide⟩
            refine plain_n (fn := AP.f61) (e := []) (vs := []) rfl rfl rfl ?_ rfl
            simp only [I, tup3] at *
            simp only [AP.f61, go_sem, abin_shl, abin_shr, Nat.reduceEqDiff, reduceIte, Nat.reduceAdd, Nat.reduceMul, Nat.reduceLT, Nat.reduceLeDiff, Int.reduceBEq, Int.reduceBNe, Int.reduceLT, Int.reduceLE, Int.reduceEq, evC_loop, lo, k1, gs1, c1, s1, gs2, c2, dob, v1, gs3, ln, decide_eq_true hbk', f1, q]
          · have hbk' : ¬ (S3.out.length : Int) < ((ld + x : Nat) : Int) := by omega
            have fin : ∀ e' h', Lp AP.A [0, 6, 8] AP.f61L0 [(0, .pobj c.s 0), (6, I (least + valAt c.text S.at_ extra : Nat)), (8, I (ld + x : Nat))] h3 = some (.exit 0, e', h') → callW AP.A 61 [.pobj c.s 0, I y, bookV dl] h = some (.tup [], h') := by
              intro e' h' q
              refine plain_n (fn := AP.f61) (e := []) (vs := []) rfl rfl rfl ?_ rfl
              simp only [I, tup3] at *
              simp only [AP.f61, go_sem, abin_shl, abin_shr, Nat.reduceEqDiff, reduceIte, Nat.reduceAdd, Nat.reduceMul, Nat.reduceLT, Nat.reduceLeDiff, Int.reduceBEq, Int.reduceBNe, Int.reduceLT, Int.reduceLE, Int.reduceEq, evC_loop, lo, k1, gs1, c1, s1, gs2, c2, dob, v1, gs3, ln, decide_eq_false hbk', q]
            by_cases hp2 : p2 + xd ≤ 8 * c.text.size
            · have : getS c xd { S with at_ := p2 } = (valAt c.text p2 xd, { S with at_ := p2 + xd }) := by rw [getS, if_pos hp2]
              rw [this] at hx hS3; dsimp only at hx hS3
              subst hx hS3
              dsimp only at hbk
              rw [if_pos ⟨hp2, by omega⟩]
              obtain ⟨e', h', ov', S', q1, q2, q3, q4⟩ := copy_loop (c := c) (ld + valAt c.text p2 xd) (by omega) (least + valAt c.text S.at_ extra) _ h3 ov v2 he (by dsimp only; omega) (by omega)
              refine ⟨h', ov', S', fin e' h' q1, q2, ((k3.trans s3).trans v3).trans q3, ?_⟩
              dsimp only at q4
              cases hcl : copyL c.most (ld + valAt c.text p2 xd) (least + valAt c.text S.at_ extra) S.out with
              | ok o => rw [hcl] at q4; rw [he] at q4; exact q4
              | error k => rw [hcl] at q4; exact q4
            · rw [if_neg (fun q => hp2 q.1)]
              have he3 : S3.e = 700 := by
                rw [hS3, getS, if_neg hp2]; simp [failS, he]
              obtain ⟨e', q⟩ := copy_stop v2 (least + valAt c.text S.at_ extra) (ld + x) (.inr (by rw [he3]; decide))
              exact ⟨h3, ov, S3, fin e' h3 q, v2, (k3.trans s3).trans v3, he3, by decide⟩
    · have eg : getS c extra S = (0, { S with e := 700 }) := by rw [getS, if_neg hp, failS, if_pos he]
      rw [eg] at k1 k2
      dsimp only at k1 k2
      rw [if_neg hp]
      have gs1 := k2.gs
      refine ⟨h1, ov, _, ?_, k2, k3, rfl, by decide⟩
      refine plain_c (fn := AP.f61) (e := [(0, .pobj c.s 0), (2, bookV dl), (6, I (least + 0 : Nat)), (20, .bool true)]) (vs := []) rfl rfl rfl ?_ rfl
      simp only [I, tup3] at *
      simp only [AP.f61, go_sem, abin_shl, abin_shr, Nat.reduceEqDiff, reduceIte, Nat.reduceAdd, Nat.reduceMul, Nat.reduceLT, Nat.reduceLeDiff, Int.reduceBEq, Int.reduceBNe, Int.reduceLT, Int.reduceLE, Int.reduceEq, lo, k1, gs1]
end Ab

/- stream.coded. -/
set_option linter.unusedSimpArgs false
set_option linter.unusedVariables false
namespace Ab
open Go

/-- Bytes and copies, up to the end of a block; the first number bounds how many. -/
def codedA (t : ByteArray) (most : Int) (ll dl : List Int) : Nat → Nat → List Nat → Rs
  | 0, _, _ => .error 700
  | k + 1, p, out => match symA t ll 15 1 0 p with
    | none => .error 700
    | some (y, p1) =>
      if y < 256 then (if most ≤ out.length then .error 701 else codedA t most ll dl k p1 (out ++ [y.toNat]))
      else if y = 256 then .ok (p1, out)
      else match copyA t most dl y.toNat p1 out with
        | .ok (p2, o) => codedA t most ll dl k p2 o
        | .error e => .error e

theorem copyA_ge {t : ByteArray} {most : Int} {dl : List Int} {y p : Nat} {out o : List Nat} {p2 : Nat} (h : copyA t most dl y p out = .ok (p2, o)) : p ≤ p2 ∧ p2 ≤ 8 * t.size := by
  unfold copyA at h
  split at h
  · cases h
  · split at h
    · split at h
      · cases h
      · rename_i hs
        have := symA_bd hs
        split at h
        · cases h
        · split at h
          · rename_i hq
            split at h
            · have := congrArg (fun r : Rs => match r with | .ok q => q.1 | _ => 0) h
              dsimp only at this
              omega
            · cases h
          · cases h
    · cases h

theorem coded_stop {c : SC} {S : SS} {h : H} {ov : AV} (st : St c S h ov) (a b : AV) (hs : S.e ≠ 0) :
    ∃ e', Lp AP.A [0, 1, 2] AP.f40L0 [(0, .pobj c.s 0), (1, a), (2, b)] h = some (.exit 0, e', h) := by
  have gs := st.gs
  refine ⟨[(0, .pobj c.s 0), (1, a), (2, b), (11, .bool false)], Lp_exit ?_⟩
  have c2 : (S.e == 0) = false := beq_f hs
  simp only [I] at *
  simp only [AP.f40L0, go_sem, abin_shl, abin_shr, Nat.reduceEqDiff, reduceIte, Nat.reduceAdd, Nat.reduceMul, Nat.reduceLT, Nat.reduceLeDiff, Int.reduceBEq, Int.reduceBNe, Int.reduceLT, Int.reduceLE, Int.reduceEq, gs, c2]

theorem coded_loop {c : SC} (ll dl : List Int) (hll : ll.length < 100000) (hdl : dl.length < 100000) : ∀ (k : Nat) (S : SS) (h : H) (ov : AV), St c S h ov → S.e = 0 → 8 * c.text.size < S.at_ + k →
    ∃ e' h' ov' S', (Lp AP.A [0, 1, 2] AP.f40L0 [(0, .pobj c.s 0), (1, bookV ll), (2, bookV dl)] h = some (.ret, e', h') ∨ Lp AP.A [0, 1, 2] AP.f40L0 [(0, .pobj c.s 0), (1, bookV ll), (2, bookV dl)] h = some (.exit 0, e', h')) ∧ St c S' h' ov' ∧ Fr c h ov h' ov' ∧ Fin (codedA c.text c.most ll dl k S.at_ S.out) S'
  | 0, S, h, ov, st, he, hk => by have := st.at_le; omega
  | k + 1, S, h, ov, st, he, hk => by
    have gs := st.gs
    obtain ⟨h1, S1, z, s1, s2, s3, s4⟩ := symbol_c ll hll st he
    rw [codedA]
    cases hz : symA c.text ll 15 1 0 S.at_ with
    | none =>
      rw [hz] at s4
      obtain ⟨s4, s5⟩ := s4
      subst s5
      refine ⟨[(0, .pobj c.s 0), (1, bookV ll), (2, bookV dl), (6, I 256), (26, .bool true)], h1, ov, S1, .inl (Lp_ret ?_), s2, s3, s4, by decide⟩
      simp only [I] at *
      simp only [AP.f40L0, go_sem, abin_shl, abin_shr, Nat.reduceEqDiff, reduceIte, Nat.reduceAdd, Nat.reduceMul, Nat.reduceLT, Nat.reduceLeDiff, Int.reduceBEq, Int.reduceBNe, Int.reduceLT, Int.reduceLE, Int.reduceEq, gs, he, s1]
    | some zp =>
      obtain ⟨z2, p1⟩ := zp
      rw [hz] at s4
      obtain ⟨s4, s5⟩ := s4
      subst s5 s4
      have zb := symA_bd hz
      obtain ⟨y, hy⟩ : ∃ n : Nat, z = n := Int.eq_ofNat_of_zero_le zb.1
      subst hy
      dsimp only
      by_cases c1 : (y : Int) < 256
      · rw [if_pos c1]
        have w1 : IntKind.wrap .u8 (y : Int) = y := wrap_u8 (by omega)
        obtain ⟨h2, ov2, p1', p2', p3'⟩ := put_c s2 (b := y)
        have step : evC (callW AP.A) loopW AP.f40L0 (restr [(0, .pobj c.s 0), (1, bookV ll), (2, bookV dl)] [0, 1, 2]) h = some (.normal, [(0, .pobj c.s 0), (1, bookV ll), (2, bookV dl)], h2) := by
          simp only [I] at *
          simp only [AP.f40L0, go_sem, abin_shl, abin_shr, Nat.reduceEqDiff, reduceIte, Nat.reduceAdd, Nat.reduceMul, Nat.reduceLT, Nat.reduceLeDiff, Int.reduceBEq, Int.reduceBNe, Int.reduceLT, Int.reduceLE, Int.reduceEq, gs, he, s1, decide_eq_true c1, w1, p1']
        by_cases hm : c.most ≤ S.out.length
        · rw [if_pos hm]
          have hl := puts_long (c := c) (S := { S with at_ := p1 }) y he hm
          obtain ⟨e', q⟩ := coded_stop p2' (bookV ll) (bookV dl) (by rw [hl]; decide)
          exact ⟨e', h2, ov2, _, .inr (Lp_next step q), p2', s3.trans p3', hl, by decide⟩
        · rw [if_neg hm]
          rw [puts_ok (S := { S with at_ := p1 }) _ he hm] at p2'
          obtain ⟨e', h', ov', S', q1, q2, q3, q4⟩ := coded_loop ll dl hll hdl k _ h2 ov2 p2' rfl (by dsimp only; omega)
          refine ⟨e', h', ov', S', ?_, q2, (s3.trans p3').trans q3, q4⟩
          rcases q1 with q1 | q1
          · exact .inl (Lp_next step q1)
          · exact .inr (Lp_next step q1)
      · rw [if_neg c1]
        by_cases c2 : (y : Int) = 256
        · rw [if_pos c2]
          refine ⟨[(0, .pobj c.s 0), (1, bookV ll), (2, bookV dl), (6, I y), (26, .bool true)], h1, ov, _, .inl (Lp_ret ?_), s2, s3, ?_⟩
          · have c2' := beq_t c2
            simp only [I] at *
            simp only [AP.f40L0, go_sem, abin_shl, abin_shr, Nat.reduceEqDiff, reduceIte, Nat.reduceAdd, Nat.reduceMul, Nat.reduceLT, Nat.reduceLeDiff, Int.reduceBEq, Int.reduceBNe, Int.reduceLT, Int.reduceLE, Int.reduceEq, gs, he, s1, decide_eq_false c1, c2']
          · simp only [Fin]; rw [he]
        · rw [if_neg c2]
          have c2' := beq_f c2
          obtain ⟨h2, ov2, S2, r1, r2, r3, r4⟩ := copies_c dl hdl s2 he y (by omega)
          have step : evC (callW AP.A) loopW AP.f40L0 (restr [(0, .pobj c.s 0), (1, bookV ll), (2, bookV dl)] [0, 1, 2]) h = some (.normal, [(0, .pobj c.s 0), (1, bookV ll), (2, bookV dl)], h2) := by
            simp only [I] at *
            simp only [AP.f40L0, go_sem, abin_shl, abin_shr, Nat.reduceEqDiff, reduceIte, Nat.reduceAdd, Nat.reduceMul, Nat.reduceLT, Nat.reduceLeDiff, Int.reduceBEq, Int.reduceBNe, Int.reduceLT, Int.reduceLE, Int.reduceEq, gs, he, s1, decide_eq_false c1, c2', r1]
          dsimp only at r4
          rw [Int.toNat_natCast]
          cases hc : copyA c.text c.most dl y p1 S.out with
          | error q =>
            rw [hc] at r4
            obtain ⟨e', q'⟩ := coded_stop r2 (bookV ll) (bookV dl) (by rw [r4.1]; exact r4.2)
            exact ⟨e', h2, ov2, S2, .inr (Lp_next step q'), r2, s3.trans r3, r4⟩
          | ok q =>
            obtain ⟨p2, o⟩ := q
            rw [hc] at r4
            simp only [Fin] at r4
            subst r4
            have hge := copyA_ge hc
            obtain ⟨e', h', ov', S', q1, q2, q3, q4⟩ := coded_loop ll dl hll hdl k _ h2 ov2 r2 rfl (by dsimp only; omega)
            refine ⟨e', h', ov', S', ?_, q2, (s3.trans r3).trans q3, q4⟩
            rcases q1 with q1 | q1
            · exact .inl (Lp_next step q1)
            · exact .inr (Lp_next step q1)

theorem coded_c {c : SC} {S : SS} {h : H} {ov : AV} (ll dl : List Int) (hll : ll.length < 100000) (hdl : dl.length < 100000) (st : St c S h ov) (he : S.e = 0) :
    ∃ h' ov' S', callW AP.A 40 [.pobj c.s 0, bookV ll, bookV dl] h = some (.tup [], h') ∧ St c S' h' ov' ∧ Fr c h ov h' ov' ∧ Fin (codedA c.text c.most ll dl (8 * c.text.size + 1) S.at_ S.out) S' := by
  obtain ⟨e', h', ov', S', q1, q2, q3, q4⟩ := coded_loop ll dl hll hdl (8 * c.text.size + 1) S h ov st he (by omega)
  refine ⟨h', ov', S', ?_, q2, q3, q4⟩
  rcases q1 with q1 | q1
  · refine plain_c (fn := AP.f40) (e := e') (vs := []) rfl rfl rfl ?_ rfl
    simp only [AP.f40, go_sem, abin_shl, abin_shr, Nat.reduceEqDiff, reduceIte, Nat.reduceAdd, Nat.reduceMul, Nat.reduceLT, Nat.reduceLeDiff, Int.reduceBEq, Int.reduceBNe, Int.reduceLT, Int.reduceLE, Int.reduceEq, evC_loop, q1]
  · refine plain_n (fn := AP.f40) (e := []) (vs := []) rfl rfl rfl ?_ rfl
    simp only [AP.f40, go_sem, abin_shl, abin_shr, Nat.reduceEqDiff, reduceIte, Nat.reduceAdd, Nat.reduceMul, Nat.reduceLT, Nat.reduceLeDiff, Int.reduceBEq, Int.reduceBNe, Int.reduceLT, Int.reduceLE, Int.reduceEq, evC_loop, q1]
end Ab
