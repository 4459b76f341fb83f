/- Part C3. -/
import Derived.Test.YtolinppbhjljcaaC2
import Derived.KernelRfl
/- stream.lengths. -/
set_option linter.unusedSimpArgs false
set_option linter.unusedVariables false
namespace Ab
open Go

/-- The lengths' lengths, in their row. -/
def ownL (t : ByteArray) : List Int → Nat → List Int → List Int
  | [], _, o => o
  | s :: r, p, o => ownL t r (p + 3) (o.set s.toNat (valAt t p 3))

/-- What a length's symbol stands for, and where that ends. -/
def againA (t : ByteArray) (y : Int) (acc : List Int) (p : Nat) : Option (Int × Nat × Nat) :=
  if y = 16 then (if acc = [] then none else if p + 2 ≤ 8 * t.size then some (acc.getD (acc.length - 1) 0, 3 + valAt t p 2, p + 2) else none)
  else if y = 17 then (if p + 3 ≤ 8 * t.size then some (0, 3 + valAt t p 3, p + 3) else none)
  else if y = 18 then (if p + 7 ≤ 8 * t.size then some (0, 11 + valAt t p 7, p + 7) else none)
  else some (y, 1, p)

/-- Lengths, up to so many. -/
def lensLoop (t : ByteArray) (cl : List Int) (many : Nat) : Nat → List Int → Nat → Option (List Int × Nat)
  | 0, _, _ => none
  | f + 1, acc, p => if acc.length < many then
      match symA t cl 15 1 0 p with
      | none => none
      | some (y, p1) => match againA t y acc p1 with
        | none => none
        | some (n, times, p2) => lensLoop t cl many f (acc ++ List.replicate times n) p2
    else if many < acc.length then none else some (acc, p)

/-- So many lengths, by the codes of their lengths. -/
def lensA (t : ByteArray) (many : Nat) (p : Nat) : Option (List Int × Nat) :=
  if p + 4 ≤ 8 * t.size then
    let k := valAt t p 4 + 4
    if p + 4 + 3 * k ≤ 8 * t.size then
      let cl := ownL t (orderL.take k) (p + 4) (List.replicate 19 0)
      if checkS cl = 0 then lensLoop t cl many (8 * t.size + 1) [] (p + 4 + 3 * k) else none
    else none
  else none

theorem asl_imm_hi {h : H} {t : Bool} {N k : Nat} {cs : List AV} (hN : cs.length = N) (hk : k ≤ N) : asl h 1 (.simm t cs 0 N 1) none (some (I k)) none = some (.simm t cs 0 k 1) := by
  simp [asl, hN, osbound, sb_of hk]
theorem asl_imm_lo {h : H} {t : Bool} {N k : Nat} {cs : List AV} (hN : cs.length = N) (hk : k ≤ N) : asl h 1 (.simm t cs 0 N 1) (some (I k)) none none = some (.simm t cs k (N - k) 1) := by
  simp [asl, hN, osbound, sb_of hk]

theorem order_mem : ∀ s ∈ orderL, 0 ≤ s ∧ s < 19 := by decide

/-- The same, as the stream has it. -/
def ownS (c : SC) : List Int → List Int → SS → List Int × SS
  | [], o, S => (o, S)
  | s :: r, o, S => ownS c r (o.set s.toNat ((getS c 3 S).1 : Nat)) (getS c 3 S).2

theorem ownS_len (c : SC) : ∀ (r o : List Int) (S : SS), (ownS c r o S).1.length = o.length
  | [], o, S => rfl
  | s :: r, o, S => by rw [ownS, ownS_len c r]; simp

theorem ownS_bd (c : SC) : ∀ (r o : List Int) (S : SS), (∀ y ∈ o, 0 ≤ y ∧ y < 16) → ∀ y ∈ (ownS c r o S).1, 0 ≤ y ∧ y < 16
  | [], o, S, h => h
  | s :: r, o, S, h => by
    rw [ownS]
    refine ownS_bd c r _ _ fun y hy => ?_
    rcases List.mem_or_eq_of_mem_set hy with q | q
    · exact h y q
    · subst q
      have : (getS c 3 S).1 < 8 := by
        unfold getS; split
        · simpa using valAt_lt c.text S.at_ 3
        · simp
      omega

theorem ownS_ok (c : SC) : ∀ (r o : List Int) (S : SS), S.e = 0 → S.at_ + 3 * r.length ≤ 8 * c.text.size → ownS c r o S = (ownL c.text r S.at_ o, { S with at_ := S.at_ + 3 * r.length })
  | [], o, S, he, h => rfl
  | s :: r, o, S, he, h => by
    rw [List.length_cons] at h
    have eg : getS c 3 S = (valAt c.text S.at_ 3, { S with at_ := S.at_ + 3 }) := by rw [getS, if_pos (by omega)]
    rw [ownS, eg]
    dsimp only
    rw [ownS_ok c r _ { S with at_ := S.at_ + 3 } he (by dsimp only; omega)]
    simp only [ownL, List.length_cons]
    rw [show S.at_ + 3 + 3 * r.length = S.at_ + 3 * (r.length + 1) by omega]

theorem getS_e (c : SC) (n : Nat) (S : SS) (h : S.e = 0 ∨ S.e = 700) : (getS c n S).2.e = 0 ∨ (getS c n S).2.e = 700 := by
  unfold getS; split
  · exact h
  · rcases h with h | h <;> simp [failS, h]
theorem getS_e7 (c : SC) (n : Nat) (S : SS) (h : S.e = 700) : (getS c n S).2.e = 700 := by
  unfold getS; split
  · exact h
  · simp [failS, h]

theorem ownS_e (c : SC) : ∀ (r o : List Int) (S : SS), (S.e = 0 ∨ S.e = 700) → ((ownS c r o S).2.e = 0 ∨ (ownS c r o S).2.e = 700)
  | [], o, S, h => h
  | s :: r, o, S, h => by rw [ownS]; exact ownS_e c r _ _ (getS_e c 3 S h)
theorem ownS_e7 (c : SC) : ∀ (r o : List Int) (S : SS), S.e = 700 → (ownS c r o S).2.e = 700
  | [], o, S, h => h
  | s :: r, o, S, h => by rw [ownS]; exact ownS_e7 c r _ _ (getS_e7 c 3 S h)
theorem ownS_bad (c : SC) : ∀ (r o : List Int) (S : SS), S.e = 0 → S.at_ ≤ 8 * c.text.size → 8 * c.text.size < S.at_ + 3 * r.length → (ownS c r o S).2.e = 700
  | [], o, S, he, hle, h => by simp at h; omega
  | s :: r, o, S, he, hle, h => by
    rw [ownS]
    rw [List.length_cons] at h
    by_cases hp : S.at_ + 3 ≤ 8 * c.text.size
    · have eg : getS c 3 S = (valAt c.text S.at_ 3, { S with at_ := S.at_ + 3 }) := by rw [getS, if_pos hp]
      rw [eg]
      exact ownS_bad c r _ _ he hp (by dsimp only; omega)
    · have eg : getS c 3 S = (0, { S with e := 700 }) := by rw [getS, if_neg hp, failS, if_pos he]
      rw [eg]
      exact ownS_e7 c r _ _ rfl

/-- The array of the lengths' lengths is filled. -/
theorem own_loop {c : SC} (a : Nat) (x : AV) (xs : List Int) (hxs : ∀ s ∈ xs, 0 ≤ s ∧ s < 19) (hxl : xs.length ≤ 19) (hac : a ≠ c.s ∧ a ≠ c.r) (m : AV) : ∀ (q p o : List Int) (S : SS) (h : H) (ov : AV), xs = p ++ q → Rd h x (ints xs) → (∀ i, x.id? ≠ some i) → St c S h ov → ov.id? ≠ some a → h.get a = some (ints o) → o.length = 19 → h.floor ≤ a →
    ∃ e' h', Lp AP.A [0, 1, 5, 18, 19, 20] AP.f64L1 [(0, .pobj c.s 0), (1, m), (5, .pobj a 0), (18, x), (19, I xs.length), (20, I p.length)] h = some (.exit 0, e', h') ∧ look e' 0 = .pobj c.s 0 ∧ look e' 1 = m ∧ look e' 5 = .pobj a 0 ∧
      St c (ownS c q o S).2 h' ov ∧ h'.get a = some (ints (ownS c q o S).1) ∧ h'.floor = h.floor ∧ h.next ≤ h'.next ∧ ∀ i, i < h.next → i ≠ c.s → i ≠ c.r → ov.id? ≠ some i → i ≠ a → h'.get i = h.get i
  | [], p, o, S, h, ov, hp, rd, hx, st, hoa, hg, ho, hf => by
    rw [List.append_nil] at hp; subst hp
    refine ⟨[(0, .pobj c.s 0), (1, m), (5, .pobj a 0), (18, x), (19, I xs.length), (20, I xs.length), (21, .bool false)], h, Lp_exit ?_, rfl, rfl, rfl, st, hg, rfl, Nat.le_refl _, fun _ _ _ _ _ _ => rfl⟩
    have c1 : ¬ (xs.length : Int) < (xs.length : Int) := by omega
    simp only [I] at *
    simp only [AP.f64L1, go_sem, abin_shl, abin_shr, Nat.reduceEqDiff, reduceIte, Nat.reduceAdd, Nat.reduceMul, Nat.reduceLT, Nat.reduceLeDiff, Int.reduceBEq, Int.reduceBNe, Int.reduceLT, Int.reduceLE, Int.reduceEq, decide_eq_false c1]
  | s :: q, p, o, S, h, ov, hp, rd, hx, st, hoa, hg, ho, hf => by
    have hlen : xs.length = p.length + (q.length + 1) := by rw [hp]; simp
    have c1 : (p.length : Int) < (xs.length : Int) := by omega
    have hs := hxs s (by rw [hp]; simp)
    obtain ⟨sn, hsn⟩ : ∃ n : Nat, s = n := Int.eq_ofNat_of_zero_le hs.1
    subst hsn
    have hv : (ints xs)[p.length]? = some (I sn) := ints_get (by rw [hp]; simp)
    obtain ⟨ad, p1, p2⟩ := rd.elem hv
    have p3 := p2 h (fun _ _ q => q)
    obtain ⟨h1, k1, k2, k3⟩ := get_n st 3 3 rfl (by omega)
    have hal : a < h.next := h.lt _ _ hg
    have hg1 : h1.get a = some (ints o) := by rw [k3.oth a hal hac.1 hac.2 hoa]; exact hg
    have a1 : aidx (I sn) 19 = some sn := aidx_of (by omega)
    have hset : (ints o).set sn (I ((getS c 3 S).1 : Nat)) = ints (o.set sn ((getS c 3 S).1 : Nat)) := by simp [ints, List.map_set]
    have hst : stO h1 a sn 1 [I ((getS c 3 S).1 : Nat)] (some (ints o)) = some (h1.set a (ints (o.set sn ((getS c 3 S).1 : Nat)))) := by
      rw [stO_1 (by rw [k3.fl]; exact hf) (by rw [ints_length]; omega) rfl, hset]
    have w2 : IntKind.wrap .i64 ((p.length : Int) + 1) = (((p ++ [(sn : Int)]).length : Nat) : Int) := by
      rw [List.length_append]; exact wrap_nat64 (n := p.length + 1) (by omega)
    have step : evC (callW AP.A) loopW AP.f64L1 (restr [(0, .pobj c.s 0), (1, m), (5, .pobj a 0), (18, x), (19, I xs.length), (20, I p.length)] [0, 1, 5, 18, 19, 20]) h = some (.normal, [(0, .pobj c.s 0), (1, m), (5, .pobj a 0), (18, x), (19, I xs.length), (20, I (p ++ [(sn : Int)]).length)], h1.set a (ints (o.set sn ((getS c 3 S).1 : Nat)))) := by
      generalize ints (o.set sn ((getS c 3 S).1 : Nat)) = W at *
      generalize (p ++ [(sn : Int)]).length = B at *
      generalize (getS c 3 S).1 = G at *
      generalize ints o = OO at *
      simp only [I] at *
      simp only [AP.f64L1, go_sem, abin_shl, abin_shr, Nat.reduceEqDiff, reduceIte, Nat.reduceAdd, Nat.reduceMul, Nat.reduceLT, Nat.reduceLeDiff, Int.reduceBEq, Int.reduceBNe, Int.reduceLT, Int.reduceLE, Int.reduceEq, decide_eq_true c1, p1, p3, k1, a1, hg1, hst, w2]
    have st2 : St c (getS c 3 S).2 (h1.set a (ints (o.set sn ((getS c 3 S).1 : Nat)))) ov := k2.keep (by simp) (by simp) fun i hi => by
      rw [H.get_set, if_neg]
      rintro rfl
      rcases hi with hi | hi | hi
      · exact hac.1 hi
      · exact hac.2 hi
      · exact hoa hi
    have rd2 : Rd (h1.set a (ints (o.set sn ((getS c 3 S).1 : Nat)))) x (ints xs) := by
      refine ⟨?_, rd.2⟩
      have := rd.1
      unfold srcCells at this ⊢
      split at this
      · exact this
      · exact this
      · exact absurd rfl (hx _)
      · exact this
      · cases this
    obtain ⟨e', h', q1, q2, q3, q4, q5, q6, q7, q8, q9⟩ := own_loop a x xs hxs hxl hac m q (p ++ [(sn : Int)]) (o.set sn ((getS c 3 S).1 : Nat)) _ _ ov (by rw [hp]; simp) rd2 hx st2 hoa (by rw [H.get_set, if_pos rfl, hg1]; rfl) (by simpa using ho) (by simp [k3.fl]; exact hf)
    refine ⟨e', h', Lp_next step q1, q2, q3, q4, ?_, ?_, by rw [q7]; simp [k3.fl], by have := k3.nx; simp at q8; omega, fun i i1 i2 i3 i4 i5 => ?_⟩
    · rw [ownS]; exact q5
    · rw [ownS]; exact q6
    · rw [q9 i (by have := k3.nx; simp; omega) i2 i3 i4 i5, H.get_set, if_neg i5, k3.oth i i1 i2 i3 i4]

/-- The rounds that take lengths; h0 is the heap ahead of all. -/
theorem lens_stop {c : SC} {S : SS} {h : H} {ov : AV} (st : St c S h ov) (b : AV) (many : Nat) {av : AV} {acc : List Int} (oa : Own h av (ints acc)) (hs : many ≤ acc.length ∨ (acc.length < many ∧ S.e ≠ 0)) :
    ∃ e', Lp AP.A [0, 1, 9, 10] AP.f64L0 [(0, .pobj c.s 0), (1, I many), (9, b), (10, av)] h = some (.exit 2, e', h) ∧ look e' 0 = .pobj c.s 0 ∧ look e' 1 = I many ∧ look e' 10 = av := by
  have gs := st.gs
  have ln := oa.len
  rw [ints_length] at ln
  refine ⟨[(0, .pobj c.s 0), (1, I many), (9, b), (10, av), (46, .bool false)], Lp_exit ?_, rfl, rfl, rfl⟩
  rcases hs with hs | ⟨hs, he⟩
  · have c1 : ¬ (acc.length : Int) < many := by omega
    simp only [I] at *
    simp only [AP.f64L0, go_sem, abin_shl, abin_shr, Nat.reduceEqDiff, reduceIte, Nat.reduceAdd, Nat.reduceMul, Nat.reduceLT, Nat.reduceLeDiff, Int.reduceBEq, Int.reduceBNe, Int.reduceLT, Int.reduceLE, Int.reduceEq, ln, decide_eq_false c1]
  · have c1 : (acc.length : Int) < many := by omega
    have c2 := beq_f he
    simp only [I] at *
    simp only [AP.f64L0, go_sem, abin_shl, abin_shr, Nat.reduceEqDiff, reduceIte, Nat.reduceAdd, Nat.reduceMul, Nat.reduceLT, Nat.reduceLeDiff, Int.reduceBEq, Int.reduceBNe, Int.reduceLT, Int.reduceLE, Int.reduceEq, ln, decide_eq_true c1, gs, c2]

theorem againS_ok {c : SC} {S : SS} {y : Int} {acc : List Int} (he : S.e = 0) :
    match againA c.text y acc S.at_ with
    | some (n, times, p) => againS c y acc S = ((n, times), { S with at_ := p }) ∧ S.at_ ≤ p
    | none => (againS c y acc S).2.e = 700 := by
  unfold againA againS
  by_cases h16 : y = 16
  · rw [if_pos h16, if_pos h16]
    by_cases hn : acc = []
    · rw [if_pos hn, if_pos hn]; simp [failS, he]
    · rw [if_neg hn, if_neg hn]
      by_cases hp : S.at_ + 2 ≤ 8 * c.text.size
      · simp [getS, hp]
      · simp [getS, hp, failS, he]
  · rw [if_neg h16, if_neg h16]
    by_cases h17 : y = 17
    · rw [if_pos h17, if_pos h17]
      by_cases hp : S.at_ + 3 ≤ 8 * c.text.size
      · simp [getS, hp]
      · simp [getS, hp, failS, he]
    · rw [if_neg h17, if_neg h17]
      by_cases h18 : y = 18
      · rw [if_pos h18, if_pos h18]
        by_cases hp : S.at_ + 7 ≤ 8 * c.text.size
        · simp [getS, hp]
        · simp [getS, hp, failS, he]
      · rw [if_neg h18, if_neg h18]
        exact ⟨rfl, Nat.le_refl _⟩

theorem againS_times (c : SC) (y : Int) (acc : List Int) (S : SS) : (againS c y acc S).1.2 < 70000 := by
  unfold againS
  have h2 := getS_lt c S 2 (by omega)
  have h3 := getS_lt c S 3 (by omega)
  have h7 := getS_lt c S 7 (by omega)
  repeat' split
  all_goals (dsimp only; omega)

theorem lens_loop {c : SC} (h0 : H) (cl : List Int) (hcl : cl.length < 100000) (many : Nat) (hm : many ≤ 400) : ∀ (f : Nat) (acc : List Int) (S : SS) (h : H) (ov av : AV), St c S h ov → S.e = 0 → 8 * c.text.size < S.at_ + f → Fr c h0 ov h ov → Own h av (ints acc) → acc.length < 80000 → (∀ i, av.id? = some i → h0.next ≤ i) → (∀ i, (i = c.s ∨ i = c.r ∨ ov.id? = some i) → i < h0.next) →
    ∃ e' h' S' av' acc', Lp AP.A [0, 1, 9, 10] AP.f64L0 [(0, .pobj c.s 0), (1, I many), (9, bookV cl), (10, av)] h = some (.exit 2, e', h') ∧ look e' 0 = .pobj c.s 0 ∧ look e' 1 = I many ∧ look e' 10 = av' ∧ St c S' h' ov ∧ Fr c h0 ov h' ov ∧ Own h' av' (ints acc') ∧ acc'.length < 200000 ∧ (∀ i, av'.id? = some i → h0.next ≤ i) ∧
      match lensLoop c.text cl many f acc S.at_ with
      | some (L, p) => S' = { S with at_ := p } ∧ acc' = L ∧ L.length = many
      | none => S'.e = 700 ∨ (S'.e = 0 ∧ many < acc'.length)
  | 0, acc, S, h, ov, av, st, he, hk, fr, oa, hal, hid, hlo => by have := st.at_le; omega
  | f + 1, acc, S, h, ov, av, st, he, hk, fr, oa, hal, hid, hlo => by
    by_cases hlt : acc.length < many
    · rw [lensLoop, if_pos hlt]
      have gs := st.gs
      have ln := oa.len
      rw [ints_length] at ln
      have c1 : (acc.length : Int) < many := by omega
      obtain ⟨h1, S1, y, s1, s2, s3, s4⟩ := symbol_c cl hcl st he
      have hneq : ∀ i, av.id? = some i → i ≠ c.s ∧ i ≠ c.r ∧ ov.id? ≠ some i := fun i hi => by
        have := hid i hi
        refine ⟨fun e => ?_, fun e => ?_, fun e => ?_⟩
        · have := hlo i (.inl e); omega
        · have := hlo i (.inr (.inl e)); omega
        · have := hlo i (.inr (.inr e)); omega
      have oa1 : Own h1 av (ints acc) := oa.mono s3.fl fun i hi => s3.oth i (oa.lt hi) (hneq i hi).1 (hneq i hi).2.1 (hneq i hi).2.2
      obtain ⟨h2, r1, r2, r3⟩ := again_c s2 y oa1 (by omega) hneq
      have oa2 : Own h2 av (ints acc) := oa1.mono r3.fl fun i hi => r3.oth i (oa1.lt hi) (hneq i hi).1 (hneq i hi).2.1 (hneq i hi).2.2
      obtain ⟨n, hn⟩ : ∃ n, n = (againS c y acc S1).1.1 := ⟨_, rfl⟩
      obtain ⟨times, htm⟩ : ∃ n, n = (againS c y acc S1).1.2 := ⟨_, rfl⟩
      obtain ⟨S2, hS2⟩ : ∃ n, n = (againS c y acc S1).2 := ⟨_, rfl⟩
      have htb := againS_times c y acc S1
      rw [← hn, ← htm] at r1; rw [← hS2] at r2; rw [← htm] at htb
      have al := r2.alloc [I n]
      have rp := repeat_c (h2.alloc [I n]) (.sobj h2.next 0 1 1) n times (by omega) (rd_own1 _ _)
      have oa3 : Own (h2.alloc [I n]) av (ints acc) := oa2.mono (by simp) fun i hi => by
        have := oa2.lt hi; rw [H.get_alloc, if_neg (by omega)]
      have hfr3 := ((fr.trans s3).trans r3).trans al.2
      -- the append
      have hap : ∃ v' h3, aapp (h2.alloc [I n]) 1 8 av (.simm false (ints (List.replicate times n)) 0 times 1) = some (v', h3) ∧ Own h3 v' (ints (acc ++ List.replicate times n)) ∧ St c S2 h3 ov ∧ Fr c h0 ov h3 ov ∧ ∀ i, v'.id? = some i → h0.next ≤ i := by
        have src : srcCells (h2.alloc [I n]) 1 (.simm false (ints (List.replicate times n)) 0 times 1) = some (times, ints (List.replicate times n)) := by
          simp [srcCells, List.take_of_length_le]
        by_cases ht0 : times = 0
        · subst ht0
          refine ⟨av, h2.alloc [I n], ?_, by simpa using oa3, al.1, hfr3, hid⟩
          unfold aapp
          rw [src, Option.bind_some]
          unfold aappc
          rw [if_pos rfl]
          rcases oa3 with ⟨rfl, _⟩ | ⟨id, rfl, _⟩ <;> rfl
        · have hnx := al.1.nx
          obtain ⟨v', h3, q1, q2, q3, q4, q5, q6⟩ := oa3.apps hnx (z := 8) (ints (List.replicate times n)) (allsc_ints _) (by simp; omega) (by simp [roomy]; omega)
          refine ⟨v', h3, ?_, by rw [ints_append]; exact q2, al.1.keep q3 q4 fun i hi => ?_, ⟨q3.trans hfr3.fl, Nat.le_trans hfr3.nx q4, fun id i1 i2 i3 i4 => ?_, fun i hi => .inl hi⟩, fun i hi => ?_⟩
          · unfold aapp
            rw [src, Option.bind_some]
            have hl : (ints (List.replicate times n)).length = times := by simp
            rw [hl] at q1; exact q1
          · have hlt0 := hlo i hi
            have hle : h0.next ≤ (h2.alloc [I n]).next := hfr3.nx
            exact q5 i (fun e => by have := hid i e; omega) (by omega)
          · have hle : h0.next ≤ (h2.alloc [I n]).next := hfr3.nx
            rw [q5 id (fun e => by have := hid id e; omega) (by omega)]
            exact hfr3.oth id i1 i2 i3 i4
          · rw [q6] at hi; cases hi; exact hfr3.nx
      obtain ⟨v', h3, ap1, ap2, ap3, ap4, ap5⟩ := hap
      have step : evC (callW AP.A) loopW AP.f64L0 (restr [(0, .pobj c.s 0), (1, I many), (9, bookV cl), (10, av)] [0, 1, 9, 10]) h = some (.normal, [(0, .pobj c.s 0), (1, I many), (9, bookV cl), (10, v')], h3) := by
        have bs : ∀ (e : Env), look e 57 = .int .i64 n → birth e (.bslice 1 1 [.int .i64 0] [(0, .t 57)]) = some ([.int .i64 n], fun i => .sobj i 0 1 1) := by
          intro e q
          simp only [birth, List.map_cons, List.map_nil, ev_t', q]; rfl
        simp only [I] at *
        simp only [AP.f64L0, go_sem, abin_shl, abin_shr, Nat.reduceEqDiff, reduceIte, Nat.reduceAdd, Nat.reduceMul, Nat.reduceLT, Nat.reduceLeDiff, Int.reduceBEq, Int.reduceBNe, Int.reduceLT, Int.reduceLE, Int.reduceEq, ln, decide_eq_true c1, gs, he, s1, r1]
        rw [bs _ rfl]
        simp only [go_sem, abin_shl, abin_shr, Nat.reduceEqDiff, reduceIte, Nat.reduceAdd, Nat.reduceMul, Nat.reduceLT, Nat.reduceLeDiff, Int.reduceBEq, Int.reduceBNe, Int.reduceLT, Int.reduceLE, Int.reduceEq, rp, ap1]
      have hacc' : (acc ++ List.replicate times n).length < 80000 := by simp; omega
      cases hz : symA c.text cl 15 1 0 S.at_ with
      | none =>
        rw [hz] at s4
        obtain ⟨s4, s5⟩ := s4
        have hy : y = 256 := s5
        have hag : againS c y acc S1 = ((y, 1), S1) := by rw [againS, if_neg (by omega), if_neg (by omega), if_neg (by omega)]
        have hS2e : S2.e = 700 := by rw [hS2, hag]; exact s4
        dsimp only
        by_cases hlt2 : (acc ++ List.replicate times n).length < many
        · obtain ⟨e', q1, q2, q3, q4⟩ := lens_stop ap3 (bookV cl) many ap2 (.inr ⟨hlt2, by rw [hS2e]; decide⟩)
          exact ⟨e', h3, S2, v', _, Lp_next step q1, q2, q3, q4, ap3, ap4, ap2, by omega, ap5, .inl hS2e⟩
        · obtain ⟨e', q1, q2, q3, q4⟩ := lens_stop ap3 (bookV cl) many ap2 (.inl (by omega))
          exact ⟨e', h3, S2, v', _, Lp_next step q1, q2, q3, q4, ap3, ap4, ap2, by omega, ap5, .inl hS2e⟩
      | some yp =>
        obtain ⟨z, p1⟩ := yp
        rw [hz] at s4
        obtain ⟨s4, s5⟩ := s4
        subst s5 s4
        have zb := symA_bd hz
        have hok := againS_ok (c := c) (S := { S with at_ := p1 }) (y := y) (acc := acc) he
        dsimp only at hok ⊢
        cases ha : againA c.text y acc p1 with
        | none =>
          rw [ha] at hok
          have hS2e : S2.e = 700 := by rw [hS2]; exact hok
          dsimp only
          by_cases hlt2 : (acc ++ List.replicate times n).length < many
          · obtain ⟨e', q1, q2, q3, q4⟩ := lens_stop ap3 (bookV cl) many ap2 (.inr ⟨hlt2, by rw [hS2e]; decide⟩)
            exact ⟨e', h3, S2, v', _, Lp_next step q1, q2, q3, q4, ap3, ap4, ap2, by omega, ap5, .inl hS2e⟩
          · obtain ⟨e', q1, q2, q3, q4⟩ := lens_stop ap3 (bookV cl) many ap2 (.inl (by omega))
            exact ⟨e', h3, S2, v', _, Lp_next step q1, q2, q3, q4, ap3, ap4, ap2, by omega, ap5, .inl hS2e⟩
        | some q =>
          obtain ⟨n2, t2, p2⟩ := q
          rw [ha] at hok
          obtain ⟨hok, hp12⟩ := hok
          rw [hok] at hn htm hS2
          dsimp only at hn htm hS2
          subst hn htm hS2
          obtain ⟨e', h', S', av', acc', q1, q2, q3, q4, q5, q6, q7, q8, q9, q10⟩ := lens_loop h0 cl hcl many hm f (acc ++ List.replicate times n) _ h3 ov v' ap3 he (by dsimp only; omega) ap4 ap2 hacc' ap5 hlo
          exact ⟨e', h', S', av', acc', Lp_next step q1, q2, q3, q4, q5, q6, q7, q8, q9, q10⟩
    · obtain ⟨e', q1, q2, q3, q4⟩ := lens_stop st (bookV cl) many oa (.inl (by omega))
      refine ⟨e', h, S, av, acc, q1, q2, q3, q4, st, fr, oa, by omega, hid, ?_⟩
      rw [lensLoop, if_neg hlt]
      by_cases hgt : many < acc.length
      · rw [if_pos hgt]; exact .inr ⟨he, hgt⟩
      · rw [if_neg hgt]; exact ⟨rfl, rfl, by omega⟩

theorem ownS_at (c : SC) : ∀ (r o : List Int) (S : SS), (ownS c r o S).2.out = S.out
  | [], o, S => rfl
  | s :: r, o, S => by
    rw [ownS, ownS_at c r]
    unfold getS; split
    · rfl
    · unfold failS; split <;> rfl

theorem lengths_c {c : SC} {S : SS} {h : H} {ov : AV} (st : St c S h ov) (he : S.e = 0) (many : Nat) (hm0 : 0 < many) (hm : many ≤ 400) :
    ∃ h' S' av acc, callW AP.A 64 [.pobj c.s 0, I many] h = some (av, h') ∧ St c S' h' ov ∧ Fr c h ov h' ov ∧ Own h' av (ints acc) ∧ (∀ i, av.id? = some i → h.next ≤ i) ∧ match lensA c.text many S.at_ with
      | some (L, p) => S' = { S with at_ := p } ∧ acc = L ∧ L.length = many
      | none => S'.e = 700 := by
  have gs := st.gs
  -- the array
  obtain ⟨a, ha⟩ : ∃ a, a = h.next := ⟨_, rfl⟩
  obtain ⟨g0, hg0⟩ : ∃ g, g = h.alloc (ints (List.replicate 19 0)) := ⟨_, rfl⟩
  have al := st.alloc (ints (List.replicate 19 0))
  rw [← hg0] at al
  have hga : g0.get a = some (ints (List.replicate 19 0)) := by rw [hg0, H.get_alloc, if_pos ha]
  have oc := order_c g0
  obtain ⟨h1, k1, k2, k3⟩ := get_n al.1 4 4 rfl (by omega)
  obtain ⟨G, hG⟩ : ∃ G, G = (getS c 4 S).1 := ⟨_, rfl⟩
  obtain ⟨S1, hS1⟩ : ∃ G, G = (getS c 4 S).2 := ⟨_, rfl⟩
  rw [← hG] at k1; rw [← hS1] at k2
  have hG16 : G < 16 := by
    rw [hG]; unfold getS; split
    · simpa using valAt_lt c.text S.at_ 4
    · simp
  have w1 : IntKind.wrap .i64 ((G : Int) + 4) = ((G + 4 : Nat) : Int) := wrap_nat64 (n := G + 4) (by omega)
  obtain ⟨x, hx⟩ : ∃ x, x = AV.simm false (ints orderL) 0 (G + 4) 1 := ⟨_, rfl⟩
  have sl : asl h1 1 (immI orderL) none (some (I (G + 4 : Nat))) none = some x := by
    rw [hx]; exact asl_imm_hi (by rw [ints_length]) (by show G + 4 ≤ 19; omega)
  have xl : alen false x = some (I (G + 4 : Nat)) := by rw [hx]; rfl
  obtain ⟨xs, hxs⟩ : ∃ xs, xs = orderL.take (G + 4) := ⟨_, rfl⟩
  have hol : orderL.length = 19 := rfl
  have hxsl : xs.length = G + 4 := by rw [hxs, List.length_take, hol]; omega
  have rdx : Rd h1 x (ints xs) := by
    refine ⟨?_, by rw [hx]; intro s e; cases e⟩
    have ht : (ints orderL).take (G + 4) = ints xs := by rw [hxs]; simp [ints, List.map_take]
    simp only [srcCells, hx, if_true]
    rw [if_pos (by rw [ints_length, hol]; omega), List.drop_zero, Nat.mul_one, ht]; simp [hxsl]
  have hac : a ≠ c.s ∧ a ≠ c.r := ⟨fun e => by have := st.lt (.inl e); omega, fun e => by have := st.lt (.inr (.inl e)); omega⟩
  have hoa : ov.id? ≠ some a := fun e => by have := st.lt (.inr (.inr e)); omega
  have hga1 : h1.get a = some (ints (List.replicate 19 0)) := by rw [k3.oth a (g0.lt _ _ hga) hac.1 hac.2 hoa]; exact hga
  have hfa : h1.floor ≤ a := by rw [k3.fl, hg0, ha]; simp; exact st.nx
  obtain ⟨e2, h2, l1, l2, l3, l4, l5, l6, l7, l8, l9⟩ := own_loop (c := c) a x xs (fun s hs => order_mem s (List.mem_of_mem_take (hxs ▸ hs))) (by omega) hac (I many) xs [] (List.replicate 19 0) S1 h1 ov rfl rdx (by rw [hx]; intro i e; cases e) k2 hoa hga1 (by simp) hfa
  obtain ⟨cl, hcl⟩ : ∃ cl, cl = (ownS c xs (List.replicate 19 0) S1).1 := ⟨_, rfl⟩
  obtain ⟨S2, hS2⟩ : ∃ cl, cl = (ownS c xs (List.replicate 19 0) S1).2 := ⟨_, rfl⟩
  rw [← hS2] at l5; rw [← hcl] at l6
  have hcll : cl.length = 19 := by rw [hcl, ownS_len]; simp
  have hclb : ∀ y ∈ cl, 0 ≤ y ∧ y < 16 := by
    rw [hcl]; refine ownS_bd c _ _ _ fun y hy => ?_
    obtain ⟨_, rfl⟩ := List.mem_replicate.1 hy; omega
  rw [hxsl] at l1
  have l1' : Lp AP.A [0, 1, 5, 18, 19, 20] AP.f64L1 [(0, .pobj c.s 0), (1, I many), (5, .pobj a 0), (18, x), (19, I (G + 4 : Nat)), (20, I 0)] h1 = some (.exit 0, e2, h2) := l1
  clear l1
  have fr2 : Fr c h ov h2 ov := by
    refine ⟨by rw [l7, k3.fl, al.2.fl], ?_, fun id i1 i2 i3 i4 => ?_, fun i hi => .inl hi⟩
    · have := al.2.nx; have := k3.nx; omega
    · have hn0 : g0.next = h.next + 1 := by rw [hg0]; simp
      have := k3.nx
      rw [l9 id (by omega) i2 i3 i4 (by omega), k3.oth id (by omega) i2 i3 i4, al.2.oth id i1 i2 i3 i4]
  have sla : asla h2 19 1 (.pobj a 0) none none = some (.sobj a 0 19 1) := by
    simp [asla, l6, osbound, hcll]
  have rdc : Rd h2 (.sobj a 0 19 1) (ints cl) := by
    refine ⟨?_, by intro s e; cases e⟩
    simp [srcCells, l6, hcll, List.take_of_length_le]
  have ck := check_c h2 (.sobj a 0 19 1) cl (by omega) rdc
  have mk := make_c h2 (.sobj a 0 19 1) cl (by omega) hclb rdc
  -- what the header comes to
  have hhead : (checkS cl = 0 ∧ S2.e = 0 ∧ S.at_ + 4 ≤ 8 * c.text.size ∧ S.at_ + 4 + 3 * (valAt c.text S.at_ 4 + 4) ≤ 8 * c.text.size ∧ cl = ownL c.text (orderL.take (valAt c.text S.at_ 4 + 4)) (S.at_ + 4) (List.replicate 19 0) ∧ S2 = { S with at_ := S.at_ + 4 + 3 * (valAt c.text S.at_ 4 + 4) }) ∨ ((checkS cl ≠ 0 ∨ S2.e ≠ 0) ∧ (S2.e = 0 ∨ S2.e = 700) ∧ lensA c.text many S.at_ = none) := by
    by_cases hp : S.at_ + 4 ≤ 8 * c.text.size
    · have eg : getS c 4 S = (valAt c.text S.at_ 4, { S with at_ := S.at_ + 4 }) := by rw [getS, if_pos hp]
      rw [eg] at hG hS1; dsimp only at hG hS1
      subst hS1
      by_cases hp2 : S.at_ + 4 + 3 * (valAt c.text S.at_ 4 + 4) ≤ 8 * c.text.size
      · have ok := ownS_ok c xs (List.replicate 19 0) { S with at_ := S.at_ + 4 } he (by dsimp only; omega)
        rw [ok] at hcl hS2
        dsimp only at hcl hS2
        rw [hxsl, hG] at hS2
        rw [hxs, hG] at hcl
        by_cases hck : checkS cl = 0
        · exact .inl ⟨hck, by rw [hS2]; exact he, hp, hp2, hcl, hS2⟩
        · refine .inr ⟨.inl hck, .inl (by rw [hS2]; exact he), ?_⟩
          rw [lensA, if_pos hp]; dsimp only; rw [if_pos hp2, ← hcl, if_neg hck]
      · have hb := ownS_bad c xs (List.replicate 19 0) { S with at_ := S.at_ + 4 } he (by dsimp only; omega) (by dsimp only; omega)
        rw [← hS2] at hb
        refine .inr ⟨.inr (by rw [hb]; decide), .inr hb, ?_⟩
        rw [lensA, if_pos hp]; dsimp only; rw [if_neg hp2]
    · have eg : getS c 4 S = (0, { S with e := 700 }) := by rw [getS, if_neg hp, failS, if_pos he]
      rw [eg] at hS1; dsimp only at hS1
      have hb := ownS_e7 c xs (List.replicate 19 0) S1 (by rw [hS1])
      rw [← hS2] at hb
      exact .inr ⟨.inr (by rw [hb]; decide), .inr hb, by rw [lensA, if_neg hp]⟩
  -- the rest
  have hbk : ∀ (h3 : H) (S3 : SS), St c S3 h3 ov → Fr c h ov h3 ov → callW AP.A 41 [.sobj a 0 19 1] h3 = some (bookV cl, h3) → asla h3 19 1 (.pobj a 0) none none = some (.sobj a 0 19 1) →
      (evC (callW AP.A) loopW (.cond (.t 31) (.reg [⟨some 32, .mv (.t 0), none⟩, ⟨some 33, .call (.c (.fn 45 [] [])) [(.t 32), (.c (.int .i64 700))], none⟩] [0, 1, 5]) .skip [0, 1, 5]) [(0, .pobj c.s 0), (1, I many), (5, .pobj a 0), (31, .bool (checkS cl != 0))] h2 = some (.normal, [(0, .pobj c.s 0), (1, I many), (5, .pobj a 0)], h3)) →
      ∀ (e4 : Env) (h4 : H) (av : AV) (acc : List Int) (h5 : H), Lp AP.A [0, 1, 9, 10] AP.f64L0 [(0, .pobj c.s 0), (1, I many), (9, bookV cl), (10, .nils)] h3 = some (.exit 2, e4, h4) → look e4 0 = .pobj c.s 0 → look e4 1 = I many → look e4 10 = av → alen false av = some (I acc.length) →
      (many < acc.length → callW AP.A 45 [.pobj c.s 0, I 700] h4 = some (.tup [], h5)) → (¬ many < acc.length → h5 = h4) → callW AP.A 64 [.pobj c.s 0, I many] h = some (av, h5) := by
    intro h3 S3 st3 fr3 mk3 sla3 cnd e4 h4 av acc h5 m1 m2 m3 m4 m5 m6 m7
    refine plain_c (fn := AP.f64) (e := [(4, av)]) (vs := [av]) rfl rfl rfl ?_ rfl
    have bt : ∀ e : Env, birth e (.alloc [.int .i64 0, .int .i64 0, .int .i64 0, .int .i64 0, .int .i64 0, .int .i64 0, .int .i64 0, .int .i64 0, .int .i64 0, .int .i64 0, .int .i64 0, .int .i64 0, .int .i64 0, .int .i64 0, .int .i64 0, .int .i64 0, .int .i64 0, .int .i64 0, .int .i64 0]) = some (ints (List.replicate 19 0), fun i => .pobj i 0) := fun _ => rfl
    unfold AP.f64
    refine seq_n (e1 := [(0, .pobj c.s 0), (1, I many)]) (h1 := h) rfl ?_
    refine seq_n (e1 := [(0, .pobj c.s 0), (1, I many), (5, .pobj a 0)]) (h1 := g0) ?_ ?_
    · simp only [go_sem, abin_shl, abin_shr, Nat.reduceEqDiff, reduceIte, Nat.reduceAdd, Nat.reduceMul, Nat.reduceLT, Nat.reduceLeDiff, Int.reduceBEq, Int.reduceBNe, Int.reduceLT, Int.reduceLE, Int.reduceEq, bt, ← hg0, ← ha]
    refine seq_n (e1 := [(0, .pobj c.s 0), (1, I many), (5, .pobj a 0), (6, immI orderL)]) (h1 := g0) ?_ ?_
    · simp only [go_sem, abin_shl, abin_shr, Nat.reduceEqDiff, reduceIte, Nat.reduceAdd, Nat.reduceMul, Nat.reduceLT, Nat.reduceLeDiff, Int.reduceBEq, Int.reduceBNe, Int.reduceLT, Int.reduceLE, Int.reduceEq, oc]
    refine seq_n (e1 := [(0, .pobj c.s 0), (1, I many), (5, .pobj a 0)]) (h1 := h2) ?_ ?_
    · clear bt
      simp only [I] at *
      simp only [go_sem, abin_shl, abin_shr, Nat.reduceEqDiff, reduceIte, Nat.reduceAdd, Nat.reduceMul, Nat.reduceLT, Nat.reduceLeDiff, Int.reduceBEq, Int.reduceBNe, Int.reduceLT, Int.reduceLE, Int.reduceEq, k1, w1, Option.map_some, Option.map_none, sl, xl, evC_loop, l1', l2, l3, l4]
    refine seq_n (e1 := [(0, .pobj c.s 0), (1, I many), (5, .pobj a 0)]) (h1 := h3) ?_ ?_
    · refine seq_n (e1 := [(0, .pobj c.s 0), (1, I many), (5, .pobj a 0), (31, .bool (checkS cl != 0))]) (h1 := h2) ?_ cnd
      simp only [I] at *
      simp only [go_sem, abin_shl, abin_shr, Nat.reduceEqDiff, reduceIte, Nat.reduceAdd, Nat.reduceMul, Nat.reduceLT, Nat.reduceLeDiff, Int.reduceBEq, Int.reduceBNe, Int.reduceLT, Int.reduceLE, Int.reduceEq, Option.map_none, sla, ck]
    refine seq_n (e1 := [(0, .pobj c.s 0), (1, I many), (9, bookV cl)]) (h1 := h3) ?_ ?_
    · simp only [go_sem, abin_shl, abin_shr, Nat.reduceEqDiff, reduceIte, Nat.reduceAdd, Nat.reduceMul, Nat.reduceLT, Nat.reduceLeDiff, Int.reduceBEq, Int.reduceBNe, Int.reduceLT, Int.reduceLE, Int.reduceEq, Option.map_none, sla3, mk3]
    refine seq_n (e1 := [(0, .pobj c.s 0), (1, I many), (9, bookV cl), (10, .nils)]) (h1 := h3) rfl ?_
    refine seq_n (e1 := [(0, .pobj c.s 0), (1, I many), (10, av)]) (h1 := h4) ?_ ?_
    · simp only [go_sem, abin_shl, abin_shr, Nat.reduceEqDiff, reduceIte, Nat.reduceAdd, Nat.reduceMul, Nat.reduceLT, Nat.reduceLeDiff, Int.reduceBEq, Int.reduceBNe, Int.reduceLT, Int.reduceLE, Int.reduceEq, evC_loop, m1, m2, m3, m4]
    refine seq_n (e1 := [(10, av)]) (h1 := h5) ?_ ?_
    · by_cases hgt : many < acc.length
      · have c1 : (many : Int) < (acc.length : Int) := by omega
        have m6' := m6 hgt
        clear m6 m7
        simp only [I] at *
        simp only [go_sem, abin_shl, abin_shr, Nat.reduceEqDiff, reduceIte, Nat.reduceAdd, Nat.reduceMul, Nat.reduceLT, Nat.reduceLeDiff, Int.reduceBEq, Int.reduceBNe, Int.reduceLT, Int.reduceLE, Int.reduceEq, m5, decide_eq_true c1, m6']
      · have c1 : ¬ (many : Int) < (acc.length : Int) := by omega
        have m7' := m7 hgt
        subst m7'
        clear m6 m7
        simp only [I] at *
        simp only [go_sem, abin_shl, abin_shr, Nat.reduceEqDiff, reduceIte, Nat.reduceAdd, Nat.reduceMul, Nat.reduceLT, Nat.reduceLeDiff, Int.reduceBEq, Int.reduceBNe, Int.reduceLT, Int.reduceLE, Int.reduceEq, m5, decide_eq_false c1]
    simp only [go_sem, abin_shl, abin_shr, Nat.reduceEqDiff, reduceIte, Nat.reduceAdd, Nat.reduceMul, Nat.reduceLT, Nat.reduceLeDiff, Int.reduceBEq, Int.reduceBNe, Int.reduceLT, Int.reduceLE, Int.reduceEq]
  rcases hhead with ⟨hck, he2, hp, hp2, hcl2, hS22⟩ | ⟨hbad, he2, hnone⟩
  · have hlen0 : lensA c.text many S.at_ = lensLoop c.text cl many (8 * c.text.size + 1) [] S2.at_ := by
      rw [lensA, if_pos hp]; dsimp only; rw [if_pos hp2, ← hcl2, if_pos hck, hS22]
    have cnd : evC (callW AP.A) loopW (.cond (.t 31) (.reg [⟨some 32, .mv (.t 0), none⟩, ⟨some 33, .call (.c (.fn 45 [] [])) [(.t 32), (.c (.int .i64 700))], none⟩] [0, 1, 5]) .skip [0, 1, 5]) [(0, .pobj c.s 0), (1, I many), (5, .pobj a 0), (31, .bool (checkS cl != 0))] h2 = some (.normal, [(0, .pobj c.s 0), (1, I many), (5, .pobj a 0)], h2) := by
      have cb : (checkS cl != 0) = false := bne_f hck
      simp only [go_sem, abin_shl, abin_shr, Nat.reduceEqDiff, reduceIte, Nat.reduceAdd, Nat.reduceMul, Nat.reduceLT, Nat.reduceLeDiff, Int.reduceBEq, Int.reduceBNe, Int.reduceLT, Int.reduceLE, Int.reduceEq, cb]
    obtain ⟨e4, h4, S4, av, acc, m1, m2, m3, m4, m5, m6, m7, m8, m9, m10⟩ := lens_loop h cl (by omega) many hm (8 * c.text.size + 1) [] S2 h2 ov .nils l5 he2 (by omega) fr2 (.inl ⟨rfl, rfl⟩) (by simp) (fun i q => by cases q) (fun i hi => st.lt hi)
    have ln := m7.len
    rw [ints_length] at ln
    rw [hlen0]
    cases hL : lensLoop c.text cl many (8 * c.text.size + 1) [] S2.at_ with
    | some q =>
      obtain ⟨L, p⟩ := q
      rw [hL] at m10
      obtain ⟨n1, n2, n3⟩ := m10
      have hng : ¬ many < acc.length := by rw [n2]; omega
      refine ⟨h4, S4, av, acc, hbk h2 S2 l5 fr2 mk sla cnd e4 h4 av acc h4 m1 m2 m3 m4 ln (fun q => absurd q hng) (fun _ => rfl), m5, m6, m7, m9, ?_, n2, n3⟩
      rw [n1, hS22]
    | none =>
      rw [hL] at m10
      dsimp only at m10 ⊢
      by_cases hgt : many < acc.length
      · obtain ⟨h5, f1, f2, f3⟩ := fails_c m5 700
        refine ⟨h5, failS 700 S4, av, acc, hbk h2 S2 l5 fr2 mk sla cnd e4 h4 av acc h5 m1 m2 m3 m4 ln (fun _ => f1) (fun q => absurd hgt q), f2, m6.trans f3, ?_, m9, ?_⟩
        · refine m7.mono f3.fl fun i hi => f3.oth i (m7.lt hi) (fun e => ?_) (fun e => ?_) (fun e => ?_)
          · have := m9 i hi; have := st.lt (.inl e); omega
          · have := m9 i hi; have := st.lt (.inr (.inl e)); omega
          · have := m9 i hi; have := st.lt (.inr (.inr e)); omega
        · rcases m10 with q | ⟨q, _⟩ <;> simp [failS, q]
      · refine ⟨h4, S4, av, acc, hbk h2 S2 l5 fr2 mk sla cnd e4 h4 av acc h4 m1 m2 m3 m4 ln (fun q => absurd q hgt) (fun _ => rfl), m5, m6, m7, m9, ?_⟩
        rcases m10 with q | ⟨_, q⟩
        · exact q
        · exact absurd q hgt
  · rw [hnone]
    have key : ∃ h3 S3, St c S3 h3 ov ∧ Fr c h ov h3 ov ∧ S3.e = 700 ∧ h3.get a = some (ints cl) ∧ evC (callW AP.A) loopW (.cond (.t 31) (.reg [⟨some 32, .mv (.t 0), none⟩, ⟨some 33, .call (.c (.fn 45 [] [])) [(.t 32), (.c (.int .i64 700))], none⟩] [0, 1, 5]) .skip [0, 1, 5]) [(0, .pobj c.s 0), (1, I many), (5, .pobj a 0), (31, .bool (checkS cl != 0))] h2 = some (.normal, [(0, .pobj c.s 0), (1, I many), (5, .pobj a 0)], h3) := by
      by_cases hck : checkS cl = 0
      · have hb : S2.e ≠ 0 := by rcases hbad with q | q; exact absurd hck q; exact q
        refine ⟨h2, S2, l5, fr2, by rcases he2 with q | q; exact absurd q hb; exact q, l6, ?_⟩
        have cb : (checkS cl != 0) = false := bne_f hck
        simp only [go_sem, abin_shl, abin_shr, Nat.reduceEqDiff, reduceIte, Nat.reduceAdd, Nat.reduceMul, Nat.reduceLT, Nat.reduceLeDiff, Int.reduceBEq, Int.reduceBNe, Int.reduceLT, Int.reduceLE, Int.reduceEq, cb]
      · obtain ⟨h3, f1, f2, f3⟩ := fails_c l5 700
        refine ⟨h3, failS 700 S2, f2, fr2.trans f3, by rcases he2 with q | q <;> simp [failS, q], by rw [f3.oth a (h2.lt _ _ l6) hac.1 hac.2 hoa]; exact l6, ?_⟩
        have cb : (checkS cl != 0) = true := bne_t hck
        simp only [I] at *
        simp only [go_sem, abin_shl, abin_shr, Nat.reduceEqDiff, reduceIte, Nat.reduceAdd, Nat.reduceMul, Nat.reduceLT, Nat.reduceLeDiff, Int.reduceBEq, Int.reduceBNe, Int.reduceLT, Int.reduceLE, Int.reduceEq, cb, f1]
    obtain ⟨h3, S3, st3, fr3, he3, hg3, cnd⟩ := key
    have sla3 : asla h3 19 1 (.pobj a 0) none none = some (.sobj a 0 19 1) := by
      simp [asla, hg3, osbound, hcll]
    have rdc3 : Rd h3 (.sobj a 0 19 1) (ints cl) := by
      refine ⟨?_, by intro s e; cases e⟩
      simp [srcCells, hg3, hcll, List.take_of_length_le]
    have mk3 := make_c h3 (.sobj a 0 19 1) cl (by omega) hclb rdc3
    obtain ⟨e4, m1, m2, m3, m4⟩ := lens_stop st3 (bookV cl) many (av := .nils) (acc := []) (.inl ⟨rfl, rfl⟩) (.inr ⟨by simpa using hm0, by rw [he3]; decide⟩)
    exact ⟨h3, S3, .nils, [], hbk h3 S3 st3 fr3 mk3 sla3 cnd e4 h3 .nils [] h3 m1 m2 m3 m4 rfl (fun q => by simp at q) (fun _ => rfl), st3, fr3, .inl ⟨rfl, rfl⟩, (fun i q => by cases q), he3⟩
end Ab

/- stream.dynamic, stream.block, inflate.Inflate. -/
set_option linter.unusedSimpArgs false
set_option linter.unusedVariables false
namespace Ab
open Go

def okLens (l : List Int) : Prop := ∀ y ∈ l, 0 ≤ y ∧ y < 16
theorem againA_rng {t : ByteArray} {y : Int} {acc : List Int} {n : Int} {q times p2 : Nat} (hy : 0 ≤ y ∧ y < 19) (ha : okLens acc) (h : againA t y acc q = some (n, times, p2)) : 0 ≤ n ∧ n < 16 := by
  unfold againA at h
  split at h
  · split at h
    · cases h
    · rename_i hn
      split at h
      · have := congrArg (fun o => o.map (·.1)) h
        simp only [Option.map_some, Option.some.injEq] at this
        rw [← this]
        have hl : 0 < acc.length := List.length_pos_iff.2 hn
        refine ha _ ?_
        rw [List.getD_eq_getElem?_getD, List.getElem?_eq_getElem (by omega)]
        exact List.getElem_mem _
      · cases h
  · split at h
    · split at h
      · have := congrArg (fun o => o.map (·.1)) h
        simp only [Option.map_some, Option.some.injEq] at this; omega
      · cases h
    · split at h
      · split at h
        · have := congrArg (fun o => o.map (·.1)) h
          simp only [Option.map_some, Option.some.injEq] at this; omega
        · cases h
      · have := congrArg (fun o => o.map (·.1)) h
        simp only [Option.map_some, Option.some.injEq] at this; omega
theorem lensLoop_rng {t : ByteArray} {cl : List Int} (hcl : cl.length = 19) {many : Nat} : ∀ {f : Nat} {acc : List Int} {p : Nat} {L : List Int} {p2 : Nat}, okLens acc → lensLoop t cl many f acc p = some (L, p2) → okLens L
  | 0, _, _, _, _, _, h => by cases h
  | f + 1, acc, p, L, p2, ha, h => by
    rw [lensLoop] at h
    split at h
    · split at h
      · cases h
      · rename_i y p1 hs
        have sb := symA_bd hs
        split at h
        · cases h
        · rename_i n times q hag
          have hr := againA_rng ⟨sb.1, by omega⟩ ha hag
          exact lensLoop_rng hcl (fun y hy => by
            rcases List.mem_append.1 hy with hy | hy
            · exact ha y hy
            · obtain ⟨_, rfl⟩ := List.mem_replicate.1 hy; exact hr) h
    · split at h
      · cases h
      · have := congrArg (fun o => o.map (·.1)) h
        simp only [Option.map_some, Option.some.injEq] at this; rw [← this]; exact ha
theorem ownL_len (t : ByteArray) : ∀ (r : List Int) (p : Nat) (o : List Int), (ownL t r p o).length = o.length
  | [], _, _ => rfl
  | s :: r, p, o => by rw [ownL, ownL_len t r]; simp
theorem lensA_rng {t : ByteArray} {many p : Nat} {L : List Int} {p2 : Nat} (h : lensA t many p = some (L, p2)) : okLens L := by
  unfold lensA at h
  split at h
  · dsimp only at h
    split at h
    · split at h
      · exact lensLoop_rng (by rw [ownL_len]; simp) (fun y hy => by cases hy) h
      · cases h
    · cases h
  · cases h

/-- A dynamic block, behind its three bits. -/
def dynA (t : ByteArray) (most : Int) (p : Nat) (out : List Nat) : Rs :=
  if p + 10 ≤ 8 * t.size then
    let lits := valAt t p 5 + 257
    let dists := valAt t (p + 5) 5 + 1
    if 286 < lits ∨ 30 < dists then .error 700 else
    match lensA t (lits + dists) (p + 10) with
    | none => .error 700
    | some (L, p2) =>
      if checkS (L.take lits) ≠ 0 ∨ (L.take lits).getD 256 0 = 0 ∨ (checkS (L.drop lits) ≠ 0 ∧ singleS (L.drop lits) = false) then .error 700
      else codedA t most (L.take lits) (L.drop lits) (8 * t.size + 1) p2 out
  else .error 700

theorem dynamic_c {c : SC} {S : SS} {h : H} {ov : AV} (st : St c S h ov) (he : S.e = 0) :
    ∃ h' ov' S', callW AP.A 44 [.pobj c.s 0] h = some (.tup [], h') ∧ St c S' h' ov' ∧ Fr c h ov h' ov' ∧ Fin (dynA c.text c.most S.at_ S.out) S' := by
  obtain ⟨h1, a1, a2, a3⟩ := get_n st 5 5 rfl (by omega)
  obtain ⟨h2, b1, b2, b3⟩ := get_n a2 5 5 rfl (by omega)
  obtain ⟨A, hA⟩ : ∃ n, n = (getS c 5 S).1 := ⟨_, rfl⟩
  obtain ⟨S1, hS1⟩ : ∃ n, n = (getS c 5 S).2 := ⟨_, rfl⟩
  rw [← hA] at a1; rw [← hS1] at a2 b1 b2
  obtain ⟨B, hB⟩ : ∃ n, n = (getS c 5 S1).1 := ⟨_, rfl⟩
  obtain ⟨S2, hS2⟩ : ∃ n, n = (getS c 5 S1).2 := ⟨_, rfl⟩
  rw [← hB] at b1; rw [← hS2] at b2
  have g5 : ∀ S, (getS c 5 S).1 < 32 := fun S => by
    unfold getS; split
    · simpa using valAt_lt c.text S.at_ 5
    · simp
  have hA32 : A < 32 := hA ▸ g5 S
  have hB32 : B < 32 := hB ▸ g5 S1
  have w1 : IntKind.wrap .i64 ((A : Int) + 257) = ((A + 257 : Nat) : Int) := wrap_nat64 (n := A + 257) (by omega)
  have w2 : IntKind.wrap .i64 ((B : Int) + 1) = ((B + 1 : Nat) : Int) := wrap_nat64 (n := B + 1) (by omega)
  have gs2 := b2.gs
  have he2 : S2.e = 0 ∨ S2.e = 700 := by rw [hS2]; exact getS_e c 5 _ (by rw [hS1]; exact getS_e c 5 S (.inl he))
  have fr2 := a3.trans b3
  -- what is told wrong at once
  have bad : (S2.e ≠ 0 ∨ 286 < A + 257 ∨ 30 < B + 1) → ∃ h' ov' S', callW AP.A 44 [.pobj c.s 0] h = some (.tup [], h') ∧ St c S' h' ov' ∧ Fr c h ov h' ov' ∧ S'.e = 700 ∧ (700 : Int) ≠ 0 := by
    intro hb
    obtain ⟨h3, f1, f2, f3⟩ := fails_c b2 700
    refine ⟨h3, ov, failS 700 S2, ?_, f2, fr2.trans f3, by rcases he2 with q | q <;> simp [failS, q], by decide⟩
    refine plain_c (fn := AP.f44) (e := []) (vs := []) rfl rfl rfl ?_ rfl
    by_cases c1 : S2.e = 0
    · have c1' := bne_f c1
      by_cases c2 : 286 < A + 257
      · have c2' : (286 : Int) < ((A + 257 : Nat) : Int) := by omega
        simp only [I] at *
        simp only [AP.f44, go_sem, abin_shl, abin_shr, Nat.reduceEqDiff, reduceIte, Nat.reduceAdd, Nat.reduceMul, Nat.reduceLT, Nat.reduceLeDiff, Int.reduceBEq, Int.reduceBNe, Int.reduceLT, Int.reduceLE, Int.reduceEq, a1, b1, w1, w2, gs2, c1', decide_eq_true c2', f1]
      · have c2' : ¬ (286 : Int) < ((A + 257 : Nat) : Int) := by omega
        have c3' : (30 : Int) < ((B + 1 : Nat) : Int) := by
          rcases hb with q | q | q
          · exact absurd c1 q
          · exact absurd q c2
          · omega
        simp only [I] at *
        simp only [AP.f44, go_sem, abin_shl, abin_shr, Nat.reduceEqDiff, reduceIte, Nat.reduceAdd, Nat.reduceMul, Nat.reduceLT, Nat.reduceLeDiff, Int.reduceBEq, Int.reduceBNe, Int.reduceLT, Int.reduceLE, Int.reduceEq, a1, b1, w1, w2, gs2, c1', decide_eq_false c2', decide_eq_true c3', f1]
    · have c1' := bne_t c1
      simp only [I] at *
      simp only [AP.f44, go_sem, abin_shl, abin_shr, Nat.reduceEqDiff, reduceIte, Nat.reduceAdd, Nat.reduceMul, Nat.reduceLT, Nat.reduceLeDiff, Int.reduceBEq, Int.reduceBNe, Int.reduceLT, Int.reduceLE, Int.reduceEq, a1, b1, w1, w2, gs2, c1', f1]
  unfold dynA
  by_cases hp : S.at_ + 10 ≤ 8 * c.text.size
  · have e1 : getS c 5 S = (valAt c.text S.at_ 5, { S with at_ := S.at_ + 5 }) := by rw [getS, if_pos (by omega)]
    rw [e1] at hA hS1; dsimp only at hA hS1
    have e2 : getS c 5 { S with at_ := S.at_ + 5 } = (valAt c.text (S.at_ + 5) 5, { S with at_ := S.at_ + 5 + 5 }) := by rw [getS, if_pos (by show S.at_ + 5 + 5 ≤ _; omega)]
    rw [hS1, e2] at hB hS2; dsimp only at hB hS2
    rw [if_pos hp]
    dsimp only
    rw [← hA, ← hB]
    by_cases hbig : 286 < A + 257 ∨ 30 < B + 1
    · rw [if_pos hbig]; exact bad (.inr hbig)
    · rw [if_neg hbig]
      have c1' : (S2.e != 0) = false := bne_f (by rw [hS2]; exact he)
      have c2' : ¬ (286 : Int) < ((A + 257 : Nat) : Int) := by omega
      have c3' : ¬ (30 : Int) < ((B + 1 : Nat) : Int) := by omega
      have w3 : IntKind.wrap .i64 (((A + 257 : Nat) : Int) + ((B + 1 : Nat) : Int)) = ((A + 257 + (B + 1) : Nat) : Int) := by
        rw [show ((A + 257 : Nat) : Int) + ((B + 1 : Nat) : Int) = ((A + 257 + (B + 1) : Nat) : Int) by omega]; exact wrap_nat64 (by omega)
      obtain ⟨h3, S3, av, acc, l1, l2, l3, l4, l5, l6⟩ := lengths_c b2 (by rw [hS2]; exact he) (A + 257 + (B + 1)) (by omega) (by omega)
      have gs3 := l2.gs
      have hat2 : S2.at_ = S.at_ + 10 := by rw [hS2]
      rw [hat2] at l6
      cases hL : lensA c.text (A + 257 + (B + 1)) (S.at_ + 10) with
      | none =>
        rw [hL] at l6
        have c4 : (S3.e != 0) = true := bne_t (by rw [l6]; decide)
        refine ⟨h3, ov, S3, ?_, l2, fr2.trans l3, l6, by decide⟩
        refine plain_c (fn := AP.f44) (e := [(0, .pobj c.s 0), (2, I (A + 257 : Nat)), (4, av), (37, .bool true)]) (vs := []) rfl rfl rfl ?_ rfl
        simp only [I] at *
        simp only [AP.f44, go_sem, abin_shl, abin_shr, Nat.reduceEqDiff, reduceIte, Nat.reduceAdd, Nat.reduceMul, Nat.reduceLT, Nat.reduceLeDiff, Int.reduceBEq, Int.reduceBNe, Int.reduceLT, Int.reduceLE, Int.reduceEq, a1, b1, w1, w2, gs2, c1', decide_eq_false c2', decide_eq_false c3', w3, l1, gs3, c4]
      | some q =>
        obtain ⟨L, p2⟩ := q
        rw [hL] at l6
        obtain ⟨l6, l7, l8⟩ := l6
        subst l7
        have hrng := lensA_rng hL
        dsimp only
        have he3 : S3.e = 0 := by rw [l6, hS2]; exact he
        have c4 : (S3.e != 0) = false := bne_f he3
        obtain ⟨id, hav, hgid⟩ : ∃ id, av = .sobj id 0 (A + 257 + (B + 1)) 1 ∧ h3.get id = some (ints acc) := by
          rcases l4 with ⟨_, q⟩ | ⟨id, q1, q2, _⟩
          · have := congrArg List.length q; rw [ints_length, l8, List.length_nil] at this; omega
          · exact ⟨id, by rw [q1, ints_length, l8], q2⟩
        have hil : (ints acc).length = A + 257 + (B + 1) := by rw [ints_length, l8]
        have s1 := asl_hi (h := h3) (k := A + 257) hgid hil (Nat.le_refl _) (by omega)
        have s2 := asl_lo (h := h3) (k := A + 257) hgid hil (by omega)
        rw [show A + 257 + (B + 1) - (A + 257) = B + 1 by omega] at s2
        rw [← hav] at s1 s2
        obtain ⟨la, hla⟩ : ∃ x, x = acc.take (A + 257) := ⟨_, rfl⟩
        obtain ⟨lb, hlb⟩ : ∃ x, x = acc.drop (A + 257) := ⟨_, rfl⟩
        have hlal : la.length = A + 257 := by rw [hla, List.length_take]; omega
        have hlbl : lb.length = B + 1 := by rw [hlb, List.length_drop]; omega
        have ra : Rd h3 (.sobj id 0 (A + 257) 1) (ints la) := by
          refine ⟨?_, by intro s e; cases e⟩
          simp only [srcCells, if_true, hgid, Option.bind_some]
          rw [if_pos (by rw [hil]; omega), hla]; simp [ints, List.map_take]; omega
        have rb : Rd h3 (.sobj id (A + 257) (B + 1) 1) (ints lb) := by
          refine ⟨?_, by intro s e; cases e⟩
          simp only [srcCells, if_true, hgid, Option.bind_some]
          rw [if_pos (by rw [hil]; omega), hlb]
          have : (ints (acc.drop (A + 257))).length = B + 1 := by rw [ints_length, ← hlb, hlbl]
          rw [this, ints, ints, ← List.map_drop, Nat.mul_one, List.take_of_length_le (by rw [List.length_map, ← hlb, hlbl]; omega)]
        rw [← hla, ← hlb]
        have cka := check_c h3 _ la (by omega) ra
        have ckb := check_c h3 _ lb (by omega) rb
        have hra : okLens la := fun y hy => hrng y (List.mem_of_mem_take (hla ▸ hy))
        have hrb : okLens lb := fun y hy => hrng y (List.mem_of_mem_drop (hlb ▸ hy))
        have sgb := single_c h3 _ lb (by omega) hrb rb
        have mka := make_c h3 _ la (by omega) hra ra
        have mkb := make_c h3 _ lb (by omega) hrb rb
        have hel := ints_getD (l := la) (i := 256) (by omega)
        obtain ⟨ad, p1, p2'⟩ := ra.elem hel
        have p3 := p2' h3 (fun _ _ q => q)
        have p1' : aiadr 1 (.sobj id 0 (A + 257) 1) (I 256) = some ad := p1
        clear p1 p2'
        obtain ⟨cb, hcb⟩ : ∃ b : Bool, (b = true ↔ checkS la ≠ 0 ∨ la.getD 256 0 = 0 ∨ (checkS lb ≠ 0 ∧ singleS lb = false)) := ⟨decide _, decide_eq_true_iff⟩
        have step : ∀ k, evC (callW AP.A) loopW k [(0, .pobj c.s 0), (2, I (A + 257 : Nat)), (4, av)] h3 = evC (callW AP.A) loopW k [(0, .pobj c.s 0), (2, I (A + 257 : Nat)), (4, av)] h3 := fun _ => rfl
        by_cases hbad : checkS la ≠ 0 ∨ la.getD 256 0 = 0 ∨ (checkS lb ≠ 0 ∧ singleS lb = false)
        · rw [if_pos hbad]
          obtain ⟨h4, f1, f2, f3⟩ := fails_c l2 700
          refine ⟨h4, ov, failS 700 S3, ?_, f2, (fr2.trans l3).trans f3, by simp [failS, he3], by decide⟩
          refine plain_c (fn := AP.f44) (e := []) (vs := []) rfl rfl rfl ?_ rfl
          by_cases d1 : checkS la = 0
          · have d1' := bne_f d1
            by_cases d2 : la.getD 256 0 = 0
            · have d2' := beq_t d2
              simp only [I] at *
              simp only [AP.f44, go_sem, abin_shl, abin_shr, Nat.reduceEqDiff, reduceIte, Nat.reduceAdd, Nat.reduceMul, Nat.reduceLT, Nat.reduceLeDiff, Int.reduceBEq, Int.reduceBNe, Int.reduceLT, Int.reduceLE, Int.reduceEq, a1, b1, w1, w2, gs2, c1', decide_eq_false c2', decide_eq_false c3', w3, l1, gs3, c4, Option.map_some, Option.map_none, s1, s2, cka, d1', p1', p3, d2', f1]
            · have d2' := beq_f d2
              obtain ⟨d3, d4⟩ : checkS lb ≠ 0 ∧ singleS lb = false := by
                rcases hbad with q | q | q
                · exact absurd d1 q
                · exact absurd q d2
                · exact q
              have d3' := bne_t d3
              rw [d4] at sgb
              simp only [I] at *
              simp only [AP.f44, go_sem, abin_shl, abin_shr, Nat.reduceEqDiff, reduceIte, Nat.reduceAdd, Nat.reduceMul, Nat.reduceLT, Nat.reduceLeDiff, Int.reduceBEq, Int.reduceBNe, Int.reduceLT, Int.reduceLE, Int.reduceEq, a1, b1, w1, w2, gs2, c1', decide_eq_false c2', decide_eq_false c3', w3, l1, gs3, c4, Option.map_some, Option.map_none, s1, s2, cka, d1', p1', p3, d2', ckb, d3', sgb, f1]
          · have d1' := bne_t d1
            simp only [I] at *
            simp only [AP.f44, go_sem, abin_shl, abin_shr, Nat.reduceEqDiff, reduceIte, Nat.reduceAdd, Nat.reduceMul, Nat.reduceLT, Nat.reduceLeDiff, Int.reduceBEq, Int.reduceBNe, Int.reduceLT, Int.reduceLE, Int.reduceEq, a1, b1, w1, w2, gs2, c1', decide_eq_false c2', decide_eq_false c3', w3, l1, gs3, c4, Option.map_some, Option.map_none, s1, s2, cka, d1', f1]
        · rw [if_neg hbad]
          have d1 : checkS la = 0 := Decidable.byContradiction fun q => hbad (.inl q)
          have d2 : la.getD 256 0 ≠ 0 := fun q => hbad (.inr (.inl q))
          have d1' := bne_f d1
          have d2' := beq_f d2
          obtain ⟨h4, ov4, S4, q1, q2, q3, q4⟩ := coded_c la lb (by omega) (by omega) l2 he3
          refine ⟨h4, ov4, S4, ?_, q2, (fr2.trans l3).trans q3, ?_⟩
          · refine plain_n (fn := AP.f44) (e := []) (vs := []) rfl rfl rfl ?_ rfl
            by_cases d3 : checkS lb = 0
            · have d3' := bne_f d3
              simp only [I] at *
              simp only [AP.f44, go_sem, abin_shl, abin_shr, Nat.reduceEqDiff, reduceIte, Nat.reduceAdd, Nat.reduceMul, Nat.reduceLT, Nat.reduceLeDiff, Int.reduceBEq, Int.reduceBNe, Int.reduceLT, Int.reduceLE, Int.reduceEq, a1, b1, w1, w2, gs2, c1', decide_eq_false c2', decide_eq_false c3', w3, l1, gs3, c4, Option.map_some, Option.map_none, s1, s2, cka, d1', p1', p3, d2', ckb, d3', mka, mkb, q1]
            · have d3' := bne_t d3
              have d4 : singleS lb = true := by
                cases hs : singleS lb with
                | true => rfl
                | false => exact absurd (.inr (.inr ⟨d3, hs⟩)) hbad
              rw [d4] at sgb
              simp only [I] at *
              simp only [AP.f44, go_sem, abin_shl, abin_shr, Nat.reduceEqDiff, reduceIte, Nat.reduceAdd, Nat.reduceMul, Nat.reduceLT, Nat.reduceLeDiff, Int.reduceBEq, Int.reduceBNe, Int.reduceLT, Int.reduceLE, Int.reduceEq, a1, b1, w1, w2, gs2, c1', decide_eq_false c2', decide_eq_false c3', w3, l1, gs3, c4, Option.map_some, Option.map_none, s1, s2, cka, d1', p1', p3, d2', ckb, d3', sgb, mka, mkb, q1]
          · have : S3.at_ = p2 := by rw [l6]
            have ho : S3.out = S.out := by rw [l6, hS2]
            rw [this, ho] at q4; exact q4
  · rw [if_neg hp]
    refine bad (.inl ?_)
    rw [hS2, hS1]
    unfold getS
    by_cases q1 : S.at_ + 5 ≤ 8 * c.text.size
    · simp only [if_pos q1]; rw [if_neg (by omega)]; simp [failS, he]
    · simp only [if_neg q1, failS, he, if_true]; split <;> simp
end Ab

/- stream.block, inflate.Inflate. -/
set_option linter.unusedSimpArgs false
set_option linter.unusedVariables false
namespace Ab
open Go

/-- A block: is it the last one, and what the stream comes to. -/
def blockA (t : ByteArray) (most : Int) (p : Nat) (out : List Nat) : Except Int (Bool × Nat × List Nat) :=
  if p + 3 ≤ 8 * t.size then
    let r : Rs := if valAt t (p + 1) 2 = 0 then storedA t most (p + 3) out
      else if valAt t (p + 1) 2 = 1 then codedA t most fixedL (List.replicate 30 5) (8 * t.size + 1) (p + 3) out
      else if valAt t (p + 1) 2 = 2 then dynA t most (p + 3) out
      else .error 700
    match r with
    | .ok q => .ok (valAt t p 1 == 1, q.1, q.2)
    | .error k => .error k
  else .error 700

def FinB (r : Except Int (Bool × Nat × List Nat)) (b : Bool) (S : SS) : Prop := match r with
  | .ok q => b = q.1 ∧ S = ⟨q.2.1, q.2.2, 0⟩
  | .error k => S.e = k ∧ k ≠ 0

theorem fixedL_len : fixedL.length = 288 := by simp only [fixedL, List.length_append, List.length_replicate]
theorem fixedL_rng : okLens fixedL := by
  intro y hy
  simp only [fixedL, List.mem_append] at hy
  rcases hy with hy | hy | hy | hy <;> (obtain ⟨_, rfl⟩ := List.mem_replicate.1 hy; omega)
theorem fives_rng : okLens (List.replicate 30 5) := by
  intro y hy
  obtain ⟨_, rfl⟩ := List.mem_replicate.1 hy; omega

theorem block_c {c : SC} {S : SS} {h : H} {ov : AV} (st : St c S h ov) (he : S.e = 0) :
    ∃ h' ov' S' b, callW AP.A 15 [.pobj c.s 0] h = some (.bool b, h') ∧ St c S' h' ov' ∧ Fr c h ov h' ov' ∧ FinB (blockA c.text c.most S.at_ S.out) b S' := by
  obtain ⟨h1, a1, a2, a3⟩ := get_n st 1 1 rfl (by omega)
  obtain ⟨h2, b1, b2, b3⟩ := get_n a2 2 2 rfl (by omega)
  obtain ⟨A, hA⟩ : ∃ n, n = (getS c 1 S).1 := ⟨_, rfl⟩
  obtain ⟨S1, hS1⟩ : ∃ n, n = (getS c 1 S).2 := ⟨_, rfl⟩
  rw [← hA] at a1; rw [← hS1] at a2 b1 b2
  obtain ⟨B, hB⟩ : ∃ n, n = (getS c 2 S1).1 := ⟨_, rfl⟩
  obtain ⟨S2, hS2⟩ : ∃ n, n = (getS c 2 S1).2 := ⟨_, rfl⟩
  rw [← hB] at b1; rw [← hS2] at b2
  have gs2 := b2.gs
  have fr2 := a3.trans b3
  obtain ⟨lb, hlb⟩ : ∃ b : Bool, b = ((A : Int) == 1) := ⟨_, rfl⟩
  unfold blockA
  by_cases hp : S.at_ + 3 ≤ 8 * c.text.size
  · rw [if_pos hp]
    have e1 : getS c 1 S = (valAt c.text S.at_ 1, { S with at_ := S.at_ + 1 }) := by rw [getS, if_pos (by omega)]
    rw [e1] at hA hS1; dsimp only at hA hS1
    have e2 : getS c 2 { S with at_ := S.at_ + 1 } = (valAt c.text (S.at_ + 1) 2, { S with at_ := S.at_ + 1 + 2 }) := by rw [getS, if_pos (by show S.at_ + 1 + 2 ≤ _; omega)]
    rw [hS1, e2] at hB hS2; dsimp only at hB hS2
    have he2 : S2.e = 0 := by rw [hS2]; exact he
    have hat : S2.at_ = S.at_ + 3 := by rw [hS2]
    have hout : S2.out = S.out := by rw [hS2]
    dsimp only
    rw [← hA, ← hB]
    have hlb2 : lb = (A == 1) := by
      rw [hlb]; by_cases q : A = 1
      · subst q; rfl
      · rw [beq_f (by omega)]; symm; simp [q]
    have wrap : ∀ (r : Rs) (h' : H) (ov' : AV) (S' : SS), callW AP.A 15 [.pobj c.s 0] h = some (.bool lb, h') → St c S' h' ov' → Fr c h2 ov h' ov' → Fin r S' → ∃ h' ov' S' b, callW AP.A 15 [.pobj c.s 0] h = some (.bool b, h') ∧ St c S' h' ov' ∧ Fr c h ov h' ov' ∧ FinB (match r with | .ok q => .ok (A == 1, q.1, q.2) | .error k => .error k) b S' := by
      intro r h' ov' S' q1 q2 q3 q4
      refine ⟨h', ov', S', lb, q1, q2, fr2.trans q3, ?_⟩
      cases r with
      | ok q => exact ⟨hlb2, q4⟩
      | error k => exact q4
    have c0 : (S2.e == 0) = true := beq_t he2
    by_cases d0 : B = 0
    · rw [if_pos d0]
      obtain ⟨h', ov', S', q1, q2, q3, q4⟩ := stored_c b2 he2
      rw [hat, hout] at q4
      refine wrap _ h' ov' S' ?_ q2 q3 q4
      have d0' : ((B : Int) == 0) = true := beq_t (by omega)
      refine plain_c (fn := AP.f15) (e := [(2, .bool lb)]) rfl rfl rfl ?_ rfl
      simp only [I] at *
      simp only [AP.f15, go_sem, abin_shl, abin_shr, Nat.reduceEqDiff, reduceIte, Nat.reduceAdd, Nat.reduceMul, Nat.reduceLT, Nat.reduceLeDiff, Int.reduceBEq, Int.reduceBNe, Int.reduceLT, Int.reduceLE, Int.reduceEq, a1, b1, ← hlb, d0', gs2, c0, q1]
    · rw [if_neg d0]
      have d0' : ((B : Int) == 0) = false := beq_f (by omega)
      by_cases d1 : B = 1
      · rw [if_pos d1]
        have d1' : ((B : Int) == 1) = true := beq_t (by omega)
        have f1 := fixed_c h2
        have m1 := make_c h2 (immI fixedL) fixedL (by rw [fixedL_len]; omega) fixedL_rng (rd_imm _ _)
        have al := b2.alloc [I 5]
        have r1 := repeat_c (h2.alloc [I 5]) (.sobj h2.next 0 1 1) 5 30 (by omega) (rd_own1 _ _)
        have r1' : callW AP.A 43 [.sobj h2.next 0 1 1, I 30] (h2.alloc [I 5]) = some (immI (List.replicate 30 5), h2.alloc [I 5]) := by
          rw [immI, List.length_replicate]; exact r1
        have m2 := make_c (h2.alloc [I 5]) (immI (List.replicate 30 5)) (List.replicate 30 5) (by rw [List.length_replicate]; omega) fives_rng (rd_imm _ _)
        obtain ⟨h', ov', S', q1, q2, q3, q4⟩ := coded_c fixedL (List.replicate 30 5) (by rw [fixedL_len]; omega) (by rw [List.length_replicate]; omega) al.1 he2
        rw [hat, hout] at q4
        refine wrap _ h' ov' S' ?_ q2 (al.2.trans q3) q4
        refine plain_c (fn := AP.f15) (e := [(2, .bool lb)]) rfl rfl rfl ?_ rfl
        clear r1
        generalize bookV fixedL = bf at *
        generalize bookV (List.replicate 30 5) = bd at *
        generalize immI fixedL = vf at *
        generalize immI (List.replicate 30 5) = vd at *
        simp only [I] at *
        simp only [AP.f15, go_sem, abin_shl, abin_shr, Nat.reduceEqDiff, reduceIte, Nat.reduceAdd, Nat.reduceMul, Nat.reduceLT, Nat.reduceLeDiff, Int.reduceBEq, Int.reduceBNe, Int.reduceLT, Int.reduceLE, Int.reduceEq, a1, b1, ← hlb, d0', d1', f1, m1, bsl1, I, r1', m2, q1]
      · rw [if_neg d1]
        have d1' : ((B : Int) == 1) = false := beq_f (by omega)
        by_cases d2 : B = 2
        · rw [if_pos d2]
          have d2' : ((B : Int) == 2) = true := beq_t (by omega)
          obtain ⟨h', ov', S', q1, q2, q3, q4⟩ := dynamic_c b2 he2
          rw [hat, hout] at q4
          refine wrap _ h' ov' S' ?_ q2 q3 q4
          refine plain_c (fn := AP.f15) (e := [(2, .bool lb)]) rfl rfl rfl ?_ rfl
          simp only [I] at *
          simp only [AP.f15, go_sem, abin_shl, abin_shr, Nat.reduceEqDiff, reduceIte, Nat.reduceAdd, Nat.reduceMul, Nat.reduceLT, Nat.reduceLeDiff, Int.reduceBEq, Int.reduceBNe, Int.reduceLT, Int.reduceLE, Int.reduceEq, a1, b1, ← hlb, d0', d1', d2', q1]
        · rw [if_neg d2]
          have d2' : ((B : Int) == 2) = false := beq_f (by omega)
          obtain ⟨h', q1, q2, q3⟩ := fails_c b2 700
          refine wrap (.error 700) h' ov _ ?_ q2 q3 ⟨by simp [failS, he2], by decide⟩
          refine plain_c (fn := AP.f15) (e := [(2, .bool lb)]) rfl rfl rfl ?_ rfl
          simp only [I] at *
          simp only [AP.f15, go_sem, abin_shl, abin_shr, Nat.reduceEqDiff, reduceIte, Nat.reduceAdd, Nat.reduceMul, Nat.reduceLT, Nat.reduceLeDiff, Int.reduceBEq, Int.reduceBNe, Int.reduceLT, Int.reduceLE, Int.reduceEq, a1, b1, ← hlb, d0', d1', d2', q1]
  · rw [if_neg hp]
    have hB0 : B = 0 ∧ S2.e = 700 := by
      by_cases q1 : S.at_ + 1 ≤ 8 * c.text.size
      · have e1 : getS c 1 S = (valAt c.text S.at_ 1, { S with at_ := S.at_ + 1 }) := by rw [getS, if_pos q1]
        rw [e1] at hS1; dsimp only at hS1
        have e2 : getS c 2 S1 = (0, { S1 with e := 700 }) := by rw [getS, if_neg (by rw [hS1]; show ¬ S.at_ + 1 + 2 ≤ _; omega), failS, if_pos (by rw [hS1]; exact he)]
        rw [e2] at hB hS2
        exact ⟨hB, by rw [hS2]⟩
      · have e1 : getS c 1 S = (0, { S with e := 700 }) := by rw [getS, if_neg q1, failS, if_pos he]
        rw [e1] at hS1; dsimp only at hS1
        have e2 : getS c 2 S1 = (0, S1) := by rw [getS, if_neg (by rw [hS1]; show ¬ S.at_ + 2 ≤ _; omega), failS, if_neg (by rw [hS1]; simp)]
        rw [e2] at hB hS2
        exact ⟨hB, by rw [hS2, hS1]⟩
    have d0' : ((B : Int) == 0) = true := beq_t (by omega)
    have c0 : (S2.e == 0) = false := beq_f (by rw [hB0.2]; decide)
    refine ⟨h2, ov, S2, lb, ?_, b2, fr2, hB0.2, by decide⟩
    refine plain_c (fn := AP.f15) (e := [(2, .bool lb)]) rfl rfl rfl ?_ rfl
    simp only [I] at *
    simp only [AP.f15, go_sem, abin_shl, abin_shr, Nat.reduceEqDiff, reduceIte, Nat.reduceAdd, Nat.reduceMul, Nat.reduceLT, Nat.reduceLeDiff, Int.reduceBEq, Int.reduceBNe, Int.reduceLT, Int.reduceLE, Int.reduceEq, a1, b1, ← hlb, d0', gs2, c0]

/-- Blocks, up to the last one; the first number bounds how many. -/
def infLoop (t : ByteArray) (most : Int) : Nat → Nat → List Nat → Rs
  | 0, _, _ => .error 700
  | f + 1, p, out => match blockA t most p out with
    | .error k => .error k
    | .ok (last, p2, o) => if last then .ok (p2, o) else infLoop t most f p2 o

theorem inf_stop {c : SC} {S : SS} {h : H} {ov : AV} (st : St c S h ov) (b : Bool) (hs : b = true ∨ S.e ≠ 0) :
    ∃ e', Lp AP.A [7, 8] AP.f7L0 [(7, .pobj c.s 0), (8, .bool b)] h = some (.exit 0, e', h) ∧ look e' 7 = .pobj c.s 0 := by
  have gs := st.gs
  refine ⟨[(7, .pobj c.s 0), (28, .bool false)], Lp_exit ?_, rfl⟩
  cases b with
  | true =>
    simp only [I] at *
    simp only [AP.f7L0, go_sem, abin_shl, abin_shr, Nat.reduceEqDiff, reduceIte, Nat.reduceAdd, Nat.reduceMul, Nat.reduceLT, Nat.reduceLeDiff, Int.reduceBEq, Int.reduceBNe, Int.reduceLT, Int.reduceLE, Int.reduceEq]
  | false =>
    have c2 : (S.e == 0) = false := beq_f (by rcases hs with q | q; cases q; exact q)
    simp only [I] at *
    simp only [AP.f7L0, go_sem, abin_shl, abin_shr, Nat.reduceEqDiff, reduceIte, Nat.reduceAdd, Nat.reduceMul, Nat.reduceLT, Nat.reduceLeDiff, Int.reduceBEq, Int.reduceBNe, Int.reduceLT, Int.reduceLE, Int.reduceEq, gs, c2]

theorem storeA_ge {t : ByteArray} {most : Int} : ∀ {n p : Nat} {out : List Nat} {p2 : Nat} {o : List Nat}, storeA t most n p out = .ok (p2, o) → p ≤ p2
  | 0, p, out, p2, o, h => by rw [storeA] at h; cases h; exact Nat.le_refl _
  | n + 1, p, out, p2, o, h => by
    rw [storeA] at h
    split at h
    · split at h
      · cases h
      · have := storeA_ge h; omega
    · cases h
theorem codedA_ge {t : ByteArray} {most : Int} {ll dl : List Int} : ∀ {k p : Nat} {out : List Nat} {p2 : Nat} {o : List Nat}, codedA t most ll dl k p out = .ok (p2, o) → p < p2
  | 0, _, _, _, _, h => by cases h
  | k + 1, p, out, p2, o, h => by
    rw [codedA] at h
    split at h
    · cases h
    · rename_i y p1 hs
      have sb := symA_bd hs
      split at h
      · split at h
        · cases h
        · have := codedA_ge h; omega
      · split at h
        · cases h; omega
        · split at h
          · rename_i p3 o3 hc
            have := copyA_ge hc
            have := codedA_ge h; omega
          · cases h
theorem lensLoop_ge {t : ByteArray} {cl : List Int} {many : Nat} : ∀ {f : Nat} {acc : List Int} {p : Nat} {L : List Int} {p2 : Nat}, lensLoop t cl many f acc p = some (L, p2) → p ≤ p2
  | 0, _, _, _, _, h => by cases h
  | f + 1, acc, p, L, p2, h => by
    rw [lensLoop] at h
    split at h
    · split at h
      · cases h
      · rename_i y p1 hs
        have sb := symA_bd hs
        split at h
        · cases h
        · rename_i n times q hag
          have := lensLoop_ge h
          have : p1 ≤ q := by
            unfold againA at hag
            repeat' split at hag
            all_goals first
              | (cases hag; done)
              | (have := congrArg (fun o => o.map (·.2.2)) hag; simp only [Option.map_some, Option.some.injEq] at this; omega)
          omega
    · split at h
      · cases h
      · have := congrArg (fun o => o.map (·.2)) h
        simp only [Option.map_some, Option.some.injEq] at this; omega
theorem blockA_ge {t : ByteArray} {most : Int} {p : Nat} {out : List Nat} {q : Bool × Nat × List Nat} (h : blockA t most p out = .ok q) : p < q.2.1 := by
  unfold blockA at h
  split at h
  · dsimp only at h
    have key : ∀ {r : Rs}, (match r with | .ok q => Except.ok (valAt t p 1 == 1, q.1, q.2) | .error k => .error k) = Except.ok (ε := Int) q → ∃ z, r = .ok z ∧ z.1 = q.2.1 := by
      intro r h
      cases r with
      | ok z => cases h; exact ⟨z, rfl, rfl⟩
      | error k => cases h
    obtain ⟨z, h1, h2⟩ := key h
    rw [← h2]
    split at h1
    · unfold storedA at h1
      dsimp only at h1
      split at h1
      · split at h1
        · have := storeA_ge h1; omega
        · cases h1
      · cases h1
    · split at h1
      · have := codedA_ge h1; omega
      · split at h1
        · unfold dynA at h1
          split at h1
          · dsimp only at h1
            split at h1
            · cases h1
            · split at h1
              · cases h1
              · rename_i L p2 hl
                split at h1
                · cases h1
                · have := codedA_ge h1
                  have : p + 3 ≤ p2 := by
                    unfold lensA at hl
                    split at hl
                    · dsimp only at hl
                      split at hl
                      · split at hl
                        · have := lensLoop_ge hl; omega
                        · cases hl
                      · cases hl
                    · cases hl
                  omega
          · cases h1
        · cases h1
  · cases h

theorem inf_loop {c : SC} : ∀ (f : Nat) (S : SS) (h : H) (ov : AV), St c S h ov → S.e = 0 → 8 * c.text.size < S.at_ + f →
    ∃ e' h' ov' S', Lp AP.A [7, 8] AP.f7L0 [(7, .pobj c.s 0), (8, .bool false)] h = some (.exit 0, e', h') ∧ look e' 7 = .pobj c.s 0 ∧ St c S' h' ov' ∧ Fr c h ov h' ov' ∧ Fin (infLoop c.text c.most f S.at_ S.out) S'
  | 0, S, h, ov, st, he, hk => by have := st.at_le; omega
  | f + 1, S, h, ov, st, he, hk => by
    have gs := st.gs
    obtain ⟨h1, ov1, S1, b, q1, q2, q3, q4⟩ := block_c st he
    have step : evC (callW AP.A) loopW AP.f7L0 (restr [(7, .pobj c.s 0), (8, .bool false)] [7, 8]) h = some (.normal, [(7, .pobj c.s 0), (8, .bool b)], h1) := by
      simp only [I] at *
      simp only [AP.f7L0, go_sem, abin_shl, abin_shr, Nat.reduceEqDiff, reduceIte, Nat.reduceAdd, Nat.reduceMul, Nat.reduceLT, Nat.reduceLeDiff, Int.reduceBEq, Int.reduceBNe, Int.reduceLT, Int.reduceLE, Int.reduceEq, gs, he, q1]
    rw [infLoop]
    cases hb : blockA c.text c.most S.at_ S.out with
    | error k =>
      rw [hb] at q4
      obtain ⟨e', r1, r2⟩ := inf_stop q2 b (.inr (by rw [q4.1]; exact q4.2))
      exact ⟨e', h1, ov1, S1, Lp_next step r1, r2, q2, q3, q4⟩
    | ok z =>
      obtain ⟨last, p2, o⟩ := z
      rw [hb] at q4
      obtain ⟨q5, q6⟩ := q4
      dsimp only at q5 q6 ⊢
      subst q5
      cases b with
      | true =>
        obtain ⟨e', r1, r2⟩ := inf_stop q2 true (.inl rfl)
        exact ⟨e', h1, ov1, S1, Lp_next step r1, r2, q2, q3, q6⟩
      | false =>
        have hge := blockA_ge hb
        dsimp only at hge
        subst q6
        obtain ⟨e', h', ov', S', r1, r2, r3, r4, r5⟩ := inf_loop f _ h1 ov1 q2 rfl (by dsimp only; omega)
        exact ⟨e', h', ov', S', Lp_next step r1, r2, r3, q3.trans r4, r5⟩

def bytesOf (l : List Nat) : ByteArray := ⟨(l.map UInt8.ofNat).toArray⟩

/-- A stream's text, and how many bytes it took. -/
def inflateA (t : ByteArray) (most : Int) : Except Int (List Nat × Nat) :=
  if most < 0 ∨ 8192 < most then .error 700 else
  match infLoop t most (8 * t.size + 1) 0 [] with
  | .ok q => .ok (q.2, (q.1 + 7) / 8)
  | .error k => .error k

def infV (r : Except Int (List Nat × Nat)) : AV := match r with
  | .ok q => .tup [.str (bytesOf q.1), I q.2, I 0]
  | .error k => .tup [.str ⟨#[]⟩, I 0, I k]

theorem b2s_bys : ∀ l : List Nat, b2s (bys l) = some (l.map UInt8.ofNat)
  | [] => rfl
  | x :: l => by
    have : bys (x :: l) = .int .u8 x :: bys l := rfl
    rw [this, b2s, b2s_bys l]; simp

theorem b2s_own {h : H} {v : AV} {l : List Nat} (o : Own h v (bys l)) : b2sB h v (srcCells h 1 v) = some (.str (bytesOf l), h) := by
  rcases o with ⟨rfl, q⟩ | ⟨id, rfl, q, _⟩
  · have : l = [] := by cases l with | nil => rfl | cons _ _ => cases q
    subst this; rfl
  · simp only [srcCells, if_true, q, Option.bind_some]
    rw [if_pos (by omega)]
    have : ((bys l).drop 0).take ((bys l).length * 1) = bys l := by rw [List.drop_zero, Nat.mul_one, List.take_length]
    rw [this]
    simp only [b2sB, Option.bind_some, b2s_bys]; rfl

theorem inflate_c (h : H) (hf : h.floor ≤ h.next) (t : ByteArray) (most : Int) (hs : t.size < 1125899906842624) : callW AP.A 7 [.str t, I most] h = some (infV (inflateA t most), h) := by
  unfold inflateA
  by_cases c1 : most < 0
  · rw [if_pos (.inl c1)]
    refine pure_c (fn := AP.f7) (h2 := h.fence) (e := [(4, .str ⟨#[]⟩), (5, I 0), (6, I 700)]) rfl rfl rfl ?_ rfl rfl
    simp only [I] at *
    simp only [AP.f7, go_sem, abin_shl, abin_shr, Nat.reduceEqDiff, reduceIte, Nat.reduceAdd, Nat.reduceMul, Nat.reduceLT, Nat.reduceLeDiff, Int.reduceBEq, Int.reduceBNe, Int.reduceLT, Int.reduceLE, Int.reduceEq, decide_eq_true c1]
  by_cases c2 : 8192 < most
  · rw [if_pos (.inr c2)]
    refine pure_c (fn := AP.f7) (h2 := h.fence) (e := [(4, .str ⟨#[]⟩), (5, I 0), (6, I 700)]) rfl rfl rfl ?_ rfl rfl
    simp only [I] at *
    simp only [AP.f7, go_sem, abin_shl, abin_shr, Nat.reduceEqDiff, reduceIte, Nat.reduceAdd, Nat.reduceMul, Nat.reduceLT, Nat.reduceLeDiff, Int.reduceBEq, Int.reduceBNe, Int.reduceLT, Int.reduceLE, Int.reduceEq, decide_eq_false c1, decide_eq_true c2]
  rw [if_neg (by omega)]
  obtain ⟨h1, hh1⟩ : ∃ g, g = h.fence.alloc [.str t, I 0] := ⟨_, rfl⟩
  obtain ⟨h2, hh2⟩ : ∃ g, g = h1.alloc [.pobj h.next 0, .nils, I most, I 0] := ⟨_, rfl⟩
  have of1 := of_c h.fence t
  rw [← hh1] at of1
  have n1 : h1.next = h.next + 1 := by rw [hh1]; simp
  have st : St ⟨h.next + 1, h.next, t, most⟩ ⟨0, [], 0⟩ h2 .nils := by
    refine ⟨?_, ?_, .inl ⟨rfl, rfl⟩, by simp, ?_, ?_, by simp [AV.id?], by simp [AV.id?], ?_, hs, by simp, by simp; omega, by show most ≤ 900000; omega⟩
    · rw [hh2, H.get_alloc, if_pos n1.symm]
    · rw [hh2, H.get_alloc, if_neg (by show h.next ≠ h1.next; omega), hh1, H.get_alloc, if_pos (show h.next = h.fence.next from rfl)]; rfl
    · rw [hh2, hh1]; simp
    · rw [hh2, hh1]; simp
    · rw [hh2, hh1]; simp; omega
  obtain ⟨e', h3, ov, S, q1, q2, q3, q4, q5⟩ := inf_loop (8 * t.size + 1) ⟨0, [], 0⟩ h2 .nils st rfl (by show 8 * t.size < 0 + (8 * t.size + 1); omega)
  have gs := q3.gs
  have bx : ∀ e : Env, look e 18 = .agg [.pobj h.next 0, .nils, .int .i64 most, .int .i64 0] → birth e (.box 4 (.t 18)) = some ([.pobj h.next 0, .nils, .int .i64 most, .int .i64 0], fun i => .pobj i 0) := by
    intro e q; simp only [birth, ev_t', q]; rfl
  have fl : fillA [.nilp, .nils, .int .i64 0, .int .i64 0] [(0, 1, .pobj h.next 0), (2, 1, .int .i64 most)] = some [.pobj h.next 0, .nils, .int .i64 most, .int .i64 0] := rfl
  have hn : h.fence.next = h.next := rfl
  dsimp only at q5
  cases hi : infLoop t most (8 * t.size + 1) 0 [] with
  | error k =>
    rw [hi] at q5
    have c3 : (S.e != 0) = true := bne_t (by rw [q5.1]; exact q5.2)
    have hk : S.e = k := q5.1
    refine pure_c (fn := AP.f7) (h2 := h3) (e := [(4, .str ⟨#[]⟩), (5, I 0), (6, I k)]) rfl rfl rfl ?_ rfl rfl
    simp only [I] at *
    simp only [AP.f7, go_sem, abin_shl, abin_shr, Nat.reduceEqDiff, reduceIte, Nat.reduceAdd, Nat.reduceMul, Nat.reduceLT, Nat.reduceLeDiff, Int.reduceBEq, Int.reduceBNe, Int.reduceLT, Int.reduceLE, Int.reduceEq, decide_eq_false c1, decide_eq_false c2, of1, hn, List.map_cons, List.map_nil, fl]
    rw [bx _ rfl]
    rw [hk] at gs c3
    simp only [go_sem, abin_shl, abin_shr, Nat.reduceEqDiff, reduceIte, Nat.reduceAdd, Nat.reduceMul, Nat.reduceLT, Nat.reduceLeDiff, Int.reduceBEq, Int.reduceBNe, Int.reduceLT, Int.reduceLE, Int.reduceEq, ← hh2, n1, evC_loop, q1, q2, gs, c3]
  | ok z =>
    obtain ⟨p, o⟩ := z
    rw [hi] at q5
    simp only [Fin] at q5
    have c3 : (S.e != 0) = false := bne_f (by rw [q5])
    obtain ⟨h4, a1, a2, a3⟩ := q3.align
    have gs4 := a2.gs
    have gr4 := a2.gr
    have at4 := at_c h4 h.next t _ gr4
    have hb := b2s_own a2.own
    subst q5
    dsimp only at gs4 gr4 at4 hb a2 gs c3
    have hle := a2.at_le
    dsimp only at hle
    have qd : abin .quo (.int .i64 (((p + 7) / 8 * 8 : Nat) : Int)) (.int .i64 8) = some (.int .i64 (((p + 7) / 8 : Nat) : Int)) := by
      rw [abin_quo _ _ _ (by omega), show (8 : Int) = ((8 : Nat) : Int) from rfl, tdiv_nat, Nat.mul_div_cancel _ (by omega), wrap_nat64 (by omega)]
    refine pure_c (fn := AP.f7) (h2 := h4) (e := [(4, .str (bytesOf o)), (5, I ((p + 7) / 8 : Nat)), (6, I 0)]) rfl rfl rfl ?_ rfl rfl
    generalize (p + 7) / 8 * 8 = P8 at *
    generalize (p + 7) / 8 = P at *
    simp only [I] at *
    simp only [AP.f7, go_sem, abin_shl, abin_shr, Nat.reduceEqDiff, reduceIte, Nat.reduceAdd, Nat.reduceMul, Nat.reduceLT, Nat.reduceLeDiff, Int.reduceBEq, Int.reduceBNe, Int.reduceLT, Int.reduceLE, Int.reduceEq, decide_eq_false c1, decide_eq_false c2, of1, hn, List.map_cons, List.map_nil, fl]
    rw [bx _ rfl]
    simp only [go_sem, abin_shl, abin_shr, Nat.reduceEqDiff, reduceIte, Nat.reduceAdd, Nat.reduceMul, Nat.reduceLT, Nat.reduceLeDiff, Int.reduceBEq, Int.reduceBNe, Int.reduceLT, Int.reduceLE, Int.reduceEq, ← hh2, n1, evC_loop, q1, q2, gs, c3, a1]
    rw [C_dreg (e' := [(6, .int .i64 0), (5, .int .i64 P), (4, .str (bytesOf o)), (55, .int .i64 P), (54, .int .i64 P8), (53, .pobj h.next 0), (52, .pobj (h.next + 1) 0), (51, .pobj (h.next + 1) 0), (50, .pobj (h.next + 1) 0), (49, .str (bytesOf o)), (48, ov), (47, .pobj (h.next + 1) 1), (46, .pobj (h.next + 1) 0), (45, .pobj (h.next + 1) 0), (7, .pobj (h.next + 1) 0)]) (h' := h4) (gs := [h4, h4])]
    · simp only [go_sem, abin_shl, abin_shr, Nat.reduceEqDiff, reduceIte, Nat.reduceAdd, Nat.reduceMul, Nat.reduceLT, Nat.reduceLeDiff, Int.reduceBEq, Int.reduceBNe, Int.reduceLT, Int.reduceLE, Int.reduceEq]
    · simp only [opsD_nil, opsD_u, goOD_s, preD_t, preD_f, AOp.loud, go_sem, abin_shl, abin_shr, Nat.reduceEqDiff, reduceIte, Nat.reduceAdd, Nat.reduceMul, Nat.reduceLT, Nat.reduceLeDiff, Int.reduceBEq, Int.reduceBNe, Int.reduceLT, Int.reduceLE, Int.reduceEq, gs4, hb, at4, qd]
    · refine stables_c (fun k hk => ?_) (stables_c (fun k hk => ?_) rfl)
      · obtain rfl : k = 1 := by simpa using hk
        refine stable_of (o := ⟨some 48, .load false 1 (.t 47), none⟩) (g := h4) (h' := h4) (d := 48) (u := ov) rfl rfl rfl rfl ?_ ?_
        · simp only [evOper, go_sem, abin_shl, abin_shr, Nat.reduceEqDiff, reduceIte, Nat.reduceAdd, Nat.reduceMul, Nat.reduceLT, Nat.reduceLeDiff, Int.reduceBEq, Int.reduceBNe, Int.reduceLT, Int.reduceLE, Int.reduceEq, gs4]
        · simp only [go_sem, abin_shl, abin_shr, Nat.reduceEqDiff, reduceIte, Nat.reduceAdd, Nat.reduceMul, Nat.reduceLT, Nat.reduceLeDiff, Int.reduceBEq, Int.reduceBNe, Int.reduceLT, Int.reduceLE, Int.reduceEq]
          rcases a2.own with ⟨rfl, _⟩ | ⟨id, rfl, _⟩
          · rfl
          · exact beq_sobj _ _ _ _
      · obtain rfl : k = 1 := by simpa using hk
        refine stable_of (o := ⟨some 49, .b2s (.t 48), none⟩) (g := h4) (h' := h4) (d := 49) (u := .str (bytesOf o)) rfl rfl rfl rfl ?_ ?_
        · simp only [evOper, go_sem, abin_shl, abin_shr, Nat.reduceEqDiff, reduceIte, Nat.reduceAdd, Nat.reduceMul, Nat.reduceLT, Nat.reduceLeDiff, Int.reduceBEq, Int.reduceBNe, Int.reduceLT, Int.reduceLE, Int.reduceEq, hb]
        · simp only [go_sem, abin_shl, abin_shr, Nat.reduceEqDiff, reduceIte, Nat.reduceAdd, Nat.reduceMul, Nat.reduceLT, Nat.reduceLeDiff, Int.reduceBEq, Int.reduceBNe, Int.reduceLT, Int.reduceLE, Int.reduceEq, beq_str]
end Ab

/- portagelaw7: awake, InflateForms. -/
set_option linter.unusedSimpArgs false
set_option linter.unusedVariables false
namespace Ab
open Go

theorem toList_data (a : ByteArray) : a.toList = a.data.toList := by
  have key : ∀ (n i : Nat) (r : List UInt8), a.size - i = n → ByteArray.toList.loop a i r = r.reverse ++ a.data.toList.drop i := by
    intro n
    induction n with
    | zero =>
      intro i r h
      unfold ByteArray.toList.loop
      rw [if_neg (by omega), List.drop_eq_nil_of_le (by show a.data.toList.length ≤ i; have : a.data.toList.length = a.size := rfl; omega)]; simp
    | succ n ih =>
      intro i r h
      unfold ByteArray.toList.loop
      have hi : i < a.data.toList.length := by show i < a.size; omega
      rw [if_pos (by omega), ih (i + 1) _ (by omega), List.drop_eq_getElem_cons hi]
      have hi' : i < a.data.size := hi
      simp [ByteArray.get!, getElem!_pos a.data i hi']
  unfold ByteArray.toList
  rw [key a.size 0 [] (by omega)]; simp
theorem str_eql (a b : ByteArray) : abin .eql (.str a) (.str b) = some (.bool (a.data.toList == b.data.toList)) := by
  simp only [abin, binStr, toList_data]
theorem str_neq (a b : ByteArray) : abin .neq (.str a) (.str b) = some (.bool (!(a.data.toList == b.data.toList))) := by
  simp only [abin, binStr, toList_data]

theorem num_c (h : H) (n : Int) : callW AP.A 9 [I n] h = some (I n, h) := by
  refine pure_c (fn := AP.f9) (h2 := h.fence) (e := [(2, I n)]) rfl rfl rfl ?_ rfl rfl
  simp only [I] at *
  simp only [AP.f9, go_sem, abin_shl, abin_shr, Nat.reduceEqDiff, reduceIte, Nat.reduceAdd, Nat.reduceMul, Nat.reduceLT, Nat.reduceLeDiff, Int.reduceBEq, Int.reduceBNe, Int.reduceLT, Int.reduceLE, Int.reduceEq]

/-- Inflate at what is given, reckoned. -/
theorem inf_at {h : H} {t : ByteArray} {most : Int} {r : Except Int (List Nat × Nat)} {v : AV} (hf : h.floor ≤ h.next) (hs : t.size < 1125899906842624) (hr : inflateA t most = r) (hv : infV r = v) : callW AP.A 7 [.str t, I most] h = some (v, h) := by
  rw [inflate_c h hf t most hs, hr, hv]

theorem fence_ok (h : H) : h.fence.floor ≤ h.fence.next := Nat.le_refl _

theorem awake_c (h : H) : callW AP.A 10 [] h = some (.bool true, h) := by
  have i1 : callW AP.A 7 [.str ⟨#[1, 2, 0, 253, 255, 104, 105, 120]⟩, I 9] h.fence = some (.tup [.str (bytesOf [104, 105]), I 7, I 0], h.fence) := inf_at (r := .ok ([104, 105], 7)) (fence_ok h) (by decide) (by kernel_rfl) rfl
  have i2 : callW AP.A 7 [.str ⟨#[75, 76, 4, 0]⟩, I 9] h.fence = some (.tup [.str (bytesOf [97, 97]), I 4, I 0], h.fence) := inf_at (r := .ok ([97, 97], 4)) (fence_ok h) (by decide) (by kernel_rfl) rfl
  have i3 : callW AP.A 7 [.str ⟨#[75, 76, 4, 0]⟩, I 1] h.fence = some (.tup [.str ⟨#[]⟩, I 0, I 701], h.fence) := inf_at (r := .error 701) (fence_ok h) (by decide) (by kernel_rfl) rfl
  have i4 : callW AP.A 7 [.str ⟨#[7]⟩, I 9] h.fence = some (.tup [.str ⟨#[]⟩, I 0, I 700], h.fence) := inf_at (r := .error 700) (fence_ok h) (by decide) (by kernel_rfl) rfl
  have i5 : callW AP.A 7 [.str ⟨#[]⟩, I 9] h.fence = some (.tup [.str ⟨#[]⟩, I 0, I 700], h.fence) := inf_at (r := .error 700) (fence_ok h) (by decide) (by kernel_rfl) rfl
  have n0 := num_c h.fence 0
  have n1 := num_c h.fence 700
  have n2 := num_c h.fence 701
  have e1 : abin .eql (.str (bytesOf [104, 105])) (.str ⟨#[104, 105]⟩) = some (.bool true) := by rw [str_eql]; rfl
  have e2 : abin .eql (.str (bytesOf [97, 97])) (.str ⟨#[97, 97]⟩) = some (.bool true) := by rw [str_eql]; rfl
  refine pure_c (fn := AP.f10) (h2 := h.fence) (e := [(0, .bool true)]) rfl rfl rfl ?_ rfl rfl
  simp only [I] at *
  simp only [AP.f10, go_sem, abin_shl, abin_shr, Nat.reduceEqDiff, reduceIte, Nat.reduceAdd, Nat.reduceMul, Nat.reduceLT, Nat.reduceLeDiff, Int.reduceBEq, Int.reduceBNe, Int.reduceLT, Int.reduceLE, Int.reduceEq, i1, i2, i3, i4, i5, n0, n1, n2, e1, e2]

def badL : List ByteArray := [⟨#[6]⟩, ⟨#[1]⟩, ⟨#[1, 2]⟩, ⟨#[1, 2, 0, 253]⟩, ⟨#[1, 2, 0, 252, 255, 104, 105]⟩, ⟨#[1, 2, 0, 253, 255, 104]⟩, ⟨#[3]⟩, ⟨#[75]⟩, ⟨#[75, 76]⟩, ⟨#[75, 76, 4]⟩, ⟨#[5]⟩, ⟨#[5, 0]⟩, ⟨#[5, 224, 129, 8]⟩, ⟨#[3, 2]⟩, ⟨#[0, 0, 0, 255, 255]⟩, ⟨#[253, 0]⟩]

theorem bad_err : ∀ i < 16, ((badL[i]?).map fun t => (match inflateA t 8192 with | .error k => k == 700 | .ok _ => false)) = some true := by decide +kernel

theorem forms_c (which : Int) (hw : IntKind.wrap .i64 which = which) (h : H) : callW AP.A 2 [I which] h = some (.bool true, h) := by
  have aw := awake_c h.fence
  obtain ⟨j, hj⟩ : ∃ j : Nat, (IntKind.wrap .u64 which).tmod 16 = j := by
    refine Int.eq_ofNat_of_zero_le ?_
    have : IntKind.wrap .u64 which = which % 18446744073709551616 := by simp [IntKind.wrap, IntKind.bits, IntKind.signed]
    rw [this, Int.tmod_eq_emod_of_nonneg (by omega)]; omega
  have hj16 : j < 16 := by
    have : IntKind.wrap .u64 which = which % 18446744073709551616 := by simp [IntKind.wrap, IntKind.bits, IntKind.signed]
    rw [this, Int.tmod_eq_emod_of_nonneg (by omega)] at hj; omega
  obtain ⟨g, hg⟩ : ∃ g, g = h.fence.alloc (badL.map AV.str) := ⟨_, rfl⟩
  have hgf : g.floor ≤ g.next := by rw [hg]; simp
  obtain ⟨t, ht⟩ : ∃ t, badL[j]? = some t := ⟨_, List.getElem?_eq_getElem (by show j < 16; exact hj16)⟩
  have hbad : inflateA t 8192 = .error 700 := by
    have := bad_err j hj16
    rw [ht, Option.map_some] at this
    cases hi : inflateA t 8192 with
    | error k => rw [hi] at this; simp at this; rw [this]
    | ok q => rw [hi] at this; simp at this
  have htsz : t.size < 1125899906842624 := by
    have key : ∀ i < 16, ((badL[i]?).map fun t => decide (t.size < 1125899906842624)) = some true := by decide +kernel
    have := key j hj16
    rw [ht] at this; simpa using this
  have bt : birth [(0, I which)] (.bslice 1 16 [.str ⟨#[]⟩] [(0, (.c (.str ⟨#[6]⟩))), (1, (.c (.str ⟨#[1]⟩))), (2, (.c (.str ⟨#[1, 2]⟩))), (3, (.c (.str ⟨#[1, 2, 0, 253]⟩))), (4, (.c (.str ⟨#[1, 2, 0, 252, 255, 104, 105]⟩))), (5, (.c (.str ⟨#[1, 2, 0, 253, 255, 104]⟩))), (6, (.c (.str ⟨#[3]⟩))), (7, (.c (.str ⟨#[75]⟩))), (8, (.c (.str ⟨#[75, 76]⟩))), (9, (.c (.str ⟨#[75, 76, 4]⟩))), (10, (.c (.str ⟨#[5]⟩))), (11, (.c (.str ⟨#[5, 0]⟩))), (12, (.c (.str ⟨#[5, 224, 129, 8]⟩))), (13, (.c (.str ⟨#[3, 2]⟩))), (14, (.c (.str ⟨#[0, 0, 0, 255, 255]⟩))), (15, (.c (.str ⟨#[253, 0]⟩)))]) = some (badL.map AV.str, fun i => .sobj i 0 16 1) := by kernel_rfl
  have w3 : IntKind.wrap .i64 ((IntKind.wrap .u64 which).tmod 16) = j := by rw [hj]; exact wrap_nat64 (by omega)
  have q1 : abin .rem (.int .u64 (IntKind.wrap .u64 which)) (.int .u64 16) = some (.int .u64 j) := by rw [abin_rem _ _ _ (by omega), hj]
  have w4 : IntKind.wrap .i64 (j : Int) = j := wrap_nat64 (by omega)
  have ia : aiadr 1 (.sobj h.next 0 16 1) (I j) = some (.pobj h.next j) := by simp [aiadr, aidx_of hj16]
  have hgi : g.get h.next = some (badL.map AV.str) := by rw [hg, H.get_alloc, if_pos (show h.next = h.fence.next from rfl)]
  have hel : (badL.map AV.str)[j]? = some (.str t) := by rw [List.getElem?_map, ht]; rfl
  have i1 : callW AP.A 7 [.str t, I 8192] g = some (.tup [.str ⟨#[]⟩, I 0, I 700], g) := inf_at (r := .error 700) hgf htsz hbad rfl
  have i2 : callW AP.A 7 [.str ⟨#[3, 0]⟩, I (-1)] g = some (.tup [.str ⟨#[]⟩, I 0, I 700], g) := inf_at (r := .error 700) hgf (by decide) (by kernel_rfl) rfl
  have i3 : callW AP.A 7 [.str ⟨#[3, 0]⟩, I 8193] g = some (.tup [.str ⟨#[]⟩, I 0, I 700], g) := inf_at (r := .error 700) hgf (by decide) (by kernel_rfl) rfl
  have i4 : callW AP.A 7 [.str ⟨#[3, 0]⟩, I 0] g = some (.tup [.str (bytesOf []), I 2, I 0], g) := inf_at (r := .ok ([], 2)) hgf (by decide) (by kernel_rfl) rfl
  have e1 : abin .eql (.str ⟨#[]⟩) (.str ⟨#[]⟩) = some (.bool true) := by rw [str_eql]; rfl
  have e2 : abin .eql (.str (bytesOf [])) (.str ⟨#[]⟩) = some (.bool true) := by rw [str_eql]; rfl
  have n0 := num_c g 0
  have n1 := num_c g 700
  have hn : h.fence.next = h.next := rfl
  refine pure_c (fn := AP.f2) (h2 := g) (e := [(2, .bool true)]) rfl rfl rfl ?_ rfl rfl
  clear hgf hbad ht
  have bt' : birth [(0, I which)] (.bslice 1 16 [.str ⟨#[]⟩] [(0, (.c (.str ⟨#[6]⟩))), (1, (.c (.str ⟨#[1]⟩))), (2, (.c (.str ⟨#[1, 2]⟩))), (3, (.c (.str ⟨#[1, 2, 0, 253]⟩))), (4, (.c (.str ⟨#[1, 2, 0, 252, 255, 104, 105]⟩))), (5, (.c (.str ⟨#[1, 2, 0, 253, 255, 104]⟩))), (6, (.c (.str ⟨#[3]⟩))), (7, (.c (.str ⟨#[75]⟩))), (8, (.c (.str ⟨#[75, 76]⟩))), (9, (.c (.str ⟨#[75, 76, 4]⟩))), (10, (.c (.str ⟨#[5]⟩))), (11, (.c (.str ⟨#[5, 0]⟩))), (12, (.c (.str ⟨#[5, 224, 129, 8]⟩))), (13, (.c (.str ⟨#[3, 2]⟩))), (14, (.c (.str ⟨#[0, 0, 0, 255, 255]⟩))), (15, (.c (.str ⟨#[253, 0]⟩)))]) = some (badL.map AV.str, fun i => .sobj i 0 16 1) := bt
  clear bt
  generalize badL.map AV.str = BL at *
  unfold AP.f2
  refine seq_n (e1 := [(0, I which)]) (h1 := h.fence) rfl ?_
  refine seq_n (e1 := [(0, I which)]) (h1 := h.fence) ?_ ?_
  · simp only [go_sem, abin_shl, abin_shr, Nat.reduceEqDiff, reduceIte, Nat.reduceAdd, Nat.reduceMul, Nat.reduceLT, Nat.reduceLeDiff, Int.reduceBEq, Int.reduceBNe, Int.reduceLT, Int.reduceLE, Int.reduceEq, aw]
  refine seq_n (e1 := [(0, I which), (3, .sobj h.next 0 16 1)]) (h1 := g) ?_ ?_
  · rw [C_reg, ops_u, op_birth_bslice, bt', birthH_s, ← hg]
    simp only [go_sem, abin_shl, abin_shr, Nat.reduceEqDiff, reduceIte, Nat.reduceAdd, Nat.reduceMul, Nat.reduceLT, Nat.reduceLeDiff, Int.reduceBEq, Int.reduceBNe, Int.reduceLT, Int.reduceLE, Int.reduceEq, hn]
  clear bt' hg aw
  simp only [I] at *
  simp only [go_sem, abin_shl, abin_shr, Nat.reduceEqDiff, reduceIte, Nat.reduceAdd, Nat.reduceMul, Nat.reduceLT, Nat.reduceLeDiff, Int.reduceBEq, Int.reduceBNe, Int.reduceLT, Int.reduceLE, Int.reduceEq, q1, w4, ia, hgi, hel, i1, i2, i3, i4, n0, n1, e1, e2]
end Ab
