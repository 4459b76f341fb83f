/- Part C4. -/
import Derived.Test.YtolinppbhjljcaaC3
/- portagelaw7: InflateFar. -/
set_option linter.unusedSimpArgs false
set_option linter.unusedVariables false
namespace Ab
open Go

theorem bits_or8 {a b : Nat} (ha : a < 256) (hb : b < 256) : bits .or .u8 (a : Int) (b : Int) = ((a ||| b : Nat) : Int) := by
  have h3 : a ||| b < 2 ^ 8 := Nat.or_lt_two_pow (by simpa using ha) (by simpa using hb)
  show IntKind.wrap .u8 (((BitVec.ofInt 8 (a : Int) ||| BitVec.ofInt 8 (b : Int)).toNat : Nat) : Int) = _
  rw [BitVec.toNat_or, bv_nat 8 a (by omega), bv_nat 8 b (by omega)]
  exact wrap_u8 (by simpa using h3)

/-- A bit is put behind what there is. -/
def outStep (out : List Nat) (i : Nat) (b : Nat) : List Nat :=
  let o := if i % 8 = 0 then out ++ [0] else out
  o.set (i / 8) (o.getD (i / 8) 0 ||| b * 2 ^ (i % 8))
def outAll : List Nat → Nat → List Nat → List Nat
  | [], _, out => out
  | b :: r, i, out => outAll r (i + 1) (outStep out i b)

theorem outStep_len {out : List Nat} {i b : Nat} (h : out.length = (i + 7) / 8) : (outStep out i b).length = (i + 1 + 7) / 8 := by
  unfold outStep
  dsimp only
  rw [List.length_set]
  split
  · rw [List.length_append, h]; simp; omega
  · rw [h]; omega
theorem outStep_byt {out : List Nat} {i b : Nat} (hb : b ≤ 1) (h : Byt out) : Byt (outStep out i b) := by
  have h1 : Byt (if i % 8 = 0 then out ++ [0] else out) := by
    split
    · intro x hx
      rcases List.mem_append.1 hx with q | q
      · exact h x q
      · simp at q; omega
    · exact h
  intro x hx
  unfold outStep at hx
  dsimp only at hx
  rcases List.mem_or_eq_of_mem_set hx with q | q
  · exact h1 x q
  · subst q
    have h2 : (if i % 8 = 0 then out ++ [0] else out).getD (i / 8) 0 < 2 ^ 8 := by
      rw [List.getD_eq_getElem?_getD]
      cases hg : (if i % 8 = 0 then out ++ [0] else out)[i / 8]? with
      | none => simp
      | some y => simpa using h1 y (List.mem_of_getElem? hg)
    have h3 : b * 2 ^ (i % 8) < 2 ^ 8 := by
      have : 2 ^ (i % 8) ≤ 2 ^ 7 := Nat.pow_le_pow_right (by omega) (by omega)
      have : b * 2 ^ (i % 8) ≤ 1 * 2 ^ 7 := Nat.mul_le_mul hb this
      omega
    simpa using Nat.or_lt_two_pow h2 h3

theorem Own.set {h : H} {v : AV} {cs : List AV} (o : Own h v cs) {i : Nat} (hi : i < cs.length) (x : AV) : ∃ id, v = .sobj id 0 cs.length 1 ∧ h.get id = some cs ∧ h.floor ≤ id ∧ Own (h.set id (cs.set i x)) v (cs.set i x) := by
  rcases o with ⟨rfl, rfl⟩ | ⟨id, rfl, h1, h2, h3⟩
  · simp at hi
  · exact ⟨id, rfl, h1, h2, .inr ⟨id, by simp, by rw [H.get_set, if_pos rfl, h1]; rfl, by simpa using h2, by intro e; apply h3; have := congrArg List.length e; simpa using this⟩⟩

theorem seq_inv {c : CallT} {l : LoopT} {a : ACode} {e e1 : Env} {h h1 : H} (hs : evC c l (.seq a .skip) e h = some (.normal, e1, h1)) : evC c l a e h = some (.normal, e1, h1) := by
  rw [C_seq] at hs
  cases ha : evC c l a e h with
  | none => rw [ha] at hs; cases hs
  | some r =>
    obtain ⟨x, e2, h2⟩ := r
    rw [ha] at hs
    cases x with
    | normal => rw [goS_n, evC_skip] at hs; exact hs
    | exit i => rw [goS_x] at hs; cases hs
    | ret => rw [goS_r] at hs; cases hs

theorem far_out {kv bv : AV} {bl : List Int} (hbl : ∀ b ∈ bl, 0 ≤ b ∧ b ≤ 1) (hl : bl.length < 1000) : ∀ (m i : Nat) (out : List Nat) (h : H) (ov : AV), m + i = bl.length → Own h bv (ints bl) → Own h ov (bys out) → out.length = (i + 7) / 8 → Byt out → h.floor ≤ h.next → (∀ j, bv.id? = some j → ov.id? ≠ some j) →
    ∃ e' h' ov', Lp AP.A [3, 4, 6, 7] AP.f4L0 [(3, kv), (4, bv), (6, ov), (7, I i)] h = some (.exit 2, e', h') ∧ look e' 3 = kv ∧ look e' 6 = ov' ∧ Own h' ov' (bys (outAll ((bl.drop i).map Int.toNat) i out)) ∧ h'.floor = h.floor ∧ h'.floor ≤ h'.next
  | 0, i, out, h, ov, hm, ob, oo, hlen, hby, hfn, hne => by
    refine ⟨[(3, kv), (4, bv), (6, ov), (7, I i), (32, .bool false)], h, ov, Lp_exit ?_, rfl, rfl, by rw [List.drop_eq_nil_of_le (by omega)]; exact oo, rfl, hfn⟩
    have ln := ob.len
    rw [ints_length] at ln
    have c1 : ¬ (i : Int) < (bl.length : Int) := by omega
    simp only [I] at *
    simp only [AP.f4L0, go_sem, abin_shl, abin_shr, Nat.reduceEqDiff, reduceIte, Nat.reduceAdd, Nat.reduceMul, Nat.reduceLT, Nat.reduceLeDiff, Int.reduceBEq, Int.reduceBNe, Int.reduceLT, Int.reduceLE, Int.reduceEq, ln, decide_eq_false c1]
  | m + 1, i, out, h, ov, hm, ob, oo, hlen, hby, hfn, hne => by
    have ln := ob.len
    rw [ints_length] at ln
    have hi : i < bl.length := by omega
    have c1 : (i : Int) < (bl.length : Int) := by omega
    obtain ⟨b, hb⟩ : ∃ b, bl[i]? = some b := ⟨_, List.getElem?_eq_getElem hi⟩
    have hbb := hbl b (List.mem_of_getElem? hb)
    obtain ⟨bn, hbn⟩ : ∃ n : Nat, b = n := Int.eq_ofNat_of_zero_le hbb.1
    subst hbn
    have hd : bl.drop i = (bn : Int) :: bl.drop (i + 1) := by
      rw [List.drop_eq_getElem_cons hi]; rw [List.getElem?_eq_getElem hi] at hb; rw [Option.some.inj hb]
    have w1 : IntKind.wrap .i64 ((i : Int) + 1) = ((i + 1 : Nat) : Int) := wrap_nat64 (n := i + 1) (by omega)
    have q1 : abin .rem (.int .i64 (i : Int)) (.int .i64 8) = some (.int .i64 ((i % 8 : Nat) : Int)) := by
      rw [abin_rem _ _ _ (by omega), show (8 : Int) = ((8 : Nat) : Int) from rfl, tmod_nat]
    have q2 : abin .quo (.int .i64 (i : Int)) (.int .i64 8) = some (.int .i64 ((i / 8 : Nat) : Int)) := by
      rw [abin_quo _ _ _ (by omega), show (8 : Int) = ((8 : Nat) : Int) from rfl, tdiv_nat, wrap_nat64 (by omega)]
    have hpw : 2 ^ (i % 8) ≤ 2 ^ 7 := Nat.pow_le_pow_right (by omega) (by omega)
    have hbp : bn * 2 ^ (i % 8) ≤ 1 * 2 ^ 7 := Nat.mul_le_mul (by omega) hpw
    have q3 : shft .shl .i64 (bn : Int) ((i % 8 : Nat) : Int) = some (.int .i64 ((bn * 2 ^ (i % 8) : Nat) : Int)) := shl_i64 (by omega) (by omega)
    have w2 : IntKind.wrap .u8 ((bn * 2 ^ (i % 8) : Nat) : Int) = ((bn * 2 ^ (i % 8) : Nat) : Int) := wrap_u8 (by omega)
    -- the byte that there is
    obtain ⟨o1, ho1⟩ : ∃ o, o = if i % 8 = 0 then out ++ [0] else out := ⟨_, rfl⟩
    have ho1l : i / 8 < o1.length := by
      rw [ho1]; split
      · rw [List.length_append, hlen]; simp; omega
      · rw [hlen]; omega
    have ho1b : Byt o1 := by
      rw [ho1]; split
      · intro x hx
        rcases List.mem_append.1 hx with q | q
        · exact hby x q
        · simp at q; omega
      · exact hby
    have hpre : ∃ h1 ov1, evC (callW AP.A) loopW (.cond (.t 37) (.reg [⟨some 38, .mv (.t 6), none⟩, ⟨some 39, .bslice 1 1 [.int .u8 0] [(0, (.c (.int .u8 0)))], none⟩, ⟨some 40, .app 1 1 (.t 38) (.t 39), none⟩, ⟨some 6, .mv (.t 40), none⟩] [3, 4, 6, 7]) .skip [3, 4, 6, 7]) [(3, kv), (4, bv), (6, ov), (7, I i), (37, .bool (((i % 8 : Nat) : Int) == 0))] h = some (.normal, [(3, kv), (4, bv), (6, ov1), (7, I i)], h1) ∧
        Own h1 ov1 (bys o1) ∧ Own h1 bv (ints bl) ∧ h1.floor = h.floor ∧ h1.floor ≤ h1.next ∧ (∀ j, bv.id? = some j → ov1.id? ≠ some j) := by
      by_cases h8 : i % 8 = 0
      · have cb : (((i % 8 : Nat) : Int) == 0) = true := beq_t (by omega)
        rw [if_pos h8] at ho1
        obtain ⟨g, hg⟩ : ∃ g, g = h.alloc [.int .u8 0] := ⟨_, rfl⟩
        have og : Own g ov (bys out) := oo.mono (by rw [hg]; simp) fun j hj => by have := oo.lt hj; rw [hg, H.get_alloc, if_neg (by omega)]
        have obg : Own g bv (ints bl) := ob.mono (by rw [hg]; simp) fun j hj => by have := ob.lt hj; rw [hg, H.get_alloc, if_neg (by omega)]
        have hgfn : g.floor ≤ g.next := by rw [hg]; simp; omega
        obtain ⟨v', h2, r1, r2, r3, r4, r5, r6⟩ := og.app hgfn (z := 1) (.int .u8 0) rfl (by simp [roomy]; omega)
        have src : srcCells g 1 (.sobj h.next 0 1 1) = some (1, [.int .u8 0]) := by
          simp [srcCells, hg, H.get_alloc]
        have ap : aapp g 1 1 ov (.sobj h.next 0 1 1) = some (v', h2) := by unfold aapp; rw [src, Option.bind_some]; exact r1
        have bt : ∀ e : Env, birth e (.bslice 1 1 [.int .u8 0] [(0, (.c (.int .u8 0)))]) = some ([.int .u8 0], fun i => .sobj i 0 1 1) := fun _ => rfl
        refine ⟨h2, v', ?_, ?_, obg.mono r3 fun j hj => ?_, by rw [r3, hg]; simp, by rw [r3]; exact Nat.le_trans hgfn r4, fun j hj => ?_⟩
        · simp only [go_sem, abin_shl, abin_shr, Nat.reduceEqDiff, reduceIte, Nat.reduceAdd, Nat.reduceMul, Nat.reduceLT, Nat.reduceLeDiff, Int.reduceBEq, Int.reduceBNe, Int.reduceLT, Int.reduceLE, Int.reduceEq, cb, bt, ← hg, ap]
        · have : bys o1 = bys out ++ [.int .u8 0] := by rw [ho1]; simp [bys]
          rw [this]; exact r2
        · have := obg.lt hj
          exact r5 j (hne j hj) (by omega)
        · rw [r6]; intro e; have := Option.some.inj e; have := obg.lt hj; omega
      · have cb : (((i % 8 : Nat) : Int) == 0) = false := beq_f (by omega)
        rw [if_neg h8] at ho1
        subst ho1
        refine ⟨h, ov, ?_, oo, ob, rfl, hfn, hne⟩
        simp only [go_sem, abin_shl, abin_shr, Nat.reduceEqDiff, reduceIte, Nat.reduceAdd, Nat.reduceMul, Nat.reduceLT, Nat.reduceLeDiff, Int.reduceBEq, Int.reduceBNe, Int.reduceLT, Int.reduceLE, Int.reduceEq, cb]
    obtain ⟨h1, ov1, p1, p2, p3, p4, p5, p6⟩ := hpre
    have hget := bys_get ho1l
    obtain ⟨id, s1, s2, s3⟩ := p2.elem hget
    have hbget := ints_get hb
    obtain ⟨idb, t1, t2, t3⟩ := p3.elem hbget
    have hlt : o1.getD (i / 8) 0 < 256 := by
      rw [List.getD_eq_getElem?_getD, List.getElem?_eq_getElem ho1l]; exact ho1b _ (List.getElem_mem _)
    have or1 := bits_or8 (a := o1.getD (i / 8) 0) (b := bn * 2 ^ (i % 8)) hlt (by omega)
    obtain ⟨id2, u1, u2, u3, u4⟩ := p2.set (i := i / 8) (by rw [bys_length]; exact ho1l) (.int .u8 ((o1.getD (i / 8) 0 ||| bn * 2 ^ (i % 8) : Nat) : Int))
    have hid2 : id2 = id := by rw [s1] at u1; injection u1.symm
    subst hid2
    have hst : stO h1 id2 (i / 8) 1 [.int .u8 ((o1.getD (i / 8) 0 ||| bn * 2 ^ (i % 8) : Nat) : Int)] (some (bys o1)) = some (h1.set id2 ((bys o1).set (i / 8) (.int .u8 ((o1.getD (i / 8) 0 ||| bn * 2 ^ (i % 8) : Nat) : Int)))) := stO_1 u3 (by rw [bys_length]; exact ho1l) rfl
    have hos : outStep out i bn = o1.set (i / 8) (o1.getD (i / 8) 0 ||| bn * 2 ^ (i % 8)) := by rw [outStep, ← ho1]
    have hbs : (bys o1).set (i / 8) (.int .u8 ((o1.getD (i / 8) 0 ||| bn * 2 ^ (i % 8) : Nat) : Int)) = bys (outStep out i bn) := by rw [hos]; simp [bys, List.map_set]
    rw [hbs] at hst u4
    have step : evC (callW AP.A) loopW AP.f4L0 (restr [(3, kv), (4, bv), (6, ov), (7, I i)] [3, 4, 6, 7]) h = some (.normal, [(3, kv), (4, bv), (6, ov1), (7, I (i + 1 : Nat))], h1.set id2 (bys (outStep out i bn))) := by
      clear s1 u1 t1 hbs
      generalize bys (outStep out i bn) = BB at *
      generalize (o1.getD (i / 8) 0 ||| bn * 2 ^ (i % 8)) = OR at *
      generalize o1.getD (i / 8) 0 = G1 at *
      generalize bn * 2 ^ (i % 8) = G2 at *
      have inner : evC (callW AP.A) loopW (.seq (.seq (.reg [⟨some 35, .mv (.t 7), none⟩, ⟨some 36, .bin .rem (.t 35) (.c (.int .i64 8)), none⟩, ⟨some 37, .bin .eql (.t 36) (.c (.int .i64 0)), none⟩] [3, 4, 6, 7, 37])
          (.cond (.t 37) (.reg [⟨some 38, .mv (.t 6), none⟩, ⟨some 39, .bslice 1 1 [.int .u8 0] [(0, (.c (.int .u8 0)))], none⟩, ⟨some 40, .app 1 1 (.t 38) (.t 39), none⟩, ⟨some 6, .mv (.t 40), none⟩] [3, 4, 6, 7]) .skip [3, 4, 6, 7])) .skip) [(3, kv), (4, bv), (6, ov), (7, I i)] h = some (.normal, [(3, kv), (4, bv), (6, ov1), (7, I i)], h1) := by
        refine seq_n ?_ (evC_skip _ _ _ _)
        refine seq_n ?_ p1
        simp only [I] at *
        simp only [go_sem, abin_shl, abin_shr, Nat.reduceEqDiff, reduceIte, Nat.reduceAdd, Nat.reduceMul, Nat.reduceLT, Nat.reduceLeDiff, Int.reduceBEq, Int.reduceBNe, Int.reduceLT, Int.reduceLE, Int.reduceEq, q1]
      clear p1
      unfold AP.f4L0
      refine seq_n (e1 := [(3, kv), (4, bv), (6, ov), (7, I i)]) (h1 := h) ?_ ?_
      · simp only [I] at *
        simp only [go_sem, abin_shl, abin_shr, Nat.reduceEqDiff, reduceIte, Nat.reduceAdd, Nat.reduceMul, Nat.reduceLT, Nat.reduceLeDiff, Int.reduceBEq, Int.reduceBNe, Int.reduceLT, Int.reduceLE, Int.reduceEq, ln, decide_eq_true c1]
      refine seq_n (e1 := [(3, kv), (4, bv), (6, ov1), (7, I i)]) (h1 := h1.set id2 BB) ?_ ?_
      · rw [C_block, C_seq]
        have inner2 := seq_inv inner
        rw [inner2]
        simp only [I] at *
        simp only [go_sem, abin_shl, abin_shr, Nat.reduceEqDiff, reduceIte, Nat.reduceAdd, Nat.reduceMul, Nat.reduceLT, Nat.reduceLeDiff, Int.reduceBEq, Int.reduceBNe, Int.reduceLT, Int.reduceLE, Int.reduceEq, q2, q1, s2, s3, hget, t2, t3, hbget, q3, w2, or1, hst]
      · simp only [I] at *
        simp only [go_sem, abin_shl, abin_shr, Nat.reduceEqDiff, reduceIte, Nat.reduceAdd, Nat.reduceMul, Nat.reduceLT, Nat.reduceLeDiff, Int.reduceBEq, Int.reduceBNe, Int.reduceLT, Int.reduceLE, Int.reduceEq, w1]
    obtain ⟨e', h', ov', r1, r2, r3, r4, r5, r6⟩ := far_out (kv := kv) hbl hl m (i + 1) (outStep out i bn) (h1.set id2 (bys (outStep out i bn))) ov1 (by omega) (p3.mono (by simp) fun j hj => by
      rw [H.get_set, if_neg]; rintro rfl; exact p6 j hj (by rw [u1]; rfl)) u4 (outStep_len hlen) (outStep_byt (by omega) hby) (by simp; omega) p6
    refine ⟨e', h', ov', Lp_next step r1, r2, r3, ?_, by rw [r5]; simp [p4], r6⟩
    rw [hd, List.map_cons, Int.toNat_natCast, outAll]; exact r4

def patL : List Int := [1, 0, 0, 1, 0, 0, 0, 1]
def tailL : List Int := [0, 0, 0, 0, 0, 0, 1, 0, 0, 0, 0, 1, 0, 0, 0, 0, 0, 0, 0]
def pats : Nat → List Int
  | 0 => []
  | k + 1 => patL ++ pats k
theorem pats_len : ∀ k, (pats k).length = 8 * k
  | 0 => rfl
  | k + 1 => by rw [pats, List.length_append, pats_len k]; show 8 + 8 * k = _; omega
theorem pats_comm : ∀ k, pats k ++ patL = patL ++ pats k
  | 0 => rfl
  | k + 1 => by rw [pats, List.append_assoc, pats_comm k]

theorem far_bits (k : Nat) (hk : k < 4) : ∀ (m i : Nat) (h : H) (bv : AV), m + i = k → Own h bv (ints ([1, 1, 0] ++ pats i)) → h.floor ≤ h.next →
    ∃ e' h' bv', Lp AP.A [3, 4, 5] AP.f4L1 [(3, I k), (4, bv), (5, I i)] h = some (.exit 0, e', h') ∧ look e' 3 = I k ∧ look e' 4 = bv' ∧ Own h' bv' (ints ([1, 1, 0] ++ pats k)) ∧ h'.floor = h.floor ∧ h'.floor ≤ h'.next
  | 0, i, h, bv, hm, ob, hfn => by
    obtain rfl : i = k := by omega
    refine ⟨[(3, I i), (4, bv), (5, I i), (20, .bool false)], h, bv, Lp_exit ?_, rfl, rfl, ob, rfl, hfn⟩
    have c1 : ¬ (i : Int) < (i : Int) := by omega
    simp only [I] at *
    simp only [AP.f4L1, go_sem, abin_shl, abin_shr, Nat.reduceEqDiff, reduceIte, Nat.reduceAdd, Nat.reduceMul, Nat.reduceLT, Nat.reduceLeDiff, Int.reduceBEq, Int.reduceBNe, Int.reduceLT, Int.reduceLE, Int.reduceEq, decide_eq_false c1]
  | m + 1, i, h, bv, hm, ob, hfn => by
    have c1 : (i : Int) < (k : Int) := by omega
    have w1 : IntKind.wrap .i64 ((i : Int) + 1) = ((i + 1 : Nat) : Int) := wrap_nat64 (n := i + 1) (by omega)
    obtain ⟨g, hg⟩ : ∃ g, g = h.alloc (ints patL) := ⟨_, rfl⟩
    have og : Own g bv (ints ([1, 1, 0] ++ pats i)) := ob.mono (by rw [hg]; simp) fun j hj => by have := ob.lt hj; rw [hg, H.get_alloc, if_neg (by omega)]
    have hgfn : g.floor ≤ g.next := by rw [hg]; simp; omega
    have hpl := pats_len i
    obtain ⟨v', h2, r1, r2, r3, r4, r5, r6⟩ := og.apps hgfn (z := 8) (ints patL) (allsc_ints _) (by decide) (by simp [roomy, patL]; omega)
    have src : srcCells g 1 (.sobj h.next 0 8 1) = some (8, ints patL) := by
      simp only [srcCells, if_true, hg, H.get_alloc, Option.bind_some]; rfl
    have ap : aapp g 1 8 bv (.sobj h.next 0 8 1) = some (v', h2) := by unfold aapp; rw [src, Option.bind_some]; exact r1
    have bt : ∀ e : Env, birth e (.bslice 1 8 [.int .i64 0] [(0, (.c (.int .i64 1))), (1, (.c (.int .i64 0))), (2, (.c (.int .i64 0))), (3, (.c (.int .i64 1))), (4, (.c (.int .i64 0))), (5, (.c (.int .i64 0))), (6, (.c (.int .i64 0))), (7, (.c (.int .i64 1)))]) = some (ints patL, fun i => .sobj i 0 8 1) := fun _ => rfl
    have hc : ints ([1, 1, 0] ++ pats i) ++ ints patL = ints ([1, 1, 0] ++ pats (i + 1)) := by rw [← ints_append, List.append_assoc, pats_comm]; rfl
    rw [hc] at r2
    have step : evC (callW AP.A) loopW AP.f4L1 (restr [(3, I k), (4, bv), (5, I i)] [3, 4, 5]) h = some (.normal, [(3, I k), (4, v'), (5, I (i + 1 : Nat))], h2) := by
      clear hc
      simp only [I] at *
      simp only [AP.f4L1, go_sem, abin_shl, abin_shr, Nat.reduceEqDiff, reduceIte, Nat.reduceAdd, Nat.reduceMul, Nat.reduceLT, Nat.reduceLeDiff, Int.reduceBEq, Int.reduceBNe, Int.reduceLT, Int.reduceLE, Int.reduceEq, decide_eq_true c1, bt, ← hg, ap, w1]
    obtain ⟨e', h', bv', q1, q2, q3, q4, q5, q6⟩ := far_bits k hk m (i + 1) h2 v' (by omega) r2 (by rw [r3]; exact Nat.le_trans hgfn r4)
    exact ⟨e', h', bv', Lp_next step q1, q2, q3, q4, by rw [q5, r3, hg]; simp, q6⟩

def bitsF (k : Nat) : List Int := [1, 1, 0] ++ pats k ++ tailL
def farB (k : Nat) : List Nat := outAll ((bitsF k).map Int.toNat) 0 []

theorem far_inf0 : inflateA (bytesOf (farB 0)) 99 = .error 700 := by kernel_rfl
theorem far_inf1 : inflateA (bytesOf (farB 1)) 99 = .error 700 := by kernel_rfl
theorem far_inf2 : inflateA (bytesOf (farB 2)) 99 = .ok (List.replicate 5 97, (farB 2).length) := by kernel_rfl
theorem far_inf3 : inflateA (bytesOf (farB 3)) 99 = .ok (List.replicate 6 97, (farB 3).length) := by kernel_rfl
theorem far_inf (k : Nat) (hk : k < 4) : inflateA (bytesOf (farB k)) 99 = if k < 2 then .error 700 else .ok (List.replicate (k + 3) 97, (farB k).length) := by
  have : k = 0 ∨ k = 1 ∨ k = 2 ∨ k = 3 := by omega
  rcases this with rfl | rfl | rfl | rfl
  · rw [if_pos (by decide)]; exact far_inf0
  · rw [if_pos (by decide)]; exact far_inf1
  · rw [if_neg (by decide)]; exact far_inf2
  · rw [if_neg (by decide)]; exact far_inf3
theorem far_size : ∀ k < 4, (bytesOf (farB k)).size < 1125899906842624 := by decide +kernel
theorem far_text2 : asls (.str ⟨#[97, 97, 97, 97, 97, 97, 97, 97, 97, 97]⟩) none (some (I 5)) = some (.str (bytesOf (List.replicate 5 97))) := by kernel_rfl
theorem far_text3 : asls (.str ⟨#[97, 97, 97, 97, 97, 97, 97, 97, 97, 97]⟩) none (some (I 6)) = some (.str (bytesOf (List.replicate 6 97))) := by kernel_rfl
theorem far_text (k : Nat) (hk4 : k < 4) (hk2 : ¬ k < 2) : asls (.str ⟨#[97, 97, 97, 97, 97, 97, 97, 97, 97, 97]⟩) none (some (I (k + 3 : Nat))) = some (.str (bytesOf (List.replicate (k + 3) 97))) := by
  have : k = 2 ∨ k = 3 := by omega
  rcases this with rfl | rfl
  · exact far_text2
  · exact far_text3
theorem far_b1 (e : Env) : birth e (.bslice 1 19 [.int .i64 0] [(0, (.c (.int .i64 0))), (1, (.c (.int .i64 0))), (2, (.c (.int .i64 0))), (3, (.c (.int .i64 0))), (4, (.c (.int .i64 0))), (5, (.c (.int .i64 0))), (6, (.c (.int .i64 1))), (7, (.c (.int .i64 0))), (8, (.c (.int .i64 0))), (9, (.c (.int .i64 0))), (10, (.c (.int .i64 0))), (11, (.c (.int .i64 1))), (12, (.c (.int .i64 0))), (13, (.c (.int .i64 0))), (14, (.c (.int .i64 0))), (15, (.c (.int .i64 0))), (16, (.c (.int .i64 0))), (17, (.c (.int .i64 0))), (18, (.c (.int .i64 0)))]) = some (ints tailL, fun i => .sobj i 0 19 1) := by kernel_rfl

theorem bitsF_rng (k : Nat) : ∀ b ∈ bitsF k, 0 ≤ b ∧ b ≤ 1 := by
  have hp : ∀ k, ∀ b ∈ pats k, 0 ≤ b ∧ b ≤ 1 := by
    intro k
    induction k with
    | zero => intro b hb; cases hb
    | succ k ih =>
      intro b hb
      rw [pats] at hb
      rcases List.mem_append.1 hb with q | q
      · exact (by decide : ∀ b ∈ patL, 0 ≤ b ∧ b ≤ 1) b q
      · exact ih b q
  intro b hb
  unfold bitsF at hb
  rcases List.mem_append.1 hb with q | q
  · rcases List.mem_append.1 q with q | q
    · exact (by decide : ∀ b ∈ ([1, 1, 0] : List Int), 0 ≤ b ∧ b ≤ 1) b q
    · exact hp k b q
  · exact (by decide : ∀ b ∈ tailL, 0 ≤ b ∧ b ≤ 1) b q

theorem wrapU (n : Int) : IntKind.wrap .u64 n = n % 18446744073709551616 := by simp [IntKind.wrap, IntKind.bits, IntKind.signed]

theorem far_c (lits : Int) (hr : -9223372036854775808 ≤ lits ∧ lits < 9223372036854775808) (h : H) : callW AP.A 4 [I lits] h = some (.bool true, h) := by
  have aw := awake_c h.fence
  obtain ⟨k, hk⟩ : ∃ k : Nat, (IntKind.wrap .u64 lits).tmod 4 = k := by
    refine Int.eq_ofNat_of_zero_le ?_
    rw [wrapU, Int.tmod_eq_emod_of_nonneg (by omega)]; omega
  have hk4 : k < 4 := by rw [wrapU, Int.tmod_eq_emod_of_nonneg (by omega)] at hk; omega
  have q1 : abin .rem (.int .u64 (IntKind.wrap .u64 lits)) (.int .u64 4) = some (.int .u64 k) := by rw [abin_rem _ _ _ (by omega), hk]
  have w4 : IntKind.wrap .i64 (k : Int) = k := wrap_nat64 (by omega)
  -- the first bits
  obtain ⟨g0, hg0⟩ : ∃ g, g = h.fence.alloc (ints [1, 1, 0]) := ⟨_, rfl⟩
  have b0 : ∀ e : Env, birth e (.bslice 1 3 [.int .i64 0] [(0, (.c (.int .i64 1))), (1, (.c (.int .i64 1))), (2, (.c (.int .i64 0)))]) = some (ints [1, 1, 0], fun i => .sobj i 0 3 1) := fun _ => rfl
  have o0 : Own g0 (.sobj h.next 0 3 1) (ints ([1, 1, 0] ++ pats 0)) := .inr ⟨h.next, rfl, by rw [hg0, H.get_alloc, if_pos (show h.next = h.fence.next from rfl)]; rfl, by rw [hg0]; simp, by decide⟩
  obtain ⟨e1, h1, bv1, l1, l2, l3, l4, l5, l6⟩ := far_bits k hk4 k 0 g0 (.sobj h.next 0 3 1) (by omega) o0 (by rw [hg0]; simp)
  have l1' : Lp AP.A [3, 4, 5] AP.f4L1 [(3, I k), (4, .sobj h.next 0 3 1), (5, I 0)] g0 = some (.exit 0, e1, h1) := l1
  clear l1
  -- the last bits
  obtain ⟨g1, hg1⟩ : ∃ g, g = h1.alloc (ints tailL) := ⟨_, rfl⟩
  have og1 : Own g1 bv1 (ints ([1, 1, 0] ++ pats k)) := l4.mono (by rw [hg1]; simp) fun j hj => by have := l4.lt hj; rw [hg1, H.get_alloc, if_neg (by omega)]
  have hg1fn : g1.floor ≤ g1.next := by rw [hg1]; simp; omega
  have hpl := pats_len k
  obtain ⟨bv2, h2, r1, r2, r3, r4, r5, r6⟩ := og1.apps hg1fn (z := 8) (ints tailL) (allsc_ints _) (by decide) (by simp [roomy, tailL]; omega)
  have src : srcCells g1 1 (.sobj h1.next 0 19 1) = some (19, ints tailL) := by
    simp only [srcCells, if_true, hg1, H.get_alloc, Option.bind_some]; rfl
  have ap : aapp g1 1 8 bv1 (.sobj h1.next 0 19 1) = some (bv2, h2) := by unfold aapp; rw [src, Option.bind_some]; exact r1
  rw [← ints_append] at r2
  have hbl : (bitsF k).length < 1000 := by simp [bitsF, pats_len, tailL]; omega
  obtain ⟨e3, h3, ov, m1, m2, m3, m4, m5, m6⟩ := far_out (kv := I k) (bitsF_rng k) hbl (bitsF k).length 0 [] h2 .nils (by omega) r2 (.inl ⟨rfl, rfl⟩) rfl (fun b hb => by cases hb) (by rw [r3]; exact Nat.le_trans hg1fn r4) (fun j hj => by intro e; cases e)
  have m1' : Lp AP.A [3, 4, 6, 7] AP.f4L0 [(3, I k), (4, bv2), (6, .nils), (7, I 0)] h2 = some (.exit 2, e3, h3) := m1
  clear m1
  rw [List.drop_zero] at m4
  have m4' : Own h3 ov (bys (farB k)) := m4
  clear m4
  have hfar := far_inf k hk4
  have hfbl := far_size k hk4
  generalize farB k = fb at *
  have hb := b2s_own m4'
  have ln := m4'.len
  rw [bys_length] at ln
  have n0 := num_c h3 0
  have n7 := num_c h3 700
  have hn : h.fence.next = h.next := rfl
  have hn1 : h.fence.floor ≤ h.fence.next := Nat.le_refl _
  by_cases hk2 : k < 2
  · rw [if_pos hk2] at hfar
    have i1 : callW AP.A 7 [.str (bytesOf fb), I 99] h3 = some (.tup [.str ⟨#[]⟩, I 0, I 700], h3) := inf_at (r := .error 700) m6 hfbl hfar rfl
    have c2 : (k : Int) < 2 := by omega
    have e1 : abin .eql (.str ⟨#[]⟩) (.str ⟨#[]⟩) = some (.bool true) := by rw [str_eql]; rfl
    refine pure_c (fn := AP.f4) (h2 := h3) (e := [(2, .bool true)]) rfl rfl rfl ?_ rfl rfl
    simp only [I] at *
    simp only [AP.f4, go_sem, abin_shl, abin_shr, Nat.reduceEqDiff, reduceIte, Nat.reduceAdd, Nat.reduceMul, Nat.reduceLT, Nat.reduceLeDiff, Int.reduceBEq, Int.reduceBNe, Int.reduceLT, Int.reduceLE, Int.reduceEq, aw, q1, w4, b0, ← hg0, hn, evC_loop, l1', l2, l3, far_b1, ← hg1, ap, m1', m2, m3, hb, i1, decide_eq_true c2, e1, n7]
  · rw [if_neg hk2] at hfar
    have i1 : callW AP.A 7 [.str (bytesOf fb), I 99] h3 = some (.tup [.str (bytesOf (List.replicate (k + 3) 97)), I fb.length, I 0], h3) := inf_at (r := .ok (List.replicate (k + 3) 97, fb.length)) m6 hfbl hfar rfl
    have c2 : ¬ (k : Int) < 2 := by omega
    have w5 : IntKind.wrap .i64 ((k : Int) + 3) = ((k + 3 : Nat) : Int) := wrap_nat64 (n := k + 3) (by omega)
    have ss := far_text k hk4 hk2
    have e1 : abin .eql (.str (bytesOf (List.replicate (k + 3) 97))) (.str (bytesOf (List.replicate (k + 3) 97))) = some (.bool true) := by rw [str_eql]; simp
    have e2 : ((fb.length : Int) == (fb.length : Int)) = true := beq_t rfl
    refine pure_c (fn := AP.f4) (h2 := h3) (e := [(2, .bool true)]) rfl rfl rfl ?_ rfl rfl
    simp only [I] at *
    simp only [AP.f4, go_sem, abin_shl, abin_shr, Nat.reduceEqDiff, reduceIte, Nat.reduceAdd, Nat.reduceMul, Nat.reduceLT, Nat.reduceLeDiff, Int.reduceBEq, Int.reduceBNe, Int.reduceLT, Int.reduceLE, Int.reduceEq, Option.map_some, Option.map_none, aw, q1, w4, b0, ← hg0, hn, evC_loop, l1', l2, l3, far_b1, ← hg1, ap, m1', m2, m3, hb, i1, decide_eq_false c2, w5, ss, e1, ln, e2, n0]
end Ab

/- portagelaw7: stored blocks: plainBlock, InflateStored. -/
set_option linter.unusedSimpArgs false
set_option linter.unusedVariables false
namespace Ab
open Go

def byteAt (t : ByteArray) (i : Nat) : Nat := ((t[i]?).map (·.toNat)).getD 0
theorem byteAt_lt (t : ByteArray) (i : Nat) : byteAt t i < 256 := by
  unfold byteAt
  cases t[i]? with
  | none => simp
  | some b => simpa using b.toNat_lt
theorem bitAt_byte (t : ByteArray) (i j : Nat) (hj : j < 8) : bitAt t (8 * i + j) = byteAt t i / 2 ^ j % 2 := by
  unfold bitAt byteAt
  rw [show (8 * i + j) / 8 = i by omega, show (8 * i + j) % 8 = j by omega]
theorem val8 (t : ByteArray) (i : Nat) : valAt t (8 * i) 8 = byteAt t i := by
  have hb := byteAt_lt t i
  simp only [valAt, bitAt_byte t i 0 (by omega), bitAt_byte t i 1 (by omega), bitAt_byte t i 2 (by omega), bitAt_byte t i 3 (by omega), bitAt_byte t i 4 (by omega), bitAt_byte t i 5 (by omega), bitAt_byte t i 6 (by omega), bitAt_byte t i 7 (by omega)]
  omega
theorem val_add (t : ByteArray) (p n : Nat) : ∀ m, valAt t p (n + m) = valAt t p n + valAt t (p + n) m * 2 ^ n
  | 0 => by simp [valAt]
  | m + 1 => by
    show valAt t p (n + m) + bitAt t (p + (n + m)) * 2 ^ (n + m) = valAt t p n + (valAt t (p + n) m + bitAt t (p + n + m) * 2 ^ m) * 2 ^ n
    rw [val_add t p n m, Nat.pow_add, Nat.add_mul (valAt t (p + n) m), Nat.add_assoc p n m, Nat.mul_assoc (bitAt t (p + (n + m))), Nat.mul_comm (2 ^ m) (2 ^ n), Nat.add_assoc]
theorem val16 (t : ByteArray) (i : Nat) : valAt t (8 * i) 16 = byteAt t i + byteAt t (i + 1) * 256 := by
  rw [show 16 = 8 + 8 from rfl, val_add, val8, show 8 * i + 8 = 8 * (i + 1) by omega, val8]

def bytesF (t : ByteArray) (i n : Nat) : List Nat := ((t.data.toList.drop i).take n).map (·.toNat)
theorem byteAt_list (t : ByteArray) (i : Nat) : byteAt t i = ((t.data.toList[i]?).map (·.toNat)).getD 0 := by
  unfold byteAt
  by_cases h : i < t.size
  · rw [getElem?_pos t i h, Array.getElem?_toList, getElem?_pos t.data i h]; rfl
  · rw [getElem?_neg t i h, Array.getElem?_toList, getElem?_neg t.data i h]
theorem bytesF_succ (t : ByteArray) (i n : Nat) (h : i < t.size) : bytesF t i (n + 1) = byteAt t i :: bytesF t (i + 1) n := by
  have hi : i < t.data.toList.length := h
  unfold bytesF
  rw [List.drop_eq_getElem_cons hi, List.take_succ_cons, List.map_cons, byteAt_list, List.getElem?_eq_getElem hi]; rfl

theorem storeA_bytes (t : ByteArray) (most : Nat) : ∀ (n i : Nat) (out : List Nat), i + n ≤ t.size → out.length ≤ most → storeA t most n (8 * i) out = if out.length + n ≤ most then .ok (8 * (i + n), out ++ bytesF t i n) else .error 701
  | 0, i, out, h, ho => by rw [storeA, if_pos (by omega)]; simp [bytesF]
  | n + 1, i, out, h, ho => by
    rw [storeA, if_pos (by omega)]
    by_cases hm : most ≤ out.length
    · rw [if_pos (by omega), if_neg (by omega)]
    · rw [if_neg (by omega), show 8 * i + 8 = 8 * (i + 1) by omega, storeA_bytes t most n (i + 1) _ (by omega) (by simp; omega), val8]
      rw [List.length_append, List.length_singleton, bytesF_succ t i n (by omega)]
      rw [show out.length + 1 + n = out.length + (n + 1) by omega, show i + 1 + n = i + (n + 1) by omega, List.append_assoc]; rfl

/-- A stored block at a whole byte. -/
theorem block_stored (t : ByteArray) (most : Nat) (i n : Nat) (out : List Nat) (ho : out.length ≤ most) (h0 : byteAt t i < 2) (h1 : byteAt t (i + 1) + byteAt t (i + 2) * 256 = n) (h2 : byteAt t (i + 3) + byteAt t (i + 4) * 256 = 65535 - n) (hn : n ≤ 65535) (hs : i + 5 + n ≤ t.size) :
    blockA t most (8 * i) out = if out.length + n ≤ most then .ok (byteAt t i == 1, 8 * (i + 5 + n), out ++ bytesF t (i + 5) n) else .error 701 := by
  have hb := byteAt_lt t i
  have v1 : valAt t (8 * i) 1 = byteAt t i := by
    simp only [valAt, bitAt_byte t i 0 (by omega)]; omega
  have v2 : valAt t (8 * i + 1) 2 = 0 := by
    simp only [valAt, show 8 * i + 1 + 0 = 8 * i + 1 by omega, show 8 * i + 1 + 1 = 8 * i + 2 by omega, bitAt_byte t i 1 (by omega), bitAt_byte t i 2 (by omega)]; omega
  have hst : storedA t most (8 * i + 3) out = if out.length + n ≤ most then .ok (8 * (i + 5 + n), out ++ bytesF t (i + 5) n) else .error 701 := by
    have hp : (8 * i + 3 + 7) / 8 * 8 = 8 * (i + 1) := by omega
    unfold storedA
    dsimp only
    rw [hp, if_pos (by omega), val16, show 8 * (i + 1) + 16 = 8 * (i + 3) by omega, val16, show i + 1 + 1 = i + 2 by omega, show i + 3 + 1 = i + 4 by omega, h1, h2, if_pos (by omega), show 8 * (i + 1) + 32 = 8 * (i + 5) by omega, storeA_bytes t most n (i + 5) out hs ho]
  unfold blockA
  rw [if_pos (by omega), v1, v2, hst]
  simp only [if_true]
  split
  · rename_i q hq
    split at hq
    · cases hq; rw [if_pos ‹_›]
    · cases hq
  · rename_i k hq
    split at hq
    · cases hq
    · cases hq; rw [if_neg ‹_›]

/-- A stored block's bytes. -/
def plainB (s : ByteArray) : ByteArray := ⟨#[UInt8.ofNat s.size, 0, UInt8.ofNat (255 - s.size), 255]⟩ ++ s

theorem abin_strAdd {x y : ByteArray} (h : x.size + y.size ≤ 9223372036854775807) : abin .add (.str x) (.str y) = some (.str (x ++ y)) := by
  simp only [abin, binStr, if_pos h]

theorem shr_i64 {a s : Nat} (hs : s ≤ 64) {j : IntKind} : abin .shr (.int .i64 (a : Int)) (.int j (s : Int)) = some (.int .i64 ((a / 2 ^ s : Nat) : Int)) := by
  show shft .shr .i64 (a : Int) (s : Int) = _
  unfold shft
  rw [if_neg (by omega)]
  simp only [IntKind.bits, Int.toNat_natCast, Nat.min_eq_left hs]
  congr 2
  rw [Int.fdiv_eq_ediv_of_nonneg _ (Int.pow_nonneg (by omega))]
  simp
theorem bits_and64 {a b : Nat} (ha : a < 9223372036854775808) (hb : b < 9223372036854775808) : bits .and .i64 (a : Int) (b : Int) = ((a &&& b : Nat) : Int) := by
  have h2 : b < 2 ^ 63 := by simpa using hb
  have h3 : a &&& b < 2 ^ 63 := Nat.and_lt_two_pow _ h2
  show IntKind.wrap .i64 (((BitVec.ofInt 64 (a : Int) &&& BitVec.ofInt 64 (b : Int)).toNat : Nat) : Int) = _
  rw [BitVec.toNat_and, bv_nat 64 a (by omega), bv_nat 64 b (by omega)]
  exact wrap_nat64 (by simpa using h3)

theorem plain_block_c (h : H) (s : ByteArray) (hs : s.size ≤ 200) : callW AP.A 11 [.str s] h = some (.str (plainB s), h) := by
  have w1 : IntKind.wrap .u8 (s.size : Int) = s.size := wrap_u8 (by omega)
  have q1 : abin .shr (.int .i64 (s.size : Int)) (.int .u64 8) = some (.int .i64 0) := by
    have := shr_i64 (a := s.size) (s := 8) (j := .u64) (by omega)
    rw [show s.size / 2 ^ 8 = 0 by omega] at this; exact this
  have w0 : IntKind.wrap .u8 0 = 0 := by decide
  have a1 : bits .and .i64 (s.size : Int) 255 = s.size := by
    have := bits_and64 (a := s.size) (b := 255) (by omega) (by omega)
    rw [show (255 : Nat) = 2 ^ 8 - 1 from rfl, Nat.and_two_pow_sub_one_eq_mod, Nat.mod_eq_of_lt (by omega)] at this; exact this
  have w2 : IntKind.wrap .i64 (255 - (s.size : Int)) = ((255 - s.size : Nat) : Int) := by rw [show (255 : Int) - s.size = ((255 - s.size : Nat) : Int) by omega]; exact wrap_nat64 (by omega)
  have w3 : IntKind.wrap .u8 ((255 - s.size : Nat) : Int) = ((255 - s.size : Nat) : Int) := wrap_u8 (by omega)
  have w4 : IntKind.wrap .i64 (255 - 0) = 255 := by decide
  have w5 : IntKind.wrap .u8 255 = 255 := by decide
  obtain ⟨g, hg⟩ : ∃ g, g = h.fence.alloc [.int .u8 s.size, .int .u8 0, .int .u8 (255 - s.size : Nat), .int .u8 255] := ⟨_, rfl⟩
  have bt : ∀ e : Env, look e 5 = .int .u8 s.size → look e 9 = .int .u8 0 → look e 14 = .int .u8 (255 - s.size : Nat) → look e 19 = .int .u8 255 → birth e (.bslice 1 4 [.int .u8 0] [(0, (.t 5)), (1, (.t 9)), (2, (.t 14)), (3, (.t 19))]) = some ([.int .u8 s.size, .int .u8 0, .int .u8 (255 - s.size : Nat), .int .u8 255], fun i => .sobj i 0 4 1) := by
    intro e q1 q2 q3 q4
    simp only [birth, List.map_cons, List.map_nil, ev_t', q1, q2, q3, q4]; rfl
  have src : srcCells g 1 (.sobj h.next 0 4 1) = some (4, [.int .u8 s.size, .int .u8 0, .int .u8 (255 - s.size : Nat), .int .u8 255]) := by
    simp [srcCells, hg, H.get_alloc]
  have bb : b2sB g (.sobj h.next 0 4 1) (srcCells g 1 (.sobj h.next 0 4 1)) = some (.str ⟨#[UInt8.ofNat s.size, 0, UInt8.ofNat (255 - s.size), 255]⟩, g) := by
    rw [src]; simp [b2sB, b2s]
  have ad : abin .add (.str ⟨#[UInt8.ofNat s.size, 0, UInt8.ofNat (255 - s.size), 255]⟩) (.str s) = some (.str (plainB s)) := abin_strAdd (by show 4 + s.size ≤ _; omega)
  have hn : h.fence.next = h.next := rfl
  refine pure_c (fn := AP.f11) (h2 := g) (e := [(2, .str (plainB s))]) rfl rfl rfl ?_ rfl rfl
  simp only [AP.f11, go_sem, abin_shl, abin_shr, Nat.reduceEqDiff, reduceIte, Nat.reduceAdd, Nat.reduceMul, Nat.reduceLT, Nat.reduceLeDiff, Int.reduceBEq, Int.reduceBNe, Int.reduceLT, Int.reduceLE, Int.reduceEq, w1, q1, w0, a1, w2, w3, Int.sub_zero, w4, w5]
  rw [bt _ rfl rfl rfl rfl]
  simp only [go_sem, abin_shl, abin_shr, Nat.reduceEqDiff, reduceIte, Nat.reduceAdd, Nat.reduceMul, Nat.reduceLT, Nat.reduceLeDiff, Int.reduceBEq, Int.reduceBNe, Int.reduceLT, Int.reduceLE, Int.reduceEq, ← hg, hn, bb, ad]
end Ab
