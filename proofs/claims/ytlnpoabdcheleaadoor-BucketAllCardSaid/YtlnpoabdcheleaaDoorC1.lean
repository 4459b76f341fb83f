/- Part C1. -/
import Derived.KernelRfl
import Derived.Test.YtlnpoabdcheleaaDoorAP
set_option linter.unusedSimpArgs false
set_option linter.unusedVariables false
namespace Ab
open Go
theorem OQ : type_of% @decide_eq_false := @decide_eq_false
theorem OS : type_of% @List.length_cons := @List.length_cons
theorem OT : type_of% @List.length_nil := @List.length_nil
theorem OU : type_of% @decide_eq_true := @decide_eq_true
theorem OW : type_of% @Option.map_some := @Option.map_some
theorem OX : type_of% @List.length_map := @List.length_map
theorem OY : type_of% @decide_eq_true_eq := @decide_eq_true_eq
theorem OZ : type_of% @List.append_nil := @List.append_nil
theorem O0 : type_of% @List.drop_zero := @List.drop_zero
theorem O3 : type_of% @List.map_append := @List.map_append
theorem O4 : type_of% @Nat.pow_le_pow_right := @Nat.pow_le_pow_right
theorem O5 : type_of% @Option.map_none := @Option.map_none
theorem O6 : type_of% @Bool.false_and := @Bool.false_and
theorem O7 : type_of% @List.map_cons := @List.map_cons
theorem O8 : type_of% @Bool.and_false := @Bool.and_false
theorem O9 : type_of% @List.eq_nil_of_length_eq_zero := @List.eq_nil_of_length_eq_zero
theorem Pa : type_of% @List.length_replicate := @List.length_replicate
theorem Pb : type_of% @Int.eq_ofNat_of_zero_le := @Int.eq_ofNat_of_zero_le
theorem Pc : type_of% @congrArg := @congrArg
theorem Pd : type_of% @Nat.mul_one := @Nat.mul_one
attribute [local congr] vq
def A4 (l : List Int) (n : Nat) : Nat := if n = 0 then 0 else l.countP (fun x => x == (n : Int))
def syms (l : List Int) (n : Nat) : List Int := if n = 0 then [] else l.zipIdx.filterMap fun p => if p.1 = (n : Int) then some (p.2 : Int) else none
theorem DT (p : List Int) (x : Int) (n : Nat) : A4 (p ++ [x]) n = A4 p n + if n ≠ 0 ∧ x = (n : Int) then 1 else 0 := by
 unfold A4
 by_cases hn : n = 0
 · simp [hn]
 · simp [hn, List.countP_append, List.countP_cons]
theorem CY (p : List Int) (x : Int) (n : Nat) : syms (p ++ [x]) n = syms p n ++ if n ≠ 0 ∧ x = (n : Int) then [(p.length : Int)] else [] := by
 unfold syms
 by_cases hn : n = 0
 · simp [hn]
 · simp [hn, List.zipIdx_append, List.filterMap_append]
   split <;> simp_all
theorem Ey (l : List Int) (n : Nat) : (syms l n).length ≤ l.length := by
 unfold syms
 split
 · simp
 · refine xA (List.length_filterMap_le _ _) ?_
   simp
theorem A5 (l : List Int) (n : Nat) : A4 l n ≤ l.length := by
 unfold A4
 split
 · omega
 · exact List.countP_le_length
structure Bk (h0 h : H) (b : Nat) (C : Nat → AV) (p : List Int) : Prop where
 get : h.get b = some (o7 49 C)
 fl : h.floor = h0.next
 fb : h0.next ≤ b
 nx : h.floor ≤ h.next
 low : ∀ id, id < h0.next → h.get id = h0.get id
 Jy : ∀ n, n < 16 → C (16 + n) = I (A4 p n)
 own : ∀ n, n < 16 → oZ h (C (32 + n)) (ints (syms p n))
 nb : ∀ n, n < 16 → (C (32 + n)).id? ≠ some b
 I4 : ∀ n m, n < 16 → m < 16 → n ≠ m → ∀ i, (C (32 + n)).id? = some i → (C (32 + m)).id? ≠ some i
set_option maxHeartbeats 1000000 in
theorem F9 (h0 h : H) (b : Nat) (C : Nat → AV) (p : List Int) (n : Nat) (x : AV) (N : Int) (bk : Bk h0 h b C p) (hn1 : 0 < n) (hn : n < 16) (hp : p.length < 100000) (hel : ∃ a, gS 1 x (I p.length) = some a ∧ ∀ g : H, (∀ id c, h0.get id = some c → g.get id = some c) → bZ false 1 a g = some (I n)) (hN : (p.length : Int) < N) :
 ∃ h' C', aM (aS AP.A) bH AP.f41L1 [(3, .aE b 0), (10, x), (11, I N), (12, I p.length)] h = some (.normal, [(3, .aE b 0), (10, x), (11, I N), (12, I (p.length + 1))], h') ∧ Bk h0 h' b C' (p ++ [(n : Int)]) ∧ ∀ i, (i < 16 ∨ i = 48) → C' i = C i := by
 obtain ⟨a, ha1, ha2⟩ := hel
 have hlow : ∀ id c, h0.get id = some c → h.get id = some c := fun id c q => by rw [bk.low id (h0.lt id c q)]; exact q
 have hld := ha2 h hlow
 have hx : dx (I n) 16 = some n := lW hn
 have g1 : (o7 49 C)[16 + n]? = some (I (A4 p n)) := by rw [gQ (by omega), bk.Jy n hn]
 have hcl := A5 p n
 have hw : IntKind.wrap .i64 ((A4 p n : Int) + 1) = A4 p n + 1 := vK (by omega) (by omega)
 have hw2 : IntKind.wrap .i64 ((p.length : Int) + 1) = p.length + 1 := vK (by omega) (by omega)
 have hfb : h.floor ≤ b := by rw [bk.fl]; exact bk.fb
 have hs1 : (o7 49 C).set (16 + n) (I (A4 p n + 1)) = o7 49 (v9 C (16 + n) (I (A4 p n + 1))) := vJ (by omega) _
 obtain ⟨C1, eC1⟩ : ∃ D, D = v9 C (16 + n) (I (A4 p n + 1)) := ⟨_, rfl⟩
 rw [← eC1] at hs1
 obtain ⟨h1, eh1⟩ : ∃ g, g = (h.set b (o7 49 C1)).alloc [I p.length] := ⟨_, rfl⟩
 have hbn : b < h.next := h.lt _ _ bk.get
 have hb1 : h1.get b = some (o7 49 C1) := by
  rw [eh1, H.aX, H.ke, if_neg (by omega), H.dU, if_pos rfl, bk.get]; rfl
 have hC1 : C1 (32 + n) = C (32 + n) := by rw [eC1, v9, if_neg (by omega)]
 have hlo1 : ∀ i, i ≠ b → i ≠ h.next → h1.get i = h.get i := fun i q1 q2 => by
  rw [eh1, H.aX, H.ke, if_neg q2, H.dU, if_neg q1]
 have hfl1 : h1.floor = h.floor := by rw [eh1]; simp
 have hnx1 : h1.next = h.next + 1 := by rw [eh1]; simp
 have ho1 : ∀ m, m < 16 → oZ h1 (C (32 + m)) (ints (syms p m)) := fun m hm =>
  (bk.own m hm).mono hfl1 fun i hi => hlo1 i (fun e => bk.nb m hm (e ▸ hi)) (by have := (bk.own m hm).lt hi; omega)
 have hsl := Ey p n
 have hnxf := bk.nx
 obtain ⟨v', h2, q1, q2, q3, q4, q5, q6⟩ := (ho1 n hn).app (by omega) (z := 8) (I p.length) rfl (by simp [roomy]; omega)
 have g2 : (o7 49 C1)[32 + n]? = some (C (32 + n)) := by rw [gQ (by omega), hC1]
 have hb2 : h2.get b = some (o7 49 C1) := by rw [q5 b (bk.nb n hn) (by omega)]; exact hb1
 have hs2 : (o7 49 C1).set (32 + n) v' = o7 49 (v9 C1 (32 + n) v') := vJ (by omega) _
 have hfl2 : h2.floor ≤ b := by have := bk.fb; have := bk.fl; omega
 have hv' : v'.cells = [v'] ∧ v'.sc = true := by
  rcases q2 with ⟨rfl, _⟩ | ⟨id, rfl, _⟩ <;> exact ⟨rfl, rfl⟩
 have b1 : 16 + n ≤ 48 := by omega
 have b2 : 32 + n ≤ 48 := by omega
 have hal : (h.set b (o7 49 C1)).get b = some (o7 49 C1) := by rw [H.dU, if_pos rfl, bk.get]; rfl
 have hal2 : h1.get h.next = some [I p.length] := by rw [eh1, H.aX, H.ke, if_pos rfl]
 refine ⟨h2.set b (o7 49 (v9 C1 (32 + n) v')), v9 C1 (32 + n) v', ?_, ?_, fun i hi => by rw [v9, if_neg (by omega), eC1, v9, if_neg (by omega)]⟩
 · simp only [I] at *
   simp [AP.f41L1, aM, ax, aO, aj, ai, bF, aZ, ha1, hld, hN, hn1, hx, bk.get, g1, hw, hw2, hfb, hs1, eo, eK, mC, aT, H.aX, ch.aP, b1, b2, hal, g2, ← eh1, hal2, q1, hb2, hs2, hfl2, hv'.1, hv'.2]
 · refine ⟨by rw [H.dU, if_pos rfl, hb2]; rfl, by simp; rw [q3, hfl1, bk.fl], bk.fb, by simp; omega, fun id hid => ?_, fun m hm => ?_, fun m hm => ?_, fun m hm => ?_, fun m k hm hk hne i hi => ?_⟩
   · have hfb' := bk.fb
     have hfl' := bk.fl
     rw [H.dU, if_neg (by omega), q5 id ?_ (by omega), hlo1 id (by omega) (by omega), bk.low id hid]
     intro hi
     rcases bk.own n hn with ⟨e, _⟩ | ⟨k, e, _, q⟩
     · rw [e] at hi; cases hi
     · rw [e] at hi; cases hi; have := q.1; omega
   · rw [v9, if_neg (by omega), eC1, v9, DT]
     by_cases e : m = n
     · subst e; rw [if_pos rfl, if_pos ⟨by omega, rfl⟩]; simp
     · rw [if_neg (by omega), bk.Jy m hm, if_neg (by omega)]; simp
   · have hm32 : v9 C1 (32 + n) v' (32 + m) = if m = n then v' else C (32 + m) := by
      simp only [v9]
      by_cases e : m = n
      · rw [if_pos (by omega), if_pos e]
      · rw [if_neg (by omega), if_neg e, eC1, v9, if_neg (by omega)]
     rw [hm32, CY]
     by_cases e : m = n
     · subst e
       rw [if_pos rfl, if_pos ⟨by omega, rfl⟩, qY]
       refine q2.mono (by simp) fun i hi => ?_
       rw [H.dU, if_neg]
       intro e2; subst e2; rw [q6] at hi; cases hi; omega
     · rw [if_neg e, if_neg (by omega), OZ]
       refine (ho1 m hm).mono (by simp; omega) fun i hi => ?_
       have hlt := (bk.own m hm).lt hi
       rw [H.dU, if_neg (fun (e2 : i = b) => bk.nb m hm (e2 ▸ hi)), q5 i (bk.I4 m n hm hn e i hi) (by omega)]
   · have hm32 : v9 C1 (32 + n) v' (32 + m) = if m = n then v' else C (32 + m) := by
      simp only [v9]
      by_cases e : m = n
      · rw [if_pos (by omega), if_pos e]
      · rw [if_neg (by omega), if_neg e, eC1, v9, if_neg (by omega)]
     rw [hm32]
     by_cases e : m = n
     · rw [if_pos e, q6]; intro e2; cases e2; omega
     · rw [if_neg e]; exact bk.nb m hm
   · have hm32 : ∀ m, v9 C1 (32 + n) v' (32 + m) = if m = n then v' else C (32 + m) := fun m => by
      simp only [v9]
      by_cases e : m = n
      · rw [if_pos (by omega), if_pos e]
      · rw [if_neg (by omega), if_neg e, eC1, v9, if_neg (by omega)]
     rw [hm32] at hi ⊢
     by_cases e : m = n
     · rw [if_pos e, q6] at hi
       cases hi
       rw [if_neg (by omega)]
       intro e2; have := (bk.own k hk).lt e2; omega
     · rw [if_neg e] at hi
       by_cases e3 : k = n
       · rw [if_pos e3, q6]; intro e2; cases e2; have := (bk.own m hm).lt hi; omega
       · rw [if_neg e3]; exact bk.I4 m k hm hk hne i hi
set_option maxHeartbeats 1000000 in
theorem Ga (h0 h : H) (b : Nat) (C : Nat → AV) (p : List Int) (x : AV) (N : Int) (bk : Bk h0 h b C p) (hp : p.length < 100000) (hel : ∃ a, gS 1 x (I p.length) = some a ∧ ∀ g : H, (∀ id c, h0.get id = some c → g.get id = some c) → bZ false 1 a g = some (I 0)) (hN : (p.length : Int) < N) :
 aM (aS AP.A) bH AP.f41L1 [(3, .aE b 0), (10, x), (11, I N), (12, I p.length)] h = some (.normal, [(3, .aE b 0), (10, x), (11, I N), (12, I (p.length + 1))], h) ∧ Bk h0 h b C (p ++ [0]) := by
 obtain ⟨a, ha1, ha2⟩ := hel
 have hlow : ∀ id c, h0.get id = some c → h.get id = some c := fun id c q => by rw [bk.low id (h0.lt id c q)]; exact q
 have hld := ha2 h hlow
 have hw2 : IntKind.wrap .i64 ((p.length : Int) + 1) = p.length + 1 := vK (by omega) (by omega)
 refine ⟨?_, ⟨bk.get, bk.fl, bk.fb, bk.nx, bk.low, fun n hn => ?_, fun n hn => ?_, bk.nb, bk.I4⟩⟩
 · simp only [I] at *
   simp [AP.f41L1, aM, ax, aO, aj, ai, ha1, hld, hN, hw2]
 · rw [bk.Jy n hn, DT, if_neg (by omega)]; simp
 · have := bk.own n hn
   rw [CY, if_neg (by omega), OZ]; exact this
theorem CO (h0 : H) (b : Nat) (x : AV) (l : List Int) (hl : l.length < 100000) (hr : ∀ y ∈ l, 0 ≤ y ∧ y < 16) (hx : Rd h0 x (ints l)) : ∀ (m : Nat) (p q : List Int) (C : Nat → AV) (h : H), l = p ++ q → q.length = m → Bk h0 h b C p →
 ∃ h' C' e', Lp AP.A [3, 10, 11, 12] AP.f41L1 [(3, .aE b 0), (10, x), (11, I l.length), (12, I p.length)] h = some (.exit 0, e', h') ∧ look e' 3 = .aE b 0 ∧ Bk h0 h' b C' l ∧ ∀ i, (i < 16 ∨ i = 48) → C' i = C i
 | 0, p, [], C, h, hpq, _, bk => by
   refine ⟨h, C, ?_⟩
   have : l = p := by simpa using hpq
   subst this
   refine ⟨_, vo (e' := [(3, .aE b 0), (10, x), (11, I l.length), (12, I l.length), (13, .bool false)]) ?_, rfl, bk, fun _ _ => rfl⟩
   simp [AP.f41L1, aM, ax, aj, ai, I]
 | m + 1, p, y :: q, C, h, hpq, hm, bk => by
   have hmem : y ∈ l := by rw [hpq]; simp
   obtain ⟨h1, h2⟩ := hr y hmem
   have hget : l[p.length]? = some y := by rw [hpq]; simp
   have hel := hx.elem (uW hget)
   have hlen : p.length < l.length := (wR.1 hget).1
   obtain ⟨n, rfl⟩ := Pb h1
   have next : ∃ h' C', aM (aS AP.A) bH AP.f41L1 [(3, .aE b 0), (10, x), (11, I l.length), (12, I p.length)] h = some (.normal, [(3, .aE b 0), (10, x), (11, I l.length), (12, I (p.length + 1))], h') ∧ Bk h0 h' b C' (p ++ [(n : Int)]) ∧ ∀ i, (i < 16 ∨ i = 48) → C' i = C i := by
    by_cases hn : n = 0
    · subst hn
      have z := Ga h0 h b C p x l.length bk (by omega) hel (by omega)
      exact ⟨h, C, z.1, z.2, fun _ _ => rfl⟩
    · exact F9 h0 h b C p n x l.length bk (by omega) (by omega) (by omega) hel (by omega)
   obtain ⟨h', C', s1, bk', hC'⟩ := next
   have ih := CO h0 b x l hl hr hx m (p ++ [(n : Int)]) q C' h' (by rw [hpq]; simp) (by simpa using hm) bk'
   obtain ⟨h2, C2, e2, k1, k2, k3, k4⟩ := ih
   exact ⟨h2, C2, e2, vp s1 (by simpa using k1), k2, k3, fun i hi => by rw [k4 i hi, hC' i hi]⟩
def xU (l : List Int) : Nat → Int
 | 0 => 0
 | n + 1 => (xU l n + A4 l n) * 2
def yo (l : List Int) : Nat → Int
 | 0 => 1
 | n + 1 => yo l n * 2 - A4 l (n + 1)
theorem CG {l : List Int} (hl : l.length < 100000) (n : Nat) : 0 ≤ xU l n ∧ xU l n ≤ 200000 * 2 ^ n - 200000 := by
 induction n with
 | zero => simp [xU]
 | succ n ih => have := A5 l n; simp only [xU, Int.pow_succ]; omega
theorem Hc {l : List Int} (hl : l.length < 100000) (n : Nat) : - (200000 * 2 ^ n - 100000) ≤ yo l n ∧ yo l n ≤ 2 ^ n := by
 induction n with
 | zero => simp [yo]
 | succ n ih => have := A5 l (n + 1); simp only [yo, Int.pow_succ]; omega
theorem CT {m : Nat} (hm : m ≤ 15) : (2 : Int) ^ m ≤ 32768 := by
 have h : (2 : Nat) ^ m ≤ 2 ^ 15 := O4 (by omega) hm
 have h2 : ((2 ^ m : Nat) : Int) ≤ ((2 ^ 15 : Nat) : Int) := Int.ofNat_le.2 h
 simpa using h2
theorem Bk.put {h0 h : H} {b : Nat} {C : Nat → AV} {p : List Int} (bk : Bk h0 h b C p) {i : Nat} (hi : i < 16 ∨ i = 48) (v : AV) : Bk h0 (h.set b (o7 49 (v9 C i v))) b (v9 C i v) p := by
 have c : ∀ j, 16 ≤ j → j < 48 → v9 C i v j = C j := fun j h1 h2 => by rw [v9, if_neg (by omega)]
 have hbn : b < h.next := h.lt _ _ bk.get
 refine ⟨by rw [H.dU, if_pos rfl, bk.get]; rfl, by simp [bk.fl], bk.fb, by simp [bk.nx], fun id hid => ?_, fun n hn => ?_, fun n hn => ?_, fun n hn => ?_, fun n m hn hm hne k hk => ?_⟩
 · have := bk.fb
   rw [H.dU, if_neg (by omega)]; exact bk.low id hid
 · rw [c _ (by omega) (by omega)]; exact bk.Jy n hn
 · rw [c _ (by omega) (by omega)]
   refine (bk.own n hn).mono (by simp) fun k hk => ?_
   rw [H.dU, if_neg]; intro (e : k = b); exact bk.nb n hn (e ▸ hk)
 · rw [c _ (by omega) (by omega)]; exact bk.nb n hn
 · rw [c _ (by omega) (by omega)] at hk ⊢; exact bk.I4 n m hn hm hne k hk
set_option maxHeartbeats 1000000 in
theorem ET (h0 h : H) (b : Nat) (C : Nat → AV) (l : List Int) (m : Nat) (bk : Bk h0 h b C l) (hl : l.length < 100000) (hm : m < 15) (hc : C 48 = I (yo l m)) :
 aM (aS AP.A) bH AP.f41L0 [(3, .aE b 0), (6, I (xU l m)), (7, I (m + 1))] h =
  some (.normal, [(3, .aE b 0), (6, I (xU l (m + 1))), (7, I (m + 1 + 1))], (h.set b (o7 49 (v9 C (m + 1) (I (xU l (m + 1)))))).set b (o7 49 (v9 (v9 C (m + 1) (I (xU l (m + 1)))) 48 (I (yo l (m + 1)))))) := by
 have hp := CT (m := m) (by omega)
 have hf := CG hl m
 have hlf := Hc hl m
 have c1 := A5 l m
 have c2 := A5 l (m + 1)
 have w1 : IntKind.wrap .i64 (m : Int) = m := vK (by omega) (by omega)
 have w2 : IntKind.wrap .i64 (xU l m + A4 l m) = xU l m + A4 l m := vK (by omega) (by omega)
 have w3 : IntKind.wrap .i64 ((xU l m + A4 l m) * 2) = xU l (m + 1) := vK (by omega) (by omega)
 have w4 : IntKind.wrap .i64 (yo l m * 2) = yo l m * 2 := vK (by omega) (by omega)
 have w5 : IntKind.wrap .i64 (yo l m * 2 - A4 l (m + 1)) = yo l (m + 1) := vK (by omega) (by omega)
 have w6 : IntKind.wrap .i64 ((m : Int) + 1 + 1) = m + 1 + 1 := vK (by omega) (by omega)
 have x1 : dx (I m) 16 = some m := lW (by omega)
 have x2 : dx (I (m + 1)) 16 = some (m + 1) := lW (i := m + 1) (by omega)
 have g1 : (o7 49 C)[16 + m]? = some (I (A4 l m)) := by rw [gQ (by omega), bk.Jy m (by omega)]
 obtain ⟨C1, e1⟩ : ∃ D, D = v9 C (m + 1) (I (xU l (m + 1))) := ⟨_, rfl⟩
 have s1 : (o7 49 C).set (m + 1) (I (xU l (m + 1))) = o7 49 C1 := by rw [e1]; exact vJ (by omega) _
 have g2 : (o7 49 C1)[16 + (m + 1)]? = some (I (A4 l (m + 1))) := by rw [gQ (by omega), e1, v9, if_neg (by omega), bk.Jy (m + 1) (by omega)]
 have g3 : (o7 49 C1)[48]? = some (I (yo l m)) := by rw [gQ (by omega), e1, v9, if_neg (by omega), hc]
 have g4 : C1 48 = I (yo l m) := by rw [e1, v9, if_neg (by omega), hc]
 have s2 : (o7 49 C1).set 48 (I (yo l (m + 1))) = o7 49 (v9 C1 48 (I (yo l (m + 1)))) := vJ (by omega) _
 have hfb : h.floor ≤ b := by rw [bk.fl]; exact bk.fb
 have ge : (h.set b (o7 49 C1)).get b = some (o7 49 C1) := by rw [H.dU, if_pos rfl, bk.get]; rfl
 have b1 : m + 1 ≤ 48 := by omega
 have b3 : m ≤ 47 := by omega
 have b4 : m ≤ 14 := by omega
 have b2 : (m : Int) + 1 ≤ 15 := by omega
 rw [← e1]
 simp only [I] at *
 simp [AP.f41L0, aM, ax, aO, aj, ai, bk.get, w1, w2, w3, w4, w5, w6, x1, x2, g1, g2, g3, g4, s1, s2, hfb, ge, b1, b2, b3, b4]
theorem B9 (h0 : H) (b : Nat) (l : List Int) (hl : l.length < 100000) : ∀ (k m : Nat) (C : Nat → AV) (h : H), m + k = 15 → Bk h0 h b C l → C 48 = I (yo l m) → (∀ i, i ≤ m → C i = I (xU l i)) →
 ∃ h' C' e', Lp AP.A [3, 6, 7] AP.f41L0 [(3, .aE b 0), (6, I (xU l m)), (7, I (m + 1))] h = some (.exit 2, e', h') ∧ look e' 3 = .aE b 0 ∧ Bk h0 h' b C' l ∧ C' 48 = I (yo l 15) ∧ ∀ i, i ≤ 15 → C' i = I (xU l i)
 | 0, m, C, h, hk, bk, hc, hf => by
   obtain rfl : m = 15 := by omega
   refine ⟨h, C, [(3, .aE b 0), (6, I (xU l 15)), (7, I 16), (45, .bool false)], vo ?_, rfl, bk, hc, hf⟩
   have e : ((15 : Nat) : Int) + 1 = 16 := rfl
   rw [e]
   simp [AP.f41L0, aM, ax, aj, ai, I]
 | k + 1, m, C, h, hk, bk, hc, hf => by
   have st := ET h0 h b C l m bk hl (by omega) hc
   have bk1 := (bk.put (i := m + 1) (.inl (by omega)) (I (xU l (m + 1)))).put (i := 48) (.inr rfl) (I (yo l (m + 1)))
   obtain ⟨h', C', e', k1, k2⟩ := B9 h0 b l hl k (m + 1) _ _ (by omega) bk1 (by simp [v9]) (fun i hi => by
    rw [v9, if_neg (by omega), v9]
    by_cases e : i = m + 1
    · rw [if_pos e, e]
    · rw [if_neg e]; exact hf i (by omega))
   exact ⟨h', C', e', vp st (by simpa using k1), k2⟩
def EW (l : List AV) : AV := if l = [] then .aQ else .aW false l 0 l.length 1
def yJ (l : List Int) : Nat → AV := fun i => if i < 16 then I (xU l i) else if i < 32 then I (A4 l (i - 16)) else if i < 48 then EW (ints (syms l (i - 32))) else I (yo l 15)
def xM (l : List Int) : AV := .aL (o7 49 (yJ l)) 0
theorem Ix {f : AV → Option AV} {C D : Nat → AV} : ∀ (n : Nat), (∀ i, i < n → f (C i) = some (D i)) → gH f (o7 n C) = some (o7 n D) := by
 have key : ∀ (l : List Nat), (∀ i ∈ l, f (C i) = some (D i)) → gH f (l.map C) = some (l.map D) := by
  intro l
  induction l with
  | nil => intro _; rfl
  | cons i l ih => intro h; simp [gH, h i (by simp), ih (fun j hj => h j (by simp [hj]))]
 exact fun n h => key _ fun i hi => h i (List.mem_range.1 hi)
theorem yQ (g : Nat → Option (List AV)) (fl n : Nat) (t : Bool) : ∀ l : List Int, gH (snap g fl (n + 1) t) (ints l) = some (ints l)
 | [] => rfl
 | x :: l => by
   have := yQ g fl n t l
   simp only [ints, O7, gH] at this ⊢
   rw [this]; rfl
theorem HB {h : H} {v : AV} {cs : List AV} {fl n : Nat} (o : oZ h v cs) (hf : fl ≤ h.floor) (hm : gH (snap h.get fl (n + 1) false) cs = some cs) : snap h.get fl (n + 2) false v = some (EW cs) := by
 rcases o with ⟨rfl, rfl⟩ | ⟨id, rfl, hg, hfl, hne⟩
 · rfl
 · have h1 : ¬ id < fl := by omega
   simp only [snap, if_neg h1, hg, wS, w8, Pd, O0, List.take_length, wV, if_true, hm, EW, if_neg hne]
def C0 : Nat → AV := fun i => if i < 32 then I 0 else if i < 48 then .aQ else I 1
set_option maxHeartbeats 1000000 in
theorem AD (h : H) (x : AV) (l : List Int) (hl : l.length < 100000) (hr : ∀ y ∈ l, 0 ≤ y ∧ y < 16) (hx : Rd h x (ints l)) : aS AP.A 41 [x] h = some (xM l, h) := by
 have hb0 : Bk h (h.eJ.alloc (o7 49 C0)) h.next C0 [] := by
  refine ⟨by simp [H.aX], by simp, wV _, by simp, fun id hid => ?_, fun n hn => ?_, fun n hn => ?_, fun n hn => ?_, fun n m hn hm hne i hi => ?_⟩
  · rw [H.aX, if_neg (by simp; omega)]; rfl
  · simp only [C0, A4, List.countP_nil]; rw [if_pos (by omega)]; simp
  · simp only [C0]; rw [if_neg (by omega), if_pos (by omega)]
    exact .inl ⟨rfl, by unfold syms; split <;> rfl⟩
  · simp only [C0]; rw [if_neg (by omega), if_pos (by omega)]; exact nofun
  · simp only [C0] at hi; rw [if_neg (by omega), if_pos (by omega)] at hi; cases hi
 obtain ⟨h1, D1, e1, k1, k2, bk1, k3⟩ := CO h h.next x l hl hr hx l.length [] l C0 _ rfl rfl hb0
 obtain ⟨h2, D2, e2, k4, k5, bk2, k6, k7⟩ := B9 h h.next l hl 15 0 D1 h1 rfl bk1 (by rw [k3 48 (.inr rfl)]; rfl) (fun i hi => by
  obtain rfl : i = 0 := by omega
  rw [k3 0 (.inl (by omega))]; rfl)
 have kx : aM (aS AP.A) bH AP.f41.body (params 0 [x]) h.eJ = some (.ret, [(2, .aE h.next 0)], h2) := by
  unfold AP.f41
  refine wA (e1 := [(0, x)]) (h1 := h.eJ) rfl ?_
  refine wA (e1 := [(0, x), (3, .aE h.next 0)]) (h1 := h.eJ.alloc (o7 49 C0)) rfl ?_
  refine wA (e1 := [(3, .aE h.next 0)]) (h1 := h1) ?_ ?_
  · refine wA (e1 := [(3, .aE h.next 0), (10, x), (11, I l.length), (12, I 0)]) (h1 := h.eJ.alloc (o7 49 C0)) ?_ ?_
    · simp [aM, ax, aj, ai, hx.len, I]
    · have := rS (k := [3]) k1
      simp only [tG, ud, k2] at this
      exact this
  refine wA (e1 := [(3, .aE h.next 0), (6, I 0)]) (h1 := h1) rfl ?_
  refine wA (e1 := [(3, .aE h.next 0)]) (h1 := h2) ?_ ?_
  · refine wA (e1 := [(3, .aE h.next 0), (6, I 0), (7, I 1)]) (h1 := h1) rfl ?_
    have := rS (k := [3]) k4
    simp only [tG, ud, k5] at this
    exact this
  exact wA (e1 := [(2, .aE h.next 0)]) (h1 := h2) rfl rfl
 have hsn : snap h2.get h.next 16 true (.aE h.next 0) = some (xM l) := by
  have hm : gH (snap h2.get h.next 15 false) (o7 49 D2) = some (o7 49 (yJ l)) := by
   refine Ix 49 fun i hi => ?_
   by_cases c1 : i < 16
   · rw [k7 i (by omega), yJ, if_pos c1]; rfl
   by_cases c2 : i < 32
   · have := bk2.Jy (i - 16) (by omega)
     rw [show 16 + (i - 16) = i by omega] at this
     rw [this, yJ, if_neg c1, if_pos c2]; rfl
   by_cases c3 : i < 48
   · have := bk2.own (i - 32) (by omega)
     rw [show 32 + (i - 32) = i by omega] at this
     rw [yJ, if_neg c1, if_neg c2, if_pos c3]
     exact HB (n := 13) this (by rw [bk2.fl]; exact wV _) (yQ _ _ _ _ _)
   · obtain rfl : i = 48 := by omega
     rw [k6, yJ, if_neg c1, if_neg c2, if_neg c3]; rfl
  simp only [snap, if_neg (Nat.lt_irrefl _), bk2.get, wS, hm, xM]
 exact vX (fn := AP.f41) rfl rfl rfl kx rfl hsn
theorem yT (w n : Nat) (h : n < 2 ^ w) : (BitVec.ofInt w (n : Int)).toNat = n := by
 rw [BitVec.ofInt_natCast, BitVec.toNat_ofNat, Nat.mod_eq_of_lt h]
theorem xH {n : Nat} (h : n < 9223372036854775808) : IntKind.wrap .i64 (n : Int) = n := vK (by omega) (by omega)
theorem wrap_u8 {n : Nat} (h : n < 256) : IntKind.wrap .u8 (n : Int) = n := by
 have e : IntKind.wrap .u8 (n : Int) = (n : Int) % 256 := by simp [IntKind.wrap, IntKind.bits, IntKind.signed]
 rw [e]; omega
theorem HP (n : Int) : IntKind.wrap .u8 n = n % 256 := by simp [IntKind.wrap, IntKind.bits, IntKind.signed]
theorem HY {a b : Nat} (ha : a < 9223372036854775808) (hb : b < 9223372036854775808) : bits .or .i64 (a : Int) (b : Int) = ((a ||| b : Nat) : Int) := by
 have h1 : a < 2 ^ 63 := by simpa using ha
 have h2 : b < 2 ^ 63 := by simpa using hb
 have h3 : a ||| b < 2 ^ 63 := Nat.or_lt_two_pow h1 h2
 show IntKind.wrap .i64 (((BitVec.ofInt 64 (a : Int) ||| BitVec.ofInt 64 (b : Int)).toNat : Nat) : Int) = _
 rw [BitVec.toNat_or, yT 64 a (by omega), yT 64 b (by omega)]
 exact xH (by simpa using h3)
theorem FP {a b : Nat} (ha : a < 256) (hb : b < 256) : bits .and .u8 (a : Int) (b : Int) = ((a &&& b : Nat) : Int) := by
 have h3 : a &&& b < 2 ^ 8 := Nat.and_lt_two_pow _ (by simpa using hb)
 show IntKind.wrap .u8 (((BitVec.ofInt 8 (a : Int) &&& BitVec.ofInt 8 (b : Int)).toNat : Nat) : Int) = _
 rw [BitVec.toNat_and, yT 8 a (by omega), yT 8 b (by omega)]
 exact wrap_u8 (by simpa using h3)
theorem L7 {x b i : Nat} (hx : x < 2 ^ i) : x ||| b * 2 ^ i = x + b * 2 ^ i := by
 have := Nat.two_pow_add_eq_or_of_lt hx b
 rw [Nat.or_comm, Nat.mul_comm b, ← this, Nat.add_comm]
@[simp] theorem Gx {k j : IntKind} {a b : Int} : bD .shr (.int k a) (.int j b) = qJ .shr k a b := rfl
@[simp] theorem Gv {k j : IntKind} {a b : Int} : bD .shl (.int k a) (.int j b) = qJ .shl k a b := rfl
attribute [go_sem] Gv Gx
theorem Me {a s : Nat} (hs : s ≤ 8) : qJ .shr .u8 (a : Int) (s : Int) = some (.int .u8 ((a / 2 ^ s : Nat) : Int)) := by
 unfold qJ
 rw [if_neg (by omega)]
 simp only [IntKind.bits, Int.toNat_natCast, Nat.min_eq_left hs]
 congr 2
 rw [Int.fdiv_eq_ediv_of_nonneg _ (Int.pow_nonneg (by omega))]
 simp
theorem Dx {a s : Nat} (hs : s ≤ 64) (h : a * 2 ^ s < 9223372036854775808) : qJ .shl .i64 (a : Int) (s : Int) = some (.int .i64 ((a * 2 ^ s : Nat) : Int)) := by
 unfold qJ
 rw [if_neg (by omega)]
 simp only [IntKind.bits, Int.toNat_natCast, Nat.min_eq_left hs]
 congr 2
 rw [← xH h]; simp
def yK (s : ByteArray) (p : Nat) : Nat := ((s[p / 8]?).map (·.toNat)).getD 0 / 2 ^ (p % 8) % 2
theorem DM (s : ByteArray) (p : Nat) : yK s p ≤ 1 := by unfold yK; omega
def xK (s : ByteArray) (p : Nat) : Nat → Nat
 | 0 => 0
 | n + 1 => xK s p n + yK s (p + n) * 2 ^ n
theorem yy (s : ByteArray) (p : Nat) : ∀ n, xK s p n < 2 ^ n
 | 0 => by simp [xK]
 | n + 1 => by
   have h := yy s p n
   have b := DM s (p + n)
   have hb : yK s (p + n) = 0 ∨ yK s (p + n) = 1 := by omega
   rw [xK, Nat.pow_succ]
   rcases hb with hb | hb <;> rw [hb] <;> omega
theorem HJ (l : List Int) (n : Nat) : (syms l n).length = A4 l n := by
 have key : ∀ (l : List Int) (k : Nat), ((l.zipIdx k).filterMap fun p => if p.1 = (n : Int) then some (p.2 : Int) else none).length = l.countP (fun x => x == (n : Int)) := by
  intro l
  induction l with
  | nil => intro k; rfl
  | cons x l ih =>
    intro k
    rw [List.zipIdx_cons, List.filterMap_cons, List.countP_cons]
    by_cases h : x = (n : Int)
    · simp only [if_pos h, OS, ih (k + 1)]; simp [h]
    · simp only [if_neg h, ih (k + 1)]; simp [h]
 unfold syms A4
 split
 · rfl
 · exact key l 0
def zC (l : List Int) (n : Nat) (v : Int) : Option Int := if xU l n ≤ v then (syms l n)[(v - xU l n).toNat]? else none
set_option maxHeartbeats 1000000 in
theorem KJ (h : H) (l : List Int) (hl : l.length < 100000) (n : Nat) (hn1 : 1 ≤ n) (hn : n ≤ 15) (v : Int) (hv0 : 0 ≤ v) (hv : v < 1000000) :
 aS AP.A 72 [xM l, I n, I v] h = some (match zC l n v with | some y => .bV [I y, .bool true] | none => .bV [I 0, .bool false], h) := by
 have hp := CT hn
 have hf := CG hl n
 have hc := A5 l n
 have hsc := HJ l n
 have c1 : ¬ ((n : Int) < 1) := by omega
 have c2 : ¬ (15 : Int) < n := by omega
 have a1 : dx (I n) 16 = some n := lW (by omega)
 have e1 : yJ l n = I (xU l n) := by rw [yJ, if_pos (by omega)]
 have e2 : yJ l (16 + n) = I (A4 l n) := by rw [yJ, if_neg (by omega), if_pos (by omega), show 16 + n - 16 = n by omega]
 have e3 : yJ l (32 + n) = EW (ints (syms l n)) := by rw [yJ, if_neg (by omega), if_neg (by omega), if_pos (by omega), show 32 + n - 32 = n by omega]
 have g1 : (o7 49 (yJ l))[n]? = some (I (xU l n)) := by rw [gQ (by omega), e1]
 have g2 : (o7 49 (yJ l))[16 + n]? = some (I (A4 l n)) := by rw [gQ (by omega), e2]
 have g3 : (o7 49 (yJ l))[32 + n]? = some (EW (ints (syms l n))) := by rw [gQ (by omega), e3]
 have hb : xM l = .aL (o7 49 (yJ l)) 0 := rfl
 rw [hb]
 clear hb e1 e2 e3
 generalize o7 49 (yJ l) = T at g1 g2 g3 ⊢
 by_cases k1 : v < xU l n
 · have : zC l n v = none := by rw [zC, if_neg (by omega)]
   rw [this]
   refine vG (fn := AP.f72) (e := [(6, I 0), (7, .bool false)]) rfl rfl rfl ?_ rfl
   simp only [I] at *
   simp only [AP.f72, go_sem, OQ c1, OQ c2, a1, g1, OU k1]
 have w1 : IntKind.wrap .i64 (v - xU l n) = v - xU l n := vK (by omega) (by omega)
 by_cases k2 : (A4 l n : Int) ≤ v - xU l n
 · have : zC l n v = none := by rw [zC, if_pos (by omega), List.getElem?_eq_none (by omega)]
   rw [this]
   refine vG (fn := AP.f72) (e := [(6, I 0), (7, .bool false)]) rfl rfl rfl ?_ rfl
   simp only [I] at *
   simp only [AP.f72, go_sem, OQ c1, OQ c2, a1, g1, g2, OQ k1, w1, OU k2]
 · obtain ⟨i, hi⟩ : ∃ i : Nat, v - xU l n = i := Pb (by omega)
   have hil : i < (syms l n).length := by omega
   obtain ⟨y, hy⟩ : ∃ y, (syms l n)[i]? = some y := ⟨_, List.getElem?_eq_getElem hil⟩
   have : zC l n v = some y := by rw [zC, if_pos (by omega), hi, Int.toNat_natCast, hy]
   rw [this]
   have hne : ints (syms l n) ≠ [] := by intro e; have := Pc List.length e; simp at this; simp [this] at hil
   have hs : EW (ints (syms l n)) = .aW false (ints (syms l n)) 0 (ints (syms l n)).length 1 := by rw [EW, if_neg hne]
   rw [hs] at g3
   have a2 : gS 1 (.aW false (ints (syms l n)) 0 (ints (syms l n)).length 1) (I i) = some (.aL (ints (syms l n)) i) := by
    simp [gS, lW (show i < (syms l n).length from hil)]
   have g4 := uW hy
   rw [hi] at w1 k2
   refine vG (fn := AP.f72) (e := [(6, I y), (7, .bool true)]) rfl rfl rfl ?_ rfl
   simp only [I] at *
   simp only [AP.f72, go_sem, OQ c1, OQ c2, a1, g1, g2, OQ k1, hi, w1, OQ k2, g3, a2, g4]
attribute [local congr] vq
theorem Aa (a b : Nat) : Int.tdiv (a : Int) (b : Int) = ((a / b : Nat) : Int) := by simp
theorem Ct (a b : Nat) : Int.tmod (a : Int) (b : Int) = ((a % b : Nat) : Int) := by rw [Int.tmod_eq_emod_of_nonneg (by omega)]; simp
theorem Ie {s : ByteArray} {i : Nat} (h : i < s.size) : ∃ b : UInt8, s[i]? = some b := ⟨s[i], by simp [h]⟩
set_option maxHeartbeats 1000000 in
theorem G6 (h : H) (r : Nat) (s : ByteArray) (p x i n : Nat) (hg : h.get r = some [.str s, I p]) (hf : h.floor ≤ r) (hp : p < 8 * s.size) (hs : s.size < 1125899906842624) (hx : x < 2 ^ i) (hi : i < n) (hn : n ≤ 16) :
 aM (aS AP.A) bH AP.f58L0 [(0, .aE r 0), (6, I x), (32, I n), (33, I i)] h = some (.normal, [(0, .aE r 0), (6, I (x + yK s p * 2 ^ i : Nat)), (32, I n), (33, I (i + 1 : Nat))], h.set r [.str s, I (p + 1 : Nat)]) := by
 obtain ⟨b, hb⟩ := Ie (s := s) (i := p / 8) (by omega)
 have hb8 : b.toNat < 256 := b.toNat_lt
 have hbit : yK s p = b.toNat / 2 ^ (p % 8) % 2 := by simp [yK, hb]
 have t1 : Int.tdiv (p : Int) 8 = ((p / 8 : Nat) : Int) := Aa p 8
 have t2 : Int.tmod (p : Int) 8 = ((p % 8 : Nat) : Int) := Ct p 8
 have w1 : IntKind.wrap .i64 ((p / 8 : Nat) : Int) = ((p / 8 : Nat) : Int) := xH (by omega)
 have a1 : dx (I (p / 8 : Nat)) s.size = some (p / 8) := lW (by omega)
 have s1 : qJ .shr .u8 (b.toNat : Int) ((p % 8 : Nat) : Int) = some (.int .u8 ((b.toNat / 2 ^ (p % 8) : Nat) : Int)) := Me (by omega)
 have hlt : b.toNat / 2 ^ (p % 8) < 256 := Nat.lt_of_le_of_lt (Nat.div_le_self _ _) hb8
 have n1 : bits .and .u8 ((b.toNat / 2 ^ (p % 8) : Nat) : Int) 1 = ((yK s p : Nat) : Int) := by
  have := FP (b := 1) hlt (by omega)
  rw [Nat.and_one_is_mod] at this
  rw [hbit]; exact this
 have hbl := DM s p
 have w2 : IntKind.wrap .i64 ((yK s p : Nat) : Int) = ((yK s p : Nat) : Int) := xH (by omega)
 have hpow : (2 : Nat) ^ i ≤ 2 ^ 16 := O4 (by omega) (by omega)
 have hmul : yK s p * 2 ^ i ≤ 2 ^ i := by
  have := wY (2 ^ i) hbl; simpa using this
 have s2 : qJ .shl .i64 ((yK s p : Nat) : Int) (i : Int) = some (.int .i64 ((yK s p * 2 ^ i : Nat) : Int)) := Dx (by omega) (by omega)
 have o1 : bits .or .i64 (x : Int) ((yK s p * 2 ^ i : Nat) : Int) = ((x + yK s p * 2 ^ i : Nat) : Int) := by
  rw [HY (by omega) (by omega), L7 hx]
 have w3 : IntKind.wrap .i64 ((p : Int) + 1) = ((p + 1 : Nat) : Int) := xH (n := p + 1) (by omega)
 have w4 : IntKind.wrap .i64 ((i : Int) + 1) = ((i + 1 : Nat) : Int) := xH (n := i + 1) (by omega)
 generalize hB : yK s p = B at *
 generalize hD : b.toNat / 2 ^ (p % 8) = D at *
 generalize hE : p / 8 = E at *
 generalize hF : p % 8 = F at *
 generalize hO : x + B * 2 ^ i = O at *
 generalize hM : B * 2 ^ i = W at *
 simp only [I] at *
 simp [AP.f58L0, aM, ax, aO, aj, ai, hg, uj, um, t1, t2, w1, nN, a1, hb, s1, n1, w2, s2, o1, w3, w4, hi, hf]
theorem DZ (r : Nat) (s : ByteArray) (p n : Nat) (hs : s.size < 1125899906842624) (hp : p + n ≤ 8 * s.size) (hn : n ≤ 16) : ∀ (k i : Nat) (h : H), i + k = n → h.get r = some [.str s, I (p + i : Nat)] → h.floor ≤ r →
 ∃ e', Lp AP.A [0, 6, 32, 33] AP.f58L0 [(0, .aE r 0), (6, I (xK s p i : Nat)), (32, I n), (33, I i)] h = some (.exit 1, e', h.set r [.str s, I (p + n : Nat)]) ∧ look e' 6 = I (xK s p n : Nat)
 | 0, i, h, hk, hg, hf => by
   obtain rfl : i = n := by omega
   refine ⟨[(0, .aE r 0), (6, I (xK s p i : Nat)), (32, I i), (33, I i), (34, .bool false)], vo ?_, rfl⟩
   rw [H.ko hg]
   simp [AP.f58L0, aM, ax, aj, ai, I]
 | k + 1, i, h, hk, hg, hf => by
   have st := G6 h r s (p + i) (xK s p i) i n hg hf (by omega) hs (yy s p i) (by omega) hn
   obtain ⟨e', k1, k2⟩ := DZ r s p n hs hp hn k (i + 1) (h.set r [.str s, I (p + i + 1 : Nat)]) (by omega) (by rw [H.dU, if_pos rfl, hg]; rfl) (by simpa using hf)
   rw [H.set_set] at k1
   exact ⟨e', vp st k1, k2⟩
theorem LS (h : H) (r : Nat) (s : ByteArray) (p n : Nat) (hg : h.get r = some [.str s, I p]) (hf : h.floor ≤ r) (hs : s.size < 1125899906842624) (hp : p + n ≤ 8 * s.size) (hn : n ≤ 16) :
 aS AP.A 58 [.aE r 0, I n] h = some (.bV [I (xK s p n : Nat), I 0], h.set r [.str s, I (p + n : Nat)]) := by
 obtain ⟨e', k1, k2⟩ := DZ r s p n hs hp hn n 0 h (by omega) hg hf
 have l1 := rS (k := [6]) k1
 simp only [tG, ud, k2] at l1
 have c0 : ¬ (n : Int) < 0 := by omega
 have c1 : ¬ (16 : Int) < n := by omega
 have w1 : IntKind.wrap .i64 (8 * (s.size : Int)) = ((8 * s.size : Nat) : Int) := xH (n := 8 * s.size) (by omega)
 have w2 : IntKind.wrap .i64 (((8 * s.size : Nat) : Int) - p) = ((8 * s.size - p : Nat) : Int) := by
  rw [← Int.ofNat_sub (by omega)]; exact xH (by omega)
 have c2 : ¬ ((8 * s.size - p : Nat) : Int) < n := by omega
 refine vG (fn := AP.f58) (e := [(4, I (xK s p n : Nat)), (5, I 0)]) rfl rfl rfl ?_ rfl
 unfold AP.f58
 refine wA (e1 := [(0, .aE r 0), (1, I n)]) (h1 := h) rfl ?_
 refine wA (e1 := [(0, .aE r 0), (1, I n)]) (h1 := h) ?_ ?_
 · generalize hM : 8 * s.size - p = W at *
   generalize hM2 : 8 * s.size = W2 at *
   simp only [I] at *
   simp [aM, ax, aO, aj, ai, gG, qN, hg, jN, w1, w2, c0, c1, c2]
 refine wA (e1 := [(0, .aE r 0), (1, I n), (6, I 0)]) (h1 := h) rfl ?_
 refine wA (e1 := [(6, I (xK s p n : Nat))]) (h1 := h.set r [.str s, I (p + n : Nat)]) ?_ ?_
 · refine wA (e1 := [(0, .aE r 0), (6, I 0), (32, I n), (33, I 0)]) (h1 := h) rfl ?_
   exact l1
 exact wA (e1 := [(4, I (xK s p n : Nat)), (5, I 0)]) (h1 := h.set r [.str s, I (p + n : Nat)]) rfl rfl
theorem It (h : H) (r : Nat) (s : ByteArray) (p n : Nat) (hg : h.get r = some [.str s, I p]) (hs : s.size < 1125899906842624) (hp0 : p ≤ 8 * s.size) (hp : 8 * s.size < p + n) (hn : n ≤ 16) :
 aS AP.A 58 [.aE r 0, I n] h = some (.bV [I 0, I 101], h) := by
 have c0 : ¬ (n : Int) < 0 := by omega
 have c1 : ¬ (16 : Int) < n := by omega
 have w1 : IntKind.wrap .i64 (8 * (s.size : Int)) = ((8 * s.size : Nat) : Int) := xH (n := 8 * s.size) (by omega)
 have w2 : IntKind.wrap .i64 (((8 * s.size : Nat) : Int) - p) = ((8 * s.size - p : Nat) : Int) := by
  rw [← Int.ofNat_sub (by omega)]; exact xH (by omega)
 have c2 : ((8 * s.size - p : Nat) : Int) < n := by omega
 refine vG (fn := AP.f58) (e := [(4, I 0), (5, I 101)]) rfl rfl rfl ?_ rfl
 unfold AP.f58
 refine wA (e1 := [(0, .aE r 0), (1, I n)]) (h1 := h) rfl ?_
 refine wB ?_
 generalize hM : 8 * s.size - p = W at *
 generalize hM2 : 8 * s.size = W2 at *
 simp only [I] at *
 simp [aM, ax, aO, aj, ai, gG, qN, hg, jN, w1, w2, c0, c1, c2]
attribute [local congr] vq
theorem yG {A : bh} {f : Nat} {fn : fR} {args : List AV} {h h2 : H} {e : Env} {vs : List AV} (hf : A f = some fn) (hnp : args.length = fn.np) (hp : fn.pure = false)
 (hx : aM (aS A) bH fn.body (params 0 args) h = some (.normal, e, h2)) (hres : cT e h2 fn.res = some vs) : aS A f args h = some (dO vs, h2) := by
 refine mj hf ?_
 unfold fP
 rw [if_pos hnp]
 simp [hp, hx, fin, hres]
def Ap (l : List Nat) : List AV := l.map fun (b : Nat) => AV.int .u8 (b : Int)
@[simp] theorem zG (l : List Nat) : (Ap l).length = l.length := by simp [Ap]
structure SS where
 at_ : Nat
 out : List Nat
 e : Int
structure SC where
 s : Nat
 r : Nat
 text : ByteArray
 most : Int
structure St (c : SC) (S : SS) (h : H) (ov : AV) : Prop where
 gs : h.get c.s = some [.aE c.r 0, ov, I c.most, I S.e]
 gr : h.get c.r = some [.str c.text, I S.at_]
 own : oZ h ov (Ap S.out)
 sr : c.s ≠ c.r
 fs : h.floor ≤ c.s
 fr : h.floor ≤ c.r
 os : ov.id? ≠ some c.s
 or : ov.id? ≠ some c.r
 nx : h.floor ≤ h.next
 sz : c.text.size < 1125899906842624
 zu : S.at_ ≤ 8 * c.text.size
 ol : (S.out.length : Int) ≤ c.most
 ml : c.most ≤ 900000
structure Fr (c : SC) (h : H) (ov : AV) (h' : H) (ov' : AV) : Prop where
 fl : h'.floor = h.floor
 nx : h.next ≤ h'.next
 EC : ∀ id, id < h.next → id ≠ c.s → id ≠ c.r → ov.id? ≠ some id → h'.get id = h.get id
 nb : ∀ i, ov'.id? = some i → ov.id? = some i ∨ h.next ≤ i
theorem Fr.refl (c : SC) (h : H) (ov : AV) : Fr c h ov h ov := ⟨rfl, wV _, fun _ _ _ _ _ => rfl, fun _ q => .inl q⟩
theorem Fr.trans {c : SC} {h1 h2 h3 : H} {o1 o2 o3 : AV} (a : Fr c h1 o1 h2 o2) (b : Fr c h2 o2 h3 o3) : Fr c h1 o1 h3 o3 := by
 refine ⟨b.fl.trans a.fl, xA a.nx b.nx, fun id h4 h5 h6 h7 => ?_, fun i hi => ?_⟩
 · rw [b.EC id (Nat.lt_of_lt_of_le h4 a.nx) h5 h6 (fun q => ?_), a.EC id h4 h5 h6 h7]
   rcases a.nb id q with q | q
   · exact h7 q
   · omega
 · rcases b.nb i hi with q | q
   · exact a.nb i q
   · exact .inr (xA a.nx q)
theorem St.N6 {c : SC} {S : SS} {h : H} {ov : AV} (st : St c S h ov) (e : Int) : St c { S with e := e } (h.set c.s [.aE c.r 0, ov, I c.most, I e]) ov ∧ Fr c h ov (h.set c.s [.aE c.r 0, ov, I c.most, I e]) ov := by
 refine ⟨⟨by rw [H.dU, if_pos rfl, st.gs]; rfl, by rw [H.dU, if_neg (Ne.symm st.sr)]; exact st.gr, st.own.mono (by simp) fun i hi => ?_, st.sr, by simpa using st.fs, by simpa using st.fr, st.os, st.or, by simpa using st.nx, st.sz, st.zu, st.ol, st.ml⟩, ⟨by simp, by simp, fun id h1 h2 h3 h4 => by rw [H.dU, if_neg h2], fun _ q => .inl q⟩⟩
 rw [H.dU, if_neg]; intro (e : i = c.s); exact st.os (e ▸ hi)
theorem St.Mb {c : SC} {S : SS} {h : H} {ov : AV} (st : St c S h ov) {p : Nat} (hp : p ≤ 8 * c.text.size) : St c { S with at_ := p } (h.set c.r [.str c.text, I p]) ov ∧ Fr c h ov (h.set c.r [.str c.text, I p]) ov := by
 refine ⟨⟨by rw [H.dU, if_neg st.sr]; exact st.gs, by rw [H.dU, if_pos rfl, st.gr]; rfl, st.own.mono (by simp) fun i hi => ?_, st.sr, by simpa using st.fs, by simpa using st.fr, st.os, st.or, by simpa using st.nx, st.sz, hp, st.ol, st.ml⟩, ⟨by simp, by simp, fun id h1 h2 h3 h4 => by rw [H.dU, if_neg h3], fun _ q => .inl q⟩⟩
 rw [H.dU, if_neg]; intro (e : i = c.r); exact st.or (e ▸ hi)
def xO (k : Int) (S : SS) : SS := if S.e = 0 then { S with e := k } else S
theorem yF {c : SC} {S : SS} {h : H} {ov : AV} (st : St c S h ov) (k : Int) : ∃ h', aS AP.A 45 [.aE c.s 0, I k] h = some (.bV [], h') ∧ St c (xO k S) h' ov ∧ Fr c h ov h' ov := by
 have gs := st.gs
 have fs := st.fs
 by_cases he : S.e = 0
 · refine ⟨_, ?_, by rw [xO, if_pos he]; exact (st.N6 k).1, (st.N6 k).2⟩
   refine yG (fn := AP.f45) (e := []) rfl rfl rfl ?_ rfl
   simp only [I] at *
   simp [AP.f45, params, aM, ax, aj, ai, gs, he, fs]
 · refine ⟨h, ?_, by rw [xO, if_neg he]; exact st, Fr.refl _ _ _⟩
   refine yG (fn := AP.f45) (e := []) rfl rfl rfl ?_ rfl
   simp only [I] at *
   simp [AP.f45, params, aM, ax, aj, ai, gs, he, fs]
def xI (c : SC) (n : Nat) (S : SS) : Nat × SS := if S.at_ + n ≤ 8 * c.text.size then (xK c.text S.at_ n, { S with at_ := S.at_ + n }) else (0, xO 700 S)
theorem G5 {c : SC} {S : SS} {h : H} {ov : AV} (st : St c S h ov) {n : Nat} (hn : n ≤ 16) : ∃ h', aS AP.A 38 [.aE c.s 0, I n] h = some (I ((xI c n S).1 : Nat), h') ∧ St c (xI c n S).2 h' ov ∧ Fr c h ov h' ov := by
 have gs := st.gs
 by_cases hp : S.at_ + n ≤ 8 * c.text.size
 · have g := LS h c.r c.text S.at_ n st.gr st.fr st.sz hp hn
   refine ⟨_, ?_, by rw [xI, if_pos hp]; exact (st.Mb hp).1, (st.Mb hp).2⟩
   rw [xI, if_pos hp]
   refine vG (fn := AP.f38) (e := [(4, I (xK c.text S.at_ n : Nat))]) rfl rfl rfl ?_ rfl
   simp only [I] at *
   simp [AP.f38, params, aM, ax, aj, ai, gs, aY, g]
 · have g := It h c.r c.text S.at_ n st.gr st.sz st.zu (by omega) hn
   obtain ⟨h', k1, k2, k3⟩ := yF st 700
   refine ⟨h', ?_, by rw [xI, if_neg hp]; exact k2, k3⟩
   rw [xI, if_neg hp]
   refine vG (fn := AP.f38) (e := [(4, I 0)]) rfl rfl rfl ?_ rfl
   simp only [I] at *
   simp [AP.f38, params, aM, ax, aj, ai, gs, aY, g, k1]
def Ch (c : SC) (b : Nat) (S : SS) : SS :=
 let T := if c.most ≤ S.out.length then xO 701 S else S
 if T.e = 0 then { T with out := T.out ++ [b] } else T
theorem oZ.len {h : H} {v : AV} {cs : List AV} (o : oZ h v cs) : jN false v = some (I cs.length) := by
 rcases o with ⟨rfl, rfl⟩ | ⟨id, rfl, _⟩ <;> rfl
theorem Hq {c : SC} {S : SS} {h : H} {ov : AV} (st : St c S h ov) {b : Nat} : ∃ h' ov', aS AP.A 59 [.aE c.s 0, .int .u8 b] h = some (.bV [], h') ∧ St c (Ch c b S) h' ov' ∧ Fr c h ov h' ov' := by
 have gs0 := st.gs
 have hol := st.ol
 have hml := st.ml
 have ln := st.own.len
 rw [zG] at ln
 by_cases hm : c.most ≤ S.out.length
 · obtain ⟨h1, k1, k2, k3⟩ := yF st 701
   have he : (xO 701 S).e ≠ 0 := by unfold xO; split <;> simp_all
   have hp : Ch c b S = xO 701 S := by unfold Ch; simp only [if_pos hm, if_neg he]
   have gs1 := k2.gs
   refine ⟨h1, ov, ?_, by rw [hp]; exact k2, k3⟩
   refine yG (fn := AP.f59) (e := []) rfl rfl rfl ?_ rfl
   simp only [I] at *
   simp [AP.f59, params, aM, ax, aO, aj, ai, gs0, ln, hm, aY, k1, gs1, he]
 by_cases he : S.e = 0
 · have hp : Ch c b S = { S with out := S.out ++ [b] } := by unfold Ch; simp only [if_neg hm, if_pos he]
   have hsl : c.s < h.next := h.lt _ _ st.gs
   have hrl : c.r < h.next := h.lt _ _ st.gr
   obtain ⟨h1, eh1⟩ : ∃ g, g = h.alloc [.int .u8 b] := ⟨_, rfl⟩
   have hlo1 : ∀ i, i ≠ h.next → h1.get i = h.get i := fun i q => by rw [eh1, H.aX, if_neg q]
   have hfl1 : h1.floor = h.floor := by rw [eh1]; simp
   have hnx1 : h1.next = h.next + 1 := by rw [eh1]; simp
   have ho1 : oZ h1 ov (Ap S.out) := st.own.mono hfl1 fun i hi => hlo1 i (by have := st.own.lt hi; omega)
   have hnxf := st.nx
   obtain ⟨v', h2, q1, q2, q3, q4, q5, q6⟩ := ho1.app (by omega) (z := 1) (.int .u8 b) rfl (by simp [roomy]; omega)
   have hal2 : h1.get h.next = some [.int .u8 b] := by rw [eh1, H.aX, if_pos rfl]
   have gs1 : h1.get c.s = some [.aE c.r 0, ov, I c.most, I S.e] := by rw [hlo1 _ (by omega)]; exact st.gs
   have gs2 : h2.get c.s = some [.aE c.r 0, ov, I c.most, I S.e] := by rw [q5 _ st.os (by omega)]; exact gs1
   have gr2 : h2.get c.r = some [.str c.text, I S.at_] := by rw [q5 _ st.or (by omega), hlo1 _ (by omega)]; exact st.gr
   have fs2 : h2.floor ≤ c.s := by have := st.fs; omega
   have hv' : v'.cells = [v'] ∧ v'.sc = true := by
    rcases q2 with ⟨rfl, _⟩ | ⟨id, rfl, _⟩ <;> exact ⟨rfl, rfl⟩
   have hby : Ap (S.out ++ [b]) = Ap S.out ++ [.int .u8 b] := by simp [Ap]
   refine ⟨h2.set c.s [.aE c.r 0, v', I c.most, I S.e], v', ?_, ?_, ?_⟩
   · refine yG (fn := AP.f59) (e := []) rfl rfl rfl ?_ rfl
     simp only [I] at *
     simp [AP.f59, params, aM, ax, aO, aj, ai, bF, aZ, eo, eK, mC, aT, gs0, ln, hm, he, ← eh1, hal2, gs1, q1, gs2, fs2, hv'.1, hv'.2]
   · rw [hp]
     refine ⟨by rw [H.dU, if_pos rfl, gs2]; rfl, by rw [H.dU, if_neg (Ne.symm st.sr)]; exact gr2, ?_, st.sr, by simpa using fs2, by have := st.fr; simp; omega, ?_, ?_, by simp; omega, st.sz, st.zu, by simp; omega, st.ml⟩
     · rw [hby]
       refine q2.mono (by simp) fun i hi => ?_
       rw [q6] at hi; cases hi
       rw [H.dU, if_neg (by omega)]
     · rw [q6]; intro e; have := wL e; omega
     · rw [q6]; intro e; have := wL e; omega
   · refine ⟨by simp; omega, by simp; omega, fun id a1 a2 a3 a4 => ?_, fun i hi => ?_⟩
     · rw [H.dU, if_neg a2, q5 id a4 (by omega), hlo1 id (by omega)]
     · rw [q6] at hi; cases hi; right; omega
 · have hp : Ch c b S = S := by unfold Ch; simp only [if_neg hm, if_neg he]
   refine ⟨h, ov, ?_, by rw [hp]; exact st, Fr.refl _ _ _⟩
   refine yG (fn := AP.f59) (e := []) rfl rfl rfl ?_ rfl
   simp only [I] at *
   simp [AP.f59, params, aM, ax, aO, aj, ai, gs0, ln, hm, he]
theorem Ox (h : H) (s : ByteArray) : aS AP.A 14 [.str s] h = some (.aE h.next 0, h.alloc [.str s, I 0]) := by
 refine vG (fn := AP.f14) (e := [(2, .aE h.next 0)]) rfl rfl rfl ?_ rfl
 have b : aZ [(4, .agg [.str s, I 0]), (3, .str s), (0, .str s)] (.box 2 (.t 4)) = some ([.str s, I 0], fun i => .aE i 0) := rfl
 have f : eK [.str ⟨#[]⟩, .int .i64 0] [(0, 1, .str s)] = some [.str s, I 0] := rfl
 simp only [I] at *
 simp only [AP.f14, go_sem, O7, List.map_nil, f, b]
theorem HU (h : H) (r : Nat) (s : ByteArray) (p : Nat) (hg : h.get r = some [.str s, I p]) (hf : h.floor ≤ r) (hs : s.size < 1125899906842624) (hp : p ≤ 8 * s.size) :
 aS AP.A 16 [.aE r 0] h = some (I 0, h.set r [.str s, I ((p + 7) / 8 * 8 : Nat)]) := by
 refine vG (fn := AP.f16) (e := [(2, I 0)]) rfl rfl rfl ?_ rfl
 have w1 : IntKind.wrap .i64 ((p : Int) + 8) = ((p + 8 : Nat) : Int) := xH (n := p + 8) (by omega)
 have w2 : IntKind.wrap .i64 (((p + 8 : Nat) : Int) - 1) = ((p + 7 : Nat) : Int) := by
  rw [show ((p + 8 : Nat) : Int) - 1 = ((p + 7 : Nat) : Int) by omega]; exact xH (by omega)
 have w3 : IntKind.wrap .i64 (((p + 7 : Nat) : Int).tdiv 8) = (((p + 7) / 8 : Nat) : Int) := by
  rw [show (8 : Int) = ((8 : Nat) : Int) from rfl, Aa]; exact xH (by omega)
 have w4 : IntKind.wrap .i64 ((((p + 7) / 8 : Nat) : Int) * 8) = (((p + 7) / 8 * 8 : Nat) : Int) := by
  rw [show (((p + 7) / 8 : Nat) : Int) * 8 = (((p + 7) / 8 * 8 : Nat) : Int) by omega]; exact xH (by omega)
 have st : ∀ v, vZ h r 1 1 [.int .i64 v] (some [.str s, .int .i64 p]) = some (h.set r [.str s, .int .i64 v]) := fun v => wD hf (by simp) rfl
 have q : bD .quo (.int .i64 ((p + 7 : Nat) : Int)) (.int .i64 8) = some (.int .i64 (((p + 7) / 8 : Nat) : Int)) := by rw [uj _ _ _ (by omega), w3]
 simp only [I] at *
 simp only [AP.f16, go_sem, hg, w1, w2, q, w4, st]
theorem Ok (h : H) (r : Nat) (s : ByteArray) (p : Nat) (hg : h.get r = some [.str s, I p]) : aS AP.A 17 [.aE r 0] h = some (I p, h) := by
 refine vG (fn := AP.f17) (e := [(2, I p)]) rfl rfl rfl ?_ rfl
 simp only [I] at *
 simp only [AP.f17, go_sem, hg]
theorem zD {c : SC} {S : SS} {h : H} {ov : AV} (st : St c S h ov) (n : Nat) (m : Int) (hm : m = n) (hn : n ≤ 16) : ∃ h', aS AP.A 38 [.aE c.s 0, I m] h = some (I ((xI c n S).1 : Nat), h') ∧ St c (xI c n S).2 h' ov ∧ Fr c h ov h' ov := by
 subst hm; exact G5 st hn
theorem FE {c : SC} {S : SS} {h : H} {ov : AV} (st : St c S h ov) {n least : Nat} (hn : n ≤ 16) (hl : least < 100000) : ∃ h', aS AP.A 73 [.aE c.s 0, I least, I n, I 0] h = some (I ((least + (xI c n S).1 : Nat)), h') ∧ St c (xI c n S).2 h' ov ∧ Fr c h ov h' ov := by
 obtain ⟨h', k1, k2, k3⟩ := G5 st hn
 refine ⟨h', ?_, k2, k3⟩
 have hb : (xI c n S).1 < 65536 := by
  unfold xI; split
  · have := yy c.text S.at_ n
    have := O4 (show 0 < 2 by omega) hn
    simp at *; omega
  · simp
 have w : IntKind.wrap .i64 ((least : Int) + ((xI c n S).1 : Nat)) = ((least + (xI c n S).1 : Nat) : Int) := by
  rw [show (least : Int) + ((xI c n S).1 : Nat) = ((least + (xI c n S).1 : Nat) : Int) by omega]; exact xH (by omega)
 refine vG (fn := AP.f73) (e := [(8, I ((least + (xI c n S).1 : Nat)))]) rfl rfl rfl ?_ rfl
 simp only [I] at *
 simp only [AP.f73, go_sem, k1, w]
theorem C5 {c : SC} {S : SS} {h : H} {ov : AV} (st : St c S h ov) (he : S.e = 0) : ∃ h' S', aS AP.A 73 [.aE c.s 0, I 0, I 0, I 600] h = some (I 0, h') ∧ St c S' h' ov ∧ Fr c h ov h' ov ∧ S'.e = 700 := by
 obtain ⟨h1, k1, k2, k3⟩ := yF st 700
 obtain ⟨h', l1, l2, l3⟩ := G5 k2 (n := 0) (by omega)
 have hS : xO 700 S = { S with e := 700 } := by rw [xO, if_pos he]
 have hle := st.zu
 have hg : xI c 0 (xO 700 S) = (0, xO 700 S) := by
  rw [xI, if_pos (by rw [hS]; exact hle)]; rfl
 rw [hg] at l1 l2
 have l1' : aS AP.A 38 [.aE c.s 0, I 0] h1 = some (I 0, h') := l1
 clear l1
 refine ⟨h', _, ?_, l2, k3.trans l3, by rw [hS]⟩
 have w : IntKind.wrap .i64 (0 + 0) = 0 := vK (by omega) (by omega)
 refine vG (fn := AP.f73) (e := [(8, I 0)]) rfl rfl rfl ?_ rfl
 simp only [I] at *
 simp only [AP.f73, go_sem, k1, l1', w]
def Aq (t : ByteArray) (l : List Int) : Nat → Nat → Nat → Nat → Option (Int × Nat)
 | 0, _, _, _ => none
 | k + 1, n, v, p => if p + 1 ≤ 8 * t.size then (match zC l n ((v * 2 + xK t p 1 : Nat) : Int) with | some y => some (y, p + 1) | none => Aq t l k (n + 1) (v * 2 + xK t p 1) (p + 1)) else none
theorem Ev {c : SC} {S : SS} {h : H} {ov : AV} (st : St c S h ov) (l : List Int) (v n : Nat) (hs : n = 16 ∨ (n ≤ 15 ∧ S.e ≠ 0)) :
 ∃ e', Lp AP.A [0, 1, 5, 6] AP.f60L0 [(0, .aE c.s 0), (1, xM l), (5, I v), (6, I n)] h = some (.exit 0, e', h) ∧ look e' 0 = .aE c.s 0 := by
 have gs := st.gs
 refine ⟨[(0, .aE c.s 0), (1, xM l), (5, I v), (6, I n), (17, .bool false)], vo ?_, rfl⟩
 rcases hs with hn | ⟨hn, he⟩
 · have c1 : ¬ (n : Int) ≤ 15 := by omega
   simp only [I] at *
   simp only [AP.f60L0, go_sem, OQ c1]
 · have c1 : (n : Int) ≤ 15 := by omega
   have c2 : (S.e == 0) = false := we he
   simp only [I] at *
   simp only [AP.f60L0, go_sem, OU c1, gs, c2]
theorem Es {c : SC} (l : List Int) (hl : l.length < 100000) : ∀ (k n v : Nat) (S : SS) (h : H) (ov : AV), n + k = 16 → 1 ≤ n → v < 2 ^ (n - 1) → St c S h ov → S.e = 0 →
 ∃ h' S', St c S' h' ov ∧ Fr c h ov h' ov ∧ match Aq c.text l k n v S.at_ with
   | some (y, p) => S' = { S with at_ := p } ∧ ∃ e', Lp AP.A [0, 1, 5, 6] AP.f60L0 [(0, .aE c.s 0), (1, xM l), (5, I v), (6, I n)] h = some (.ret, e', h') ∧ look e' 4 = I y
   | none => (S'.e = 0 ∨ S'.e = 700) ∧ ∃ e', Lp AP.A [0, 1, 5, 6] AP.f60L0 [(0, .aE c.s 0), (1, xM l), (5, I v), (6, I n)] h = some (.exit 0, e', h') ∧ look e' 0 = .aE c.s 0
 | 0, n, v, S, h, ov, hk, hn, hv, st, he => by
   obtain ⟨e', q1, q2⟩ := Ev st l v n (.inl (by omega))
   exact ⟨h, S, st, Fr.refl _ _ _, by simp only [Aq]; exact ⟨.inl he, e', q1, q2⟩⟩
 | k + 1, n, v, S, h, ov, hk, hn, hv, st, he => by
   have gs := st.gs
   obtain ⟨h1, k1, k2, k3⟩ := zD st 1 1 rfl (by omega)
   obtain ⟨x, hx⟩ : ∃ x, x = (xI c 1 S).1 := ⟨_, rfl⟩
   obtain ⟨S1, hS1⟩ : ∃ x, x = (xI c 1 S).2 := ⟨_, rfl⟩
   rw [← hx] at k1; rw [← hS1] at k2
   have hp : 2 ^ n ≤ 2 ^ 15 := O4 (by omega) (by omega)
   have h2 : 2 ^ (n - 1 + 1) = 2 ^ (n - 1) * 2 := Nat.pow_succ 2 (n - 1)
   rw [show n - 1 + 1 = n by omega] at h2
   obtain ⟨P, hP⟩ : ∃ P : Nat, P = 2 ^ (n - 1) := ⟨_, rfl⟩
   rw [← hP] at h2 hv
   obtain ⟨Q, hQ⟩ : ∃ Q : Nat, Q = 2 ^ n := ⟨_, rfl⟩
   rw [← hQ] at h2 hp
   simp only [Nat.reducePow] at hp
   have hx1 : x < 2 := by
    rw [hx]; unfold xI; split
    · have := yy c.text S.at_ 1; simpa using this
    · simp
   have hv' : v * 2 + x < Q := by omega
   have w1 : IntKind.wrap .i64 ((v : Int) * 2) = ((v * 2 : Nat) : Int) := by
    rw [show (v : Int) * 2 = ((v * 2 : Nat) : Int) by omega]; exact xH (by omega)
   have w2 : IntKind.wrap .i64 (((v * 2 : Nat) : Int) + (x : Int)) = ((v * 2 + x : Nat) : Int) := by
    rw [show ((v * 2 : Nat) : Int) + (x : Int) = ((v * 2 + x : Nat) : Int) by omega]; exact xH (by omega)
   have w3 : IntKind.wrap .i64 ((n : Int) + 1) = ((n + 1 : Nat) : Int) := xH (n := n + 1) (by omega)
   have c1 : (n : Int) ≤ 15 := by omega
   have fc := KJ h1 l hl n hn (by omega) ((v * 2 + x : Nat) : Int) (by omega) (by omega)
   have gs1 := k2.gs
   have step : (zC l n ((v * 2 + x : Nat) : Int) = none ∨ S1.e ≠ 0) → aM (aS AP.A) bH AP.f60L0 (az [(0, .aE c.s 0), (1, xM l), (5, I v), (6, I n)] [0, 1, 5, 6]) h = some (.normal, [(0, .aE c.s 0), (1, xM l), (5, I (v * 2 + x : Nat)), (6, I (n + 1 : Nat))], h1) := by
    intro hc
    rcases hc with hc | hc
    · rw [hc] at fc
      simp only [I] at *
      simp only [AP.f60L0, go_sem, OU c1, gs, he, k1, w1, w2, fc, w3]
    · have c2 : (S1.e == 0) = false := we hc
      cases hf : zC l n ((v * 2 + x : Nat) : Int) with
      | none =>
        rw [hf] at fc
        simp only [I] at *
        simp only [AP.f60L0, go_sem, OU c1, gs, he, k1, w1, w2, fc, w3]
      | some y =>
        rw [hf] at fc
        simp only [I] at *
        simp only [AP.f60L0, go_sem, OU c1, gs, he, k1, w1, w2, fc, w3, gs1, c2]
   by_cases hat : S.at_ + 1 ≤ 8 * c.text.size
   · have eg : xI c 1 S = (xK c.text S.at_ 1, { S with at_ := S.at_ + 1 }) := by rw [xI, if_pos hat]
     rw [eg] at hx hS1
     dsimp only at hx hS1
     subst hx hS1
     rw [Aq, if_pos hat]
     cases hf : zC l n ((v * 2 + xK c.text S.at_ 1 : Nat) : Int) with
     | none =>
       obtain ⟨h', S', q1, q2, q3⟩ := Es l hl k (n + 1) (v * 2 + xK c.text S.at_ 1) _ h1 ov (by omega) (by omega) (by rw [Nat.add_sub_cancel, ← hQ]; exact hv') k2 he
       refine ⟨h', S', q1, k3.trans q2, ?_⟩
       dsimp only at q3 ⊢
       have sp := step (.inl hf)
       cases hy : Aq c.text l k (n + 1) (v * 2 + xK c.text S.at_ 1) (S.at_ + 1) with
       | none =>
         rw [hy] at q3
         obtain ⟨q3, e', q4, q5⟩ := q3
         exact ⟨q3, e', vp sp q4, q5⟩
       | some y =>
         rw [hy] at q3
         obtain ⟨q3, e', q4, q5⟩ := q3
         exact ⟨q3, e', vp sp q4, q5⟩
     | some y =>
       refine ⟨h1, _, k2, k3, rfl, [(4, I y)], vN ?_, rfl⟩
       rw [hf] at fc
       simp only [I] at *
       simp only [AP.f60L0, go_sem, OU c1, gs, he, k1, w1, w2, fc, w3, gs1]
   · have eg : xI c 1 S = (0, { S with e := 700 }) := by rw [xI, if_neg hat, xO, if_pos he]
     rw [eg] at hx hS1
     dsimp only at hx hS1
     subst hx hS1
     rw [Aq, if_neg hat]
     have hst : n + 1 = 16 ∨ (n + 1 ≤ 15 ∧ (700 : Int) ≠ 0) := by omega
     obtain ⟨e', q1, q2⟩ := Ev k2 l (v * 2 + 0) (n + 1) hst
     exact ⟨h1, _, k2, k3, .inr rfl, e', vp (step (.inr (by simp))) q1, q2⟩
theorem Cs {c : SC} {S : SS} {h : H} {ov : AV} (l : List Int) (hl : l.length < 100000) (st : St c S h ov) (he : S.e = 0) :
 ∃ h' S' y, aS AP.A 60 [.aE c.s 0, xM l] h = some (I y, h') ∧ St c S' h' ov ∧ Fr c h ov h' ov ∧ match Aq c.text l 15 1 0 S.at_ with
   | some (z, p) => S' = { S with at_ := p } ∧ y = z
   | none => S'.e = 700 ∧ y = 256 := by
 obtain ⟨h1, S1, q1, q2, q3⟩ := Es l hl 15 1 0 S h ov (by omega) (by omega) (by simp) st he
 cases hy : Aq c.text l 15 1 0 S.at_ with
 | some yp =>
   rw [hy] at q3
   obtain ⟨q3, e', q4, q5⟩ := q3
   refine ⟨h1, S1, yp.1, ?_, q1, q2, q3, rfl⟩
   refine vG (fn := AP.f60) (e := e') (vs := [I yp.1]) rfl rfl rfl ?_ (by simp only [AP.f60, cT, oS, q5]; rfl)
   have q6 : Lp AP.A [0, 1, 5, 6] AP.f60L0 [(0, .aE c.s 0), (1, xM l), (5, I 0), (6, I 1)] h = some (.ret, e', h1) := q4
   clear q4
   simp only [I] at *
   simp only [AP.f60, go_sem, uz, q6]
 | none =>
   rw [hy] at q3
   obtain ⟨q3, e', q4, q5⟩ := q3
   obtain ⟨h2, r1, r2, r3⟩ := yF q1 700
   refine ⟨h2, xO 700 S1, 256, ?_, r2, q2.trans r3, ?_, rfl⟩
   · refine vG (fn := AP.f60) (e := [(4, I 256)]) rfl rfl rfl ?_ rfl
     have q6 : Lp AP.A [0, 1, 5, 6] AP.f60L0 [(0, .aE c.s 0), (1, xM l), (5, I 0), (6, I 1)] h = some (.exit 0, e', h1) := q4
     clear q4
     simp only [I] at *
     simp only [AP.f60, go_sem, uz, q6, q5, r1]
   · rcases q3 with q3 | q3 <;> simp [xO, q3]
def lenOf (y : Nat) : Option (Nat × Nat) :=
 if y ≤ 256 ∨ 285 < y then none else if y = 285 then some (258, 0) else if y < 265 then some (y - 254, 0) else some (3 + (4 + (y - 257) % 4) * 2 ^ ((y - 257) / 4 - 1), (y - 257) / 4 - 1)
def zm (y : Nat) : Option (Nat × Nat) :=
 if 30 ≤ y then none else if y < 4 then some (1 + y, 0) else some (1 + (2 + y % 2) * 2 ^ (y / 2 - 1), y / 2 - 1)
theorem Hd {y a b : Nat} (h : lenOf y = some (a, b)) : a ≤ 258 ∧ b ≤ 5 ∧ 0 < a := by
 have key : ∀ y < 286, ∀ a b, lenOf y = some (a, b) → a ≤ 258 ∧ b ≤ 5 ∧ 0 < a := by
  intro y hy a b h
  have : ((lenOf y).map fun p => decide (p.1 ≤ 258 ∧ p.2 ≤ 5 ∧ 0 < p.1)) = (lenOf y).map fun _ => true := by
   clear h
   revert y
   decide +kernel
  rw [h] at this
  simpa using this
 by_cases hy : y < 286
 · exact key y hy a b h
 · rw [lenOf, if_pos (by omega)] at h; cases h
theorem FV {y a b : Nat} (h : zm y = some (a, b)) : a ≤ 24577 ∧ b ≤ 13 ∧ 0 < a := by
 have key : ∀ y < 30, ∀ a b, zm y = some (a, b) → a ≤ 24577 ∧ b ≤ 13 ∧ 0 < a := by
  intro y hy a b h
  have : ((zm y).map fun p => decide (p.1 ≤ 24577 ∧ p.2 ≤ 13 ∧ 0 < p.1)) = (zm y).map fun _ => true := by
   clear h
   revert y
   decide +kernel
  rw [h] at this
  simpa using this
 by_cases hy : y < 30
 · exact key y hy a b h
 · rw [zm, if_pos (by omega)] at h; cases h
def EA (o : Option (Nat × Nat)) : AV := match o with
 | some p => .bV [I p.1, I p.2, I 0]
 | none => .bV [I 0, I 0, I 600]
theorem Iv (h : H) (y : Nat) (hy : y < 1000000) : aS AP.A 74 [I y] h = some (EA (lenOf y), h) := by
 have d1 : decide ((y : Int) ≤ 256) = decide (y ≤ 256) := by by_cases q : y ≤ 256 <;> simp [q] <;> omega
 have w1 : IntKind.wrap .i64 ((y : Int) - 256) = (y : Int) - 256 := vK (by omega) (by omega)
 have w2 : IntKind.wrap .i64 ((y : Int) - 256 - 1) = (y : Int) - 257 := by rw [show (y : Int) - 256 - 1 = (y : Int) - 257 by omega]; exact vK (by omega) (by omega)
 by_cases c1 : y ≤ 256
 · rw [lenOf, if_pos (.inl c1)]
   refine vX (fn := AP.f74) (h2 := h.eJ) (e := [(2, I 0), (3, I 0), (4, I 600)]) rfl rfl rfl ?_ rfl rfl
   have c1' : (y : Int) ≤ 256 := by omega
   simp only [I] at *
   simp only [AP.f74, go_sem, w1, w2, OU c1']
 have c1' : ¬ (y : Int) ≤ 256 := by omega
 by_cases c2 : 285 < y
 · rw [lenOf, if_pos (.inr c2)]
   refine vX (fn := AP.f74) (h2 := h.eJ) (e := [(2, I 0), (3, I 0), (4, I 600)]) rfl rfl rfl ?_ rfl rfl
   have c2' : (285 : Int) < y := by omega
   simp only [I] at *
   simp only [AP.f74, go_sem, w1, w2, OQ c1', OU c2']
 have c2' : ¬ (285 : Int) < y := by omega
 rw [lenOf, if_neg (by omega)]
 by_cases c3 : y = 285
 · rw [if_pos c3]
   refine vX (fn := AP.f74) (h2 := h.eJ) (e := [(2, I 258), (3, I 0), (4, I 0)]) rfl rfl rfl ?_ rfl rfl
   have c3' : ((y : Int) == 285) = true := wg (by omega)
   simp only [I] at *
   simp only [AP.f74, go_sem, w1, w2, OQ c1', OQ c2', c3']
 rw [if_neg c3]
 have c3' : ((y : Int) == 285) = false := we (by omega)
 by_cases c4 : y < 265
 · rw [if_pos c4]
   refine vX (fn := AP.f74) (h2 := h.eJ) (e := [(2, I (y - 254 : Nat)), (3, I 0), (4, I 0)]) rfl rfl rfl ?_ rfl rfl
   have c4' : (y : Int) - 257 < 8 := by omega
   have w3 : IntKind.wrap .i64 (3 + ((y : Int) - 257)) = ((y - 254 : Nat) : Int) := by rw [show 3 + ((y : Int) - 257) = ((y - 254 : Nat) : Int) by omega]; exact xH (by omega)
   simp only [I] at *
   simp only [AP.f74, go_sem, w1, w2, OQ c1', OQ c2', c3', OU c4', w3]
 rw [if_neg c4]
 have c4' : ¬ (y : Int) - 257 < 8 := by omega
 obtain ⟨k, hk⟩ : ∃ k : Nat, (y : Int) - 257 = k := Pb (by omega)
 have hk' : y - 257 = k := by omega
 rw [hk] at w2 c4'
 rw [hk']
 have q1 : bD .quo (.int .i64 (k : Int)) (.int .i64 4) = some (.int .i64 ((k / 4 : Nat) : Int)) := by
  rw [uj _ _ _ (by omega), show (4 : Int) = ((4 : Nat) : Int) from rfl, Aa, xH (by omega)]
 have q2 : bD .rem (.int .i64 (k : Int)) (.int .i64 4) = some (.int .i64 ((k % 4 : Nat) : Int)) := by
  rw [um _ _ _ (by omega), show (4 : Int) = ((4 : Nat) : Int) from rfl, Ct]
 have w3 : IntKind.wrap .i64 (((k / 4 : Nat) : Int) - 1) = ((k / 4 - 1 : Nat) : Int) := by rw [show ((k / 4 : Nat) : Int) - 1 = ((k / 4 - 1 : Nat) : Int) by omega]; exact xH (by omega)
 have w4 : IntKind.wrap .i64 (4 + ((k % 4 : Nat) : Int)) = ((4 + k % 4 : Nat) : Int) := by rw [show 4 + ((k % 4 : Nat) : Int) = ((4 + k % 4 : Nat) : Int) by omega]; exact xH (by omega)
 have hp : 2 ^ (k / 4 - 1) ≤ 2 ^ 5 := O4 (by omega) (by omega)
 have hm : (4 + k % 4) * 2 ^ (k / 4 - 1) ≤ 7 * 2 ^ 5 := Nat.mul_le_mul (by omega) hp
 have q3 : qJ .shl .i64 ((4 + k % 4 : Nat) : Int) ((k / 4 - 1 : Nat) : Int) = some (.int .i64 (((4 + k % 4) * 2 ^ (k / 4 - 1) : Nat) : Int)) := Dx (by omega) (by omega)
 generalize (4 + k % 4) * 2 ^ (k / 4 - 1) = P at *
 have w5 : IntKind.wrap .i64 (3 + (P : Int)) = ((3 + P : Nat) : Int) := by rw [show 3 + (P : Int) = ((3 + P : Nat) : Int) by omega]; exact xH (by omega)
 refine vX (fn := AP.f74) (h2 := h.eJ) (e := [(2, I (3 + P : Nat)), (3, I (k / 4 - 1 : Nat)), (4, I 0)]) rfl rfl rfl ?_ rfl rfl
 simp only [I] at *
 simp only [AP.f74, go_sem, w1, w2, OQ c1', OQ c2', c3', OQ c4', q1, q2, w3, w4, q3, w5]
theorem GQ (h : H) (y : Nat) (hy : y < 1000000) : aS AP.A 75 [I y] h = some (EA (zm y), h) := by
 have c0 : ¬ (y : Int) < 0 := by omega
 by_cases c1 : 30 ≤ y
 · rw [zm, if_pos c1]
   refine vX (fn := AP.f75) (h2 := h.eJ) (e := [(2, I 0), (3, I 0), (4, I 600)]) rfl rfl rfl ?_ rfl rfl
   have c1' : (30 : Int) ≤ y := by omega
   simp only [I] at *
   simp only [AP.f75, go_sem, OQ c0, OU c1']
 have c1' : ¬ (30 : Int) ≤ y := by omega
 rw [zm, if_neg c1]
 by_cases c2 : y < 4
 · rw [if_pos c2]
   refine vX (fn := AP.f75) (h2 := h.eJ) (e := [(2, I (1 + y : Nat)), (3, I 0), (4, I 0)]) rfl rfl rfl ?_ rfl rfl
   have c2' : (y : Int) < 4 := by omega
   have w3 : IntKind.wrap .i64 (1 + (y : Int)) = ((1 + y : Nat) : Int) := by rw [show 1 + (y : Int) = ((1 + y : Nat) : Int) by omega]; exact xH (by omega)
   simp only [I] at *
   simp only [AP.f75, go_sem, OQ c0, OQ c1', OU c2', w3]
 rw [if_neg c2]
 have c2' : ¬ (y : Int) < 4 := by omega
 have q1 : bD .quo (.int .i64 (y : Int)) (.int .i64 2) = some (.int .i64 ((y / 2 : Nat) : Int)) := by
  rw [uj _ _ _ (by omega), show (2 : Int) = ((2 : Nat) : Int) from rfl, Aa, xH (by omega)]
 have q2 : bD .rem (.int .i64 (y : Int)) (.int .i64 2) = some (.int .i64 ((y % 2 : Nat) : Int)) := by
  rw [um _ _ _ (by omega), show (2 : Int) = ((2 : Nat) : Int) from rfl, Ct]
 have w3 : IntKind.wrap .i64 (((y / 2 : Nat) : Int) - 1) = ((y / 2 - 1 : Nat) : Int) := by rw [show ((y / 2 : Nat) : Int) - 1 = ((y / 2 - 1 : Nat) : Int) by omega]; exact xH (by omega)
 have w4 : IntKind.wrap .i64 (2 + ((y % 2 : Nat) : Int)) = ((2 + y % 2 : Nat) : Int) := by rw [show 2 + ((y % 2 : Nat) : Int) = ((2 + y % 2 : Nat) : Int) by omega]; exact xH (by omega)
 have hp : 2 ^ (y / 2 - 1) ≤ 2 ^ 13 := O4 (by omega) (by omega)
 have hm : (2 + y % 2) * 2 ^ (y / 2 - 1) ≤ 3 * 2 ^ 13 := Nat.mul_le_mul (by omega) hp
 have q3 : qJ .shl .i64 ((2 + y % 2 : Nat) : Int) ((y / 2 - 1 : Nat) : Int) = some (.int .i64 (((2 + y % 2) * 2 ^ (y / 2 - 1) : Nat) : Int)) := Dx (by omega) (by omega)
 generalize (2 + y % 2) * 2 ^ (y / 2 - 1) = P at *
 have w5 : IntKind.wrap .i64 (1 + (P : Int)) = ((1 + P : Nat) : Int) := by rw [show 1 + (P : Int) = ((1 + P : Nat) : Int) by omega]; exact xH (by omega)
 refine vX (fn := AP.f75) (h2 := h.eJ) (e := [(2, I (1 + P : Nat)), (3, I (y / 2 - 1 : Nat)), (4, I 0)]) rfl rfl rfl ?_ rfl rfl
 simp only [I] at *
 simp only [AP.f75, go_sem, OQ c0, OQ c1', OQ c2', q1, q2, w3, w4, q3, w5]
abbrev Rs := Except Int (Nat × List Nat)
def Fin (r : Rs) (S : SS) : Prop := match r with
 | .ok q => S = ⟨q.1, q.2, 0⟩
 | .error k => S.e = k ∧ k ≠ 0
theorem Dr {c : SC} {S : SS} (b : Nat) (he : S.e = 0) (hm : ¬ c.most ≤ S.out.length) : Ch c b S = ⟨S.at_, S.out ++ [b], 0⟩ := by
 simp only [Ch, if_neg hm, he, if_true]
theorem A9 {c : SC} {S : SS} (b : Nat) (he : S.e = 0) (hm : c.most ≤ S.out.length) : (Ch c b S).e = 701 := by
 simp [Ch, hm, xO, he]
def yW (t : ByteArray) (most : Int) : Nat → Nat → List Nat → Rs
 | 0, p, out => .ok (p, out)
 | n + 1, p, out => if p + 8 ≤ 8 * t.size then (if most ≤ out.length then .error 701 else yW t most n (p + 8) (out ++ [xK t p 8])) else .error 700
theorem y9 {c : SC} {S : SS} {h : H} {ov : AV} (st : St c S h ov) (n : Nat) (hs : n = 0 ∨ S.e ≠ 0) :
 ∃ e', Lp AP.A [0, 2] AP.f39L0 [(0, .aE c.s 0), (2, I n)] h = some (.exit 0, e', h) := by
 have gs := st.gs
 refine ⟨[(0, .aE c.s 0), (2, I n), (26, .bool false)], vo ?_⟩
 by_cases hn : n = 0
 · have c1 : ¬ (0 : Int) < n := by omega
   simp only [I] at *
   simp only [AP.f39L0, go_sem, OQ c1]
 · have c1 : (0 : Int) < n := by omega
   have c2 : (S.e == 0) = false := we (by omega)
   simp only [I] at *
   simp only [AP.f39L0, go_sem, OU c1, gs, c2]
theorem Cq {c : SC} : ∀ (n : Nat) (S : SS) (h : H) (ov : AV), St c S h ov → S.e = 0 → n ≤ 65535 →
 ∃ e' h' ov' S', Lp AP.A [0, 2] AP.f39L0 [(0, .aE c.s 0), (2, I n)] h = some (.exit 0, e', h') ∧ St c S' h' ov' ∧ Fr c h ov h' ov' ∧ Fin (yW c.text c.most n S.at_ S.out) S'
 | 0, S, h, ov, st, he, hn => by
   obtain ⟨e', q⟩ := y9 st 0 (.inl rfl)
   exact ⟨e', h, ov, S, q, st, Fr.refl _ _ _, by simp only [yW, Fin]; cases S; simp_all⟩
 | n + 1, S, h, ov, st, he, hn => by
   have gs := st.gs
   obtain ⟨h1, k1, k2, k3⟩ := zD st 8 8 rfl (by omega)
   have gs1 := k2.gs
   have c1 : (0 : Int) < ((n + 1 : Nat) : Int) := by omega
   have w1 : IntKind.wrap .i64 (((n + 1 : Nat) : Int) - 1) = (n : Int) := by rw [show ((n + 1 : Nat) : Int) - 1 = (n : Int) by omega]; exact xH (by omega)
   by_cases hp : S.at_ + 8 ≤ 8 * c.text.size
   · have eg : xI c 8 S = (xK c.text S.at_ 8, { S with at_ := S.at_ + 8 }) := by rw [xI, if_pos hp]
     rw [eg] at k1 k2 gs1
     dsimp only at k1 k2 gs1
     obtain ⟨h2, ov2, p1, p2, p3⟩ := Hq k2 (b := xK c.text S.at_ 8)
     have hb := yy c.text S.at_ 8
     have w2 : IntKind.wrap .u8 ((xK c.text S.at_ 8 : Nat) : Int) = ((xK c.text S.at_ 8 : Nat) : Int) := wrap_u8 (by simpa using hb)
     have step : aM (aS AP.A) bH AP.f39L0 (az [(0, .aE c.s 0), (2, I (n + 1 : Nat))] [0, 2]) h = some (.normal, [(0, .aE c.s 0), (2, I n)], h2) := by
      simp only [I] at *
      simp only [AP.f39L0, go_sem, OU c1, gs, he, k1, gs1, w2, p1, w1]
     rw [yW, if_pos hp]
     by_cases hm : c.most ≤ S.out.length
     · rw [if_pos hm]
       have hl := A9 (c := c) (S := { S with at_ := S.at_ + 8 }) (xK c.text S.at_ 8) he hm
       obtain ⟨e', q⟩ := y9 p2 n (.inr (by rw [hl]; decide))
       exact ⟨e', h2, ov2, _, vp step q, p2, k3.trans p3, hl, by decide⟩
     · rw [if_neg hm]
       rw [Dr (S := { S with at_ := S.at_ + 8 }) _ he hm] at p2
       obtain ⟨e', h', ov', S', q1, q2, q3, q4⟩ := Cq n _ h2 ov2 p2 rfl (by omega)
       exact ⟨e', h', ov', S', vp step q1, q2, (k3.trans p3).trans q3, q4⟩
   · have eg : xI c 8 S = (0, { S with e := 700 }) := by rw [xI, if_neg hp, xO, if_pos he]
     rw [eg] at k1 k2 gs1
     dsimp only at k1 k2 gs1
     have step : aM (aS AP.A) bH AP.f39L0 (az [(0, .aE c.s 0), (2, I (n + 1 : Nat))] [0, 2]) h = some (.normal, [(0, .aE c.s 0), (2, I n)], h1) := by
      simp only [I] at *
      simp only [AP.f39L0, go_sem, OU c1, gs, he, k1, gs1, w1]
     rw [yW, if_neg hp]
     obtain ⟨e', q⟩ := y9 k2 n (.inr (by simp))
     exact ⟨e', h1, ov, _, vp step q, k2, k3, rfl, by decide⟩
def Am (t : ByteArray) (most : Int) (p0 : Nat) (out : List Nat) : Rs :=
 let p := (p0 + 7) / 8 * 8
 if p + 32 ≤ 8 * t.size then (if xK t p 16 + xK t (p + 16) 16 = 65535 then yW t most (xK t p 16) (p + 32) out else .error 700) else .error 700
theorem HR {n : Nat} (hn : n < 65536) : bits .xor .i64 (n : Int) 65535 = ((65535 - n : Nat) : Int) := by
 have h1 : n < 2 ^ 16 := by simpa using hn
 show IntKind.wrap .i64 (((BitVec.ofInt 64 (n : Int) ^^^ BitVec.ofInt 64 ((65535 : Nat) : Int)).toNat : Nat) : Int) = _
 rw [BitVec.toNat_xor, yT 64 n (by omega), yT 64 65535 (by omega)]
 have h2 : n ^^^ 65535 = 65535 - n := by
  have : 65535 - n = 2 ^ 16 - (n + 1) := by omega
  rw [this]
  apply Nat.eq_of_testBit_eq
  intro i
  rw [Nat.testBit_two_pow_sub_succ h1, Nat.testBit_xor, show 65535 = 2 ^ 16 - 1 from rfl, Nat.testBit_two_pow_sub_one]
  by_cases hi : i < 16
  · simp [hi]
  · have : n.testBit i = false := Nat.testBit_lt_two_pow (Nat.lt_of_lt_of_le h1 (O4 (by omega) (by omega)))
    simp [hi, this]
 rw [h2]; exact xH (by omega)
theorem St.align {c : SC} {S : SS} {h : H} {ov : AV} (st : St c S h ov) : ∃ h', aS AP.A 16 [.aE c.r 0] h = some (I 0, h') ∧ St c { S with at_ := (S.at_ + 7) / 8 * 8 } h' ov ∧ Fr c h ov h' ov := by
 have hle := st.zu
 have := st.Mb (p := (S.at_ + 7) / 8 * 8) (by omega)
 exact ⟨_, HU h c.r c.text S.at_ st.gr st.fr st.sz st.zu, this.1, this.2⟩
theorem HH {c : SC} {S : SS} {h : H} {ov : AV} (st : St c S h ov) (he : S.e = 0) :
 ∃ h' ov' S', aS AP.A 39 [.aE c.s 0] h = some (.bV [], h') ∧ St c S' h' ov' ∧ Fr c h ov h' ov' ∧ Fin (Am c.text c.most S.at_ S.out) S' := by
 have gs := st.gs
 obtain ⟨h1, a1, a2, a3⟩ := st.align
 obtain ⟨p, hp⟩ : ∃ p, p = (S.at_ + 7) / 8 * 8 := ⟨_, rfl⟩
 rw [← hp] at a2
 have hS : Am c.text c.most S.at_ S.out = if p + 32 ≤ 8 * c.text.size then (if xK c.text p 16 + xK c.text (p + 16) 16 = 65535 then yW c.text c.most (xK c.text p 16) (p + 32) S.out else .error 700) else .error 700 := by
  rw [hp]; rfl
 rw [hS]; clear hS
 obtain ⟨h2, b1, b2, b3⟩ := zD a2 16 16 rfl (by omega)
 obtain ⟨h3, d1, d2, d3⟩ := zD b2 16 16 rfl (by omega)
 obtain ⟨n, hn⟩ : ∃ n, n = (xI c 16 { S with at_ := p }).1 := ⟨_, rfl⟩
 obtain ⟨S2, hS2⟩ : ∃ n, n = (xI c 16 { S with at_ := p }).2 := ⟨_, rfl⟩
 obtain ⟨m, hm⟩ : ∃ n, n = (xI c 16 S2).1 := ⟨_, rfl⟩
 obtain ⟨S3, hS3⟩ : ∃ n, n = (xI c 16 S2).2 := ⟨_, rfl⟩
 rw [← hn] at b1; rw [← hS2] at b2 d1 d2; rw [← hm] at d1; rw [← hS3] at d2
 have hn16 : n < 65536 := by
  rw [hn]; unfold xI; split
  · simpa using yy c.text p 16
  · simp
 have x1 := HR hn16
 by_cases hx : m = 65535 - n
 · have c1 : ((m : Int) != ((65535 - n : Nat) : Int)) = false := wh (by omega)
   have fin : ∀ e' h', Lp AP.A [0, 2] AP.f39L0 [(0, .aE c.s 0), (2, I n)] h3 = some (.exit 0, e', h') → aS AP.A 39 [.aE c.s 0] h = some (.bV [], h') := by
    intro e' h' q
    refine yG (fn := AP.f39) (e := []) rfl rfl rfl ?_ rfl
    simp only [I] at *
    simp only [AP.f39, go_sem, uz, gs, a1, b1, d1, x1, c1, q]
   by_cases h32 : p + 32 ≤ 8 * c.text.size
   · have e2 : xI c 16 { S with at_ := p } = (xK c.text p 16, { S with at_ := p + 16 }) := by rw [xI, if_pos (by show p + 16 ≤ _; omega)]
     rw [e2] at hn hS2; dsimp only at hn hS2; subst hS2
     have e3 : xI c 16 { S with at_ := p + 16 } = (xK c.text (p + 16) 16, { S with at_ := p + 16 + 16 }) := by rw [xI, if_pos (by show p + 16 + 16 ≤ _; omega)]
     rw [e3] at hm hS3; dsimp only at hm hS3; subst hS3
     rw [if_pos h32, ← hn, ← hm, if_pos (by omega)]
     obtain ⟨e', h', ov', S', q1, q2, q3, q4⟩ := Cq n _ h3 ov d2 he (by omega)
     exact ⟨h', ov', S', fin e' h' q1, q2, ((a3.trans b3).trans d3).trans q3, q4⟩
   · rw [if_neg h32]
     have he3 : S3.e = 700 := by
      rw [hS3, hS2]
      unfold xI
      by_cases q1 : p + 16 ≤ 8 * c.text.size
      · simp only [if_pos q1]
        rw [if_neg (by omega)]; simp [xO, he]
      · simp only [if_neg q1, xO, he, if_true]
        split <;> simp
     obtain ⟨e', q⟩ := y9 d2 n (.inr (by rw [he3]; decide))
     exact ⟨h3, ov, S3, fin e' h3 q, d2, (a3.trans b3).trans d3, he3, by decide⟩
 · have c1 : ((m : Int) != ((65535 - n : Nat) : Int)) = true := wj (by omega)
   obtain ⟨h4, f1, f2, f3⟩ := yF d2 700
   have he4 : (xO 700 S3).e = 700 := by
    have : S3.e = 0 ∨ S3.e = 700 := by
     rw [hS3, hS2]
     unfold xI
     by_cases q1 : p + 16 ≤ 8 * c.text.size
     · simp only [if_pos q1]
       split <;> simp [xO, he]
     · simp only [if_neg q1, xO, he, if_true]
       split <;> simp
    rcases this with q | q <;> simp [xO, q]
   obtain ⟨e', q⟩ := y9 f2 n (.inr (by rw [he4]; decide))
   refine ⟨h4, ov, xO 700 S3, ?_, f2, ((a3.trans b3).trans d3).trans f3, ?_⟩
   · refine yG (fn := AP.f39) (e := []) rfl rfl rfl ?_ rfl
     simp only [I] at *
     simp only [AP.f39, go_sem, uz, gs, a1, b1, d1, x1, c1, f1, q]
   · by_cases h32 : p + 32 ≤ 8 * c.text.size
     · have e2 : xI c 16 { S with at_ := p } = (xK c.text p 16, { S with at_ := p + 16 }) := by rw [xI, if_pos (by show p + 16 ≤ _; omega)]
       rw [e2] at hn hS2; dsimp only at hn hS2; subst hS2
       have e3 : xI c 16 { S with at_ := p + 16 } = (xK c.text (p + 16) 16, { S with at_ := p + 16 + 16 }) := by rw [xI, if_pos (by show p + 16 + 16 ≤ _; omega)]
       rw [e3] at hm hS3; dsimp only at hm hS3
       rw [if_pos h32, ← hn, ← hm, if_neg (by omega)]
       exact ⟨he4, by decide⟩
     · rw [if_neg h32]; exact ⟨he4, by decide⟩
def Bi (most : Int) (d : Nat) : Nat → List Nat → Except Int (List Nat)
 | 0, out => .ok out
 | n + 1, out => if most ≤ out.length then .error 701 else Bi most d n (out ++ [out.getD (out.length - d) 0])
theorem zy {c : SC} {S : SS} {h : H} {ov : AV} (st : St c S h ov) (n d : Nat) (hs : n = 0 ∨ S.e ≠ 0) :
 ∃ e', Lp AP.A [0, 6, 8] AP.f61L0 [(0, .aE c.s 0), (6, I n), (8, I d)] h = some (.exit 0, e', h) := by
 have gs := st.gs
 refine ⟨[(0, .aE c.s 0), (6, I n), (8, I d), (53, .bool false)], vo ?_⟩
 by_cases hn : n = 0
 · have c1 : ¬ (0 : Int) < n := by omega
   simp only [I] at *
   simp only [AP.f61L0, go_sem, OQ c1]
 · have c1 : (0 : Int) < n := by omega
   have c2 : (S.e == 0) = false := we (by omega)
   simp only [I] at *
   simp only [AP.f61L0, go_sem, OU c1, gs, c2]
theorem oZ.elem {h : H} {v : AV} {cs : List AV} (o : oZ h v cs) {i : Nat} {x : AV} (hx : cs[i]? = some x) : ∃ id, v = .aF id 0 cs.length 1 ∧ gS 1 v (I i) = some (.aE id i) ∧ h.get id = some cs := by
 have hi : i < cs.length := (wR.1 hx).1
 rcases o with ⟨rfl, rfl⟩ | ⟨id, rfl, h1, _⟩
 · simp at hi
 · exact ⟨id, rfl, by simp [gS, lW hi], h1⟩
theorem Ic {l : List Nat} {i : Nat} (h : i < l.length) : (Ap l)[i]? = some (.int .u8 (l.getD i 0 : Nat)) := by
 simp [Ap, xc, h, List.getD]
theorem CE {c : SC} (d : Nat) (hd : 0 < d) : ∀ (n : Nat) (S : SS) (h : H) (ov : AV), St c S h ov → S.e = 0 → d ≤ S.out.length → n ≤ 65535 →
 ∃ e' h' ov' S', Lp AP.A [0, 6, 8] AP.f61L0 [(0, .aE c.s 0), (6, I n), (8, I d)] h = some (.exit 0, e', h') ∧ St c S' h' ov' ∧ Fr c h ov h' ov' ∧ match Bi c.most d n S.out with
   | .ok o => S' = { S with out := o }
   | .error k => S'.e = k ∧ k ≠ 0
 | 0, S, h, ov, st, he, hl, hn => by
   obtain ⟨e', q⟩ := zy st 0 d (.inl rfl)
   exact ⟨e', h, ov, S, q, st, Fr.refl _ _ _, by simp only [Bi]⟩
 | n + 1, S, h, ov, st, he, hl, hn => by
   have gs := st.gs
   have hol := st.ol
   have hml := st.ml
   have ln := st.own.len
   rw [zG] at ln
   have c1 : (0 : Int) < ((n + 1 : Nat) : Int) := by omega
   have w1 : IntKind.wrap .i64 (((n + 1 : Nat) : Int) - 1) = (n : Int) := by rw [show ((n + 1 : Nat) : Int) - 1 = (n : Int) by omega]; exact xH (by omega)
   have w2 : IntKind.wrap .i64 ((S.out.length : Int) - d) = ((S.out.length - d : Nat) : Int) := by rw [show (S.out.length : Int) - d = ((S.out.length - d : Nat) : Int) by omega]; exact xH (by omega)
   have hb := Ic (l := S.out) (i := S.out.length - d) (by omega)
   obtain ⟨id, i1, i2, i3⟩ := st.own.elem hb
   obtain ⟨h2, ov2, p1, p2, p3⟩ := Hq st (b := S.out.getD (S.out.length - d) 0)
   have step : aM (aS AP.A) bH AP.f61L0 (az [(0, .aE c.s 0), (6, I (n + 1 : Nat)), (8, I d)] [0, 6, 8]) h = some (.normal, [(0, .aE c.s 0), (6, I n), (8, I d)], h2) := by
    clear i1
    simp only [I] at *
    simp only [AP.f61L0, go_sem, OU c1, gs, he, ln, w2, i2, i3, hb, p1, w1]
   rw [Bi]
   by_cases hm : c.most ≤ S.out.length
   · rw [if_pos hm]
     have hl := A9 (c := c) (S := S) (S.out.getD (S.out.length - d) 0) he hm
     obtain ⟨e', q⟩ := zy p2 n d (.inr (by rw [hl]; decide))
     exact ⟨e', h2, ov2, _, vp step q, p2, p3, hl, by decide⟩
   · rw [if_neg hm]
     rw [Dr _ he hm] at p2
     obtain ⟨e', h', ov', S', q1, q2, q3, q4⟩ := CE d hd n _ h2 ov2 p2 rfl (by simp; omega) (by omega)
     refine ⟨e', h', ov', S', vp step q1, q2, p3.trans q3, ?_⟩
     dsimp only at q4 ⊢
     rw [he]
     exact q4
def Bh (t : ByteArray) (most : Int) (dl : List Int) (y : Nat) (p : Nat) (out : List Nat) : Rs :=
 match lenOf y with
 | none => .error 700
 | some (least, extra) =>
   if p + extra ≤ 8 * t.size then
    match Aq t dl 15 1 0 (p + extra) with
    | none => .error 700
    | some (z, p2) => match zm z.toNat with
      | none => .error 700
      | some (ld, xd) =>
        if p2 + xd ≤ 8 * t.size ∧ ld + xK t p2 xd ≤ out.length then
         (match Bi most (ld + xK t p2 xd) (least + xK t p extra) out with
         | .ok o => .ok (p2 + xd, o)
         | .error k => .error k)
        else .error 700
   else .error 700
theorem HK {l : List Int} {n : Nat} {y : Int} (h : y ∈ syms l n) : 0 ≤ y ∧ y < l.length := by
 unfold syms at h
 split at h
 · cases h
 · rw [List.mem_filterMap] at h
   obtain ⟨q, hq, h⟩ := h
   split at h
   · obtain rfl := wL h
     have := List.mem_zipIdx hq
     omega
   · cases h
theorem GX {l : List Int} {n : Nat} {v y : Int} (h : zC l n v = some y) : 0 ≤ y ∧ y < l.length := by
 unfold zC at h
 split at h
 · exact HK (wZ h)
 · cases h
theorem zj {t : ByteArray} {l : List Int} : ∀ {k n v p : Nat} {y : Int} {p2 : Nat}, Aq t l k n v p = some (y, p2) → 0 ≤ y ∧ y < l.length ∧ p < p2 ∧ p2 ≤ 8 * t.size
 | 0, _, _, _, _, _, h => by cases h
 | k + 1, n, v, p, y, p2, h => by
   rw [Aq] at h
   split at h
   · split at h
     · rename_i hf
       obtain ⟨rfl, rfl⟩ := wN (wL h)
       have := GX hf
       omega
     · have := zj h
       omega
   · cases h
theorem GL {c : SC} {S : SS} {h : H} {ov : AV} (dl : List Int) (hdl : dl.length < 100000) (st : St c S h ov) (he : S.e = 0) (y : Nat) (hy : y < 100000) :
 ∃ h' ov' S', aS AP.A 61 [.aE c.s 0, I y, xM dl] h = some (.bV [], h') ∧ St c S' h' ov' ∧ Fr c h ov h' ov' ∧ Fin (Bh c.text c.most dl y S.at_ S.out) S' := by
 have lo := Iv h y (by omega)
 unfold Bh
 cases hlo : lenOf y with
 | none =>
   rw [hlo] at lo
   obtain ⟨h1, S1, k1, k2, k3, k4⟩ := C5 st he
   have gs1 := k2.gs
   have c1 : (S1.e != 0) = true := wj (by omega)
   refine ⟨h1, ov, S1, ?_, k2, k3, k4, by decide⟩
   refine vG (fn := AP.f61) (e := [(0, .aE c.s 0), (2, xM dl), (6, I 0), (20, .bool true)]) (vs := []) rfl rfl rfl ?_ rfl
   simp only [I, EA] at *
   simp only [AP.f61, go_sem, lo, k1, gs1, c1]
 | some le =>
   obtain ⟨least, extra⟩ := le
   rw [hlo] at lo
   obtain ⟨b1, b2, b3⟩ := Hd hlo
   obtain ⟨h1, k1, k2, k3⟩ := FE st (n := extra) (least := least) (by omega) (by omega)
   dsimp only
   by_cases hp : S.at_ + extra ≤ 8 * c.text.size
   · have eg : xI c extra S = (xK c.text S.at_ extra, { S with at_ := S.at_ + extra }) := by rw [xI, if_pos hp]
     rw [eg] at k1 k2
     dsimp only at k1 k2
     rw [if_pos hp]
     have gs1 := k2.gs
     have hve := yy c.text S.at_ extra
     have hve2 : 2 ^ extra ≤ 2 ^ 5 := O4 (by omega) b2
     obtain ⟨h2, S2, z, s1, s2, s3, s4⟩ := Cs dl hdl k2 he
     have gs2 := s2.gs
     have c1 : (S.e != 0) = false := wh he
     dsimp only at s4 gs1
     cases hz : Aq c.text dl 15 1 0 (S.at_ + extra) with
     | none =>
       rw [hz] at s4
       obtain ⟨s4, s5⟩ := s4
       have c2 : (S2.e != 0) = true := wj (by omega)
       refine ⟨h2, ov, S2, ?_, s2, k3.trans s3, s4, by decide⟩
       refine vG (fn := AP.f61) (e := [(0, .aE c.s 0), (6, I (least + xK c.text S.at_ extra : Nat)), (7, I z), (28, .bool true)]) (vs := []) rfl rfl rfl ?_ rfl
       simp only [I, EA] at *
       simp only [AP.f61, go_sem, lo, k1, gs1, c1, s1, gs2, c2]
     | some zp =>
       obtain ⟨z2, p2⟩ := zp
       rw [hz] at s4
       obtain ⟨s4, s5⟩ := s4
       subst s5 s4
       have zb := zj hz
       obtain ⟨zn, hzn⟩ : ∃ n : Nat, z = n := Pb zb.1
       subst hzn
       have dob := GQ h2 zn (by omega)
       have c2 : (S.e != 0) = false := wh he
       dsimp only at gs2 ⊢
       rw [Int.toNat_natCast]
       cases hdo : zm zn with
       | none =>
         rw [hdo] at dob
         obtain ⟨h3, S3, v1, v2, v3, v4⟩ := C5 s2 he
         have gs3 := v2.gs
         have ln := v2.own.len
         rw [zG] at ln
         have hn0 : ¬ ((S3.out.length : Int) < 0) := by omega
         obtain ⟨e', q⟩ := zy v2 (least + xK c.text S.at_ extra) 0 (.inr (by rw [v4]; decide))
         refine ⟨h3, ov, S3, ?_, v2, (k3.trans s3).trans v3, v4, by decide⟩
         refine yG (fn := AP.f61) (e := []) (vs := []) rfl rfl rfl ?_ rfl
         have q' : Lp AP.A [0, 6, 8] AP.f61L0 [(0, .aE c.s 0), (6, I (least + xK c.text S.at_ extra : Nat)), (8, I 0)] h3 = some (.exit 0, e', h3) := q
         clear q
         simp only [I, EA] at *
         simp only [AP.f61, go_sem, uz, lo, k1, gs1, c1, s1, gs2, c2, dob, v1, gs3, ln, OQ hn0, q']
       | some lx =>
         obtain ⟨ld, xd⟩ := lx
         rw [hdo] at dob
         obtain ⟨d1, d2, d3⟩ := FV hdo
         obtain ⟨h3, v1, v2, v3⟩ := FE s2 (n := xd) (least := ld) (by omega) (by omega)
         obtain ⟨x, hx⟩ : ∃ x, x = (xI c xd { S with at_ := p2 }).1 := ⟨_, rfl⟩
         obtain ⟨S3, hS3⟩ : ∃ x, x = (xI c xd { S with at_ := p2 }).2 := ⟨_, rfl⟩
         rw [← hx] at v1; rw [← hS3] at v2
         have ho3 : S3.out = S.out := by rw [hS3]; unfold xI; split <;> simp [xO]; split <;> rfl
         have gs3 := v2.gs
         have ln := v2.own.len
         rw [zG] at ln
         dsimp only
         by_cases hbk : S3.out.length < ld + x
         · have hbk' : (S3.out.length : Int) < ((ld + x : Nat) : Int) := by omega
           obtain ⟨h4, f1, f2, f3⟩ := yF v2 700
           have he4 : (xO 700 S3).e = 700 := by
            have : S3.e = 0 ∨ S3.e = 700 := by
             rw [hS3]; unfold xI; split
             · exact .inl he
             · right; simp [xO, he]
            rcases this with q | q <;> simp [xO, q]
           have hneg : ¬ (p2 + xd ≤ 8 * c.text.size ∧ ld + xK c.text p2 xd ≤ S.out.length) := by
            intro ⟨q1, q2⟩
            have : xI c xd { S with at_ := p2 } = (xK c.text p2 xd, { S with at_ := p2 + xd }) := by rw [xI, if_pos q1]
            rw [this] at hx; dsimp only at hx; rw [ho3] at hbk; omega
           rw [if_neg hneg]
           obtain ⟨e', q⟩ := zy f2 (least + xK c.text S.at_ extra) (ld + x) (.inr (by rw [he4]; decide))
           refine ⟨h4, ov, xO 700 S3, ?_, f2, ((k3.trans s3).trans v3).trans f3, he4, by decide⟩
           refine yG (fn := AP.f61) (e := []) (vs := []) rfl rfl rfl ?_ rfl
           simp only [I, EA] at *
           simp only [AP.f61, go_sem, uz, lo, k1, gs1, c1, s1, gs2, c2, dob, v1, gs3, ln, OU hbk', f1, q]
         · have hbk' : ¬ (S3.out.length : Int) < ((ld + x : Nat) : Int) := by omega
           have fin : ∀ e' h', Lp AP.A [0, 6, 8] AP.f61L0 [(0, .aE c.s 0), (6, I (least + xK c.text S.at_ extra : Nat)), (8, I (ld + x : Nat))] h3 = some (.exit 0, e', h') → aS AP.A 61 [.aE c.s 0, I y, xM dl] h = some (.bV [], h') := by
            intro e' h' q
            refine yG (fn := AP.f61) (e := []) (vs := []) rfl rfl rfl ?_ rfl
            simp only [I, EA] at *
            simp only [AP.f61, go_sem, uz, lo, k1, gs1, c1, s1, gs2, c2, dob, v1, gs3, ln, OQ hbk', q]
           by_cases hp2 : p2 + xd ≤ 8 * c.text.size
           · have : xI c xd { S with at_ := p2 } = (xK c.text p2 xd, { S with at_ := p2 + xd }) := by rw [xI, if_pos hp2]
             rw [this] at hx hS3; dsimp only at hx hS3
             subst hx hS3
             dsimp only at hbk
             rw [if_pos ⟨hp2, by omega⟩]
             obtain ⟨e', h', ov', S', q1, q2, q3, q4⟩ := CE (c := c) (ld + xK c.text p2 xd) (by omega) (least + xK c.text S.at_ extra) _ h3 ov v2 he (by dsimp only; omega) (by omega)
             refine ⟨h', ov', S', fin e' h' q1, q2, ((k3.trans s3).trans v3).trans q3, ?_⟩
             dsimp only at q4
             cases hcl : Bi c.most (ld + xK c.text p2 xd) (least + xK c.text S.at_ extra) S.out with
             | ok o => rw [hcl] at q4; rw [he] at q4; exact q4
             | error k => rw [hcl] at q4; exact q4
           · rw [if_neg (fun q => hp2 q.1)]
             have he3 : S3.e = 700 := by
              rw [hS3, xI, if_neg hp2]; simp [xO, he]
             obtain ⟨e', q⟩ := zy v2 (least + xK c.text S.at_ extra) (ld + x) (.inr (by rw [he3]; decide))
             exact ⟨h3, ov, S3, fin e' h3 q, v2, (k3.trans s3).trans v3, he3, by decide⟩
   · have eg : xI c extra S = (0, { S with e := 700 }) := by rw [xI, if_neg hp, xO, if_pos he]
     rw [eg] at k1 k2
     dsimp only at k1 k2
     rw [if_neg hp]
     have gs1 := k2.gs
     refine ⟨h1, ov, _, ?_, k2, k3, rfl, by decide⟩
     refine vG (fn := AP.f61) (e := [(0, .aE c.s 0), (2, xM dl), (6, I (least + 0 : Nat)), (20, .bool true)]) (vs := []) rfl rfl rfl ?_ rfl
     simp only [I, EA] at *
     simp only [AP.f61, go_sem, lo, k1, gs1]
def y7 (t : ByteArray) (most : Int) (ll dl : List Int) : Nat → Nat → List Nat → Rs
 | 0, _, _ => .error 700
 | k + 1, p, out => match Aq t ll 15 1 0 p with
   | none => .error 700
   | some (y, p1) =>
     if y < 256 then (if most ≤ out.length then .error 701 else y7 t most ll dl k p1 (out ++ [y.toNat]))
     else if y = 256 then .ok (p1, out)
     else match Bh t most dl y.toNat p1 out with
      | .ok (p2, o) => y7 t most ll dl k p2 o
      | .error e => .error e
theorem DU {t : ByteArray} {most : Int} {dl : List Int} {y p : Nat} {out o : List Nat} {p2 : Nat} (h : Bh t most dl y p out = .ok (p2, o)) : p ≤ p2 ∧ p2 ≤ 8 * t.size := by
 unfold Bh at h
 split at h
 · cases h
 · split at h
   · split at h
     · cases h
     · rename_i hs
       have := zj hs
       split at h
       · cases h
       · split at h
         · rename_i hq
           split at h
           · have := Pc (fun r : Rs => match r with | .ok q => q.1 | _ => 0) h
             dsimp only at this
             omega
           · cases h
         · cases h
   · cases h
theorem BN {c : SC} {S : SS} {h : H} {ov : AV} (st : St c S h ov) (a b : AV) (hs : S.e ≠ 0) :
 ∃ e', Lp AP.A [0, 1, 2] AP.f40L0 [(0, .aE c.s 0), (1, a), (2, b)] h = some (.exit 0, e', h) := by
 have gs := st.gs
 refine ⟨[(0, .aE c.s 0), (1, a), (2, b), (11, .bool false)], vo ?_⟩
 have c2 : (S.e == 0) = false := we hs
 simp only [I] at *
 simp only [AP.f40L0, go_sem, gs, c2]
theorem Az {c : SC} (ll dl : List Int) (hll : ll.length < 100000) (hdl : dl.length < 100000) : ∀ (k : Nat) (S : SS) (h : H) (ov : AV), St c S h ov → S.e = 0 → 8 * c.text.size < S.at_ + k →
 ∃ e' h' ov' S', (Lp AP.A [0, 1, 2] AP.f40L0 [(0, .aE c.s 0), (1, xM ll), (2, xM dl)] h = some (.ret, e', h') ∨ Lp AP.A [0, 1, 2] AP.f40L0 [(0, .aE c.s 0), (1, xM ll), (2, xM dl)] h = some (.exit 0, e', h')) ∧ St c S' h' ov' ∧ Fr c h ov h' ov' ∧ Fin (y7 c.text c.most ll dl k S.at_ S.out) S'
 | 0, S, h, ov, st, he, hk => by have := st.zu; omega
 | k + 1, S, h, ov, st, he, hk => by
   have gs := st.gs
   obtain ⟨h1, S1, z, s1, s2, s3, s4⟩ := Cs ll hll st he
   rw [y7]
   cases hz : Aq c.text ll 15 1 0 S.at_ with
   | none =>
     rw [hz] at s4
     obtain ⟨s4, s5⟩ := s4
     subst s5
     refine ⟨[(0, .aE c.s 0), (1, xM ll), (2, xM dl), (6, I 256), (26, .bool true)], h1, ov, S1, .inl (vN ?_), s2, s3, s4, by decide⟩
     simp only [I] at *
     simp only [AP.f40L0, go_sem, gs, he, s1]
   | some zp =>
     obtain ⟨z2, p1⟩ := zp
     rw [hz] at s4
     obtain ⟨s4, s5⟩ := s4
     subst s5 s4
     have zb := zj hz
     obtain ⟨y, hy⟩ : ∃ n : Nat, z = n := Pb zb.1
     subst hy
     dsimp only
     by_cases c1 : (y : Int) < 256
     · rw [if_pos c1]
       have w1 : IntKind.wrap .u8 (y : Int) = y := wrap_u8 (by omega)
       obtain ⟨h2, ov2, p1', p2', p3'⟩ := Hq s2 (b := y)
       have step : aM (aS AP.A) bH AP.f40L0 (az [(0, .aE c.s 0), (1, xM ll), (2, xM dl)] [0, 1, 2]) h = some (.normal, [(0, .aE c.s 0), (1, xM ll), (2, xM dl)], h2) := by
        simp only [I] at *
        simp only [AP.f40L0, go_sem, gs, he, s1, OU c1, w1, p1']
       by_cases hm : c.most ≤ S.out.length
       · rw [if_pos hm]
         have hl := A9 (c := c) (S := { S with at_ := p1 }) y he hm
         obtain ⟨e', q⟩ := BN p2' (xM ll) (xM dl) (by rw [hl]; decide)
         exact ⟨e', h2, ov2, _, .inr (vp step q), p2', s3.trans p3', hl, by decide⟩
       · rw [if_neg hm]
         rw [Dr (S := { S with at_ := p1 }) _ he hm] at p2'
         obtain ⟨e', h', ov', S', q1, q2, q3, q4⟩ := Az ll dl hll hdl k _ h2 ov2 p2' rfl (by dsimp only; omega)
         refine ⟨e', h', ov', S', ?_, q2, (s3.trans p3').trans q3, q4⟩
         rcases q1 with q1 | q1
         · exact .inl (vp step q1)
         · exact .inr (vp step q1)
     · rw [if_neg c1]
       by_cases c2 : (y : Int) = 256
       · rw [if_pos c2]
         refine ⟨[(0, .aE c.s 0), (1, xM ll), (2, xM dl), (6, I y), (26, .bool true)], h1, ov, _, .inl (vN ?_), s2, s3, ?_⟩
         · have c2' := wg c2
           simp only [I] at *
           simp only [AP.f40L0, go_sem, gs, he, s1, OQ c1, c2']
         · simp only [Fin]; rw [he]
       · rw [if_neg c2]
         have c2' := we c2
         obtain ⟨h2, ov2, S2, r1, r2, r3, r4⟩ := GL dl hdl s2 he y (by omega)
         have step : aM (aS AP.A) bH AP.f40L0 (az [(0, .aE c.s 0), (1, xM ll), (2, xM dl)] [0, 1, 2]) h = some (.normal, [(0, .aE c.s 0), (1, xM ll), (2, xM dl)], h2) := by
          simp only [I] at *
          simp only [AP.f40L0, go_sem, gs, he, s1, OQ c1, c2', r1]
         dsimp only at r4
         rw [Int.toNat_natCast]
         cases hc : Bh c.text c.most dl y p1 S.out with
         | error q =>
           rw [hc] at r4
           obtain ⟨e', q'⟩ := BN r2 (xM ll) (xM dl) (by rw [r4.1]; exact r4.2)
           exact ⟨e', h2, ov2, S2, .inr (vp step q'), r2, s3.trans r3, r4⟩
         | ok q =>
           obtain ⟨p2, o⟩ := q
           rw [hc] at r4
           simp only [Fin] at r4
           subst r4
           have hge := DU hc
           obtain ⟨e', h', ov', S', q1, q2, q3, q4⟩ := Az ll dl hll hdl k _ h2 ov2 r2 rfl (by dsimp only; omega)
           refine ⟨e', h', ov', S', ?_, q2, (s3.trans r3).trans q3, q4⟩
           rcases q1 with q1 | q1
           · exact .inl (vp step q1)
           · exact .inr (vp step q1)
theorem E8 {c : SC} {S : SS} {h : H} {ov : AV} (ll dl : List Int) (hll : ll.length < 100000) (hdl : dl.length < 100000) (st : St c S h ov) (he : S.e = 0) :
 ∃ h' ov' S', aS AP.A 40 [.aE c.s 0, xM ll, xM dl] h = some (.bV [], h') ∧ St c S' h' ov' ∧ Fr c h ov h' ov' ∧ Fin (y7 c.text c.most ll dl (8 * c.text.size + 1) S.at_ S.out) S' := by
 obtain ⟨e', h', ov', S', q1, q2, q3, q4⟩ := Az ll dl hll hdl (8 * c.text.size + 1) S h ov st he (by omega)
 refine ⟨h', ov', S', ?_, q2, q3, q4⟩
 rcases q1 with q1 | q1
 · refine vG (fn := AP.f40) (e := e') (vs := []) rfl rfl rfl ?_ rfl
   simp only [AP.f40, go_sem, uz, q1]
 · refine yG (fn := AP.f40) (e := []) (vs := []) rfl rfl rfl ?_ rfl
   simp only [AP.f40, go_sem, uz, q1]
theorem xP (h : H) : ∀ id c, h.get id = some c → h.eJ.get id = some c := fun _ _ q => q
def BW (P : AV → Bool) : List AV → Nat → Int
 | [], _ => -1
 | v :: r, i => if P v then (i : Int) else BW P r (i + 1)
theorem D3 (P : AV → Bool) : ∀ (l : List AV) (i : Nat), (0 ≤ BW P l i) ↔ l.any P = true
 | [], i => by simp [BW]
 | v :: r, i => by
   rw [BW]
   by_cases h : P v
   · rw [if_pos h]; simp [h]
   · rw [if_neg h, D3 P r]; simp [h]
theorem BX {x fv : AV} {cs : List AV} (P : AV → Bool) (hP : ∀ v ∈ cs, ∀ g : H, mi (aS AP.A) [v] g fv = some (.bool (P v), g)) (hl : cs.length < 1000000000) (h : H) (rd : Rd h x cs) :
 ∀ (m i : Nat), m + i = cs.length → (∃ e', Lp AP.A [0, 1, 7, 8] AP.f84L0 [(0, x), (1, fv), (7, I cs.length), (8, I i)] h = some (.exit 0, e', h) ∧ BW P (cs.drop i) i = -1) ∨
   ∃ e', Lp AP.A [0, 1, 7, 8] AP.f84L0 [(0, x), (1, fv), (7, I cs.length), (8, I i)] h = some (.ret, e', h) ∧ look e' 4 = I (BW P (cs.drop i) i)
 | 0, i, hm => by
   left
   refine ⟨[(0, x), (1, fv), (7, I cs.length), (8, I i), (9, .bool false)], vo ?_, by rw [List.drop_eq_nil_of_le (by omega)]; rfl⟩
   have c1 : ¬ (i : Int) < (cs.length : Int) := by omega
   simp only [I] at *
   simp only [AP.f84L0, go_sem, OQ c1]
 | m + 1, i, hm => by
   have hi : i < cs.length := by omega
   obtain ⟨v, hv⟩ : ∃ v, cs[i]? = some v := ⟨_, List.getElem?_eq_getElem hi⟩
   have hd : cs.drop i = v :: cs.drop (i + 1) := by
    rw [List.drop_eq_getElem_cons hi]; rw [List.getElem?_eq_getElem hi] at hv; rw [wL hv]
   obtain ⟨p, p1, p2⟩ := rd.elem hv
   have p3 := p2 h (fun _ _ q => q)
   have c1 : (i : Int) < (cs.length : Int) := by omega
   have hPv := hP v (wZ hv) h
   have w1 : IntKind.wrap .i64 ((i : Int) + 1) = ((i + 1 : Nat) : Int) := xH (n := i + 1) (by omega)
   rw [hd, BW]
   cases hb : P v with
   | true =>
     right
     rw [hb] at hPv
     rw [if_pos rfl]
     refine ⟨[(4, I i)], vN ?_, rfl⟩
     simp only [I] at *
     simp only [AP.f84L0, go_sem, OU c1, p1, p3, hPv]
   | false =>
     rw [hb] at hPv
     have step : aM (aS AP.A) bH AP.f84L0 (az [(0, x), (1, fv), (7, I cs.length), (8, I i)] [0, 1, 7, 8]) h = some (.normal, [(0, x), (1, fv), (7, I cs.length), (8, I (i + 1 : Nat))], h) := by
      simp only [I] at *
      simp only [AP.f84L0, go_sem, OU c1, p1, p3, hPv, w1]
     rw [if_neg (by decide)]
     rcases BX P hP hl h rd m (i + 1) (by omega) with ⟨e', q1, q2⟩ | ⟨e', q1, q2⟩
     · exact .inl ⟨e', vp step q1, q2⟩
     · exact .inr ⟨e', vp step q1, q2⟩
theorem Iu {x fv : AV} {cs : List AV} (P : AV → Bool) (hP : ∀ v ∈ cs, ∀ g : H, mi (aS AP.A) [v] g fv = some (.bool (P v), g)) (hl : cs.length < 1000000000) (h : H) (rd : Rd h x cs) :
 aS AP.A 84 [x, fv] h = some (I (BW P cs 0), h) := by
 have rd' := rd.mono (xP h)
 have ln := rd.len
 rcases BX P hP hl h.eJ rd' cs.length 0 (by omega) with ⟨e', q1, q2⟩ | ⟨e', q1, q2⟩
 · rw [O0] at q2
   rw [q2]
   refine vX (fn := AP.f84) (h2 := h.eJ) (e := [(4, I (-1))]) rfl rfl rfl ?_ rfl rfl
   have q1' : Lp AP.A [0, 1, 7, 8] AP.f84L0 [(0, x), (1, fv), (7, I cs.length), (8, I 0)] h.eJ = some (.exit 0, e', h.eJ) := q1
   clear q1
   simp only [I] at *
   simp only [AP.f84, go_sem, uz, ln, q1']
 · rw [O0] at q2
   refine vX (fn := AP.f84) (h2 := h.eJ) (e := e') (vs := [I (BW P cs 0)]) rfl rfl rfl ?_ (by simp only [AP.f84, cT, oS, q2]; rfl) rfl
   have q1' : Lp AP.A [0, 1, 7, 8] AP.f84L0 [(0, x), (1, fv), (7, I cs.length), (8, I 0)] h.eJ = some (.ret, e', h.eJ) := q1
   clear q1
   simp only [I] at *
   simp only [AP.f84, go_sem, uz, ln, q1']
theorem BR {x fv : AV} {cs : List AV} (P : AV → Bool) (hP : ∀ v ∈ cs, ∀ g : H, mi (aS AP.A) [v] g fv = some (.bool (P v), g)) (hl : cs.length < 1000000000) (h : H) (rd : Rd h x cs) :
 aS AP.A 83 [x, fv] h = some (.bool (cs.any P), h) := by
 have k1 := Iu P hP hl h.eJ (rd.mono (xP h))
 have ha := D3 P cs 0
 refine vX (fn := AP.f83) (h2 := h.eJ) (e := [(4, .bool (cs.any P))]) rfl rfl rfl ?_ rfl rfl
 cases hb : cs.any P with
 | true =>
   have c1 : 0 ≤ BW P cs 0 := ha.2 hb
   simp only [I] at *
   simp only [AP.f83, go_sem, k1, OU c1]
 | false =>
   have c1 : ¬ 0 ≤ BW P cs 0 := by rw [ha, hb]; decide
   simp only [I] at *
   simp only [AP.f83, go_sem, k1, OQ c1]
def EH (v : AV) : Bool := match v with | .int _ n => decide (n < 0) || decide (15 < n) | _ => true
theorem MC (n : Int) (h : H) : aS AP.A 82 [I n] h = some (.bool (EH (I n)), h) := by
 by_cases c1 : n < 0
 · refine vX (fn := AP.f82) (h2 := h.eJ) (e := [(2, .bool true)]) rfl rfl rfl ?_ rfl ?_
   · simp only [I] at *
     simp only [AP.f82, go_sem, OU c1]
   · simp [EH, I, c1]; rfl
 · refine vX (fn := AP.f82) (h2 := h.eJ) (e := [(2, .bool (decide (15 < n)))]) rfl rfl rfl ?_ rfl ?_
   · simp only [I] at *
     simp only [AP.f82, go_sem, OQ c1]
   · simp [EH, I, c1]; rfl
def Ec (l : List Int) : Bool := decide (1 ≤ l.length) && decide (l.length ≤ 288) && !((ints l).any EH)
theorem N4 (h : H) (x : AV) (l : List Int) (hl : l.length < 100000) (rd : Rd h x (ints l)) : aS AP.A 81 [x] h = some (.bool (Ec l), h) := by
 have hP : ∀ v ∈ ints l, ∀ g : H, mi (aS AP.A) [v] g (.fn 82 [] []) = some (.bool (EH v), g) := by
  intro v hv g
  obtain ⟨n, _, rfl⟩ := List.mem_map.1 hv
  rw [pA]; exact MC n g
 have k1 := BR EH hP (by simp; omega) h.eJ (rd.mono (xP h))
 have ln := rd.len
 rw [qZ] at ln
 refine vX (fn := AP.f81) (h2 := h.eJ) (e := [(2, .bool (Ec l))]) rfl rfl rfl ?_ rfl rfl
 unfold Ec
 by_cases c1 : 1 ≤ l.length
 · have c1' : (1 : Int) ≤ (l.length : Int) := by omega
   by_cases c2 : l.length ≤ 288
   · have c2' : (l.length : Int) ≤ 288 := by omega
     simp only [I] at *
     simp only [AP.f81, go_sem, ln, OU c1', OU c2', OU c1, OU c2, k1, Bool.true_and]
   · have c2' : ¬ (l.length : Int) ≤ 288 := by omega
     simp only [I] at *
     simp only [AP.f81, go_sem, ln, OU c1', OQ c2', OU c1, OQ c2, Bool.true_and, O6]
 · have c1' : ¬ (1 : Int) ≤ (l.length : Int) := by omega
   simp only [I] at *
   simp only [AP.f81, go_sem, ln, OQ c1', OQ c1, O6]
def xX (l : List Int) : Int := if Ec l = false then 300 else if yo l 15 < 0 then 301 else if 0 < yo l 15 then 302 else 0
theorem Gk {l : List Int} (h : Ec l = true) : ∀ y ∈ l, 0 ≤ y ∧ y < 16 := by
 intro y hy
 simp only [Ec, wW, Bool.not_eq_true', List.any_eq_false] at h
 have := h.2 (I y) (List.mem_map.2 ⟨y, hy, rfl⟩)
 simp [EH, I] at this
 omega
theorem Db (h : H) (x : AV) (l : List Int) (hl : l.length < 100000) (rd : Rd h x (ints l)) : aS AP.A 65 [x] h = some (I (xX l), h) := by
 have rd' := rd.mono (xP h)
 have k1 := N4 h.eJ x l hl rd'
 unfold xX
 by_cases hm : Ec l = true
 · have k2 := AD h.eJ x l hl (Gk hm) rd'
   have hb : xM l = .aL (o7 49 (yJ l)) 0 := rfl
   have g : (o7 49 (yJ l))[48]? = some (I (yo l 15)) := by rw [gQ (by omega)]; rfl
   rw [hb] at k2
   clear hb
   generalize o7 49 (yJ l) = T at k2 g
   rw [hm] at k1 ⊢
   rw [if_neg (by decide)]
   by_cases c1 : yo l 15 < 0
   · rw [if_pos c1]
     refine vX (fn := AP.f65) (h2 := h.eJ) (e := [(2, I 301)]) rfl rfl rfl ?_ rfl rfl
     simp only [I] at *
     simp only [AP.f65, go_sem, k1, k2, g, OU c1]
   · rw [if_neg c1]
     by_cases c2 : 0 < yo l 15
     · rw [if_pos c2]
       refine vX (fn := AP.f65) (h2 := h.eJ) (e := [(2, I 302)]) rfl rfl rfl ?_ rfl rfl
       simp only [I] at *
       simp only [AP.f65, go_sem, k1, k2, g, OQ c1, OU c2]
     · rw [if_neg c2]
       refine vX (fn := AP.f65) (h2 := h.eJ) (e := [(2, I 0)]) rfl rfl rfl ?_ rfl rfl
       simp only [I] at *
       simp only [AP.f65, go_sem, k1, k2, g, OQ c1, OQ c2]
 · have hm' : Ec l = false := by simpa using hm
   rw [hm'] at k1 ⊢
   rw [if_pos rfl]
   refine vX (fn := AP.f65) (h2 := h.eJ) (e := [(2, I 300)]) rfl rfl rfl ?_ rfl rfl
   simp only [I] at *
   simp only [AP.f65, go_sem, k1]
def Mi : List Int → Int → Int
 | [], s => s
 | x :: r, s => Mi r (s + x)
theorem Bp {x : AV} {l : List Int} (hl : l.length < 100000) (hr : ∀ y ∈ l, 0 ≤ y ∧ y < 16) (h : H) (rd : Rd h x (ints l)) :
 ∀ (q p : List Int) (s : Int), l = p ++ q → 0 ≤ s → s ≤ 16 * p.length → ∃ e', Lp AP.A [3, 6, 7, 8] AP.f66L0 [(3, I s), (6, x), (7, I l.length), (8, I p.length)] h = some (.exit 0, e', h) ∧ look e' 3 = I (Mi q s)
 | [], p, s, hpq, hs0, hs1 => by
   refine ⟨[(3, I s), (6, x), (7, I l.length), (8, I p.length), (9, .bool false)], vo ?_, rfl⟩
   have c1 : ¬ (p.length : Int) < (l.length : Int) := by rw [hpq]; simp
   simp only [I] at *
   simp only [AP.f66L0, go_sem, OQ c1]
 | y :: q, p, s, hpq, hs0, hs1 => by
   have hlen : l.length = p.length + (q.length + 1) := by rw [hpq]; simp
   have c1 : (p.length : Int) < (l.length : Int) := by omega
   have hy := hr y (by rw [hpq]; simp)
   have hv : (ints l)[p.length]? = some (I y) := uW (by rw [hpq]; simp)
   obtain ⟨a, p1, p2⟩ := rd.elem hv
   have p3 := p2 h (fun _ _ q => q)
   have w1 : IntKind.wrap .i64 (s + y) = s + y := vK (by omega) (by omega)
   have w2 : IntKind.wrap .i64 ((p.length : Int) + 1) = (((p ++ [y]).length : Nat) : Int) := by
    rw [xD]; exact xH (n := p.length + 1) (by omega)
   have step : aM (aS AP.A) bH AP.f66L0 (az [(3, I s), (6, x), (7, I l.length), (8, I p.length)] [3, 6, 7, 8]) h = some (.normal, [(3, I (s + y)), (6, x), (7, I l.length), (8, I (p ++ [y]).length)], h) := by
    simp only [I] at *
    simp only [AP.f66L0, uP, sM, sH, sK, sJ, qu, u9, u7, uQ, uR, uT, uS, uM, uO, uL, uK, uF, uH, uf, uh, rJ, o8, oy, oG, mU, uD, uC, qy, qz, vg, tH, u5, sZ, qj, qf, Nat.reduceEqDiff, ne_eq, not_false_eq_true, nF, nv, OU c1, p1, p3, w1, w2]
   obtain ⟨e', q1, q2⟩ := Bp hl hr h rd q (p ++ [y]) (s + y) (by rw [hpq]; simp) (by omega) (by simp; omega)
   exact ⟨e', vp step q1, q2⟩
def yY (l : List Int) : Bool := decide (Mi l 0 ≤ 1)
theorem Hz (h : H) (x : AV) (l : List Int) (hl : l.length < 100000) (hr : ∀ y ∈ l, 0 ≤ y ∧ y < 16) (rd : Rd h x (ints l)) : aS AP.A 66 [x] h = some (.bool (yY l), h) := by
 have rd' := rd.mono (xP h)
 have ln := rd.len
 rw [qZ] at ln
 obtain ⟨e', q1, q2⟩ := Bp hl hr h.eJ rd' l [] 0 rfl (by omega) (by simp)
 have q1' : Lp AP.A [3, 6, 7, 8] AP.f66L0 [(3, I 0), (6, x), (7, I l.length), (8, I 0)] h.eJ = some (.exit 0, e', h.eJ) := q1
 clear q1
 refine vX (fn := AP.f66) (h2 := h.eJ) (e := [(2, .bool (yY l))]) rfl rfl rfl ?_ rfl rfl
 simp only [I, yY] at *
 simp only [AP.f66, go_sem, uz, ln, q1', q2]
theorem Cu {n : Nat} (h : n < 18446744073709551616) : IntKind.wrap .u64 (n : Int) = n := by
 have e : IntKind.wrap .u64 (n : Int) = (n : Int) % 18446744073709551616 := by simp [IntKind.wrap, IntKind.bits, IntKind.signed]
 rw [e]; omega
theorem BG {a : Nat} (ha : a < 4294967296) : bits .and .u64 (a : Int) 4294967295 = (a : Int) := by
 show IntKind.wrap .u64 (((BitVec.ofInt 64 (a : Int) &&& BitVec.ofInt 64 ((4294967295 : Nat) : Int)).toNat : Nat) : Int) = _
 rw [BitVec.toNat_and, yT 64 a (by omega), yT 64 4294967295 (by omega)]
 rw [show 4294967295 = 2 ^ 32 - 1 from rfl, Nat.and_two_pow_sub_one_eq_mod, Nat.mod_eq_of_lt (by simpa using ha)]
 exact Cu (by omega)
theorem Fv {a : Nat} (ha : a < 4294967296) : qJ .shr .u64 (a : Int) 32 = some (.int .u64 0) := by
 have : (a : Int).fdiv 4294967296 = 0 := by rw [Int.fdiv_eq_ediv_of_nonneg _ (by omega)]; omega
 simp [qJ, IntKind.bits, this]
theorem Iz (h : H) (a b : Nat) (ha : a < 4294967296) (hb : b < 4294967296) (hab : a * b < 4294967296) : aS AP.A 78 [.int .u64 a, .int .u64 b] h = some (.bV [.int .u64 0, .int .u64 (a * b : Nat)], h) := by
 have a1 := BG ha
 have a2 := BG hb
 have s1 := Fv ha
 have s2 := Fv hb
 have s3 := Fv hab
 have w1 : IntKind.wrap .u64 ((a : Int) * b) = ((a * b : Nat) : Int) := by rw [show (a : Int) * b = ((a * b : Nat) : Int) by simp]; exact Cu (by omega)
 have w0 : IntKind.wrap .u64 0 = 0 := by decide
 have z1 : (0 : Int) * b = 0 := by omega
 have z2 : (a : Int) * 0 = 0 := by omega
 have s0 : qJ .shr .u64 0 32 = some (.int .u64 0) := Fv (a := 0) (by omega)
 have a0 : bits .and .u64 0 4294967295 = 0 := BG (a := 0) (by omega)
 refine vX (fn := AP.f78) (h2 := h.eJ) (e := [(4, .int .u64 0), (5, .int .u64 (a * b : Nat))]) rfl rfl rfl ?_ rfl rfl
 simp only [AP.f78, go_sem, a1, a2, s1, s2, s3, w1, w0, z1, z2, s0, a0, Int.zero_mul, Int.add_zero]
theorem N5 (h : H) (a b : Nat) (ha : a < 4294967296) (hb : b < 4294967296) (hab : a * b < 4294967296) : aS AP.A 63 [.int .u64 a, .int .u64 b] h = some (.bV [.int .u64 0, .int .u64 (a * b : Nat)], h) := by
 have k := Iz h.eJ a b ha hb hab
 refine vX (fn := AP.f63) (h2 := h.eJ) (e := [(4, .int .u64 0), (5, .int .u64 (a * b : Nat))]) rfl rfl rfl ?_ rfl rfl
 simp only [AP.f63, go_sem, k]
theorem zg : ∀ (B V A C : List AV), V.length = B.length → setFrom (A ++ (B ++ C)) A.length V = A ++ (V ++ C)
 | [], [], A, C, _ => rfl
 | b :: B, v :: V, A, C, h => by
   rw [qI]
   have h1 : (A ++ (b :: B ++ C)).set A.length v = (A ++ [v]) ++ (B ++ C) := by
    rw [List.set_append_right _ _ (wV _)]; simp
   rw [h1]
   have h2 := zg B V (A ++ [v]) C (by simpa using h)
   rw [xD] at h2
   rw [show A.length + 1 = A.length + [v].length by rfl, h2]; simp
 | [], v :: V, A, C, h => by simp at h
 | b :: B, [], A, C, h => by simp at h
theorem FM (n : Nat) {v : AV} (hv : v.sc = true) : AV.aD (List.replicate n v) = true := by
 induction n with
 | zero => rfl
 | succ n ih => rw [List.replicate_succ, rO, hv, ih]; rfl
theorem Du (v : AV) : ∀ n, eo n [v] = List.replicate n v
 | 0 => rfl
 | n + 1 => by rw [eo, Du v n]; rfl
theorem El {k y : Nat} (h : k ≤ y) : lL (I k) y = some k := by
 simp [lL, pj, I]; omega
theorem GD {h : H} {id N k : Nat} {cs : List AV} (hg : h.get id = some cs) (hN : cs.length = N) (hk : k ≤ N) : ur h 1 (.aF id 0 N 1) (some (I k)) none none = some (.aF id k (N - k) 1) := by
 simp [ur, hg, hN, aC, El hk]
theorem EE {h : H} {id N M k : Nat} {cs : List AV} (hg : h.get id = some cs) (hN : cs.length = N) (hM : M ≤ N) (hk : k ≤ N) : ur h 1 (.aF id 0 M 1) none (some (I k)) none = some (.aF id 0 k 1) := by
 have : lL (I k) N = some k := El hk
 simp [ur, hg, hN, aC, this, hM]
def zM (v : AV) (k N : Nat) : List AV := List.replicate k v ++ List.replicate (N - k) (I 0)
theorem Hr {v : AV} {k N : Nat} (h : k ≤ N) : (zM v k N).length = N := by simp [zM]; omega
theorem Ek {v : AV} {k N m : Nat} (h : k + m ≤ N) : setFrom (zM v k N) k (List.replicate m v) = zM v (k + m) N := by
 have e : List.replicate (N - k) (I 0) = List.replicate m (I 0) ++ List.replicate (N - (k + m)) (I 0) := by
  rw [List.replicate_append_replicate]; congr 1; omega
 have := zg (List.replicate m (I 0)) (List.replicate m v) (List.replicate k v) (List.replicate (N - (k + m)) (I 0)) (by simp)
 rw [Pa] at this
 rw [zM, e, this, zM, ← List.append_assoc, List.replicate_append_replicate]
theorem Bn (v : AV) (hv : v.sc = true) (N id : Nat) (hN : N < 1000000000) : ∀ (f k : Nat) (h : H), N - k ≤ f → 0 < k → k ≤ N → h.get id = some (zM v k N) → h.floor ≤ id →
 ∃ e' h', Lp AP.A [7, 8] AP.f43L0 [(7, .aF id 0 N 1), (8, I k)] h = some (.exit 0, e', h') ∧ look e' 7 = .aF id 0 N 1 ∧ h'.get id = some (zM v N N) ∧ h'.next = h.next
 | f, k, h, hf, hk, hkN, hg, hfl => by
   by_cases hlt : k < N
   · have c1 : (k : Int) < (N : Int) := by omega
     have hlen := Hr (v := v) hkN
     have s1 := GD hg hlen hkN
     have s2 := EE hg hlen (wV N) hkN
     obtain ⟨m, hm⟩ : ∃ m, m = Nat.min k (N - k) := ⟨_, rfl⟩
     have hm1 : 0 < m ∧ m ≤ k ∧ k + m ≤ N := by
      rw [hm]; have : Nat.min k (N - k) = min k (N - k) := rfl
      rw [this]; omega
     have hsrc : aT h 1 (.aF id 0 k 1) = some (k, List.replicate k v) := by
      simp only [aT, if_true, hg, wS]
      rw [if_pos (by rw [hlen]; omega)]
      simp [zM]
     have cp : iY h 1 (.aF id k (N - k) 1) (.aF id 0 k 1) = some (I m, h.set id (zM v (k + m) N)) := by
      unfold iY
      rw [hsrc, wS]
      simp only [FM k hv, hfl, and_self, true_and, if_true, hg, wS, hlen]
      rw [if_pos (by omega), ← hm, Pd, List.take_replicate, Nat.min_eq_left hm1.2.1, Ek hm1.2.2]; rfl
     have w1 : IntKind.wrap .i64 ((k : Int) + m) = ((k + m : Nat) : Int) := by rw [show (k : Int) + m = ((k + m : Nat) : Int) by omega]; exact xH (by omega)
     have al : jN false (.aF id 0 N 1) = some (I N) := rfl
     have step : aM (aS AP.A) bH AP.f43L0 (az [(7, .aF id 0 N 1), (8, I k)] [7, 8]) h = some (.normal, [(7, .aF id 0 N 1), (8, I (k + m : Nat))], h.set id (zM v (k + m) N)) := by
      simp only [I] at *
      simp only [AP.f43L0, go_sem, al, OU c1, OW, O5, s1, s2, cp, w1]
     match f, hf with
     | 0, hf => omega
     | f + 1, hf =>
       obtain ⟨e', h', q1, q2, q3, q4⟩ := Bn v hv N id hN f (k + m) (h.set id (zM v (k + m) N)) (by omega) (by omega) (by omega) (by rw [H.dU, if_pos rfl, hg]; rfl) (by simpa using hfl)
       exact ⟨e', h', vp step q1, q2, q3, by rw [q4]; simp⟩
   · have hkN' : k = N := by omega
     subst hkN'
     have c1 : ¬ (k : Int) < (k : Int) := by omega
     have al : jN false (.aF id 0 k 1) = some (I k) := rfl
     refine ⟨[(7, .aF id 0 k 1), (8, I k), (37, .bool false)], h, vo ?_, rfl, hg, rfl⟩
     simp only [I] at *
     simp only [AP.f43L0, go_sem, al, OQ c1]
theorem zF (h : H) (x : AV) (y : Int) (N : Nat) (hN : N < 1000000000) (rd : Rd h x [I y]) : aS AP.A 43 [x, I N] h = some (.aW false (ints (List.replicate N y)) 0 N 1, h) := by
 have rd' := rd.mono (xP h)
 have ln := rd.len
 have mc := N5 h.eJ 1 N (by omega) (by omega) (by omega)
 rw [Nat.one_mul] at mc
 have mc' : aS AP.A 63 [.int .u64 1, .int .u64 N] h.eJ = some (.bV [.int .u64 0, .int .u64 N], h.eJ) := mc
 clear mc
 have c0 : ¬ (N : Int) < 0 := by omega
 have w1 : IntKind.wrap .u64 1 = 1 := by decide
 have w2 : IntKind.wrap .u64 (N : Int) = N := Cu (by omega)
 have w3 : IntKind.wrap .i64 (N : Int) = N := xH (by omega)
 have c1 : ¬ (0 : Int) < 0 := by omega
 have c2 : ¬ (9223372036854775807 : Int) < (N : Int) := by omega
 obtain ⟨id, hid⟩ : ∃ i, i = h.next := ⟨_, rfl⟩
 obtain ⟨g1, hg1⟩ : ∃ g, g = h.eJ.alloc (List.replicate N (I 0)) := ⟨_, rfl⟩
 have e1 : g1.get id = some (List.replicate N (I 0)) := by rw [hg1, H.aX, if_pos (by rw [hid]; rfl)]
 have bt : aZ [(29, I N), (28, .int .u64 N), (0, x), (6, .int .u64 N)] (.jF 1 8 [I 0] (.t 29) (.t 29)) = some (List.replicate N (I 0), fun i => .aF i 0 N 1) := by
  have c3 : (8 : Int) * N ≤ 281474976710656 := by omega
  have c4 : (N : Int) ≤ 9223372036854775807 := by omega
  simp [aZ, I, Du, c3, c4]
 have hcp : ∃ (k : Nat) (h2 : H), iY g1 1 (.aF id 0 N 1) x = some (I k, h2) ∧ ((k = 0 ∧ N = 0) ∨ (k = 1 ∧ 0 < N)) ∧ h2.get id = some (zM (I y) k N) ∧ h2.floor = h.next ∧ h2.next = g1.next := by
  have rd2 : aT g1 1 x = some (1, [I y]) := (rd.mono (fun i c q => by rw [hg1, H.aX, if_neg (by have := h.lt _ _ q; show i ≠ h.next; omega)]; exact q)).1
  refine ⟨Nat.min 1 N, g1.set id (zM (I y) (Nat.min 1 N) N), ?_, ?_, by rw [H.dU, if_pos rfl, e1]; rfl, by rw [hg1]; simp, by simp⟩
  · unfold iY
    rw [rd2, wS]
    have hf : g1.floor ≤ id := by rw [hg1, hid]; simp
    have ha : AV.aD [I y] = true := rfl
    simp only [ha, hf, and_self, true_and, if_true, e1, wS, Pa]
    rw [if_pos (by omega), Pd]
    have hz : List.replicate N (I 0) = zM (I y) 0 N := by simp [zM]
    rw [hz]
    have ht : [I y].take (Nat.min 1 N) = List.replicate (Nat.min 1 N) (I y) := by
     cases N with
     | zero => rfl
     | succ n => have : Nat.min 1 (n + 1) = 1 := by show min 1 (n + 1) = 1; omega
                 rw [this]; rfl
    rw [ht, Ek (by show 0 + min 1 N ≤ N; omega), w8]; rfl
  · cases N with
    | zero => left; exact ⟨rfl, rfl⟩
    | succ n => right; exact ⟨by show min 1 (n + 1) = 1; omega, by omega⟩
 obtain ⟨k, h2, cp1, cp2, cp3, cp4, cp5⟩ := hcp
 have lp : ∃ e' h3, Lp AP.A [7, 8] AP.f43L0 [(7, .aF id 0 N 1), (8, I k)] h2 = some (.exit 0, e', h3) ∧ look e' 7 = .aF id 0 N 1 ∧ h3.get id = some (zM (I y) N N) := by
  rcases cp2 with ⟨rfl, rfl⟩ | ⟨rfl, hN0⟩
  · refine ⟨[(7, .aF id 0 0 1), (8, I 0), (37, .bool false)], h2, vo ?_, rfl, cp3⟩
    have al : jN false (.aF id 0 0 1) = some (I 0) := rfl
    simp only [I] at *
    simp only [AP.f43L0, go_sem, al, Int.natCast_zero]
  · obtain ⟨e', h', q1, q2, q3, _⟩ := Bn (I y) rfl N id hN N 1 h2 (by omega) (by omega) (by omega) cp3 (by rw [cp4, hid]; exact wV _)
    exact ⟨e', h', q1, q2, q3⟩
 obtain ⟨e', h3, q1, q2, q3⟩ := lp
 refine vX (fn := AP.f43) (h2 := h3) (e := [(4, .aF id 0 N 1)]) (vs := [.aF id 0 N 1]) rfl rfl rfl ?_ rfl ?_
 · have al : jN false x = some (I 1) := ln
   have hn : h.eJ.next = id := by rw [hid]; rfl
   simp only [I] at *
   simp only [AP.f43, go_sem, al, OQ c0, w1, w2, w3, mc', OQ c1, OQ c2, bt, ← hg1, hn, cp1, uz, q1, q2]
 · have hr : zM (I y) N N = ints (List.replicate N y) := by simp [zM, ints]
   show snap h3.get h.next 16 true (.aF id 0 N 1) = _
   unfold snap
   rw [if_neg (by omega), q3, wS, hr, if_pos (by simp)]
   have ht : ((ints (List.replicate N y)).drop 0).take (N * 1) = ints (List.replicate N y) := by
    rw [O0, Pd, xu (by simp)]
   rw [ht, yQ]; rfl
theorem LV (h : H) (N : Nat) (hN0 : 0 < N) (hN : N < 1000000000) : aS AP.A 76 [.aQ, I N] h = some (.aF h.next 0 0 1, h.alloc (List.replicate N (I 0))) := by
 have c0 : ¬ (N : Int) < 0 := by omega
 have c1 : (0 : Int) < N := by omega
 have w0 : IntKind.wrap .i64 (0 - 0) = 0 := by decide
 have w1 : IntKind.wrap .i64 ((N : Int) - 0) = N := by rw [Int.sub_zero]; exact xH (by omega)
 have a1 : rK .aQ = some (I 0) := rfl
 have a2 : jN false .aQ = some (I 0) := rfl
 have a3 : ur h 1 .aQ none (some (I 0)) none = some .aQ := rfl
 have a4 : iX h 1 8 [I 0] .aQ (I N) = some (.aF h.next 0 N 1, h.alloc (List.replicate N (I 0))) := by
  have c3 : (N : Int) ≤ 281474976710656 := by omega
  have c4 : (N : Int) * 8 ≤ 281474976710656 := by omega
  have c5 : roomy 8 N = true := by simp [roomy]; omega
  simp [iX, I, c3, c4, c5, Du, hN0]
 have a5 : ur (h.alloc (List.replicate N (I 0))) 1 (.aF h.next 0 N 1) none (some (I 0)) none = some (.aF h.next 0 0 1) :=
  EE (by rw [H.aX, if_pos rfl]) (by simp) (wV _) (Nat.zero_le _)
 refine vG (fn := AP.f76) (e := [(4, .aF h.next 0 0 1)]) rfl rfl rfl ?_ rfl
 simp only [I] at *
 simp only [AP.f76, go_sem, OQ c0, OU c1, w0, w1, a1, a2, OW, O5, a3, a4, a5]
def cat (ps : List (AV × List Int)) : List Int := ps.flatMap (·.2)
theorem DS (p : AV × List Int) (ps : List (AV × List Int)) : cat (p :: ps) = p.2 ++ cat ps := by simp [cat]
theorem AL {h : H} {x : AV} {all : List (AV × List Int)} (rd : Rd h x (all.map (·.1))) (hp : ∀ p ∈ all, Rd h p.1 (ints p.2)) (hT : (cat all).length < 1000000000) (hA : all.length < 1000000000) :
 ∀ (ps qs : List (AV × List Int)), all = qs ++ ps →
 ∃ e', Lp AP.A [0, 3, 9, 10, 11] AP.f62L1 [(0, x), (3, I (cat qs).length), (9, x), (10, I all.length), (11, I qs.length)] h = some (.exit 0, e', h) ∧ look e' 0 = x ∧ look e' 3 = I (cat all).length
 | [], qs, hq => by
   rw [OZ] at hq; subst hq
   refine ⟨[(0, x), (3, I (cat all).length), (9, x), (10, I all.length), (11, I all.length), (12, .bool false)], vo ?_, rfl, rfl⟩
   have c1 : ¬ (all.length : Int) < (all.length : Int) := by omega
   simp only [I] at *
   simp only [AP.f62L1, go_sem, OQ c1]
 | p :: ps, qs, hq => by
   have hlen : all.length = qs.length + (ps.length + 1) := by rw [hq]; simp
   have hct : (cat all).length = (cat qs).length + (p.2.length + (cat ps).length) := by rw [hq]; simp [cat]
   have c1 : (qs.length : Int) < (all.length : Int) := by omega
   have hv : (all.map (·.1))[qs.length]? = some p.1 := by rw [hq]; simp
   obtain ⟨a, p1, p2⟩ := rd.elem hv
   have p3 := p2 h (fun _ _ q => q)
   have ln := (hp p (by rw [hq]; simp)).len
   rw [qZ] at ln
   have w1 : IntKind.wrap .i64 (((cat qs).length : Int) + p.2.length) = ((cat (qs ++ [p])).length : Int) := by
    rw [show ((cat qs).length : Int) + p.2.length = ((cat (qs ++ [p])).length : Int) by simp [cat]]; exact xH (by simp [cat] at *; omega)
   have c2 : ¬ ((cat (qs ++ [p])).length : Int) < 0 := by omega
   have w2 : IntKind.wrap .i64 ((qs.length : Int) + 1) = ((qs ++ [p]).length : Int) := by
    rw [xD]; exact xH (n := qs.length + 1) (by omega)
   obtain ⟨e', q1, q2, q3⟩ := AL rd hp hT hA ps (qs ++ [p]) (by rw [hq]; simp)
   have step : aM (aS AP.A) bH AP.f62L1 (az [(0, x), (3, I (cat qs).length), (9, x), (10, I all.length), (11, I qs.length)] [0, 3, 9, 10, 11]) h = some (.normal, [(0, x), (3, I (cat (qs ++ [p])).length), (9, x), (10, I all.length), (11, I (qs ++ [p]).length)], h) := by
    generalize hB : (qs ++ [p]).length = B at *
    simp only [I] at *
    simp only [AP.f62L1, go_sem, OU c1, p1, p3, ln, w1, OQ c2, w2]
   exact ⟨e', vp step q1, q2, q3⟩
theorem AM {h0 : H} {x : AV} {all : List (AV × List Int)} (rd : Rd h0 x (all.map (·.1))) (hp : ∀ p ∈ all, Rd h0 p.1 (ints p.2)) (hT : (cat all).length < 1000000000) (hA : all.length < 1000000000) (id : Nat) (hid : h0.next ≤ id) :
 ∀ (ps qs : List (AV × List Int)) (h : H), all = qs ++ ps → h.floor ≤ id → h.get id = some (ints (cat qs) ++ List.replicate (cat ps).length (I 0)) → (∀ i c, h0.get i = some c → h.get i = some c) →
 ∃ e' h', Lp AP.A [6, 25, 26, 27] AP.f62L0 [(6, .aF id 0 (cat qs).length 1), (25, x), (26, I all.length), (27, I qs.length)] h = some (.exit 2, e', h') ∧ look e' 6 = .aF id 0 (cat all).length 1 ∧ h'.get id = some (ints (cat all))
 | [], qs, h, hq, hf, hg, hm => by
   rw [OZ] at hq; subst hq
   refine ⟨[(6, .aF id 0 (cat all).length 1), (25, x), (26, I all.length), (27, I all.length), (28, .bool false)], h, vo ?_, rfl, by rw [hg]; simp [cat]⟩
   have c1 : ¬ (all.length : Int) < (all.length : Int) := by omega
   simp only [I] at *
   simp only [AP.f62L0, go_sem, OQ c1]
 | p :: ps, qs, h, hq, hf, hg, hm => by
   have hlen : all.length = qs.length + (ps.length + 1) := by rw [hq]; simp
   have hct : (cat all).length = (cat qs).length + (p.2.length + (cat ps).length) := by rw [hq]; simp [cat]
   have hcq : (cat (qs ++ [p])).length = (cat qs).length + p.2.length := by simp [cat]
   have c1 : (qs.length : Int) < (all.length : Int) := by omega
   have hv : (all.map (·.1))[qs.length]? = some p.1 := by rw [hq]; simp
   obtain ⟨a, p1, p2⟩ := rd.elem hv
   have p3 := p2 h hm
   have src := ((hp p (by rw [hq]; simp)).mono hm).1
   rw [qZ] at src
   have w2 : IntKind.wrap .i64 ((qs.length : Int) + 1) = ((qs ++ [p]).length : Int) := by
    rw [xD]; exact xH (n := qs.length + 1) (by omega)
   have hz : List.replicate (cat (p :: ps)).length (I 0) = List.replicate p.2.length (I 0) ++ List.replicate (cat ps).length (I 0) := by
    rw [List.replicate_append_replicate, DS, xD]
   have hap : ∃ h1, mC h 1 8 (.aF id 0 (cat qs).length 1) p.1 = some (.aF id 0 (cat (qs ++ [p])).length 1, h1) ∧ h1.floor = h.floor ∧ h1.get id = some (ints (cat (qs ++ [p])) ++ List.replicate (cat ps).length (I 0)) ∧ ∀ i c, h0.get i = some c → h1.get i = some c := by
    by_cases h0' : p.2.length = 0
    · have hp2 : p.2 = [] := List.length_eq_zero_iff.1 h0'
      refine ⟨h, ?_, rfl, ?_, hm⟩
      · unfold mC
        rw [src, wS]
        unfold ey
        rw [if_pos (by simp [h0']), hcq, h0', Nat.add_zero]
      · rw [hg, DS, hp2]; simp [cat, hp2]
    · refine ⟨h.set id (ints (cat (qs ++ [p])) ++ List.replicate (cat ps).length (I 0)), ?_, by simp, by rw [H.dU, if_pos rfl, hg]; rfl, fun i c q => ?_⟩
      · unfold mC
        rw [src, wS]
        have hs : setFrom (ints (cat qs) ++ List.replicate (cat (p :: ps)).length (I 0)) (cat qs).length (ints p.2) = ints (cat (qs ++ [p])) ++ List.replicate (cat ps).length (I 0) := by
         have := zg (List.replicate p.2.length (I 0)) (ints p.2) (ints (cat qs)) (List.replicate (cat ps).length (I 0)) (by simp)
         rw [qZ] at this
         rw [hz, this]; simp [cat, qY]
        unfold ey
        dsimp only
        rw [if_neg h0', if_neg (by simp [kH])]
        rw [if_pos ⟨rfl, hf⟩, hg, wS, if_pos (by rw [hz]; simp)]
        rw [Pd, w8, hs, hcq]
      · rw [H.dU, if_neg (by have := h0.lt _ _ q; omega)]; exact hm i c q
   obtain ⟨h1, ap1, ap2, ap3, ap4⟩ := hap
   obtain ⟨e', h', q1, q2, q3⟩ := AM rd hp hT hA id hid ps (qs ++ [p]) h1 (by rw [hq]; simp) (by rw [ap2]; exact hf) ap3 ap4
   have step : aM (aS AP.A) bH AP.f62L0 (az [(6, .aF id 0 (cat qs).length 1), (25, x), (26, I all.length), (27, I qs.length)] [6, 25, 26, 27]) h = some (.normal, [(6, .aF id 0 (cat (qs ++ [p])).length 1), (25, x), (26, I all.length), (27, I (qs ++ [p]).length)], h1) := by
    generalize hB : (qs ++ [p]).length = B at *
    simp only [I] at *
    simp only [AP.f62L0, go_sem, OU c1, p1, p3, ap1, w2]
   exact ⟨e', h', vp step q1, q2, q3⟩
def zJ (l : List Int) : AV := .aW false (ints l) 0 l.length 1
theorem zZ (h : H) (l : List Int) : Rd h (zJ l) (ints l) := by
 refine ⟨?_, by intro s e; cases e⟩
 simp [aT, zJ, xu]
theorem GK (h : H) (x : AV) (ps : List (AV × List Int)) (rd : Rd h x (ps.map (·.1))) (hp : ∀ p ∈ ps, Rd h p.1 (ints p.2)) (hT : (cat ps).length < 1000000000) (hA : ps.length < 1000000000) (h0 : 0 < (cat ps).length) : aS AP.A 62 [x] h = some (zJ (cat ps), h) := by
 have rd' := rd.mono (xP h)
 have hp' : ∀ p ∈ ps, Rd h.eJ p.1 (ints p.2) := fun p q => (hp p q).mono (xP h)
 have ln := rd.len
 rw [OX] at ln
 obtain ⟨e1, a1, a2, a3⟩ := AL rd' hp' hT hA ps [] rfl
 have a1' : Lp AP.A [0, 3, 9, 10, 11] AP.f62L1 [(0, x), (3, I 0), (9, x), (10, I ps.length), (11, I 0)] h.eJ = some (.exit 0, e1, h.eJ) := a1
 clear a1
 have gc := LV h.eJ (cat ps).length h0 hT
 obtain ⟨h1, hh1⟩ : ∃ g, g = h.eJ.alloc (List.replicate (cat ps).length (I 0)) := ⟨_, rfl⟩
 rw [← hh1] at gc
 obtain ⟨e2, h2, b1, b2, b3⟩ := AM rd' hp' hT hA h.next (wV _) ps [] h1 rfl (by rw [hh1]; simp) (by rw [hh1, H.aX, if_pos (show h.next = h.eJ.next from rfl)]; rfl)
  (fun i c q => by rw [hh1, H.aX, if_neg (by have := h.eJ.lt _ _ q; omega)]; exact q)
 have b1' : Lp AP.A [6, 25, 26, 27] AP.f62L0 [(6, .aF h.next 0 0 1), (25, x), (26, I ps.length), (27, I 0)] h1 = some (.exit 2, e2, h2) := b1
 clear b1
 have hn : h.eJ.next = h.next := rfl
 refine vX (fn := AP.f62) (h2 := h2) (e := [(2, .aF h.next 0 (cat ps).length 1)]) (vs := [.aF h.next 0 (cat ps).length 1]) rfl rfl rfl ?_ rfl ?_
 · simp only [I] at *
   simp only [AP.f62, go_sem, ln, uz, a1', a2, a3, gc, hn, b1', b2]
 · show snap h2.get h.next 16 true (.aF h.next 0 (cat ps).length 1) = _
   unfold snap
   rw [if_neg (by omega), b3, wS, if_pos (by simp)]
   have ht : ((ints (cat ps)).drop 0).take ((cat ps).length * 1) = ints (cat ps) := by
    rw [O0, Pd, xu (by simp)]
   rw [ht, yQ]; rfl
def yD : List Int := List.replicate 144 8 ++ (List.replicate 112 9 ++ (List.replicate 24 7 ++ List.replicate 8 8))
theorem ME (e : Env) (n : Int) : aZ e (.dg 1 1 [.int .i64 0] [(0, .c (.int .i64 n))]) = some ([I n], fun i => .aF i 0 1 1) := rfl
theorem Ak (h : H) (n : Int) : Rd (h.alloc [I n]) (.aF h.next 0 1 1) [I n] := by
 refine ⟨?_, by intro s e; cases e⟩
 simp [aT, H.aX]
theorem Im (h : H) : aS AP.A 42 [] h = some (zJ yD, h) := by
 have r1 := zF (h.eJ.alloc [I 8]) (.aF h.eJ.next 0 1 1) 8 144 (by omega) (Ak _ _)
 have r2 := zF ((h.eJ.alloc [I 8]).alloc [I 9]) (.aF (h.eJ.alloc [I 8]).next 0 1 1) 9 112 (by omega) (Ak _ _)
 have r3 := zF (((h.eJ.alloc [I 8]).alloc [I 9]).alloc [I 7]) (.aF ((h.eJ.alloc [I 8]).alloc [I 9]).next 0 1 1) 7 24 (by omega) (Ak _ _)
 have r4 := zF ((((h.eJ.alloc [I 8]).alloc [I 9]).alloc [I 7]).alloc [I 8]) (.aF (((h.eJ.alloc [I 8]).alloc [I 9]).alloc [I 7]).next 0 1 1) 8 8 (by omega) (Ak _ _)
 obtain ⟨g4, hg4⟩ : ∃ g, g = (((h.eJ.alloc [I 8]).alloc [I 9]).alloc [I 7]).alloc [I 8] := ⟨_, rfl⟩
 obtain ⟨v1, hv1⟩ : ∃ v, v = AV.aW false (ints (List.replicate 144 8)) 0 144 1 := ⟨_, rfl⟩
 obtain ⟨v2, hv2⟩ : ∃ v, v = AV.aW false (ints (List.replicate 112 9)) 0 112 1 := ⟨_, rfl⟩
 obtain ⟨v3, hv3⟩ : ∃ v, v = AV.aW false (ints (List.replicate 24 7)) 0 24 1 := ⟨_, rfl⟩
 obtain ⟨v4, hv4⟩ : ∃ v, v = AV.aW false (ints (List.replicate 8 8)) 0 8 1 := ⟨_, rfl⟩
 have hc : cat [(v1, List.replicate 144 8), (v2, List.replicate 112 9), (v3, List.replicate 24 7), (v4, List.replicate 8 8)] = yD := by
  simp only [cat, yD, List.flatMap_cons, List.flatMap_nil, OZ]
 have hfl : yD.length = 288 := by simp only [yD, xD, Pa]
 have cc := GK (g4.alloc [v1, v2, v3, v4]) (.aF g4.next 0 4 1) [(v1, List.replicate 144 8), (v2, List.replicate 112 9), (v3, List.replicate 24 7), (v4, List.replicate 8 8)]
  ⟨by simp [aT, H.aX], by intro s e; cases e⟩
  (by
    intro p hp
    simp only [xz, List.not_mem_nil, or_false] at hp
    rcases hp with rfl | rfl | rfl | rfl
    · rw [hv1]; exact zZ _ _
    · rw [hv2]; exact zZ _ _
    · rw [hv3]; exact zZ _ _
    · rw [hv4]; exact zZ _ _) (by rw [hc, hfl]; omega) (by simp) (by rw [hc, hfl]; omega)
 rw [hc] at cc
 have bt : ∀ e : Env, look e 2 = v1 → look e 4 = v2 → look e 6 = v3 → look e 8 = v4 → aZ e (.dg 1 4 [.aQ] [(0, .t 2), (1, .t 4), (2, .t 6), (3, .t 8)]) = some ([v1, v2, v3, v4], fun i => .aF i 0 4 1) := by
  intro e q1 q2 q3 q4
  simp only [aZ, O7, List.map_nil, uD, q1, q2, q3, q4]
  rw [hv1, hv2, hv3, hv4]; rfl
 refine vX (fn := AP.f42) (h2 := g4.alloc [v1, v2, v3, v4]) (e := [(0, zJ yD)]) rfl rfl rfl ?_ rfl ?_
 · rw [← hv1] at r1; rw [← hv2] at r2; rw [← hv3] at r3; rw [← hv4] at r4
   rw [← hg4] at r4
   have r1' : aS AP.A 43 [.aF h.eJ.next 0 1 1, I 144] (h.eJ.alloc [I 8]) = some (v1, h.eJ.alloc [I 8]) := r1
   have r2' : aS AP.A 43 [.aF (h.eJ.alloc [I 8]).next 0 1 1, I 112] ((h.eJ.alloc [I 8]).alloc [I 9]) = some (v2, (h.eJ.alloc [I 8]).alloc [I 9]) := r2
   have r3' : aS AP.A 43 [.aF ((h.eJ.alloc [I 8]).alloc [I 9]).next 0 1 1, I 24] (((h.eJ.alloc [I 8]).alloc [I 9]).alloc [I 7]) = some (v3, ((h.eJ.alloc [I 8]).alloc [I 9]).alloc [I 7]) := r3
   have r4' : aS AP.A 43 [.aF (((h.eJ.alloc [I 8]).alloc [I 9]).alloc [I 7]).next 0 1 1, I 8] g4 = some (v4, g4) := r4
   clear r1 r2 r3 r4 hv1 hv2 hv3 hv4 hc
   simp only [I] at *
   simp only [AP.f42, go_sem, ME, I, r1', r2', r3', ← hg4, r4']
   rw [bt _ rfl rfl rfl rfl]
   simp only [nV, uP, go_sem, cc]
 · simp only [dO]; unfold snap zJ; rfl
def yI : List Int := [16, 17, 18, 0, 8, 7, 9, 6, 10, 5, 11, 4, 12, 3, 13, 2, 14, 1, 15]
theorem IB (h : H) : aS AP.A 79 [] h = some (zJ yI, h) := by
 have b : aZ [] (.dg 1 19 [.int .i64 0] [(0, (.c (.int .i64 16))), (1, (.c (.int .i64 17))), (2, (.c (.int .i64 18))), (3, (.c (.int .i64 0))), (4, (.c (.int .i64 8))), (5, (.c (.int .i64 7))), (6, (.c (.int .i64 9))), (7, (.c (.int .i64 6))), (8, (.c (.int .i64 10))), (9, (.c (.int .i64 5))), (10, (.c (.int .i64 11))), (11, (.c (.int .i64 4))), (12, (.c (.int .i64 12))), (13, (.c (.int .i64 3))), (14, (.c (.int .i64 13))), (15, (.c (.int .i64 2))), (16, (.c (.int .i64 14))), (17, (.c (.int .i64 1))), (18, (.c (.int .i64 15)))]) = some (ints yI, fun i => .aF i 0 19 1) := rfl
 refine vX (fn := AP.f79) (h2 := h.eJ.alloc (ints yI)) (e := [(0, .aF h.next 0 19 1)]) (vs := [.aF h.next 0 19 1]) rfl rfl rfl ?_ rfl ?_
 · have hn : h.eJ.next = h.next := rfl
   simp only [AP.f79, go_sem, b, hn]
 · show snap (h.eJ.alloc (ints yI)).get h.next 16 true (.aF h.next 0 19 1) = _
   unfold snap
   rw [if_neg (by omega), H.aX, if_pos (show h.next = h.eJ.next from rfl), wS, if_pos (by decide)]
   rw [show ((ints yI).drop 0).take (19 * 1) = ints yI from rfl, yQ]; rfl
def G8 (c : ah) (d : Option Nat) (r : List ak) (e : Env) (p : Option (AV × H)) : Option (Env × H × List H) := p.bind fun q => aO c r (aN d q.1 e) q.2
theorem Df (c : ah) (d : Option Nat) (r : List ak) (e : Env) (v : AV) (h : H) : G8 c d r e (some (v, h)) = aO c r (aN d v e) h := wP rfl rfl
def Gm (aP : Bool) (h : H) (p : Option (Env × H × List H)) : Option (Env × H × List H) := p.bind fun q => some (q.1, q.2.1, if aP then h :: q.2.2 else q.2.2)
theorem Dq (h : H) (e : Env) (h' : H) (gs : List H) : Gm true h (some (e, h', gs)) = some (e, h', h :: gs) := wP rfl rfl
theorem Dp (h : H) (e : Env) (h' : H) (gs : List H) : Gm false h (some (e, h', gs)) = some (e, h', gs) := wP rfl rfl
theorem AZ (c : ah) (e : Env) (h : H) : aO c [] e h = some (e, h, [h]) := wP rfl rfl
theorem CU (c : ah) (o : ak) (r : List ak) (e : Env) (h : H) : aO c (o :: r) e h = Gm o.op.aP h (G8 c o.dst r e (aj c o e h)) := by
 rw [aO]
 unfold Gm G8
 cases hv : aj c o e h with
 | none => rfl
 | some q =>
   obtain ⟨v, h'⟩ := q
   simp only [wS]
theorem Dm (c : ah) (d : Option Nat) (op : ch) (r : List ak) (e : Env) (h : H) : aO c (⟨d, op, none⟩ :: r) e h = Gm op.aP h (G8 c d r e (ai c e h op)) := CU _ _ _ _ _
theorem Ho (c : ah) (d : Option Nat) (op : ch) (g : Nat) (w : Bool) (r : List ak) (e : Env) (h : H) : aO c (⟨d, op, some (g, w)⟩ :: r) e h = Gm op.aP h (G8 c d r e (mS w c e h op (look e g))) := CU _ _ _ _ _
theorem Gu {c : ah} {l : bQ} {e e' : Env} {h h' : H} {gs : List H} (ord : List Nat) (ops : List ak) (fl : List (Nat × List Nat)) (yV : List Nat) (h1 : aO c ops e h = some (e', h', gs)) (h2 : bc c ops e' gs fl = true) : aM c l (.jD ord ops fl yV) e h = some (.normal, az e' yV, h') := by
 rw [aM, h1, wS]
 dsimp only
 rw [if_pos h2]
theorem Bf {c : ah} {ops : List ak} {e : Env} {gs : List H} {i : Nat} {ks : List Nat} {r : List (Nat × List Nat)} (h1 : ∀ k ∈ ks, bO c ops e gs i k = true) (h2 : bc c ops e gs r = true) : bc c ops e gs ((i, ks) :: r) = true := by
 simp only [bc, wW, List.all_eq_true]
 exact ⟨h1, h2⟩
theorem Bc {c : ah} {ops : List ak} {e : Env} {gs : List H} {i k : Nat} {o : ak} {g h' : H} {d : Nat} {u : AV} (ho : ops[i]? = some o) (hg : gs[k]? = some g) (hb : o.op.aJ = false) (hd : o.dst = some d) (hv : aj c o e g = some (u, h')) (hu : AV.beq u (look e d) = true) : bO c ops e gs i k = true := by
 unfold bO
 rw [ho, hg]
 dsimp only
 rw [hb]
 simp only [wT, xE, hd, OW, hv]
 exact hu
theorem C8 (k : IntKind) (n : Int) : AV.beq (.int k n) (.int k n) = true := by simp [AV.beq]
theorem BI (i o l z : Nat) : AV.beq (.aF i o l z) (.aF i o l z) = true := by simp [AV.beq]
theorem DI (i o : Nat) : AV.beq (.aE i o) (.aE i o) = true := by simp [AV.beq]
theorem Bs (s : ByteArray) : AV.beq (.str s) (.str s) = true := by
 have : (s == s) = true := by
  obtain ⟨d⟩ := s
  show (d == d) = true
  exact beq_self_eq_true d
 simp [AV.beq, this]
theorem oZ.apps {h : H} {v : AV} {cs : List AV} (o : oZ h v cs) (hfn : h.floor ≤ h.next) {z : Nat} (bs : List AV) (hc : AV.aD bs = true) (hb : 0 < bs.length) (hr : roomy z (cs.length + bs.length) = true) :
 ∃ v' h', ey h 1 z v bs.length bs = some (v', h') ∧ oZ h' v' (cs ++ bs) ∧ h'.floor = h.floor ∧ h.next ≤ h'.next ∧ (∀ i, v.id? ≠ some i → i ≠ h.next → h'.get i = h.get i) ∧ v'.id? = some h.next := by
 have hne : bs ≠ [] := by intro e; rw [e] at hb; simp at hb
 rcases o with ⟨rfl, rfl⟩ | ⟨id, rfl, hg, hf, hne'⟩
 · refine ⟨.aF h.next 0 bs.length 1, h.alloc bs, ?_, .inr ⟨h.next, by simp, by simp [H.aX], ?_, by simpa using hne⟩, by simp, by simp, fun i _ hi => by rw [H.aX, if_neg hi], rfl⟩
   · unfold ey
     rw [if_neg (by omega), if_neg (by simp [hc])]
     simp only [OT, w8] at hr
     simp only [hr, if_true]
   · simp; omega
 · refine ⟨.aF h.next 0 (cs.length + bs.length) 1, (h.del id).alloc (cs ++ bs), ?_, .inr ⟨h.next, by simp, by simp [H.aX], ?_, by simp [hne]⟩, by simp, by simp, fun i h1 h2 => ?_, rfl⟩
   · unfold ey
     rw [if_neg (by omega), if_neg (by simp [hc])]
     simp only [hf, and_self, if_true, hg, wS]
     rw [if_neg (by omega), if_pos ⟨by omega, hr⟩]
     simp
   · have := h.lt id cs hg; simp; omega
   · rw [H.aX, H.j9, if_neg h2, H.eO, if_neg]
     intro e; subst e; exact h1 rfl
theorem St.yV {c : SC} {S : SS} {h h' : H} {ov : AV} (st : St c S h ov) (hf : h'.floor = h.floor) (hn : h.next ≤ h'.next) (hg : ∀ i, i = c.s ∨ i = c.r ∨ ov.id? = some i → h'.get i = h.get i) : St c S h' ov := by
 refine ⟨by rw [hg _ (.inl rfl)]; exact st.gs, by rw [hg _ (.inr (.inl rfl))]; exact st.gr, st.own.mono hf fun i hi => hg i (.inr (.inr hi)), st.sr, by rw [hf]; exact st.fs, by rw [hf]; exact st.fr, st.os, st.or, by rw [hf]; exact xA st.nx hn, st.sz, st.zu, st.ol, st.ml⟩
theorem St.lt {c : SC} {S : SS} {h : H} {ov : AV} (st : St c S h ov) {i : Nat} (hi : i = c.s ∨ i = c.r ∨ ov.id? = some i) : i < h.next := by
 rcases hi with rfl | rfl | hi
 · exact h.lt _ _ st.gs
 · exact h.lt _ _ st.gr
 · exact st.own.lt hi
theorem St.alloc {c : SC} {S : SS} {h : H} {ov : AV} (st : St c S h ov) (cs : List AV) : St c S (h.alloc cs) ov ∧ Fr c h ov (h.alloc cs) ov := by
 refine ⟨st.yV (by simp) (by simp) fun i hi => ?_, ⟨by simp, by simp, fun id h1 _ _ _ => ?_, fun _ q => .inl q⟩⟩
 · have := st.lt hi; rw [H.aX, if_neg (by omega)]
 · rw [H.aX, if_neg (by omega)]
def xY (c : SC) (y : Int) (acc : List Int) (S : SS) : (Int × Nat) × SS :=
 if y = 16 then (if acc = [] then ((0, 0), xO 700 S) else ((acc.getD (acc.length - 1) 0, 3 + (xI c 2 S).1), (xI c 2 S).2))
 else if y = 17 then ((0, 3 + (xI c 3 S).1), (xI c 3 S).2)
 else if y = 18 then ((0, 11 + (xI c 7 S).1), (xI c 7 S).2)
 else ((y, 1), S)
theorem Ah (c : SC) (S : SS) (n : Nat) (hn : n ≤ 16) : (xI c n S).1 < 65536 := by
 unfold xI; split
 · have := yy c.text S.at_ n
   have := O4 (show 0 < 2 by omega) hn
   simp at *; omega
 · simp
theorem CH {l : List Int} {i : Nat} (h : i < l.length) : (ints l)[i]? = some (I (l.getD i 0)) := uW (by simp [List.getD, h])
theorem HT {c : SC} {S : SS} {h : H} {ov : AV} (st : St c S h ov) (y : Int) {av : AV} {acc : List Int} (oa : oZ h av (ints acc)) (ha : acc.length < 100000) (hne : ∀ i, av.id? = some i → i ≠ c.s ∧ i ≠ c.r ∧ ov.id? ≠ some i) :
 ∃ h', aS AP.A 80 [.aE c.s 0, I y, av] h = some (.bV [I (xY c y acc S).1.1, I (xY c y acc S).1.2], h') ∧ St c (xY c y acc S).2 h' ov ∧ Fr c h ov h' ov := by
 have ln := oa.len
 rw [qZ] at ln
 by_cases h16 : y = 16
 · have d16 := wg h16
   by_cases hnil : acc = []
   · obtain ⟨h', k1, k2, k3⟩ := yF st 700
     have e : xY c y acc S = ((0, 0), xO 700 S) := by rw [xY, if_pos h16, if_pos hnil]
     rw [e]
     refine ⟨h', ?_, k2, k3⟩
     have hz : ((acc.length : Int) == 0) = true := by rw [hnil]; rfl
     refine vG (fn := AP.f80) (e := [(6, I 0), (7, I 0)]) rfl rfl rfl ?_ rfl
     simp only [I] at *
     simp only [AP.f80, go_sem, d16, ln, hz, k1]
   · obtain ⟨h', k1, k2, k3⟩ := zD st 2 2 rfl (by omega)
     have e : xY c y acc S = ((acc.getD (acc.length - 1) 0, 3 + (xI c 2 S).1), (xI c 2 S).2) := by rw [xY, if_pos h16, if_neg hnil]
     rw [e]
     have hpos : 0 < acc.length := List.length_pos_iff.2 hnil
     have hz : ((acc.length : Int) == 0) = false := we (by omega)
     have hg := Ah c S 2 (by omega)
     have w1 : IntKind.wrap .i64 (3 + ((xI c 2 S).1 : Int)) = ((3 + (xI c 2 S).1 : Nat) : Int) := by
      rw [show (3 : Int) + ((xI c 2 S).1 : Int) = ((3 + (xI c 2 S).1 : Nat) : Int) by omega]; exact xH (by omega)
     have w2 : IntKind.wrap .i64 ((acc.length : Int) - 1) = ((acc.length - 1 : Nat) : Int) := by
      rw [show (acc.length : Int) - 1 = ((acc.length - 1 : Nat) : Int) by omega]; exact xH (by omega)
     have hel := CH (l := acc) (i := acc.length - 1) (by omega)
     obtain ⟨id, i1, i2, i3⟩ := oa.elem hel
     have hid := hne id (by rw [i1]; rfl)
     have i4 : h'.get id = some (ints acc) := by rw [k3.EC id (h.lt _ _ i3) hid.1 hid.2.1 hid.2.2]; exact i3
     refine ⟨h', ?_, k2, k3⟩
     refine vG (fn := AP.f80) (e := [(6, I (acc.getD (acc.length - 1) 0)), (7, I (3 + (xI c 2 S).1 : Nat))]) rfl rfl rfl ?_ rfl
     generalize (xI c 2 S).1 = G at *
     clear i1
     simp only [I] at *
     simp only [AP.f80, go_sem, d16, ln, hz]
     rw [Gu (e' := [(7, .int .i64 ((3 + G : Nat) : Int)), (6, .int .i64 (acc.getD (acc.length - 1) 0)), (24, .int .i64 ((3 + G : Nat) : Int)), (23, .int .i64 G), (22, .aE c.s 0), (21, .int .i64 (acc.getD (acc.length - 1) 0)), (20, .aE id (acc.length - 1)), (19, .int .i64 (acc.length - 1 : Nat)), (18, .int .i64 acc.length), (17, av), (16, av), (0, .aE c.s 0), (2, av)]) (h' := h') (gs := [h, h'])]
     · simp only [go_sem]
     · simp only [AZ, Dm, Df, Dq, Dp, ch.aP, go_sem, ln, w2, i2, i3, hel, k1, w1]
     · refine Bf (fun k hk => ?_) rfl
       obtain rfl : k = 1 := by simpa using hk
       refine Bc (o := ⟨some 21, .load false 1 (.t 20), none⟩) (g := h') (h' := h') (d := 21) (u := .int .i64 (acc.getD (acc.length - 1) 0)) rfl rfl rfl rfl ?_ ?_
       · simp only [aj, go_sem, i4, hel]
       · simp only [go_sem, C8]
 · have d16 := we h16
   by_cases h17 : y = 17
   · have d17 := wg h17
     obtain ⟨h', k1, k2, k3⟩ := zD st 3 3 rfl (by omega)
     have e : xY c y acc S = ((0, 3 + (xI c 3 S).1), (xI c 3 S).2) := by rw [xY, if_neg h16, if_pos h17]
     rw [e]
     have hg := Ah c S 3 (by omega)
     have w1 : IntKind.wrap .i64 (3 + ((xI c 3 S).1 : Int)) = ((3 + (xI c 3 S).1 : Nat) : Int) := by
      rw [show (3 : Int) + ((xI c 3 S).1 : Int) = ((3 + (xI c 3 S).1 : Nat) : Int) by omega]; exact xH (by omega)
     refine ⟨h', ?_, k2, k3⟩
     refine vG (fn := AP.f80) (e := [(6, I 0), (7, I (3 + (xI c 3 S).1 : Nat))]) rfl rfl rfl ?_ rfl
     simp only [I] at *
     simp only [AP.f80, go_sem, d16, d17, k1, w1]
   · have d17 := we h17
     by_cases h18 : y = 18
     · have d18 := wg h18
       obtain ⟨h', k1, k2, k3⟩ := zD st 7 7 rfl (by omega)
       have e : xY c y acc S = ((0, 11 + (xI c 7 S).1), (xI c 7 S).2) := by rw [xY, if_neg h16, if_neg h17, if_pos h18]
       rw [e]
       have hg := Ah c S 7 (by omega)
       have w1 : IntKind.wrap .i64 (11 + ((xI c 7 S).1 : Int)) = ((11 + (xI c 7 S).1 : Nat) : Int) := by
        rw [show (11 : Int) + ((xI c 7 S).1 : Int) = ((11 + (xI c 7 S).1 : Nat) : Int) by omega]; exact xH (by omega)
       refine ⟨h', ?_, k2, k3⟩
       refine vG (fn := AP.f80) (e := [(6, I 0), (7, I (11 + (xI c 7 S).1 : Nat))]) rfl rfl rfl ?_ rfl
       simp only [I] at *
       simp only [AP.f80, go_sem, d16, d17, d18, k1, w1]
     · have d18 := we h18
       have e : xY c y acc S = ((y, 1), S) := by rw [xY, if_neg h16, if_neg h17, if_neg h18]
       rw [e]
       refine ⟨h, ?_, st, Fr.refl _ _ _⟩
       refine vG (fn := AP.f80) (e := [(6, I y), (7, I 1)]) rfl rfl rfl ?_ rfl
       simp only [I] at *
       simp only [AP.f80, go_sem, d16, d17, d18]
def EU (t : ByteArray) : List Int → Nat → List Int → List Int
 | [], _, o => o
 | s :: r, p, o => EU t r (p + 3) (o.set s.toNat (xK t p 3))
def Au (t : ByteArray) (y : Int) (acc : List Int) (p : Nat) : Option (Int × Nat × Nat) :=
 if y = 16 then (if acc = [] then none else if p + 2 ≤ 8 * t.size then some (acc.getD (acc.length - 1) 0, 3 + xK t p 2, p + 2) else none)
 else if y = 17 then (if p + 3 ≤ 8 * t.size then some (0, 3 + xK t p 3, p + 3) else none)
 else if y = 18 then (if p + 7 ≤ 8 * t.size then some (0, 11 + xK t p 7, p + 7) else none)
 else some (y, 1, p)
def yx (t : ByteArray) (cl : List Int) (many : Nat) : Nat → List Int → Nat → Option (List Int × Nat)
 | 0, _, _ => none
 | f + 1, acc, p => if acc.length < many then
     match Aq t cl 15 1 0 p with
     | none => none
     | some (y, p1) => match Au t y acc p1 with
       | none => none
       | some (n, times, p2) => yx t cl many f (acc ++ List.replicate times n) p2
   else if many < acc.length then none else some (acc, p)
def zO (t : ByteArray) (many : Nat) (p : Nat) : Option (List Int × Nat) :=
 if p + 4 ≤ 8 * t.size then
  let k := xK t p 4 + 4
  if p + 4 + 3 * k ≤ 8 * t.size then
   let cl := EU t (yI.take k) (p + 4) (List.replicate 19 0)
   if xX cl = 0 then yx t cl many (8 * t.size + 1) [] (p + 4 + 3 * k) else none
  else none
 else none
theorem EF {h : H} {t : Bool} {N k : Nat} {cs : List AV} (hN : cs.length = N) (hk : k ≤ N) : ur h 1 (.aW t cs 0 N 1) none (some (I k)) none = some (.aW t cs 0 k 1) := by
 simp [ur, hN, aC, El hk]
theorem Gl : ∀ s ∈ yI, 0 ≤ s ∧ s < 19 := by decide
def zY (c : SC) : List Int → List Int → SS → List Int × SS
 | [], o, S => (o, S)
 | s :: r, o, S => zY c r (o.set s.toNat ((xI c 3 S).1 : Nat)) (xI c 3 S).2
theorem Eg (c : SC) : ∀ (r o : List Int) (S : SS), (zY c r o S).1.length = o.length
 | [], o, S => rfl
 | s :: r, o, S => by rw [zY, Eg c r]; simp
theorem Fl (c : SC) : ∀ (r o : List Int) (S : SS), (∀ y ∈ o, 0 ≤ y ∧ y < 16) → ∀ y ∈ (zY c r o S).1, 0 ≤ y ∧ y < 16
 | [], o, S, h => h
 | s :: r, o, S, h => by
   rw [zY]
   refine Fl c r _ _ fun y hy => ?_
   rcases List.mem_or_eq_of_mem_set hy with q | q
   · exact h y q
   · subst q
     have : (xI c 3 S).1 < 8 := by
      unfold xI; split
      · simpa using yy c.text S.at_ 3
      · simp
     omega
theorem Fo (c : SC) : ∀ (r o : List Int) (S : SS), S.e = 0 → S.at_ + 3 * r.length ≤ 8 * c.text.size → zY c r o S = (EU c.text r S.at_ o, { S with at_ := S.at_ + 3 * r.length })
 | [], o, S, he, h => rfl
 | s :: r, o, S, he, h => by
   rw [OS] at h
   have eg : xI c 3 S = (xK c.text S.at_ 3, { S with at_ := S.at_ + 3 }) := by rw [xI, if_pos (by omega)]
   rw [zY, eg]
   dsimp only
   rw [Fo c r _ { S with at_ := S.at_ + 3 } he (by dsimp only; omega)]
   simp only [EU, OS]
   rw [show S.at_ + 3 + 3 * r.length = S.at_ + 3 * (r.length + 1) by omega]
theorem G4 (c : SC) (n : Nat) (S : SS) (h : S.e = 0 ∨ S.e = 700) : (xI c n S).2.e = 0 ∨ (xI c n S).2.e = 700 := by
 unfold xI; split
 · exact h
 · rcases h with h | h <;> simp [xO, h]
theorem Ir (c : SC) (n : Nat) (S : SS) (h : S.e = 700) : (xI c n S).2.e = 700 := by
 unfold xI; split
 · exact h
 · simp [xO, h]
theorem Dn (c : SC) : ∀ (r o : List Int) (S : SS), S.e = 700 → (zY c r o S).2.e = 700
 | [], o, S, h => h
 | s :: r, o, S, h => by rw [zY]; exact Dn c r _ _ (Ir c 3 S h)
theorem Ef (c : SC) : ∀ (r o : List Int) (S : SS), S.e = 0 → S.at_ ≤ 8 * c.text.size → 8 * c.text.size < S.at_ + 3 * r.length → (zY c r o S).2.e = 700
 | [], o, S, he, hle, h => by simp at h; omega
 | s :: r, o, S, he, hle, h => by
   rw [zY]
   rw [OS] at h
   by_cases hp : S.at_ + 3 ≤ 8 * c.text.size
   · have eg : xI c 3 S = (xK c.text S.at_ 3, { S with at_ := S.at_ + 3 }) := by rw [xI, if_pos hp]
     rw [eg]
     exact Ef c r _ _ he hp (by dsimp only; omega)
   · have eg : xI c 3 S = (0, { S with e := 700 }) := by rw [xI, if_neg hp, xO, if_pos he]
     rw [eg]
     exact Dn c r _ _ rfl
theorem Eh {c : SC} (a : Nat) (x : AV) (xs : List Int) (hxs : ∀ s ∈ xs, 0 ≤ s ∧ s < 19) (hxl : xs.length ≤ 19) (hac : a ≠ c.s ∧ a ≠ c.r) (m : AV) : ∀ (q p o : List Int) (S : SS) (h : H) (ov : AV), xs = p ++ q → Rd h x (ints xs) → (∀ i, x.id? ≠ some i) → St c S h ov → ov.id? ≠ some a → h.get a = some (ints o) → o.length = 19 → h.floor ≤ a →
 ∃ e' h', Lp AP.A [0, 1, 5, 18, 19, 20] AP.f64L1 [(0, .aE c.s 0), (1, m), (5, .aE a 0), (18, x), (19, I xs.length), (20, I p.length)] h = some (.exit 0, e', h') ∧ look e' 0 = .aE c.s 0 ∧ look e' 1 = m ∧ look e' 5 = .aE a 0 ∧
   St c (zY c q o S).2 h' ov ∧ h'.get a = some (ints (zY c q o S).1) ∧ h'.floor = h.floor ∧ h.next ≤ h'.next ∧ ∀ i, i < h.next → i ≠ c.s → i ≠ c.r → ov.id? ≠ some i → i ≠ a → h'.get i = h.get i
 | [], p, o, S, h, ov, hp, rd, hx, st, hoa, hg, ho, hf => by
   rw [OZ] at hp; subst hp
   refine ⟨[(0, .aE c.s 0), (1, m), (5, .aE a 0), (18, x), (19, I xs.length), (20, I xs.length), (21, .bool false)], h, vo ?_, rfl, rfl, rfl, st, hg, rfl, wV _, fun _ _ _ _ _ _ => rfl⟩
   have c1 : ¬ (xs.length : Int) < (xs.length : Int) := by omega
   simp only [I] at *
   simp only [AP.f64L1, go_sem, OQ c1]
 | s :: q, p, o, S, h, ov, hp, rd, hx, st, hoa, hg, ho, hf => by
   have hlen : xs.length = p.length + (q.length + 1) := by rw [hp]; simp
   have c1 : (p.length : Int) < (xs.length : Int) := by omega
   have hs := hxs s (by rw [hp]; simp)
   obtain ⟨sn, hsn⟩ : ∃ n : Nat, s = n := Pb hs.1
   subst hsn
   have hv : (ints xs)[p.length]? = some (I sn) := uW (by rw [hp]; simp)
   obtain ⟨ad, p1, p2⟩ := rd.elem hv
   have p3 := p2 h (fun _ _ q => q)
   obtain ⟨h1, k1, k2, k3⟩ := zD st 3 3 rfl (by omega)
   have hal : a < h.next := h.lt _ _ hg
   have hg1 : h1.get a = some (ints o) := by rw [k3.EC a hal hac.1 hac.2 hoa]; exact hg
   have a1 : dx (I sn) 19 = some sn := lW (by omega)
   have hset : (ints o).set sn (I ((xI c 3 S).1 : Nat)) = ints (o.set sn ((xI c 3 S).1 : Nat)) := by simp [ints, List.map_set]
   have hst : vZ h1 a sn 1 [I ((xI c 3 S).1 : Nat)] (some (ints o)) = some (h1.set a (ints (o.set sn ((xI c 3 S).1 : Nat)))) := by
    rw [wD (by rw [k3.fl]; exact hf) (by rw [qZ]; omega) rfl, hset]
   have w2 : IntKind.wrap .i64 ((p.length : Int) + 1) = (((p ++ [(sn : Int)]).length : Nat) : Int) := by
    rw [xD]; exact xH (n := p.length + 1) (by omega)
   have step : aM (aS AP.A) bH AP.f64L1 (az [(0, .aE c.s 0), (1, m), (5, .aE a 0), (18, x), (19, I xs.length), (20, I p.length)] [0, 1, 5, 18, 19, 20]) h = some (.normal, [(0, .aE c.s 0), (1, m), (5, .aE a 0), (18, x), (19, I xs.length), (20, I (p ++ [(sn : Int)]).length)], h1.set a (ints (o.set sn ((xI c 3 S).1 : Nat)))) := by
    generalize ints (o.set sn ((xI c 3 S).1 : Nat)) = W at *
    generalize (p ++ [(sn : Int)]).length = B at *
    generalize (xI c 3 S).1 = G at *
    generalize ints o = OO at *
    simp only [I] at *
    simp only [AP.f64L1, go_sem, OU c1, p1, p3, k1, a1, hg1, hst, w2]
   have st2 : St c (xI c 3 S).2 (h1.set a (ints (o.set sn ((xI c 3 S).1 : Nat)))) ov := k2.yV (by simp) (by simp) fun i hi => by
    rw [H.dU, if_neg]
    rintro rfl
    rcases hi with hi | hi | hi
    · exact hac.1 hi
    · exact hac.2 hi
    · exact hoa hi
   have rd2 : Rd (h1.set a (ints (o.set sn ((xI c 3 S).1 : Nat)))) x (ints xs) := by
    refine ⟨?_, rd.2⟩
    have := rd.1
    unfold aT at this ⊢
    split at this
    · exact this
    · exact this
    · exact absurd rfl (hx _)
    · exact this
    · cases this
   obtain ⟨e', h', q1, q2, q3, q4, q5, q6, q7, q8, q9⟩ := Eh a x xs hxs hxl hac m q (p ++ [(sn : Int)]) (o.set sn ((xI c 3 S).1 : Nat)) _ _ ov (by rw [hp]; simp) rd2 hx st2 hoa (by rw [H.dU, if_pos rfl, hg1]; rfl) (by simpa using ho) (by simp [k3.fl]; exact hf)
   refine ⟨e', h', vp step q1, q2, q3, q4, ?_, ?_, by rw [q7]; simp [k3.fl], by have := k3.nx; simp at q8; omega, fun i i1 i2 i3 i4 i5 => ?_⟩
   · rw [zY]; exact q5
   · rw [zY]; exact q6
   · rw [q9 i (by have := k3.nx; simp; omega) i2 i3 i4 i5, H.dU, if_neg i5, k3.EC i i1 i2 i3 i4]
theorem yZ {c : SC} {S : SS} {h : H} {ov : AV} (st : St c S h ov) (b : AV) (many : Nat) {av : AV} {acc : List Int} (oa : oZ h av (ints acc)) (hs : many ≤ acc.length ∨ (acc.length < many ∧ S.e ≠ 0)) :
 ∃ e', Lp AP.A [0, 1, 9, 10] AP.f64L0 [(0, .aE c.s 0), (1, I many), (9, b), (10, av)] h = some (.exit 2, e', h) ∧ look e' 0 = .aE c.s 0 ∧ look e' 1 = I many ∧ look e' 10 = av := by
 have gs := st.gs
 have ln := oa.len
 rw [qZ] at ln
 refine ⟨[(0, .aE c.s 0), (1, I many), (9, b), (10, av), (46, .bool false)], vo ?_, rfl, rfl, rfl⟩
 rcases hs with hs | ⟨hs, he⟩
 · have c1 : ¬ (acc.length : Int) < many := by omega
   simp only [I] at *
   simp only [AP.f64L0, go_sem, ln, OQ c1]
 · have c1 : (acc.length : Int) < many := by omega
   have c2 := we he
   simp only [I] at *
   simp only [AP.f64L0, go_sem, ln, OU c1, gs, c2]
theorem FK {c : SC} {S : SS} {y : Int} {acc : List Int} (he : S.e = 0) :
 match Au c.text y acc S.at_ with
 | some (n, times, p) => xY c y acc S = ((n, times), { S with at_ := p }) ∧ S.at_ ≤ p
 | none => (xY c y acc S).2.e = 700 := by
 unfold Au xY
 by_cases h16 : y = 16
 · rw [if_pos h16, if_pos h16]
   by_cases hn : acc = []
   · rw [if_pos hn, if_pos hn]; simp [xO, he]
   · rw [if_neg hn, if_neg hn]
     by_cases hp : S.at_ + 2 ≤ 8 * c.text.size
     · simp [xI, hp]
     · simp [xI, hp, xO, he]
 · rw [if_neg h16, if_neg h16]
   by_cases h17 : y = 17
   · rw [if_pos h17, if_pos h17]
     by_cases hp : S.at_ + 3 ≤ 8 * c.text.size
     · simp [xI, hp]
     · simp [xI, hp, xO, he]
   · rw [if_neg h17, if_neg h17]
     by_cases h18 : y = 18
     · rw [if_pos h18, if_pos h18]
       by_cases hp : S.at_ + 7 ≤ 8 * c.text.size
       · simp [xI, hp]
       · simp [xI, hp, xO, he]
     · rw [if_neg h18, if_neg h18]
       exact ⟨rfl, wV _⟩
theorem C6 (c : SC) (y : Int) (acc : List Int) (S : SS) : (xY c y acc S).1.2 < 70000 := by
 unfold xY
 have h2 := Ah c S 2 (by omega)
 have h3 := Ah c S 3 (by omega)
 have h7 := Ah c S 7 (by omega)
 repeat' split
 all_goals (dsimp only; omega)
theorem CM {c : SC} (h0 : H) (cl : List Int) (hcl : cl.length < 100000) (many : Nat) (hm : many ≤ 400) : ∀ (f : Nat) (acc : List Int) (S : SS) (h : H) (ov av : AV), St c S h ov → S.e = 0 → 8 * c.text.size < S.at_ + f → Fr c h0 ov h ov → oZ h av (ints acc) → acc.length < 80000 → (∀ i, av.id? = some i → h0.next ≤ i) → (∀ i, (i = c.s ∨ i = c.r ∨ ov.id? = some i) → i < h0.next) →
 ∃ e' h' S' av' acc', Lp AP.A [0, 1, 9, 10] AP.f64L0 [(0, .aE c.s 0), (1, I many), (9, xM cl), (10, av)] h = some (.exit 2, e', h') ∧ look e' 0 = .aE c.s 0 ∧ look e' 1 = I many ∧ look e' 10 = av' ∧ St c S' h' ov ∧ Fr c h0 ov h' ov ∧ oZ h' av' (ints acc') ∧ acc'.length < 200000 ∧ (∀ i, av'.id? = some i → h0.next ≤ i) ∧
   match yx c.text cl many f acc S.at_ with
   | some (L, p) => S' = { S with at_ := p } ∧ acc' = L ∧ L.length = many
   | none => S'.e = 700 ∨ (S'.e = 0 ∧ many < acc'.length)
 | 0, acc, S, h, ov, av, st, he, hk, fr, oa, hal, hid, hlo => by have := st.zu; omega
 | f + 1, acc, S, h, ov, av, st, he, hk, fr, oa, hal, hid, hlo => by
   by_cases hlt : acc.length < many
   · rw [yx, if_pos hlt]
     have gs := st.gs
     have ln := oa.len
     rw [qZ] at ln
     have c1 : (acc.length : Int) < many := by omega
     obtain ⟨h1, S1, y, s1, s2, s3, s4⟩ := Cs cl hcl st he
     have hneq : ∀ i, av.id? = some i → i ≠ c.s ∧ i ≠ c.r ∧ ov.id? ≠ some i := fun i hi => by
      have := hid i hi
      refine ⟨fun e => ?_, fun e => ?_, fun e => ?_⟩
      · have := hlo i (.inl e); omega
      · have := hlo i (.inr (.inl e)); omega
      · have := hlo i (.inr (.inr e)); omega
     have oa1 : oZ h1 av (ints acc) := oa.mono s3.fl fun i hi => s3.EC i (oa.lt hi) (hneq i hi).1 (hneq i hi).2.1 (hneq i hi).2.2
     obtain ⟨h2, r1, r2, r3⟩ := HT s2 y oa1 (by omega) hneq
     have oa2 : oZ h2 av (ints acc) := oa1.mono r3.fl fun i hi => r3.EC i (oa1.lt hi) (hneq i hi).1 (hneq i hi).2.1 (hneq i hi).2.2
     obtain ⟨n, hn⟩ : ∃ n, n = (xY c y acc S1).1.1 := ⟨_, rfl⟩
     obtain ⟨times, htm⟩ : ∃ n, n = (xY c y acc S1).1.2 := ⟨_, rfl⟩
     obtain ⟨S2, hS2⟩ : ∃ n, n = (xY c y acc S1).2 := ⟨_, rfl⟩
     have htb := C6 c y acc S1
     rw [← hn, ← htm] at r1; rw [← hS2] at r2; rw [← htm] at htb
     have al := r2.alloc [I n]
     have rp := zF (h2.alloc [I n]) (.aF h2.next 0 1 1) n times (by omega) (Ak _ _)
     have oa3 : oZ (h2.alloc [I n]) av (ints acc) := oa2.mono (by simp) fun i hi => by
      have := oa2.lt hi; rw [H.aX, if_neg (by omega)]
     have hfr3 := ((fr.trans s3).trans r3).trans al.2
     have hap : ∃ v' h3, mC (h2.alloc [I n]) 1 8 av (.aW false (ints (List.replicate times n)) 0 times 1) = some (v', h3) ∧ oZ h3 v' (ints (acc ++ List.replicate times n)) ∧ St c S2 h3 ov ∧ Fr c h0 ov h3 ov ∧ ∀ i, v'.id? = some i → h0.next ≤ i := by
      have src : aT (h2.alloc [I n]) 1 (.aW false (ints (List.replicate times n)) 0 times 1) = some (times, ints (List.replicate times n)) := by
       simp [aT, xu]
      by_cases ht0 : times = 0
      · subst ht0
        refine ⟨av, h2.alloc [I n], ?_, by simpa using oa3, al.1, hfr3, hid⟩
        unfold mC
        rw [src, wS]
        unfold ey
        rw [if_pos rfl]
        rcases oa3 with ⟨rfl, _⟩ | ⟨id, rfl, _⟩ <;> rfl
      · have hnx := al.1.nx
        obtain ⟨v', h3, q1, q2, q3, q4, q5, q6⟩ := oa3.apps hnx (z := 8) (ints (List.replicate times n)) (kH _) (by simp; omega) (by simp [roomy]; omega)
        refine ⟨v', h3, ?_, by rw [qY]; exact q2, al.1.yV q3 q4 fun i hi => ?_, ⟨q3.trans hfr3.fl, xA hfr3.nx q4, fun id i1 i2 i3 i4 => ?_, fun i hi => .inl hi⟩, fun i hi => ?_⟩
        · unfold mC
          rw [src, wS]
          have hl : (ints (List.replicate times n)).length = times := by simp
          rw [hl] at q1; exact q1
        · have hlt0 := hlo i hi
          have hle : h0.next ≤ (h2.alloc [I n]).next := hfr3.nx
          exact q5 i (fun e => by have := hid i e; omega) (by omega)
        · have hle : h0.next ≤ (h2.alloc [I n]).next := hfr3.nx
          rw [q5 id (fun e => by have := hid id e; omega) (by omega)]
          exact hfr3.EC id i1 i2 i3 i4
        · rw [q6] at hi; cases hi; exact hfr3.nx
     obtain ⟨v', h3, ap1, ap2, ap3, ap4, ap5⟩ := hap
     have step : aM (aS AP.A) bH AP.f64L0 (az [(0, .aE c.s 0), (1, I many), (9, xM cl), (10, av)] [0, 1, 9, 10]) h = some (.normal, [(0, .aE c.s 0), (1, I many), (9, xM cl), (10, v')], h3) := by
      have bs : ∀ (e : Env), look e 57 = .int .i64 n → aZ e (.dg 1 1 [.int .i64 0] [(0, .t 57)]) = some ([.int .i64 n], fun i => .aF i 0 1 1) := by
       intro e q
       simp only [aZ, O7, List.map_nil, uD, q]; rfl
      simp only [I] at *
      simp only [AP.f64L0, go_sem, ln, OU c1, gs, he, s1, r1]
      rw [bs _ rfl]
      simp only [go_sem, rp, ap1]
     have hacc' : (acc ++ List.replicate times n).length < 80000 := by simp; omega
     cases hz : Aq c.text cl 15 1 0 S.at_ with
     | none =>
       rw [hz] at s4
       obtain ⟨s4, s5⟩ := s4
       have hy : y = 256 := s5
       have hag : xY c y acc S1 = ((y, 1), S1) := by rw [xY, if_neg (by omega), if_neg (by omega), if_neg (by omega)]
       have hS2e : S2.e = 700 := by rw [hS2, hag]; exact s4
       dsimp only
       by_cases hlt2 : (acc ++ List.replicate times n).length < many
       · obtain ⟨e', q1, q2, q3, q4⟩ := yZ ap3 (xM cl) many ap2 (.inr ⟨hlt2, by rw [hS2e]; decide⟩)
         exact ⟨e', h3, S2, v', _, vp step q1, q2, q3, q4, ap3, ap4, ap2, by omega, ap5, .inl hS2e⟩
       · obtain ⟨e', q1, q2, q3, q4⟩ := yZ ap3 (xM cl) many ap2 (.inl (by omega))
         exact ⟨e', h3, S2, v', _, vp step q1, q2, q3, q4, ap3, ap4, ap2, by omega, ap5, .inl hS2e⟩
     | some yp =>
       obtain ⟨z, p1⟩ := yp
       rw [hz] at s4
       obtain ⟨s4, s5⟩ := s4
       subst s5 s4
       have zb := zj hz
       have hok := FK (c := c) (S := { S with at_ := p1 }) (y := y) (acc := acc) he
       dsimp only at hok ⊢
       cases ha : Au c.text y acc p1 with
       | none =>
         rw [ha] at hok
         have hS2e : S2.e = 700 := by rw [hS2]; exact hok
         dsimp only
         by_cases hlt2 : (acc ++ List.replicate times n).length < many
         · obtain ⟨e', q1, q2, q3, q4⟩ := yZ ap3 (xM cl) many ap2 (.inr ⟨hlt2, by rw [hS2e]; decide⟩)
           exact ⟨e', h3, S2, v', _, vp step q1, q2, q3, q4, ap3, ap4, ap2, by omega, ap5, .inl hS2e⟩
         · obtain ⟨e', q1, q2, q3, q4⟩ := yZ ap3 (xM cl) many ap2 (.inl (by omega))
           exact ⟨e', h3, S2, v', _, vp step q1, q2, q3, q4, ap3, ap4, ap2, by omega, ap5, .inl hS2e⟩
       | some q =>
         obtain ⟨n2, t2, p2⟩ := q
         rw [ha] at hok
         obtain ⟨hok, hp12⟩ := hok
         rw [hok] at hn htm hS2
         dsimp only at hn htm hS2
         subst hn htm hS2
         obtain ⟨e', h', S', av', acc', q1, q2, q3, q4, q5, q6, q7, q8, q9, q10⟩ := CM h0 cl hcl many hm f (acc ++ List.replicate times n) _ h3 ov v' ap3 he (by dsimp only; omega) ap4 ap2 hacc' ap5 hlo
         exact ⟨e', h', S', av', acc', vp step q1, q2, q3, q4, q5, q6, q7, q8, q9, q10⟩
   · obtain ⟨e', q1, q2, q3, q4⟩ := yZ st (xM cl) many oa (.inl (by omega))
     refine ⟨e', h, S, av, acc, q1, q2, q3, q4, st, fr, oa, by omega, hid, ?_⟩
     rw [yx, if_neg hlt]
     by_cases hgt : many < acc.length
     · rw [if_pos hgt]; exact .inr ⟨he, hgt⟩
     · rw [if_neg hgt]; exact ⟨rfl, rfl, by omega⟩
theorem F5 {c : SC} {S : SS} {h : H} {ov : AV} (st : St c S h ov) (he : S.e = 0) (many : Nat) (hm0 : 0 < many) (hm : many ≤ 400) :
 ∃ h' S' av acc, aS AP.A 64 [.aE c.s 0, I many] h = some (av, h') ∧ St c S' h' ov ∧ Fr c h ov h' ov ∧ oZ h' av (ints acc) ∧ (∀ i, av.id? = some i → h.next ≤ i) ∧ match zO c.text many S.at_ with
   | some (L, p) => S' = { S with at_ := p } ∧ acc = L ∧ L.length = many
   | none => S'.e = 700 := by
 have gs := st.gs
 obtain ⟨a, ha⟩ : ∃ a, a = h.next := ⟨_, rfl⟩
 obtain ⟨g0, hg0⟩ : ∃ g, g = h.alloc (ints (List.replicate 19 0)) := ⟨_, rfl⟩
 have al := st.alloc (ints (List.replicate 19 0))
 rw [← hg0] at al
 have hga : g0.get a = some (ints (List.replicate 19 0)) := by rw [hg0, H.aX, if_pos ha]
 have oc := IB g0
 obtain ⟨h1, k1, k2, k3⟩ := zD al.1 4 4 rfl (by omega)
 obtain ⟨G, hG⟩ : ∃ G, G = (xI c 4 S).1 := ⟨_, rfl⟩
 obtain ⟨S1, hS1⟩ : ∃ G, G = (xI c 4 S).2 := ⟨_, rfl⟩
 rw [← hG] at k1; rw [← hS1] at k2
 have hG16 : G < 16 := by
  rw [hG]; unfold xI; split
  · simpa using yy c.text S.at_ 4
  · simp
 have w1 : IntKind.wrap .i64 ((G : Int) + 4) = ((G + 4 : Nat) : Int) := xH (n := G + 4) (by omega)
 obtain ⟨x, hx⟩ : ∃ x, x = AV.aW false (ints yI) 0 (G + 4) 1 := ⟨_, rfl⟩
 have sl : ur h1 1 (zJ yI) none (some (I (G + 4 : Nat))) none = some x := by
  rw [hx]; exact EF (by rw [qZ]) (by show G + 4 ≤ 19; omega)
 have xl : jN false x = some (I (G + 4 : Nat)) := by rw [hx]; rfl
 obtain ⟨xs, hxs⟩ : ∃ xs, xs = yI.take (G + 4) := ⟨_, rfl⟩
 have hol : yI.length = 19 := rfl
 have hxsl : xs.length = G + 4 := by rw [hxs, List.length_take, hol]; omega
 have rdx : Rd h1 x (ints xs) := by
  refine ⟨?_, by rw [hx]; intro s e; cases e⟩
  have ht : (ints yI).take (G + 4) = ints xs := by rw [hxs]; simp [ints, List.map_take]
  simp only [aT, hx, if_true]
  rw [if_pos (by rw [qZ, hol]; omega), O0, Pd, ht]; simp [hxsl]
 have hac : a ≠ c.s ∧ a ≠ c.r := ⟨fun e => by have := st.lt (.inl e); omega, fun e => by have := st.lt (.inr (.inl e)); omega⟩
 have hoa : ov.id? ≠ some a := fun e => by have := st.lt (.inr (.inr e)); omega
 have hga1 : h1.get a = some (ints (List.replicate 19 0)) := by rw [k3.EC a (g0.lt _ _ hga) hac.1 hac.2 hoa]; exact hga
 have hfa : h1.floor ≤ a := by rw [k3.fl, hg0, ha]; simp; exact st.nx
 obtain ⟨e2, h2, l1, l2, l3, l4, l5, l6, l7, l8, l9⟩ := Eh (c := c) a x xs (fun s hs => Gl s (List.mem_of_mem_take (hxs ▸ hs))) (by omega) hac (I many) xs [] (List.replicate 19 0) S1 h1 ov rfl rdx (by rw [hx]; intro i e; cases e) k2 hoa hga1 (by simp) hfa
 obtain ⟨cl, hcl⟩ : ∃ cl, cl = (zY c xs (List.replicate 19 0) S1).1 := ⟨_, rfl⟩
 obtain ⟨S2, hS2⟩ : ∃ cl, cl = (zY c xs (List.replicate 19 0) S1).2 := ⟨_, rfl⟩
 rw [← hS2] at l5; rw [← hcl] at l6
 have hcll : cl.length = 19 := by rw [hcl, Eg]; simp
 have hclb : ∀ y ∈ cl, 0 ≤ y ∧ y < 16 := by
  rw [hcl]; refine Fl c _ _ _ fun y hy => ?_
  obtain ⟨_, rfl⟩ := List.mem_replicate.1 hy; omega
 rw [hxsl] at l1
 have l1' : Lp AP.A [0, 1, 5, 18, 19, 20] AP.f64L1 [(0, .aE c.s 0), (1, I many), (5, .aE a 0), (18, x), (19, I (G + 4 : Nat)), (20, I 0)] h1 = some (.exit 0, e2, h2) := l1
 clear l1
 have fr2 : Fr c h ov h2 ov := by
  refine ⟨by rw [l7, k3.fl, al.2.fl], ?_, fun id i1 i2 i3 i4 => ?_, fun i hi => .inl hi⟩
  · have := al.2.nx; have := k3.nx; omega
  · have hn0 : g0.next = h.next + 1 := by rw [hg0]; simp
    have := k3.nx
    rw [l9 id (by omega) i2 i3 i4 (by omega), k3.EC id (by omega) i2 i3 i4, al.2.EC id i1 i2 i3 i4]
 have ue : nT h2 19 1 (.aE a 0) none none = some (.aF a 0 19 1) := by
  simp [nT, l6, aC, hcll]
 have iT : Rd h2 (.aF a 0 19 1) (ints cl) := by
  refine ⟨?_, by intro s e; cases e⟩
  simp [aT, l6, hcll, xu]
 have ck := Db h2 (.aF a 0 19 1) cl (by omega) iT
 have mk := AD h2 (.aF a 0 19 1) cl (by omega) hclb iT
 have hhead : (xX cl = 0 ∧ S2.e = 0 ∧ S.at_ + 4 ≤ 8 * c.text.size ∧ S.at_ + 4 + 3 * (xK c.text S.at_ 4 + 4) ≤ 8 * c.text.size ∧ cl = EU c.text (yI.take (xK c.text S.at_ 4 + 4)) (S.at_ + 4) (List.replicate 19 0) ∧ S2 = { S with at_ := S.at_ + 4 + 3 * (xK c.text S.at_ 4 + 4) }) ∨ ((xX cl ≠ 0 ∨ S2.e ≠ 0) ∧ (S2.e = 0 ∨ S2.e = 700) ∧ zO c.text many S.at_ = none) := by
  by_cases hp : S.at_ + 4 ≤ 8 * c.text.size
  · have eg : xI c 4 S = (xK c.text S.at_ 4, { S with at_ := S.at_ + 4 }) := by rw [xI, if_pos hp]
    rw [eg] at hG hS1; dsimp only at hG hS1
    subst hS1
    by_cases hp2 : S.at_ + 4 + 3 * (xK c.text S.at_ 4 + 4) ≤ 8 * c.text.size
    · have ok := Fo c xs (List.replicate 19 0) { S with at_ := S.at_ + 4 } he (by dsimp only; omega)
      rw [ok] at hcl hS2
      dsimp only at hcl hS2
      rw [hxsl, hG] at hS2
      rw [hxs, hG] at hcl
      by_cases hck : xX cl = 0
      · exact .inl ⟨hck, by rw [hS2]; exact he, hp, hp2, hcl, hS2⟩
      · refine .inr ⟨.inl hck, .inl (by rw [hS2]; exact he), ?_⟩
        rw [zO, if_pos hp]; dsimp only; rw [if_pos hp2, ← hcl, if_neg hck]
    · have hb := Ef c xs (List.replicate 19 0) { S with at_ := S.at_ + 4 } he (by dsimp only; omega) (by dsimp only; omega)
      rw [← hS2] at hb
      refine .inr ⟨.inr (by rw [hb]; decide), .inr hb, ?_⟩
      rw [zO, if_pos hp]; dsimp only; rw [if_neg hp2]
  · have eg : xI c 4 S = (0, { S with e := 700 }) := by rw [xI, if_neg hp, xO, if_pos he]
    rw [eg] at hS1; dsimp only at hS1
    have hb := Dn c xs (List.replicate 19 0) S1 (by rw [hS1])
    rw [← hS2] at hb
    exact .inr ⟨.inr (by rw [hb]; decide), .inr hb, by rw [zO, if_neg hp]⟩
 have hbk : ∀ (h3 : H) (S3 : SS), St c S3 h3 ov → Fr c h ov h3 ov → aS AP.A 41 [.aF a 0 19 1] h3 = some (xM cl, h3) → nT h3 19 1 (.aE a 0) none none = some (.aF a 0 19 1) →
  (aM (aS AP.A) bH (.cond (.t 31) (.qx [⟨some 32, .mv (.t 0), none⟩, ⟨some 33, .call (.c (.fn 45 [] [])) [(.t 32), (.c (.int .i64 700))], none⟩] [0, 1, 5]) .skip [0, 1, 5]) [(0, .aE c.s 0), (1, I many), (5, .aE a 0), (31, .bool (xX cl != 0))] h2 = some (.normal, [(0, .aE c.s 0), (1, I many), (5, .aE a 0)], h3)) →
  ∀ (e4 : Env) (h4 : H) (av : AV) (acc : List Int) (h5 : H), Lp AP.A [0, 1, 9, 10] AP.f64L0 [(0, .aE c.s 0), (1, I many), (9, xM cl), (10, .aQ)] h3 = some (.exit 2, e4, h4) → look e4 0 = .aE c.s 0 → look e4 1 = I many → look e4 10 = av → jN false av = some (I acc.length) →
  (many < acc.length → aS AP.A 45 [.aE c.s 0, I 700] h4 = some (.bV [], h5)) → (¬ many < acc.length → h5 = h4) → aS AP.A 64 [.aE c.s 0, I many] h = some (av, h5) := by
  intro h3 S3 st3 fr3 mk3 sla3 cnd e4 h4 av acc h5 m1 m2 m3 m4 m5 m6 m7
  refine vG (fn := AP.f64) (e := [(4, av)]) (vs := [av]) rfl rfl rfl ?_ rfl
  have bt : ∀ e : Env, aZ e (.alloc [.int .i64 0, .int .i64 0, .int .i64 0, .int .i64 0, .int .i64 0, .int .i64 0, .int .i64 0, .int .i64 0, .int .i64 0, .int .i64 0, .int .i64 0, .int .i64 0, .int .i64 0, .int .i64 0, .int .i64 0, .int .i64 0, .int .i64 0, .int .i64 0, .int .i64 0]) = some (ints (List.replicate 19 0), fun i => .aE i 0) := fun _ => rfl
  unfold AP.f64
  refine wA (e1 := [(0, .aE c.s 0), (1, I many)]) (h1 := h) rfl ?_
  refine wA (e1 := [(0, .aE c.s 0), (1, I many), (5, .aE a 0)]) (h1 := g0) ?_ ?_
  · simp only [go_sem, bt, ← hg0, ← ha]
  refine wA (e1 := [(0, .aE c.s 0), (1, I many), (5, .aE a 0), (6, zJ yI)]) (h1 := g0) ?_ ?_
  · simp only [go_sem, oc]
  refine wA (e1 := [(0, .aE c.s 0), (1, I many), (5, .aE a 0)]) (h1 := h2) ?_ ?_
  · clear bt
    simp only [I] at *
    simp only [go_sem, k1, w1, OW, O5, sl, xl, uz, l1', l2, l3, l4]
  refine wA (e1 := [(0, .aE c.s 0), (1, I many), (5, .aE a 0)]) (h1 := h3) ?_ ?_
  · refine wA (e1 := [(0, .aE c.s 0), (1, I many), (5, .aE a 0), (31, .bool (xX cl != 0))]) (h1 := h2) ?_ cnd
    simp only [I] at *
    simp only [go_sem, O5, ue, ck]
  refine wA (e1 := [(0, .aE c.s 0), (1, I many), (9, xM cl)]) (h1 := h3) ?_ ?_
  · simp only [go_sem, O5, sla3, mk3]
  refine wA (e1 := [(0, .aE c.s 0), (1, I many), (9, xM cl), (10, .aQ)]) (h1 := h3) rfl ?_
  refine wA (e1 := [(0, .aE c.s 0), (1, I many), (10, av)]) (h1 := h4) ?_ ?_
  · simp only [go_sem, uz, m1, m2, m3, m4]
  refine wA (e1 := [(10, av)]) (h1 := h5) ?_ ?_
  · by_cases hgt : many < acc.length
    · have c1 : (many : Int) < (acc.length : Int) := by omega
      have m6' := m6 hgt
      clear m6 m7
      simp only [I] at *
      simp only [go_sem, m5, OU c1, m6']
    · have c1 : ¬ (many : Int) < (acc.length : Int) := by omega
      have m7' := m7 hgt
      subst m7'
      clear m6 m7
      simp only [I] at *
      simp only [go_sem, m5, OQ c1]
  simp only [go_sem]
 rcases hhead with ⟨hck, he2, hp, hp2, hcl2, hS22⟩ | ⟨hbad, he2, hnone⟩
 · have hlen0 : zO c.text many S.at_ = yx c.text cl many (8 * c.text.size + 1) [] S2.at_ := by
    rw [zO, if_pos hp]; dsimp only; rw [if_pos hp2, ← hcl2, if_pos hck, hS22]
   have cnd : aM (aS AP.A) bH (.cond (.t 31) (.qx [⟨some 32, .mv (.t 0), none⟩, ⟨some 33, .call (.c (.fn 45 [] [])) [(.t 32), (.c (.int .i64 700))], none⟩] [0, 1, 5]) .skip [0, 1, 5]) [(0, .aE c.s 0), (1, I many), (5, .aE a 0), (31, .bool (xX cl != 0))] h2 = some (.normal, [(0, .aE c.s 0), (1, I many), (5, .aE a 0)], h2) := by
    have cb : (xX cl != 0) = false := wh hck
    simp only [go_sem, cb]
   obtain ⟨e4, h4, S4, av, acc, m1, m2, m3, m4, m5, m6, m7, m8, m9, m10⟩ := CM h cl (by omega) many hm (8 * c.text.size + 1) [] S2 h2 ov .aQ l5 he2 (by omega) fr2 (.inl ⟨rfl, rfl⟩) (by simp) (fun i q => by cases q) (fun i hi => st.lt hi)
   have ln := m7.len
   rw [qZ] at ln
   rw [hlen0]
   cases hL : yx c.text cl many (8 * c.text.size + 1) [] S2.at_ with
   | some q =>
     obtain ⟨L, p⟩ := q
     rw [hL] at m10
     obtain ⟨n1, n2, n3⟩ := m10
     have hng : ¬ many < acc.length := by rw [n2]; omega
     refine ⟨h4, S4, av, acc, hbk h2 S2 l5 fr2 mk ue cnd e4 h4 av acc h4 m1 m2 m3 m4 ln (fun q => absurd q hng) (fun _ => rfl), m5, m6, m7, m9, ?_, n2, n3⟩
     rw [n1, hS22]
   | none =>
     rw [hL] at m10
     dsimp only at m10 ⊢
     by_cases hgt : many < acc.length
     · obtain ⟨h5, f1, f2, f3⟩ := yF m5 700
       refine ⟨h5, xO 700 S4, av, acc, hbk h2 S2 l5 fr2 mk ue cnd e4 h4 av acc h5 m1 m2 m3 m4 ln (fun _ => f1) (fun q => absurd hgt q), f2, m6.trans f3, ?_, m9, ?_⟩
       · refine m7.mono f3.fl fun i hi => f3.EC i (m7.lt hi) (fun e => ?_) (fun e => ?_) (fun e => ?_)
         · have := m9 i hi; have := st.lt (.inl e); omega
         · have := m9 i hi; have := st.lt (.inr (.inl e)); omega
         · have := m9 i hi; have := st.lt (.inr (.inr e)); omega
       · rcases m10 with q | ⟨q, _⟩ <;> simp [xO, q]
     · refine ⟨h4, S4, av, acc, hbk h2 S2 l5 fr2 mk ue cnd e4 h4 av acc h4 m1 m2 m3 m4 ln (fun q => absurd q hgt) (fun _ => rfl), m5, m6, m7, m9, ?_⟩
       rcases m10 with q | ⟨_, q⟩
       · exact q
       · exact absurd q hgt
 · rw [hnone]
   have key : ∃ h3 S3, St c S3 h3 ov ∧ Fr c h ov h3 ov ∧ S3.e = 700 ∧ h3.get a = some (ints cl) ∧ aM (aS AP.A) bH (.cond (.t 31) (.qx [⟨some 32, .mv (.t 0), none⟩, ⟨some 33, .call (.c (.fn 45 [] [])) [(.t 32), (.c (.int .i64 700))], none⟩] [0, 1, 5]) .skip [0, 1, 5]) [(0, .aE c.s 0), (1, I many), (5, .aE a 0), (31, .bool (xX cl != 0))] h2 = some (.normal, [(0, .aE c.s 0), (1, I many), (5, .aE a 0)], h3) := by
    by_cases hck : xX cl = 0
    · have hb : S2.e ≠ 0 := by rcases hbad with q | q; exact absurd hck q; exact q
      refine ⟨h2, S2, l5, fr2, by rcases he2 with q | q; exact absurd q hb; exact q, l6, ?_⟩
      have cb : (xX cl != 0) = false := wh hck
      simp only [go_sem, cb]
    · obtain ⟨h3, f1, f2, f3⟩ := yF l5 700
      refine ⟨h3, xO 700 S2, f2, fr2.trans f3, by rcases he2 with q | q <;> simp [xO, q], by rw [f3.EC a (h2.lt _ _ l6) hac.1 hac.2 hoa]; exact l6, ?_⟩
      have cb : (xX cl != 0) = true := wj hck
      simp only [I] at *
      simp only [go_sem, cb, f1]
   obtain ⟨h3, S3, st3, fr3, he3, hg3, cnd⟩ := key
   have sla3 : nT h3 19 1 (.aE a 0) none none = some (.aF a 0 19 1) := by
    simp [nT, hg3, aC, hcll]
   have rdc3 : Rd h3 (.aF a 0 19 1) (ints cl) := by
    refine ⟨?_, by intro s e; cases e⟩
    simp [aT, hg3, hcll, xu]
   have mk3 := AD h3 (.aF a 0 19 1) cl (by omega) hclb rdc3
   obtain ⟨e4, m1, m2, m3, m4⟩ := yZ st3 (xM cl) many (av := .aQ) (acc := []) (.inl ⟨rfl, rfl⟩) (.inr ⟨by simpa using hm0, by rw [he3]; decide⟩)
   exact ⟨h3, S3, .aQ, [], hbk h3 S3 st3 fr3 mk3 sla3 cnd e4 h3 .aQ [] h3 m1 m2 m3 m4 rfl (fun q => by simp at q) (fun _ => rfl), st3, fr3, .inl ⟨rfl, rfl⟩, (fun i q => by cases q), he3⟩
def zX (l : List Int) : Prop := ∀ y ∈ l, 0 ≤ y ∧ y < 16
theorem ED {t : ByteArray} {y : Int} {acc : List Int} {n : Int} {q times p2 : Nat} (hy : 0 ≤ y ∧ y < 19) (ha : zX acc) (h : Au t y acc q = some (n, times, p2)) : 0 ≤ n ∧ n < 16 := by
 unfold Au at h
 split at h
 · split at h
   · cases h
   · rename_i hn
     split at h
     · have := Pc (fun o => o.map (·.1)) h
       simp only [OW, wO] at this
       rw [← this]
       have hl : 0 < acc.length := List.length_pos_iff.2 hn
       refine ha _ ?_
       rw [List.getD_eq_getElem?_getD, List.getElem?_eq_getElem (by omega)]
       exact List.getElem_mem _
     · cases h
 · split at h
   · split at h
     · have := Pc (fun o => o.map (·.1)) h
       simp only [OW, wO] at this; omega
     · cases h
   · split at h
     · split at h
       · have := Pc (fun o => o.map (·.1)) h
         simp only [OW, wO] at this; omega
       · cases h
     · have := Pc (fun o => o.map (·.1)) h
       simp only [OW, wO] at this; omega
theorem AX {t : ByteArray} {cl : List Int} (hcl : cl.length = 19) {many : Nat} : ∀ {f : Nat} {acc : List Int} {p : Nat} {L : List Int} {p2 : Nat}, zX acc → yx t cl many f acc p = some (L, p2) → zX L
 | 0, _, _, _, _, _, h => by cases h
 | f + 1, acc, p, L, p2, ha, h => by
   rw [yx] at h
   split at h
   · split at h
     · cases h
     · rename_i y p1 hs
       have sb := zj hs
       split at h
       · cases h
       · rename_i n times q hag
         have hr := ED ⟨sb.1, by omega⟩ ha hag
         exact AX hcl (fun y hy => by
          rcases List.mem_append.1 hy with hy | hy
          · exact ha y hy
          · obtain ⟨_, rfl⟩ := List.mem_replicate.1 hy; exact hr) h
   · split at h
     · cases h
     · have := Pc (fun o => o.map (·.1)) h
       simp only [OW, wO] at this; rw [← this]; exact ha
theorem Ee (t : ByteArray) : ∀ (r : List Int) (p : Nat) (o : List Int), (EU t r p o).length = o.length
 | [], _, _ => rfl
 | s :: r, p, o => by rw [EU, Ee t r]; simp
theorem F6 {t : ByteArray} {many p : Nat} {L : List Int} {p2 : Nat} (h : zO t many p = some (L, p2)) : zX L := by
 unfold zO at h
 split at h
 · dsimp only at h
   split at h
   · split at h
     · exact AX (by rw [Ee]; simp) (fun y hy => by cases hy) h
     · cases h
   · cases h
 · cases h
def FW (t : ByteArray) (most : Int) (p : Nat) (out : List Nat) : Rs :=
 if p + 10 ≤ 8 * t.size then
  let lits := xK t p 5 + 257
  let dists := xK t (p + 5) 5 + 1
  if 286 < lits ∨ 30 < dists then .error 700 else
  match zO t (lits + dists) (p + 10) with
  | none => .error 700
  | some (L, p2) =>
    if xX (L.take lits) ≠ 0 ∨ (L.take lits).getD 256 0 = 0 ∨ (xX (L.drop lits) ≠ 0 ∧ yY (L.drop lits) = false) then .error 700
    else y7 t most (L.take lits) (L.drop lits) (8 * t.size + 1) p2 out
 else .error 700
theorem FX {c : SC} {S : SS} {h : H} {ov : AV} (st : St c S h ov) (he : S.e = 0) :
 ∃ h' ov' S', aS AP.A 44 [.aE c.s 0] h = some (.bV [], h') ∧ St c S' h' ov' ∧ Fr c h ov h' ov' ∧ Fin (FW c.text c.most S.at_ S.out) S' := by
 obtain ⟨h1, a1, a2, a3⟩ := zD st 5 5 rfl (by omega)
 obtain ⟨h2, b1, b2, b3⟩ := zD a2 5 5 rfl (by omega)
 obtain ⟨A, hA⟩ : ∃ n, n = (xI c 5 S).1 := ⟨_, rfl⟩
 obtain ⟨S1, hS1⟩ : ∃ n, n = (xI c 5 S).2 := ⟨_, rfl⟩
 rw [← hA] at a1; rw [← hS1] at a2 b1 b2
 obtain ⟨B, hB⟩ : ∃ n, n = (xI c 5 S1).1 := ⟨_, rfl⟩
 obtain ⟨S2, hS2⟩ : ∃ n, n = (xI c 5 S1).2 := ⟨_, rfl⟩
 rw [← hB] at b1; rw [← hS2] at b2
 have g5 : ∀ S, (xI c 5 S).1 < 32 := fun S => by
  unfold xI; split
  · simpa using yy c.text S.at_ 5
  · simp
 have hA32 : A < 32 := hA ▸ g5 S
 have hB32 : B < 32 := hB ▸ g5 S1
 have w1 : IntKind.wrap .i64 ((A : Int) + 257) = ((A + 257 : Nat) : Int) := xH (n := A + 257) (by omega)
 have w2 : IntKind.wrap .i64 ((B : Int) + 1) = ((B + 1 : Nat) : Int) := xH (n := B + 1) (by omega)
 have gs2 := b2.gs
 have he2 : S2.e = 0 ∨ S2.e = 700 := by rw [hS2]; exact G4 c 5 _ (by rw [hS1]; exact G4 c 5 S (.inl he))
 have fr2 := a3.trans b3
 have bad : (S2.e ≠ 0 ∨ 286 < A + 257 ∨ 30 < B + 1) → ∃ h' ov' S', aS AP.A 44 [.aE c.s 0] h = some (.bV [], h') ∧ St c S' h' ov' ∧ Fr c h ov h' ov' ∧ S'.e = 700 ∧ (700 : Int) ≠ 0 := by
  intro hb
  obtain ⟨h3, f1, f2, f3⟩ := yF b2 700
  refine ⟨h3, ov, xO 700 S2, ?_, f2, fr2.trans f3, by rcases he2 with q | q <;> simp [xO, q], by decide⟩
  refine vG (fn := AP.f44) (e := []) (vs := []) rfl rfl rfl ?_ rfl
  by_cases c1 : S2.e = 0
  · have c1' := wh c1
    by_cases c2 : 286 < A + 257
    · have c2' : (286 : Int) < ((A + 257 : Nat) : Int) := by omega
      simp only [I] at *
      simp only [AP.f44, go_sem, a1, b1, w1, w2, gs2, c1', OU c2', f1]
    · have c2' : ¬ (286 : Int) < ((A + 257 : Nat) : Int) := by omega
      have c3' : (30 : Int) < ((B + 1 : Nat) : Int) := by
       rcases hb with q | q | q
       · exact absurd c1 q
       · exact absurd q c2
       · omega
      simp only [I] at *
      simp only [AP.f44, go_sem, a1, b1, w1, w2, gs2, c1', OQ c2', OU c3', f1]
  · have c1' := wj c1
    simp only [I] at *
    simp only [AP.f44, go_sem, a1, b1, w1, w2, gs2, c1', f1]
 unfold FW
 by_cases hp : S.at_ + 10 ≤ 8 * c.text.size
 · have e1 : xI c 5 S = (xK c.text S.at_ 5, { S with at_ := S.at_ + 5 }) := by rw [xI, if_pos (by omega)]
   rw [e1] at hA hS1; dsimp only at hA hS1
   have e2 : xI c 5 { S with at_ := S.at_ + 5 } = (xK c.text (S.at_ + 5) 5, { S with at_ := S.at_ + 5 + 5 }) := by rw [xI, if_pos (by show S.at_ + 5 + 5 ≤ _; omega)]
   rw [hS1, e2] at hB hS2; dsimp only at hB hS2
   rw [if_pos hp]
   dsimp only
   rw [← hA, ← hB]
   by_cases hbig : 286 < A + 257 ∨ 30 < B + 1
   · rw [if_pos hbig]; exact bad (.inr hbig)
   · rw [if_neg hbig]
     have c1' : (S2.e != 0) = false := wh (by rw [hS2]; exact he)
     have c2' : ¬ (286 : Int) < ((A + 257 : Nat) : Int) := by omega
     have c3' : ¬ (30 : Int) < ((B + 1 : Nat) : Int) := by omega
     have w3 : IntKind.wrap .i64 (((A + 257 : Nat) : Int) + ((B + 1 : Nat) : Int)) = ((A + 257 + (B + 1) : Nat) : Int) := by
      rw [show ((A + 257 : Nat) : Int) + ((B + 1 : Nat) : Int) = ((A + 257 + (B + 1) : Nat) : Int) by omega]; exact xH (by omega)
     obtain ⟨h3, S3, av, acc, l1, l2, l3, l4, l5, l6⟩ := F5 b2 (by rw [hS2]; exact he) (A + 257 + (B + 1)) (by omega) (by omega)
     have gs3 := l2.gs
     have hat2 : S2.at_ = S.at_ + 10 := by rw [hS2]
     rw [hat2] at l6
     cases hL : zO c.text (A + 257 + (B + 1)) (S.at_ + 10) with
     | none =>
       rw [hL] at l6
       have c4 : (S3.e != 0) = true := wj (by rw [l6]; decide)
       refine ⟨h3, ov, S3, ?_, l2, fr2.trans l3, l6, by decide⟩
       refine vG (fn := AP.f44) (e := [(0, .aE c.s 0), (2, I (A + 257 : Nat)), (4, av), (37, .bool true)]) (vs := []) rfl rfl rfl ?_ rfl
       simp only [I] at *
       simp only [AP.f44, go_sem, a1, b1, w1, w2, gs2, c1', OQ c2', OQ c3', w3, l1, gs3, c4]
     | some q =>
       obtain ⟨L, p2⟩ := q
       rw [hL] at l6
       obtain ⟨l6, l7, l8⟩ := l6
       subst l7
       have hrng := F6 hL
       dsimp only
       have he3 : S3.e = 0 := by rw [l6, hS2]; exact he
       have c4 : (S3.e != 0) = false := wh he3
       obtain ⟨id, hav, hgid⟩ : ∃ id, av = .aF id 0 (A + 257 + (B + 1)) 1 ∧ h3.get id = some (ints acc) := by
        rcases l4 with ⟨_, q⟩ | ⟨id, q1, q2, _⟩
        · have := Pc List.length q; rw [qZ, l8, OT] at this; omega
        · exact ⟨id, by rw [q1, qZ, l8], q2⟩
       have hil : (ints acc).length = A + 257 + (B + 1) := by rw [qZ, l8]
       have s1 := EE (h := h3) (k := A + 257) hgid hil (wV _) (by omega)
       have s2 := GD (h := h3) (k := A + 257) hgid hil (by omega)
       rw [show A + 257 + (B + 1) - (A + 257) = B + 1 by omega] at s2
       rw [← hav] at s1 s2
       obtain ⟨la, hla⟩ : ∃ x, x = acc.take (A + 257) := ⟨_, rfl⟩
       obtain ⟨lb, hlb⟩ : ∃ x, x = acc.drop (A + 257) := ⟨_, rfl⟩
       have hlal : la.length = A + 257 := by rw [hla, List.length_take]; omega
       have hlbl : lb.length = B + 1 := by rw [hlb, List.length_drop]; omega
       have ra : Rd h3 (.aF id 0 (A + 257) 1) (ints la) := by
        refine ⟨?_, by intro s e; cases e⟩
        simp only [aT, if_true, hgid, wS]
        rw [if_pos (by rw [hil]; omega), hla]; simp [ints, List.map_take]; omega
       have rb : Rd h3 (.aF id (A + 257) (B + 1) 1) (ints lb) := by
        refine ⟨?_, by intro s e; cases e⟩
        simp only [aT, if_true, hgid, wS]
        rw [if_pos (by rw [hil]; omega), hlb]
        have : (ints (acc.drop (A + 257))).length = B + 1 := by rw [qZ, ← hlb, hlbl]
        rw [this, ints, ints, ← List.map_drop, Pd, xu (by rw [OX, ← hlb, hlbl]; omega)]
       rw [← hla, ← hlb]
       have cka := Db h3 _ la (by omega) ra
       have ckb := Db h3 _ lb (by omega) rb
       have hra : zX la := fun y hy => hrng y (List.mem_of_mem_take (hla ▸ hy))
       have hrb : zX lb := fun y hy => hrng y (List.mem_of_mem_drop (hlb ▸ hy))
       have sgb := Hz h3 _ lb (by omega) hrb rb
       have mka := AD h3 _ la (by omega) hra ra
       have mkb := AD h3 _ lb (by omega) hrb rb
       have hel := CH (l := la) (i := 256) (by omega)
       obtain ⟨ad, p1, p2'⟩ := ra.elem hel
       have p3 := p2' h3 (fun _ _ q => q)
       have p1' : gS 1 (.aF id 0 (A + 257) 1) (I 256) = some ad := p1
       clear p1 p2'
       obtain ⟨cb, hcb⟩ : ∃ b : Bool, (b = true ↔ xX la ≠ 0 ∨ la.getD 256 0 = 0 ∨ (xX lb ≠ 0 ∧ yY lb = false)) := ⟨decide _, decide_eq_true_iff⟩
       have step : ∀ k, aM (aS AP.A) bH k [(0, .aE c.s 0), (2, I (A + 257 : Nat)), (4, av)] h3 = aM (aS AP.A) bH k [(0, .aE c.s 0), (2, I (A + 257 : Nat)), (4, av)] h3 := fun _ => rfl
       by_cases hbad : xX la ≠ 0 ∨ la.getD 256 0 = 0 ∨ (xX lb ≠ 0 ∧ yY lb = false)
       · rw [if_pos hbad]
         obtain ⟨h4, f1, f2, f3⟩ := yF l2 700
         refine ⟨h4, ov, xO 700 S3, ?_, f2, (fr2.trans l3).trans f3, by simp [xO, he3], by decide⟩
         refine vG (fn := AP.f44) (e := []) (vs := []) rfl rfl rfl ?_ rfl
         by_cases d1 : xX la = 0
         · have d1' := wh d1
           by_cases d2 : la.getD 256 0 = 0
           · have d2' := wg d2
             simp only [I] at *
             simp only [AP.f44, go_sem, a1, b1, w1, w2, gs2, c1', OQ c2', OQ c3', w3, l1, gs3, c4, OW, O5, s1, s2, cka, d1', p1', p3, d2', f1]
           · have d2' := we d2
             obtain ⟨d3, d4⟩ : xX lb ≠ 0 ∧ yY lb = false := by
              rcases hbad with q | q | q
              · exact absurd d1 q
              · exact absurd q d2
              · exact q
             have d3' := wj d3
             rw [d4] at sgb
             simp only [I] at *
             simp only [AP.f44, go_sem, a1, b1, w1, w2, gs2, c1', OQ c2', OQ c3', w3, l1, gs3, c4, OW, O5, s1, s2, cka, d1', p1', p3, d2', ckb, d3', sgb, f1]
         · have d1' := wj d1
           simp only [I] at *
           simp only [AP.f44, go_sem, a1, b1, w1, w2, gs2, c1', OQ c2', OQ c3', w3, l1, gs3, c4, OW, O5, s1, s2, cka, d1', f1]
       · rw [if_neg hbad]
         have d1 : xX la = 0 := Decidable.byContradiction fun q => hbad (.inl q)
         have d2 : la.getD 256 0 ≠ 0 := fun q => hbad (.inr (.inl q))
         have d1' := wh d1
         have d2' := we d2
         obtain ⟨h4, ov4, S4, q1, q2, q3, q4⟩ := E8 la lb (by omega) (by omega) l2 he3
         refine ⟨h4, ov4, S4, ?_, q2, (fr2.trans l3).trans q3, ?_⟩
         · refine yG (fn := AP.f44) (e := []) (vs := []) rfl rfl rfl ?_ rfl
           by_cases d3 : xX lb = 0
           · have d3' := wh d3
             simp only [I] at *
             simp only [AP.f44, go_sem, a1, b1, w1, w2, gs2, c1', OQ c2', OQ c3', w3, l1, gs3, c4, OW, O5, s1, s2, cka, d1', p1', p3, d2', ckb, d3', mka, mkb, q1]
           · have d3' := wj d3
             have d4 : yY lb = true := by
              cases hs : yY lb with
              | true => rfl
              | false => exact absurd (.inr (.inr ⟨d3, hs⟩)) hbad
             rw [d4] at sgb
             simp only [I] at *
             simp only [AP.f44, go_sem, a1, b1, w1, w2, gs2, c1', OQ c2', OQ c3', w3, l1, gs3, c4, OW, O5, s1, s2, cka, d1', p1', p3, d2', ckb, d3', sgb, mka, mkb, q1]
         · have : S3.at_ = p2 := by rw [l6]
           have ho : S3.out = S.out := by rw [l6, hS2]
           rw [this, ho] at q4; exact q4
 · rw [if_neg hp]
   refine bad (.inl ?_)
   rw [hS2, hS1]
   unfold xI
   by_cases q1 : S.at_ + 5 ≤ 8 * c.text.size
   · simp only [if_pos q1]; rw [if_neg (by omega)]; simp [xO, he]
   · simp only [if_neg q1, xO, he, if_true]; split <;> simp
def zS (t : ByteArray) (most : Int) (p : Nat) (out : List Nat) : Except Int (Bool × Nat × List Nat) :=
 if p + 3 ≤ 8 * t.size then
  let r : Rs := if xK t (p + 1) 2 = 0 then Am t most (p + 3) out
   else if xK t (p + 1) 2 = 1 then y7 t most yD (List.replicate 30 5) (8 * t.size + 1) (p + 3) out
   else if xK t (p + 1) 2 = 2 then FW t most (p + 3) out
   else .error 700
  match r with
  | .ok q => .ok (xK t p 1 == 1, q.1, q.2)
  | .error k => .error k
 else .error 700
def Mv (r : Except Int (Bool × Nat × List Nat)) (b : Bool) (S : SS) : Prop := match r with
 | .ok q => b = q.1 ∧ S = ⟨q.2.1, q.2.2, 0⟩
 | .error k => S.e = k ∧ k ≠ 0
theorem BU : yD.length = 288 := by simp only [yD, xD, Pa]
theorem EP : zX yD := by
 intro y hy
 simp only [yD, List.mem_append] at hy
 rcases hy with hy | hy | hy | hy <;> (obtain ⟨_, rfl⟩ := List.mem_replicate.1 hy; omega)
theorem FY : zX (List.replicate 30 5) := by
 intro y hy
 obtain ⟨_, rfl⟩ := List.mem_replicate.1 hy; omega
theorem HZ {c : SC} {S : SS} {h : H} {ov : AV} (st : St c S h ov) (he : S.e = 0) :
 ∃ h' ov' S' b, aS AP.A 15 [.aE c.s 0] h = some (.bool b, h') ∧ St c S' h' ov' ∧ Fr c h ov h' ov' ∧ Mv (zS c.text c.most S.at_ S.out) b S' := by
 obtain ⟨h1, a1, a2, a3⟩ := zD st 1 1 rfl (by omega)
 obtain ⟨h2, b1, b2, b3⟩ := zD a2 2 2 rfl (by omega)
 obtain ⟨A, hA⟩ : ∃ n, n = (xI c 1 S).1 := ⟨_, rfl⟩
 obtain ⟨S1, hS1⟩ : ∃ n, n = (xI c 1 S).2 := ⟨_, rfl⟩
 rw [← hA] at a1; rw [← hS1] at a2 b1 b2
 obtain ⟨B, hB⟩ : ∃ n, n = (xI c 2 S1).1 := ⟨_, rfl⟩
 obtain ⟨S2, hS2⟩ : ∃ n, n = (xI c 2 S1).2 := ⟨_, rfl⟩
 rw [← hB] at b1; rw [← hS2] at b2
 have gs2 := b2.gs
 have fr2 := a3.trans b3
 obtain ⟨lb, hlb⟩ : ∃ b : Bool, b = ((A : Int) == 1) := ⟨_, rfl⟩
 unfold zS
 by_cases hp : S.at_ + 3 ≤ 8 * c.text.size
 · rw [if_pos hp]
   have e1 : xI c 1 S = (xK c.text S.at_ 1, { S with at_ := S.at_ + 1 }) := by rw [xI, if_pos (by omega)]
   rw [e1] at hA hS1; dsimp only at hA hS1
   have e2 : xI c 2 { S with at_ := S.at_ + 1 } = (xK c.text (S.at_ + 1) 2, { S with at_ := S.at_ + 1 + 2 }) := by rw [xI, if_pos (by show S.at_ + 1 + 2 ≤ _; omega)]
   rw [hS1, e2] at hB hS2; dsimp only at hB hS2
   have he2 : S2.e = 0 := by rw [hS2]; exact he
   have hat : S2.at_ = S.at_ + 3 := by rw [hS2]
   have hout : S2.out = S.out := by rw [hS2]
   dsimp only
   rw [← hA, ← hB]
   have hlb2 : lb = (A == 1) := by
    rw [hlb]; by_cases q : A = 1
    · subst q; rfl
    · rw [we (by omega)]; symm; simp [q]
   have wrap : ∀ (r : Rs) (h' : H) (ov' : AV) (S' : SS), aS AP.A 15 [.aE c.s 0] h = some (.bool lb, h') → St c S' h' ov' → Fr c h2 ov h' ov' → Fin r S' → ∃ h' ov' S' b, aS AP.A 15 [.aE c.s 0] h = some (.bool b, h') ∧ St c S' h' ov' ∧ Fr c h ov h' ov' ∧ Mv (match r with | .ok q => .ok (A == 1, q.1, q.2) | .error k => .error k) b S' := by
    intro r h' ov' S' q1 q2 q3 q4
    refine ⟨h', ov', S', lb, q1, q2, fr2.trans q3, ?_⟩
    cases r with
    | ok q => exact ⟨hlb2, q4⟩
    | error k => exact q4
   have c0 : (S2.e == 0) = true := wg he2
   by_cases d0 : B = 0
   · rw [if_pos d0]
     obtain ⟨h', ov', S', q1, q2, q3, q4⟩ := HH b2 he2
     rw [hat, hout] at q4
     refine wrap _ h' ov' S' ?_ q2 q3 q4
     have d0' : ((B : Int) == 0) = true := wg (by omega)
     refine vG (fn := AP.f15) (e := [(2, .bool lb)]) rfl rfl rfl ?_ rfl
     simp only [I] at *
     simp only [AP.f15, go_sem, a1, b1, ← hlb, d0', gs2, c0, q1]
   · rw [if_neg d0]
     have d0' : ((B : Int) == 0) = false := we (by omega)
     by_cases d1 : B = 1
     · rw [if_pos d1]
       have d1' : ((B : Int) == 1) = true := wg (by omega)
       have f1 := Im h2
       have m1 := AD h2 (zJ yD) yD (by rw [BU]; omega) EP (zZ _ _)
       have al := b2.alloc [I 5]
       have r1 := zF (h2.alloc [I 5]) (.aF h2.next 0 1 1) 5 30 (by omega) (Ak _ _)
       have r1' : aS AP.A 43 [.aF h2.next 0 1 1, I 30] (h2.alloc [I 5]) = some (zJ (List.replicate 30 5), h2.alloc [I 5]) := by
        rw [zJ, Pa]; exact r1
       have m2 := AD (h2.alloc [I 5]) (zJ (List.replicate 30 5)) (List.replicate 30 5) (by rw [Pa]; omega) FY (zZ _ _)
       obtain ⟨h', ov', S', q1, q2, q3, q4⟩ := E8 yD (List.replicate 30 5) (by rw [BU]; omega) (by rw [Pa]; omega) al.1 he2
       rw [hat, hout] at q4
       refine wrap _ h' ov' S' ?_ q2 (al.2.trans q3) q4
       refine vG (fn := AP.f15) (e := [(2, .bool lb)]) rfl rfl rfl ?_ rfl
       clear r1
       generalize xM yD = bf at *
       generalize xM (List.replicate 30 5) = bd at *
       generalize zJ yD = vf at *
       generalize zJ (List.replicate 30 5) = vd at *
       simp only [I] at *
       simp only [AP.f15, go_sem, a1, b1, ← hlb, d0', d1', f1, m1, ME, I, r1', m2, q1]
     · rw [if_neg d1]
       have d1' : ((B : Int) == 1) = false := we (by omega)
       by_cases d2 : B = 2
       · rw [if_pos d2]
         have d2' : ((B : Int) == 2) = true := wg (by omega)
         obtain ⟨h', ov', S', q1, q2, q3, q4⟩ := FX b2 he2
         rw [hat, hout] at q4
         refine wrap _ h' ov' S' ?_ q2 q3 q4
         refine vG (fn := AP.f15) (e := [(2, .bool lb)]) rfl rfl rfl ?_ rfl
         simp only [I] at *
         simp only [AP.f15, go_sem, a1, b1, ← hlb, d0', d1', d2', q1]
       · rw [if_neg d2]
         have d2' : ((B : Int) == 2) = false := we (by omega)
         obtain ⟨h', q1, q2, q3⟩ := yF b2 700
         refine wrap (.error 700) h' ov _ ?_ q2 q3 ⟨by simp [xO, he2], by decide⟩
         refine vG (fn := AP.f15) (e := [(2, .bool lb)]) rfl rfl rfl ?_ rfl
         simp only [I] at *
         simp only [AP.f15, go_sem, a1, b1, ← hlb, d0', d1', d2', q1]
 · rw [if_neg hp]
   have hB0 : B = 0 ∧ S2.e = 700 := by
    by_cases q1 : S.at_ + 1 ≤ 8 * c.text.size
    · have e1 : xI c 1 S = (xK c.text S.at_ 1, { S with at_ := S.at_ + 1 }) := by rw [xI, if_pos q1]
      rw [e1] at hS1; dsimp only at hS1
      have e2 : xI c 2 S1 = (0, { S1 with e := 700 }) := by rw [xI, if_neg (by rw [hS1]; show ¬ S.at_ + 1 + 2 ≤ _; omega), xO, if_pos (by rw [hS1]; exact he)]
      rw [e2] at hB hS2
      exact ⟨hB, by rw [hS2]⟩
    · have e1 : xI c 1 S = (0, { S with e := 700 }) := by rw [xI, if_neg q1, xO, if_pos he]
      rw [e1] at hS1; dsimp only at hS1
      have e2 : xI c 2 S1 = (0, S1) := by rw [xI, if_neg (by rw [hS1]; show ¬ S.at_ + 2 ≤ _; omega), xO, if_neg (by rw [hS1]; simp)]
      rw [e2] at hB hS2
      exact ⟨hB, by rw [hS2, hS1]⟩
   have d0' : ((B : Int) == 0) = true := wg (by omega)
   have c0 : (S2.e == 0) = false := we (by rw [hB0.2]; decide)
   refine ⟨h2, ov, S2, lb, ?_, b2, fr2, hB0.2, by decide⟩
   refine vG (fn := AP.f15) (e := [(2, .bool lb)]) rfl rfl rfl ?_ rfl
   simp only [I] at *
   simp only [AP.f15, go_sem, a1, b1, ← hlb, d0', gs2, c0]
def zd (t : ByteArray) (most : Int) : Nat → Nat → List Nat → Rs
 | 0, _, _ => .error 700
 | f + 1, p, out => match zS t most p out with
   | .error k => .error k
   | .ok (last, p2, o) => if last then .ok (p2, o) else zd t most f p2 o
theorem D6 {c : SC} {S : SS} {h : H} {ov : AV} (st : St c S h ov) (b : Bool) (hs : b = true ∨ S.e ≠ 0) :
 ∃ e', Lp AP.A [7, 8] AP.f7L0 [(7, .aE c.s 0), (8, .bool b)] h = some (.exit 0, e', h) ∧ look e' 7 = .aE c.s 0 := by
 have gs := st.gs
 refine ⟨[(7, .aE c.s 0), (28, .bool false)], vo ?_, rfl⟩
 cases b with
 | true =>
   simp only [I] at *
   simp only [AP.f7L0, go_sem]
 | false =>
   have c2 : (S.e == 0) = false := we (by rcases hs with q | q; cases q; exact q)
   simp only [I] at *
   simp only [AP.f7L0, go_sem, gs, c2]
theorem CX {t : ByteArray} {most : Int} : ∀ {n p : Nat} {out : List Nat} {p2 : Nat} {o : List Nat}, yW t most n p out = .ok (p2, o) → p ≤ p2
 | 0, p, out, p2, o, h => by rw [yW] at h; cases h; exact wV _
 | n + 1, p, out, p2, o, h => by
   rw [yW] at h
   split at h
   · split at h
     · cases h
     · have := CX h; omega
   · cases h
theorem Ae {t : ByteArray} {most : Int} {ll dl : List Int} : ∀ {k p : Nat} {out : List Nat} {p2 : Nat} {o : List Nat}, y7 t most ll dl k p out = .ok (p2, o) → p < p2
 | 0, _, _, _, _, h => by cases h
 | k + 1, p, out, p2, o, h => by
   rw [y7] at h
   split at h
   · cases h
   · rename_i y p1 hs
     have sb := zj hs
     split at h
     · split at h
       · cases h
       · have := Ae h; omega
     · split at h
       · cases h; omega
       · split at h
         · rename_i p3 o3 hc
           have := DU hc
           have := Ae h; omega
         · cases h
theorem Bl {t : ByteArray} {cl : List Int} {many : Nat} : ∀ {f : Nat} {acc : List Int} {p : Nat} {L : List Int} {p2 : Nat}, yx t cl many f acc p = some (L, p2) → p ≤ p2
 | 0, _, _, _, _, h => by cases h
 | f + 1, acc, p, L, p2, h => by
   rw [yx] at h
   split at h
   · split at h
     · cases h
     · rename_i y p1 hs
       have sb := zj hs
       split at h
       · cases h
       · rename_i n times q hag
         have := Bl h
         have : p1 ≤ q := by
          unfold Au at hag
          repeat' split at hag
          all_goals first
           | (cases hag; done)
           | (have := Pc (fun o => o.map (·.2.2)) hag; simp only [OW, wO] at this; omega)
         omega
   · split at h
     · cases h
     · have := Pc (fun o => o.map (·.2)) h
       simp only [OW, wO] at this; omega
theorem FQ {t : ByteArray} {most : Int} {p : Nat} {out : List Nat} {q : Bool × Nat × List Nat} (h : zS t most p out = .ok q) : p < q.2.1 := by
 unfold zS at h
 split at h
 · dsimp only at h
   have key : ∀ {r : Rs}, (match r with | .ok q => Except.ok (xK t p 1 == 1, q.1, q.2) | .error k => .error k) = Except.ok (ε := Int) q → ∃ z, r = .ok z ∧ z.1 = q.2.1 := by
    intro r h
    cases r with
    | ok z => cases h; exact ⟨z, rfl, rfl⟩
    | error k => cases h
   obtain ⟨z, h1, h2⟩ := key h
   rw [← h2]
   split at h1
   · unfold Am at h1
     dsimp only at h1
     split at h1
     · split at h1
       · have := CX h1; omega
       · cases h1
     · cases h1
   · split at h1
     · have := Ae h1; omega
     · split at h1
       · unfold FW at h1
         split at h1
         · dsimp only at h1
           split at h1
           · cases h1
           · split at h1
             · cases h1
             · rename_i L p2 hl
               split at h1
               · cases h1
               · have := Ae h1
                 have : p + 3 ≤ p2 := by
                  unfold zO at hl
                  split at hl
                  · dsimp only at hl
                    split at hl
                    · split at hl
                      · have := Bl hl; omega
                      · cases hl
                    · cases hl
                  · cases hl
                 omega
         · cases h1
       · cases h1
 · cases h
theorem D4 {c : SC} : ∀ (f : Nat) (S : SS) (h : H) (ov : AV), St c S h ov → S.e = 0 → 8 * c.text.size < S.at_ + f →
 ∃ e' h' ov' S', Lp AP.A [7, 8] AP.f7L0 [(7, .aE c.s 0), (8, .bool false)] h = some (.exit 0, e', h') ∧ look e' 7 = .aE c.s 0 ∧ St c S' h' ov' ∧ Fr c h ov h' ov' ∧ Fin (zd c.text c.most f S.at_ S.out) S'
 | 0, S, h, ov, st, he, hk => by have := st.zu; omega
 | f + 1, S, h, ov, st, he, hk => by
   have gs := st.gs
   obtain ⟨h1, ov1, S1, b, q1, q2, q3, q4⟩ := HZ st he
   have step : aM (aS AP.A) bH AP.f7L0 (az [(7, .aE c.s 0), (8, .bool false)] [7, 8]) h = some (.normal, [(7, .aE c.s 0), (8, .bool b)], h1) := by
    simp only [I] at *
    simp only [AP.f7L0, go_sem, gs, he, q1]
   rw [zd]
   cases hb : zS c.text c.most S.at_ S.out with
   | error k =>
     rw [hb] at q4
     obtain ⟨e', r1, r2⟩ := D6 q2 b (.inr (by rw [q4.1]; exact q4.2))
     exact ⟨e', h1, ov1, S1, vp step r1, r2, q2, q3, q4⟩
   | ok z =>
     obtain ⟨last, p2, o⟩ := z
     rw [hb] at q4
     obtain ⟨q5, q6⟩ := q4
     dsimp only at q5 q6 ⊢
     subst q5
     cases b with
     | true =>
       obtain ⟨e', r1, r2⟩ := D6 q2 true (.inl rfl)
       exact ⟨e', h1, ov1, S1, vp step r1, r2, q2, q3, q6⟩
     | false =>
       have hge := FQ hb
       dsimp only at hge
       subst q6
       obtain ⟨e', h', ov', S', r1, r2, r3, r4, r5⟩ := D4 f _ h1 ov1 q2 rfl (by dsimp only; omega)
       exact ⟨e', h', ov', S', vp step r1, r2, r3, q3.trans r4, r5⟩
def bytesOf (l : List Nat) : ByteArray := ⟨(l.map UInt8.ofNat).toArray⟩
def zE (t : ByteArray) (most : Int) : Except Int (List Nat × Nat) :=
 if most < 0 ∨ 8192 < most then .error 700 else
 match zd t most (8 * t.size + 1) 0 [] with
 | .ok q => .ok (q.2, (q.1 + 7) / 8)
 | .error k => .error k
def LW (r : Except Int (List Nat × Nat)) : AV := match r with
 | .ok q => .bV [.str (bytesOf q.1), I q.2, I 0]
 | .error k => .bV [.str ⟨#[]⟩, I 0, I k]
theorem C7 : ∀ l : List Nat, mG (Ap l) = some (l.map UInt8.ofNat)
 | [] => rfl
 | x :: l => by
   have : Ap (x :: l) = .int .u8 x :: Ap l := rfl
   rw [this, mG, C7 l]; simp
theorem HX {h : H} {v : AV} {l : List Nat} (o : oZ h v (Ap l)) : vP h v (aT h 1 v) = some (.str (bytesOf l), h) := by
 rcases o with ⟨rfl, q⟩ | ⟨id, rfl, q, _⟩
 · have : l = [] := by cases l with | nil => rfl | cons _ _ => cases q
   subst this; rfl
 · simp only [aT, if_true, q, wS]
   rw [if_pos (by omega)]
   have : ((Ap l).drop 0).take ((Ap l).length * 1) = Ap l := by rw [O0, Pd, List.take_length]
   rw [this]
   simp only [vP, wS, C7]; rfl
theorem F3 (h : H) (hf : h.floor ≤ h.next) (t : ByteArray) (most : Int) (hs : t.size < 1125899906842624) : aS AP.A 7 [.str t, I most] h = some (LW (zE t most), h) := by
 unfold zE
 by_cases c1 : most < 0
 · rw [if_pos (.inl c1)]
   refine vX (fn := AP.f7) (h2 := h.eJ) (e := [(4, .str ⟨#[]⟩), (5, I 0), (6, I 700)]) rfl rfl rfl ?_ rfl rfl
   simp only [I] at *
   simp only [AP.f7, go_sem, OU c1]
 by_cases c2 : 8192 < most
 · rw [if_pos (.inr c2)]
   refine vX (fn := AP.f7) (h2 := h.eJ) (e := [(4, .str ⟨#[]⟩), (5, I 0), (6, I 700)]) rfl rfl rfl ?_ rfl rfl
   simp only [I] at *
   simp only [AP.f7, go_sem, OQ c1, OU c2]
 rw [if_neg (by omega)]
 obtain ⟨h1, hh1⟩ : ∃ g, g = h.eJ.alloc [.str t, I 0] := ⟨_, rfl⟩
 obtain ⟨h2, hh2⟩ : ∃ g, g = h1.alloc [.aE h.next 0, .aQ, I most, I 0] := ⟨_, rfl⟩
 have of1 := Ox h.eJ t
 rw [← hh1] at of1
 have n1 : h1.next = h.next + 1 := by rw [hh1]; simp
 have st : St ⟨h.next + 1, h.next, t, most⟩ ⟨0, [], 0⟩ h2 .aQ := by
  refine ⟨?_, ?_, .inl ⟨rfl, rfl⟩, by simp, ?_, ?_, by simp [AV.id?], by simp [AV.id?], ?_, hs, by simp, by simp; omega, by show most ≤ 900000; omega⟩
  · rw [hh2, H.aX, if_pos n1.symm]
  · rw [hh2, H.aX, if_neg (by show h.next ≠ h1.next; omega), hh1, H.aX, if_pos (show h.next = h.eJ.next from rfl)]; rfl
  · rw [hh2, hh1]; simp
  · rw [hh2, hh1]; simp
  · rw [hh2, hh1]; simp; omega
 obtain ⟨e', h3, ov, S, q1, q2, q3, q4, q5⟩ := D4 (8 * t.size + 1) ⟨0, [], 0⟩ h2 .aQ st rfl (by show 8 * t.size < 0 + (8 * t.size + 1); omega)
 have gs := q3.gs
 have bx : ∀ e : Env, look e 18 = .agg [.aE h.next 0, .aQ, .int .i64 most, .int .i64 0] → aZ e (.box 4 (.t 18)) = some ([.aE h.next 0, .aQ, .int .i64 most, .int .i64 0], fun i => .aE i 0) := by
  intro e q; simp only [aZ, uD, q]; rfl
 have fl : eK [.cO, .aQ, .int .i64 0, .int .i64 0] [(0, 1, .aE h.next 0), (2, 1, .int .i64 most)] = some [.aE h.next 0, .aQ, .int .i64 most, .int .i64 0] := rfl
 have hn : h.eJ.next = h.next := rfl
 dsimp only at q5
 cases hi : zd t most (8 * t.size + 1) 0 [] with
 | error k =>
   rw [hi] at q5
   have c3 : (S.e != 0) = true := wj (by rw [q5.1]; exact q5.2)
   have hk : S.e = k := q5.1
   refine vX (fn := AP.f7) (h2 := h3) (e := [(4, .str ⟨#[]⟩), (5, I 0), (6, I k)]) rfl rfl rfl ?_ rfl rfl
   simp only [I] at *
   simp only [AP.f7, go_sem, OQ c1, OQ c2, of1, hn, O7, List.map_nil, fl]
   rw [bx _ rfl]
   rw [hk] at gs c3
   simp only [go_sem, ← hh2, n1, uz, q1, q2, gs, c3]
 | ok z =>
   obtain ⟨p, o⟩ := z
   rw [hi] at q5
   simp only [Fin] at q5
   have c3 : (S.e != 0) = false := wh (by rw [q5])
   obtain ⟨h4, a1, a2, a3⟩ := q3.align
   have gs4 := a2.gs
   have gr4 := a2.gr
   have at4 := Ok h4 h.next t _ gr4
   have hb := HX a2.own
   subst q5
   dsimp only at gs4 gr4 at4 hb a2 gs c3
   have hle := a2.zu
   dsimp only at hle
   have qd : bD .quo (.int .i64 (((p + 7) / 8 * 8 : Nat) : Int)) (.int .i64 8) = some (.int .i64 (((p + 7) / 8 : Nat) : Int)) := by
    rw [uj _ _ _ (by omega), show (8 : Int) = ((8 : Nat) : Int) from rfl, Aa, Nat.mul_div_cancel _ (by omega), xH (by omega)]
   refine vX (fn := AP.f7) (h2 := h4) (e := [(4, .str (bytesOf o)), (5, I ((p + 7) / 8 : Nat)), (6, I 0)]) rfl rfl rfl ?_ rfl rfl
   generalize (p + 7) / 8 * 8 = P8 at *
   generalize (p + 7) / 8 = P at *
   simp only [I] at *
   simp only [AP.f7, go_sem, OQ c1, OQ c2, of1, hn, O7, List.map_nil, fl]
   rw [bx _ rfl]
   simp only [go_sem, ← hh2, n1, uz, q1, q2, gs, c3, a1]
   rw [Gu (e' := [(6, .int .i64 0), (5, .int .i64 P), (4, .str (bytesOf o)), (55, .int .i64 P), (54, .int .i64 P8), (53, .aE h.next 0), (52, .aE (h.next + 1) 0), (51, .aE (h.next + 1) 0), (50, .aE (h.next + 1) 0), (49, .str (bytesOf o)), (48, ov), (47, .aE (h.next + 1) 1), (46, .aE (h.next + 1) 0), (45, .aE (h.next + 1) 0), (7, .aE (h.next + 1) 0)]) (h' := h4) (gs := [h4, h4])]
   · simp only [go_sem]
   · simp only [AZ, Dm, Df, Dq, Dp, ch.aP, go_sem, gs4, hb, at4, qd]
   · refine Bf (fun k hk => ?_) (Bf (fun k hk => ?_) rfl)
     · obtain rfl : k = 1 := by simpa using hk
       refine Bc (o := ⟨some 48, .load false 1 (.t 47), none⟩) (g := h4) (h' := h4) (d := 48) (u := ov) rfl rfl rfl rfl ?_ ?_
       · simp only [aj, go_sem, gs4]
       · simp only [go_sem]
         rcases a2.own with ⟨rfl, _⟩ | ⟨id, rfl, _⟩
         · rfl
         · exact BI _ _ _ _
     · obtain rfl : k = 1 := by simpa using hk
       refine Bc (o := ⟨some 49, .mG (.t 48), none⟩) (g := h4) (h' := h4) (d := 49) (u := .str (bytesOf o)) rfl rfl rfl rfl ?_ ?_
       · simp only [aj, go_sem, hb]
       · simp only [go_sem, Bs]
theorem Br (a : ByteArray) : a.toList = a.data.toList := by
 have key : ∀ (n i : Nat) (r : List UInt8), a.size - i = n → ByteArray.toList.loop a i r = r.reverse ++ a.data.toList.drop i := by
  intro n
  induction n with
  | zero =>
    intro i r h
    unfold ByteArray.toList.loop
    rw [if_neg (by omega), List.drop_eq_nil_of_le (by show a.data.toList.length ≤ i; have : a.data.toList.length = a.size := rfl; omega)]; simp
  | succ n ih =>
    intro i r h
    unfold ByteArray.toList.loop
    have hi : i < a.data.toList.length := by show i < a.size; omega
    rw [if_pos (by omega), ih (i + 1) _ (by omega), List.drop_eq_getElem_cons hi]
    have hi' : i < a.data.size := hi
    simp [ByteArray.get!, getElem!_pos a.data i hi']
 unfold ByteArray.toList
 rw [key a.size 0 [] (by omega)]; simp
theorem Bz (a b : ByteArray) : bD .eql (.str a) (.str b) = some (.bool (a.data.toList == b.data.toList)) := by
 simp only [bD, kP, Br]
theorem BA (a b : ByteArray) : bD .neq (.str a) (.str b) = some (.bool (!(a.data.toList == b.data.toList))) := by
 simp only [bD, kP, Br]
theorem Je (h : H) (n : Int) : aS AP.A 9 [I n] h = some (I n, h) := by
 refine vX (fn := AP.f9) (h2 := h.eJ) (e := [(2, I n)]) rfl rfl rfl ?_ rfl rfl
 simp only [I] at *
 simp only [AP.f9, go_sem]
theorem oZ.set {h : H} {v : AV} {cs : List AV} (o : oZ h v cs) {i : Nat} (hi : i < cs.length) (x : AV) : ∃ id, v = .aF id 0 cs.length 1 ∧ h.get id = some cs ∧ h.floor ≤ id ∧ oZ (h.set id (cs.set i x)) v (cs.set i x) := by
 rcases o with ⟨rfl, rfl⟩ | ⟨id, rfl, h1, h2, h3⟩
 · simp at hi
 · exact ⟨id, rfl, h1, h2, .inr ⟨id, by simp, by rw [H.dU, if_pos rfl, h1]; rfl, by simpa using h2, by intro e; apply h3; have := Pc List.length e; simpa using this⟩⟩
theorem DC {x y : ByteArray} (h : x.size + y.size ≤ 9223372036854775807) : bD .add (.str x) (.str y) = some (.str (x ++ y)) := by
 simp only [bD, kP, if_pos h]
structure OK (a t : ByteArray) : Prop where
 sz : a.size ≤ t.size
 bit : ∀ i, i < 8 * a.size → yK a i = yK t i
section
variable {a t : ByteArray} (h : OK a t)
include h
end
variable {t : ByteArray} {most most' : Int}
theorem HV {s : ByteArray} {n : Nat} (hn : n ≤ s.size) : po (.str s) none (some (I n)) = some (.str (s.extract 0 n)) := by
 have : lL (I n) s.size = some n := El hn
 simp [po, aC, this]
theorem ya (l : List Nat) : (bytesOf l).size = l.length := by
 show (l.map UInt8.ofNat).toArray.size = _
 simp
structure FC where
 f : Nat
 text : ByteArray
 most : Int
structure Ft (c : FC) (S : SS) (h : H) (ov : AV) : Prop where
 gf : h.get c.f = some [.str c.text, I S.at_, ov, I c.most, I S.e]
 own : oZ h ov (Ap S.out)
 ff : h.floor ≤ c.f
 of : ov.id? ≠ some c.f
 nx : h.floor ≤ h.next
 sz : c.text.size < 1125899906842624
 zu : S.at_ ≤ 8 * c.text.size
 ol : (S.out.length : Int) ≤ c.most
 ml : c.most ≤ 900000
structure FF (c : FC) (h : H) (ov : AV) (h' : H) (ov' : AV) : Prop where
 fl : h'.floor = h.floor
 nx : h.next ≤ h'.next
 EC : ∀ id, id < h.next → id ≠ c.f → ov.id? ≠ some id → h'.get id = h.get id
 nb : ∀ i, ov'.id? = some i → ov.id? = some i ∨ h.next ≤ i
theorem FF.refl (c : FC) (h : H) (ov : AV) : FF c h ov h ov := ⟨rfl, wV _, fun _ _ _ _ => rfl, fun _ q => .inl q⟩
theorem FF.trans {c : FC} {h1 h2 h3 : H} {o1 o2 o3 : AV} (a : FF c h1 o1 h2 o2) (b : FF c h2 o2 h3 o3) : FF c h1 o1 h3 o3 := by
 refine ⟨b.fl.trans a.fl, xA a.nx b.nx, fun id h4 h5 h7 => ?_, fun i hi => ?_⟩
 · rw [b.EC id (Nat.lt_of_lt_of_le h4 a.nx) h5 (fun q => ?_), a.EC id h4 h5 h7]
   rcases a.nb id q with q | q
   · exact h7 q
   · omega
 · rcases b.nb i hi with q | q
   · exact a.nb i q
   · exact .inr (xA a.nx q)
theorem Ft.yV {c : FC} {S : SS} {h h' : H} {ov : AV} (st : Ft c S h ov) (hf : h'.floor = h.floor) (hn : h.next ≤ h'.next) (hg : ∀ i, i = c.f ∨ ov.id? = some i → h'.get i = h.get i) : Ft c S h' ov :=
 ⟨by rw [hg _ (.inl rfl)]; exact st.gf, st.own.mono hf fun i hi => hg i (.inr hi), by rw [hf]; exact st.ff, st.of, by rw [hf]; exact xA st.nx hn, st.sz, st.zu, st.ol, st.ml⟩
theorem Ft.lt {c : FC} {S : SS} {h : H} {ov : AV} (st : Ft c S h ov) {i : Nat} (hi : i = c.f ∨ ov.id? = some i) : i < h.next := by
 rcases hi with rfl | hi
 · exact h.lt _ _ st.gf
 · exact st.own.lt hi
theorem Ft.alloc {c : FC} {S : SS} {h : H} {ov : AV} (st : Ft c S h ov) (cs : List AV) : Ft c S (h.alloc cs) ov ∧ FF c h ov (h.alloc cs) ov := by
 refine ⟨st.yV (by simp) (by simp) fun i hi => ?_, ⟨by simp, by simp, fun id h1 _ _ => ?_, fun _ q => .inl q⟩⟩
 · have := st.lt hi; rw [H.aX, if_neg (by omega)]
 · rw [H.aX, if_neg (by omega)]
structure OP (h0 h : H) (b : Nat) (D : Nat → AV) (k : Nat) (p S0 : List Int) : Prop where
 get : h.get b = some (o7 17 D)
 fl : h.floor = h0.next
 fb : h0.next ≤ b
 nx : h.floor ≤ h.next
 low : ∀ id, id < h0.next → h.get id = h0.get id
 ck : D k = I (A4 p k)
 own : oZ h (D 16) (ints (S0 ++ syms p k))
 nb : (D 16).id? ≠ some b
theorem CV {h : H} {v : AV} {l : List Int} {fl : Nat} (o : oZ h v (ints l)) (hf : fl ≤ h.floor) (hl : l ≠ []) : snap h.get fl 16 true v = some (zJ l) := by
 rcases o with ⟨_, q⟩ | ⟨id, rfl, q, h2, _⟩
 · exact absurd (List.map_eq_nil_iff.1 q) hl
 · unfold snap
   rw [if_neg (by omega), q, wS, if_pos (by omega)]
   rw [O0, Pd, List.take_length, yQ]
   simp [zJ]
abbrev E7 (k : Int) : Prop := k = 700 ∨ k = 701
theorem Cp {t : ByteArray} {most k : Int} : ∀ {n p : Nat} {out : List Nat}, yW t most n p out = .error k → E7 k
 | 0, p, out, h => by cases h
 | n + 1, p, out, h => by
   unfold yW at h
   split at h
   · split at h
     · cases h; exact .inr rfl
     · exact Cp h
   · cases h; exact .inl rfl
theorem Eo {t : ByteArray} {most k : Int} {p : Nat} {out : List Nat} (h : Am t most p out = .error k) : E7 k := by
 unfold Am at h
 dsimp only at h
 split at h
 · split at h
   · exact Cp h
   · cases h; exact .inl rfl
 · cases h; exact .inl rfl
theorem CD {most k : Int} {d : Nat} : ∀ {n : Nat} {out : List Nat}, Bi most d n out = .error k → E7 k
 | 0, out, h => by cases h
 | n + 1, out, h => by
   unfold Bi at h
   split at h
   · cases h; exact .inr rfl
   · exact CD h
theorem FU {t : ByteArray} {most k : Int} {dl : List Int} {y p : Nat} {out : List Nat} (h : Bh t most dl y p out = .error k) : E7 k := by
 unfold Bh at h
 split at h
 · cases h; exact .inl rfl
 · split at h
   · split at h
     · cases h; exact .inl rfl
     · split at h
       · cases h; exact .inl rfl
       · split at h
         · split at h
           · cases h
           · rename_i q; cases h; exact CD q
         · cases h; exact .inl rfl
   · cases h; exact .inl rfl
theorem zH {t : ByteArray} {most k : Int} {ll dl : List Int} : ∀ {n p : Nat} {out : List Nat}, y7 t most ll dl n p out = .error k → E7 k
 | 0, p, out, h => by cases h; exact .inl rfl
 | n + 1, p, out, h => by
   unfold y7 at h
   split at h
   · cases h; exact .inl rfl
   · split at h
     · split at h
       · cases h; exact .inr rfl
       · exact zH h
     · split at h
       · cases h
       · split at h
         · exact zH h
         · rename_i q; cases h; exact FU q
theorem GS {t : ByteArray} {most k : Int} {p : Nat} {out : List Nat} (h : FW t most p out = .error k) : E7 k := by
 unfold FW at h
 dsimp only at h
 split at h
 · split at h
   · cases h; exact .inl rfl
   · split at h
     · cases h; exact .inl rfl
     · split at h
       · cases h; exact .inl rfl
       · exact zH h
 · cases h; exact .inl rfl
theorem EI {t : ByteArray} {most k : Int} {p : Nat} {out : List Nat} (h : zS t most p out = .error k) : E7 k := by
 unfold zS at h
 dsimp only at h
 split at h
 · split at h
   · cases h
   · rename_i q
     cases h
     split at q
     · exact Eo q
     · split at q
       · exact zH q
       · split at q
         · exact GS q
         · cases q; exact .inl rfl
 · cases h; exact .inl rfl
theorem Bj {t : ByteArray} {most k : Int} : ∀ {n p : Nat} {out : List Nat}, zd t most n p out = .error k → E7 k
 | 0, p, out, h => by
   unfold zd at h
   cases h; exact .inl rfl
 | n + 1, p, out, h => by
   unfold zd at h
   split at h
   · rename_i q; cases h; exact EI q
   · split at h
     · cases h
     · exact Bj h
theorem Di {t : ByteArray} {most k : Int} (h : zE t most = .error k) : E7 k := by
 unfold zE at h
 split at h
 · cases h; exact .inl rfl
 · split at h
   · cases h
   · rename_i q; cases h; exact Bj q
theorem dt {p : Prop} [Decidable p] (h : p) : decide p = true := OU h
theorem df {p : Prop} [Decidable p] (h : ¬ p) : decide p = false := OQ h
theorem OE {a b : Int} (h : a = b) : (a == b) = true := by simp [h]
theorem Oq {a b : Int} (h : ¬ a = b) : (a == b) = false := by simp [h]
theorem Ov {a b : Int} (h : ¬ a = b) : (a != b) = true := by simp [h]
theorem Od {a b : Int} (h : a = b) : (a != b) = false := by simp [h]
theorem wi {n : Int} (h : -9223372036854775808 ≤ n ∧ n < 9223372036854775808) : IntKind.wrap .i64 n = n := vK h.1 (by omega)
theorem wb {n : Int} (h : 0 ≤ n ∧ n < 256) : IntKind.wrap .u8 n = n := by
 simp [IntKind.wrap, IntKind.bits, IntKind.signed]; omega
theorem Mq {i : Int} {n : Nat} (h : 0 ≤ i ∧ i < n) : dx (.int .i64 i) n = some i.toNat := by
 simp [dx, pj, h]
def at_ : Nat → aH → aH
 | 0, .seq a _ => a
 | 0, c => c
 | n + 1, .seq _ b => at_ n b
 | _ + 1, c => c
def Oe : Nat → aH → aH
 | 0, c => c
 | n + 1, .seq _ b => Oe n b
 | _ + 1, c => c
theorem MA (a b : aH) : at_ 0 (.seq a b) = a := rfl
theorem Mz (n : Nat) (a b : aH) : at_ (n + 1) (.seq a b) = at_ n b := rfl
theorem Ob (c : aH) : Oe 0 c = c := rfl
theorem Oa (n : Nat) (a b : aH) : Oe (n + 1) (.seq a b) = Oe n b := rfl
theorem zU {h : H} {id i : Nat} (e : ¬ i = id) : (h.del id).get i = h.get i := by rw [H.eO, if_neg e]
theorem AY (h : H) : h.eJ.next = h.next := wP rfl rfl
theorem AR (h : H) : h.eJ.floor = h.next := wP rfl rfl
theorem AU (h : H) (i : Nat) : h.eJ.get i = h.get i := wP rfl rfl
theorem Dl (h : H) (i : Nat) : (h.del i).next = h.next := wP rfl rfl
theorem De (h : H) (i : Nat) : (h.del i).floor = h.floor := wP rfl rfl
theorem xL {h : H} {cs : List AV} {i : Nat} (e : i = h.next) : (h.alloc cs).get i = some cs := by rw [H.aX, if_pos e]
theorem yh {h : H} {cs : List AV} {i : Nat} (e : ¬ i = h.next) : (h.alloc cs).get i = h.get i := by rw [H.aX, if_neg e]
theorem yu {h : H} {cs : List AV} {id i : Nat} (e : i = id) : (h.set id cs).get i = (h.get i).map fun _ => cs := by rw [H.dU, if_pos e, e]
theorem yc {h : H} {cs : List AV} {id i : Nat} (e : ¬ i = id) : (h.set id cs).get i = h.get i := by rw [H.dU, if_neg e]
def yB {α : Type} (b : Bool) (x : α) : Option α := if b then some x else none
theorem E9 {α : Type} (x : α) : yB true x = some x := rfl
theorem HG (h : H) (id off n : Nat) (v cs : List AV) : vZ h id off n v (some cs) = yB (decide (h.floor ≤ id) && (decide (v.length = n) && (decide (off + n ≤ cs.length) && AV.aD v))) (h.set id (setFrom cs off v)) := by
 simp only [vZ, wS, yB]
 by_cases c : h.floor ≤ id ∧ v.length = n ∧ off + n ≤ cs.length ∧ AV.aD v = true
 · rw [if_pos c]; obtain ⟨c1, c2, c3, c4⟩ := c; simp [c1, c2, c3, c4]
 · rw [if_neg c, if_neg]; simpa using c
theorem OI (n : Nat) (cs : List AV) (off : Nat) : iT true n cs off = yB (decide (off + n ≤ cs.length)) (.agg ((cs.drop off).take n)) := by
 simp only [iT, yB, if_true, OY]
theorem GW (z : List AV) : eK z [] = some z := rfl
def DY (r : List (Nat × Nat × AV)) (p : Option (List AV)) : Option (List AV) := p.bind fun z => eK z r
theorem Fg (r : List (Nat × Nat × AV)) (z : List AV) : DY r (some z) = eK z r := rfl
theorem GV (z : List AV) (o n : Nat) (v : AV) (r : List (Nat × Nat × AV)) : eK z ((o, n, v) :: r) = DY r (yB (decide (v.cells.length = n) && (decide (o + n ≤ z.length) && AV.aD v.cells)) (setFrom z o v.cells)) := by
 simp only [eK, yB]
 by_cases c : v.cells.length = n ∧ o + n ≤ z.length ∧ AV.aD v.cells = true
 · rw [if_pos c]; obtain ⟨c1, c2, c3⟩ := c; simp [c1, c2, c3, DY]
 · rw [if_neg c, if_neg]; · rfl
   simpa using c
def DK (p : Option (List AV)) (f : Nat → AV) : Option (List AV × (Nat → AV)) := p.bind fun cs => some (cs, f)
theorem GH (cs : List AV) (f : Nat → AV) : DK (some cs) f = some (cs, f) := rfl
theorem CB (e : Env) (z : List AV) : aZ e (.alloc z) = DK (yB (AV.aD z) z) (fun i => .aE i 0) := by
 simp only [aZ, yB]; split <;> rfl
theorem E3 (e : Env) (n : Nat) (x : X) : aZ e (.box n x) = DK (yB (decide ((x.ev e).cells.length = n) && AV.aD (x.ev e).cells) (x.ev e).cells) (fun i => .aE i 0) := by
 simp only [aZ, yB]
 by_cases c : (x.ev e).cells.length = n ∧ AV.aD (x.ev e).cells = true
 · rw [if_pos c]; simp [c, DK]
 · rw [if_neg c, if_neg]; · rfl
   simpa using c
theorem BJ (e : Env) (sz len : Nat) (z : List AV) (ps : List (Nat × X)) : aZ e (.dg sz len z ps) = DK (DY (ps.map fun p => (p.1 * sz, sz, p.2.ev e)) (yB (decide (z.length = sz) && (decide (0 < sz) && AV.aD z)) (eo len z))) (fun i => .aF i 0 len sz) := by
 simp only [aZ, yB]
 by_cases c : z.length = sz ∧ 0 < sz ∧ AV.aD z = true
 · rw [if_pos c]; simp [c, DK, DY]
 · rw [if_neg c, if_neg]; · rfl
   simpa using c
theorem Ht (z : List AV) : eo 0 z = [] := rfl
theorem Hs (n : Nat) (z : List AV) : eo (n + 1) z = z ++ eo n z := rfl
def LU (yV : List Nat) (e : Env) (h : H) (b : Bool) : ed := if b then some (.normal, az e yV, h) else none
theorem G7 (yV : List Nat) (e : Env) (h : H) : LU yV e h true = some (.normal, az e yV, h) := rfl
def OG (c : ah) (ops : List ak) (fl : List (Nat × List Nat)) (yV : List Nat) (p : Option (Env × H × List H)) : ed := p.bind fun q => LU yV q.1 q.2.1 (bc c ops q.1 q.2.2 fl)
theorem I6 (c : ah) (ops : List ak) (fl : List (Nat × List Nat)) (yV : List Nat) (e : Env) (h : H) (gs : List H) : OG c ops fl yV (some (e, h, gs)) = LU yV e h (bc c ops e gs fl) := rfl
theorem EZ (c : ah) (l : bQ) (ord : List Nat) (ops : List ak) (x : Nat × List Nat) (fl : List (Nat × List Nat)) (yV : List Nat) (e : Env) (h : H) : aM c l (.jD ord ops (x :: fl) yV) e h = OG c ops (x :: fl) yV (aO c ops e h) := by
 rw [aM]; rfl
theorem Js (c : ah) (ops : List ak) (e : Env) (gs : List H) : bc c ops e gs [] = true := rfl
def N8 (c : ah) (ops : List ak) (e : Env) (gs : List H) (i : Nat) (ks : List Nat) : Bool := ks.all (bO c ops e gs i)
theorem Jr (c : ah) (ops : List ak) (e : Env) (gs : List H) (i : Nat) (ks : List Nat) (r : List (Nat × List Nat)) : bc c ops e gs ((i, ks) :: r) = (N8 c ops e gs i ks && bc c ops e gs r) := rfl
theorem Jp (c : ah) (ops : List ak) (e : Env) (gs : List H) (i : Nat) : N8 c ops e gs i [] = true := rfl
def Mh (c : ah) (e : Env) (o : Option ak) (g : Option H) : Bool := match o, g with
 | some o, some g =>
   if o.op.aJ then
    match o.dst.map (look e) with
    | some (.bV []) => true
    | some v => (match v.id?, aZ e o.op with
      | some id, some b => (match g.get id with | some cs => AV.gV cs b.1 | none => false)
      | _, _ => false)
    | none => false
   else match o.dst.map (look e) with
    | some v => (match aj c o e g with | some (u, _) => AV.beq u v | none => false)
    | none => false
 | _, _ => false
theorem Jo (c : ah) (ops : List ak) (e : Env) (gs : List H) (i k : Nat) (r : List Nat) : N8 c ops e gs i (k :: r) = (Mh c e (ops[i]?) (gs[k]?) && N8 c ops e gs i r) := by
 unfold N8
 rw [List.all_cons]
 congr 1
def Oz (v : AV) (p : Option (AV × H)) : Bool := match p with | some (u, _) => AV.beq u v | none => false
theorem Jq (v u : AV) (h : H) : Oz v (some (u, h)) = AV.beq u v := rfl
def Mt (b : Bool) (x y : Bool) : Bool := if b then x else y
theorem Jm (x y : Bool) : Mt false x y = y := rfl
def Cz (c : ah) (e : Env) (o : Option ak) (g : Option H) : Bool := Mh c e o g
theorem Jl (c : ah) (e : Env) (d : Nat) (op : ch) (g : H) : Mh c e (some ⟨some d, op, none⟩) (some g) = Mt op.aJ (Cz c e (some ⟨some d, op, none⟩) (some g)) (Oz (look e d) (ai c e g op)) := by
 unfold Cz Mh Mt
 dsimp only
 cases op.aJ <;> rfl
theorem Jk (c : ah) (e : Env) (d : Nat) (op : ch) (k : Nat) (w : Bool) (g : H) : Mh c e (some ⟨some d, op, some (k, w)⟩) (some g) = Mt op.aJ (Cz c e (some ⟨some d, op, some (k, w)⟩) (some g)) (Oz (look e d) (mS w c e g op (look e k))) := by
 unfold Cz Mh Mt
 dsimp only
 cases op.aJ with
 | true => rfl
 | false => rw [oz]; rfl
mutual
theorem beq_refl : ∀ a : AV, AV.beq a a = true
 | .bot => rfl
 | .bool b => by simp [AV.beq]
 | .int k n => by simp [AV.beq]
 | .str s => Bs s
 | .cO => rfl
 | .aE i o => by simp [AV.beq]
 | .aL c o => by simp [AV.beq, yz c]
 | .aQ => rfl
 | .aF i o l z => by simp [AV.beq]
 | .aW t c o l z => by simp [AV.beq, yz c]
 | .fn f a b => by simp [AV.beq, yz a, yz b]
 | .fH => rfl
 | .iface t v => by simp [AV.beq, beq_refl v]
 | .fI => rfl
 | .agg c => by simp [AV.beq, yz c]
 | .bV c => by simp [AV.beq, yz c]
theorem yz : ∀ l : List AV, AV.gV l l = true
 | [] => rfl
 | a :: l => by simp [AV.gV, beq_refl a, yz l]
end
theorem Jn (x y : Bool) : Mt true x y = x := rfl
def MD (c : Option (List AV)) (d : List AV) : Bool := match c with | some cs => AV.gV cs d | none => false
theorem I3 (c d : List AV) : MD (some c) d = AV.gV c d := rfl
def Dz (v : AV) (b : Option (List AV × (Nat → AV))) (g : H) : Bool := match v with
 | .bV [] => true
 | v => match v.id?, b with
   | some id, some b => MD (g.get id) b.1
   | _, _ => false
theorem HF (b : Option (List AV × (Nat → AV))) (g : H) : Dz (.bV []) b g = true := rfl
theorem HE (i o : Nat) (cs : List AV) (f : Nat → AV) (g : H) : Dz (.aE i o) (some (cs, f)) g = MD (g.get i) cs := rfl
theorem HD (i o l z : Nat) (cs : List AV) (f : Nat → AV) (g : H) : Dz (.aF i o l z) (some (cs, f)) g = MD (g.get i) cs := rfl
theorem Bx {c : ah} {e : Env} {d : Nat} {op : ch} {gd : Option (Nat × Bool)} {g : H} (hb : op.aJ = true) : Cz c e (some ⟨some d, op, gd⟩) (some g) = Dz (look e d) (aZ e op) g := by
 unfold Cz Mh
 dsimp only
 rw [hb, if_pos rfl]
 show (match some (look e d) with
  | some (.bV []) => true
  | some v => (match v.id?, aZ e op with
    | some id, some b => (match g.get id with | some cs => AV.gV cs b.1 | none => false)
    | _, _ => false)
  | none => false) = _
 generalize look e d = v
 unfold Dz MD
 cases v with
 | bV vs => cases vs <;> rfl
 | _ => cases aZ e op <;> rfl
theorem Co (c : ah) (e : Env) (d : Nat) (z : List AV) (gd : Option (Nat × Bool)) (g : H) : Cz c e (some ⟨some d, .alloc z, gd⟩) (some g) = Dz (look e d) (aZ e (.alloc z)) g := Bx rfl
theorem En (c : ah) (e : Env) (d n : Nat) (x : X) (gd : Option (Nat × Bool)) (g : H) : Cz c e (some ⟨some d, .box n x, gd⟩) (some g) = Dz (look e d) (aZ e (.box n x)) g := Bx rfl
theorem Bq (c : ah) (e : Env) (d n m : Nat) (z : List AV) (ps : List (Nat × X)) (gd : Option (Nat × Bool)) (g : H) : Cz c e (some ⟨some d, .dg n m z ps, gd⟩) (some g) = Dz (look e d) (aZ e (.dg n m z ps)) g := Bx rfl
theorem CW (c : ah) (e : Env) (d n m : Nat) (z : List AV) (x y : X) (gd : Option (Nat × Bool)) (g : H) : Cz c e (some ⟨some d, .jF n m z x y, gd⟩) (some g) = Dz (look e d) (aZ e (.jF n m z x y)) g := Bx rfl
theorem DF (b : Bool) : AV.beq (.bool b) (.bool b) = true := by simp [AV.beq]
theorem DJ : AV.beq (.bV []) (.bV []) = true := rfl
theorem DG : AV.beq .aQ .aQ = true := rfl
theorem CA : AV.beq .cO .cO = true := rfl
theorem Hb (sz id off len : Nat) (i : AV) : gS sz (.aF id off len sz) i = wo id off sz (dx i len) := by simp [gS, wo]
theorem Ha (t : Bool) (cells : List AV) (sz off len : Nat) (i : AV) : gS sz (.aW t cells off len sz) i = wq cells off sz (dx i len) := by simp [gS, wq]
def Cj (n : Nat) (z : List AV) : List AV := eo n z
def I9 (sz bytes : Nat) (zero : List AV) (l c : AV) : Option (List AV × (Nat → AV)) :=
 match l, c with
 | .int .i64 l, .int .i64 c => DK (yB (decide (0 ≤ l) && (decide (l ≤ c) && (decide (c ≤ 9223372036854775807) && (decide ((bytes : Int) * c ≤ 281474976710656) && (decide (zero.length = sz) && (decide (0 < sz) && AV.aD zero)))))) (Cj c.toNat zero)) (fun i => .aF i 0 l.toNat sz)
 | _, _ => none
theorem Dk (sz bytes : Nat) (zero : List AV) (l c : Int) : I9 sz bytes zero (.int .i64 l) (.int .i64 c) = DK (yB (decide (0 ≤ l) && (decide (l ≤ c) && (decide (c ≤ 9223372036854775807) && (decide ((bytes : Int) * c ≤ 281474976710656) && (decide (zero.length = sz) && (decide (0 < sz) && AV.aD zero)))))) (Cj c.toNat zero)) (fun i => .aF i 0 l.toNat sz) := rfl
theorem DL (e : Env) (sz bytes : Nat) (zero : List AV) (l c : X) : aZ e (.jF sz bytes zero l c) = I9 sz bytes zero (l.ev e) (c.ev e) := by
 simp only [aZ]
 cases l.ev e with
 | int k l => cases k <;> cases c.ev e with
   | int k2 c => cases k2 <;> first
     | rfl
     | (simp only [Dk, yB]
        by_cases q : 0 ≤ l ∧ l ≤ c ∧ c ≤ 9223372036854775807 ∧ (bytes : Int) * c ≤ 281474976710656 ∧ zero.length = sz ∧ 0 < sz ∧ AV.aD zero = true
        · rw [if_pos q]; obtain ⟨q1, q2, q3, q4, q5, q6, q7⟩ := q
          rw [if_pos]
          · rfl
          · simp [q1, q2, q3, q4, q5, q6, q7]
        · rw [if_neg q, if_neg]
          · rfl
          · simpa using q)
   | _ => rfl
 | _ => cases c.ev e <;> rfl
theorem GA (i o l z : Nat) : jN false (.aF i o l z) = some (.int .i64 l) := rfl
theorem Gz : jN false .aQ = some (.int .i64 0) := rfl
theorem Gy (t : Bool) (c : List AV) (o l z : Nat) : jN false (.aW t c o l z) = some (.int .i64 l) := rfl
theorem AG (s : ByteArray) : jN true (.str s) = some (.int .i64 s.size) := rfl
theorem HM (a b : Nat) : ((a : Int) + (b : Int)).toNat = a + b := by omega
theorem zq (a : Nat) : ((a : Int)).toNat = a := by omega
def zr (s : ByteArray) (i : Nat) : Nat := ((s[i]?).map (·.toNat)).getD 0
theorem Ax (s : ByteArray) (i : Nat) : zr s i < 256 := by
 unfold zr
 cases s[i]? with
 | none => simp
 | some b => simp; exact b.toNat_lt
theorem Dh {s : ByteArray} {i : Int} (h : 0 ≤ i ∧ i < s.size) : nN (.str s) (.int .i64 i) = some (.int .u8 (zr s i.toNat : Nat)) := by
 have hi : i.toNat < s.size := by omega
 simp [nN, Mq h, zr, hi]
def Ba {α : Type} (b : Bool) (x y : Option α) : Option α := if b then x else y
theorem Hw {α : Type} (x y : Option α) : Ba true x y = x := rfl
theorem Hv {α : Type} (x y : Option α) : Ba false x y = y := rfl
def Mf (n o k : Nat) (p : Option (List AV)) : Option (Nat × List AV) := p.bind fun cs => yB (decide (o + k * n ≤ cs.length)) (k, (cs.drop o).take (k * n))
theorem HC (n o k : Nat) (cs : List AV) : Mf n o k (some cs) = yB (decide (o + k * n ≤ cs.length)) (k, (cs.drop o).take (k * n)) := rfl
theorem Ji (h : H) (n p o k : Nat) : aT h n (.aF p o k n) = Mf n o k (h.get p) := by
 simp only [aT, if_true, Mf]
 cases h.get p with
 | none => rfl
 | some cs => simp only [wS, yB, OY]
theorem Jg (h : H) (t : Bool) (n o k : Nat) (cs : List AV) : aT h n (.aW t cs o k n) = yB (decide (o + k * n ≤ cs.length)) (k, (cs.drop o).take (k * n)) := by
 simp only [aT, if_true, yB, OY]
theorem Jh (h : H) (n : Nat) : aT h n .aQ = some (0, []) := wP rfl rfl
theorem Jj (h : H) (s : ByteArray) : aT h 1 (.str s) = some (s.size, s.data.toList.map fun b => .int .u8 b.toNat) := wP rfl rfl
def My (h : H) (n z : Nat) (a : AV) (p : Option (Nat × List AV)) : Option (AV × H) := p.bind fun r => ey h n z a r.1 r.2
theorem GC (h : H) (n z : Nat) (a : AV) (m : Nat) (bs : List AV) : My h n z a (some (m, bs)) = ey h n z a m bs := rfl
theorem IZ (h : H) (n z : Nat) (a b : AV) : mC h n z a b = My h n z a (aT h n b) := wP rfl rfl
def Oj (h : H) (n z p o k m : Nat) (bs : List AV) (q : Option (List AV)) : Option (AV × H) := q.bind fun cs =>
 Ba (decide (o + (k + m) * n ≤ cs.length)) (some (.aF p o (k + m) n, h.set p (setFrom cs (o + k * n) bs))) (Ba (decide (o + k * n = cs.length) && roomy z (k + m)) (some (.aF h.next 0 (k + m) n, (h.del p).alloc (cs.drop o ++ bs))) none)
theorem IV (h : H) (n z p o k m : Nat) (bs cs : List AV) : Oj h n z p o k m bs (some cs) = Ba (decide (o + (k + m) * n ≤ cs.length)) (some (.aF p o (k + m) n, h.set p (setFrom cs (o + k * n) bs))) (Ba (decide (o + k * n = cs.length) && roomy z (k + m)) (some (.aF h.next 0 (k + m) n, (h.del p).alloc (cs.drop o ++ bs))) none) := rfl
theorem IY (h : H) (n z p o k m : Nat) (bs : List AV) : ey h n z (.aF p o k n) m bs = Ba (decide (m = 0)) (some (.aF p o k n, h)) (Ba (AV.aD bs && (decide (0 < n) && decide (h.floor ≤ p))) (Oj h n z p o k m bs (h.get p)) none) := by
 unfold ey Ba
 by_cases c : m = 0
 · simp [c]
 · rw [if_neg c]
   simp only [OY, if_neg c]
   by_cases c1 : AV.aD bs = false ∨ n = 0
   · rw [if_pos c1, if_neg]
     rcases c1 with c1 | c1
     · simp [c1]
     · simp [c1]
   · rw [if_neg c1]
     have q1 : AV.aD bs = true := by cases q : AV.aD bs with | true => rfl | false => exact absurd (.inl q) c1
     by_cases c2 : h.floor ≤ p
     · have qq : (AV.aD bs && (decide (0 < n) && decide (h.floor ≤ p))) = true := by simp [q1, c2]; omega
       simp only [true_and, if_pos c2, qq, if_true, Oj, Ba]
       cases h.get p with
       | none => rfl
       | some cs => simp only [wS, OY, wW]
     · have qq : (AV.aD bs && (decide (0 < n) && decide (h.floor ≤ p))) = false := by simp [c2]
       simp only [true_and, if_neg c2, qq]; rfl
theorem IX (h : H) (n z m : Nat) (bs : List AV) : ey h n z .aQ m bs = Ba (decide (m = 0)) (some (.aQ, h)) (Ba (AV.aD bs && (decide (0 < n) && roomy z m)) (some (.aF h.next 0 m n, h.alloc bs)) none) := by
 unfold ey Ba
 by_cases c : m = 0
 · simp [c]
 · rw [if_neg c]
   simp only [OY, if_neg c]
   by_cases c1 : AV.aD bs = false ∨ n = 0
   · rw [if_pos c1, if_neg]
     rcases c1 with c1 | c1
     · simp [c1]
     · simp [c1]
   · rw [if_neg c1]
     have q1 : AV.aD bs = true := by cases q : AV.aD bs with | true => rfl | false => exact absurd (.inl q) c1
     have q2 : 0 < n := by omega
     simp [q1, q2]
theorem Fp {b n : Nat} (h : 1 ≤ b ∧ (n + n / 4 + 512) * b ≤ 281474976710656) : roomy b n = true := by simp only [roomy, h.1, h.2, and_self, decide_true]
theorem BV {α : Type} {C : α → List AV} {n : Nat} (hC : ∀ x, (C x).length = n) : ∀ {l : List α} {i f : Nat} {x : α}, l[i]? = some x → f < n → (l.flatMap C)[i * n + f]? = (C x)[f]?
 | [], i, f, x, h, _ => by simp at h
 | y :: l, 0, f, x, h, hf => by
   obtain rfl : y = x := by simpa using h
   rw [List.flatMap_cons, Nat.zero_mul, w8, List.getElem?_append_left (by rw [hC]; exact hf)]
 | y :: l, i + 1, f, x, h, hf => by
   rw [List.flatMap_cons, List.getElem?_append_right (by rw [hC, xy]; omega), hC]
   rw [show (i + 1) * n + f - n = i * n + f by rw [xy]; omega]
   exact BV hC (by simpa using h) hf
theorem GY {α : Type} {C : α → List AV} {n : Nat} (hC : ∀ x, (C x).length = n) : ∀ l : List α, (l.flatMap C).length = l.length * n
 | [] => by simp
 | y :: l => by rw [List.flatMap_cons, xD, hC, GY hC l, OS, xy]; omega
theorem Fh {α : Type} {C : α → List AV} {n : Nat} (hC : ∀ x, (C x).length = n) : ∀ {l : List α} {i : Nat} {x : α}, l[i]? = some x → ((l.flatMap C).drop (i * n)).take n = C x
 | [], i, x, h => by simp at h
 | y :: l, 0, x, h => by
   obtain rfl : y = x := by simpa using h
   rw [List.flatMap_cons, Nat.zero_mul, O0, List.take_append_of_le_length (by rw [hC]; omega), xu (by rw [hC]; omega)]
 | y :: l, i + 1, x, h => by
   rw [List.flatMap_cons, List.drop_append, List.drop_of_length_le (by rw [hC, xy]; omega), List.nil_append, hC, show (i + 1) * n - n = i * n by rw [xy]; omega]
   exact Fh hC (by simpa using h)
def zk (n : Nat) (h : H) (v : AV) (k : Nat) (cs : List AV) : Prop := aT h n v = some (k, cs) ∧ cs.length = k * n ∧ ∀ s, v ≠ .str s
theorem Rd.Ms {h : H} {v : AV} {cs : List AV} (r : Rd h v cs) : zk 1 h v cs.length cs := ⟨r.1, by omega, r.2⟩
theorem zk.len {n : Nat} {h : H} {v : AV} {k : Nat} {cs : List AV} (r : zk n h v k cs) : jN false v = some (.int .i64 k) := by
 obtain ⟨r, _, hs⟩ := r
 unfold aT at r
 split at r
 · obtain ⟨h1, h2⟩ := wN (wL r); subst h1; rfl
 · exact absurd rfl (hs _)
 · split at r
   · simp only [wK] at r
     obtain ⟨c, _, r⟩ := r
     split at r
     · obtain ⟨h1, h2⟩ := wN (wL r); simp [jN, h1]
     · cases r
   · cases r
 · split at r
   · split at r
     · obtain ⟨h1, h2⟩ := wN (wL r); simp [jN, h1]
     · cases r
   · cases r
 · cases r
theorem zk.mono {n : Nat} {h g : H} {v : AV} {k : Nat} {cs : List AV} (r : zk n h v k cs) (hg : ∀ id c, h.get id = some c → g.get id = some c) : zk n g v k cs := by
 obtain ⟨r, hl, hs⟩ := r
 refine ⟨?_, hl, hs⟩
 unfold aT at r ⊢
 split at r
 · exact r
 · exact r
 · split at r
   · rename_i q; simp only [if_pos q, wK] at r ⊢
     obtain ⟨c, h1, r⟩ := r
     exact ⟨c, hg _ _ h1, r⟩
   · cases r
 · exact r
 · cases r
theorem zk.at_ {n : Nat} {h : H} {v : AV} {k : Nat} {cs : List AV} (r : zk n h v k cs) : ∃ ad : Int → Nat → AV,
 (∀ i : Int, 0 ≤ i ∧ i < k → gS n v (.int .i64 i) = some (ad i 0)) ∧
 (∀ (i : Int) (f g : Nat), 0 ≤ i ∧ i < k → fS g (ad i f) = some (ad i (f + g))) ∧
 (∀ (i : Int) (f : Nat) (g : H), 0 ≤ i ∧ i < k → kh g (ad i f) = some (ad i f, g)) ∧
 (∀ g : H, (∀ id c, h.get id = some c → g.get id = some c) → (∀ (i : Int) (f : Nat) (c : AV), 0 ≤ i ∧ i < k → cs[i.toNat * n + f]? = some c → bZ false 1 (ad i f) g = some c) ∧
   ∀ i : Int, 0 ≤ i ∧ i < k → bZ true n (ad i 0) g = some (.agg ((cs.drop (i.toNat * n)).take n))) := by
 obtain ⟨r, hl, hs⟩ := r
 unfold aT at r
 split at r
 · obtain ⟨h1, h2⟩ := wN (wL r); subst h1
   exact ⟨fun _ _ => .bot, fun i hi => by omega, fun i f g hi => by omega, fun i f g hi => by omega, fun g _ => ⟨fun i f c hi => by omega, fun i hi => by omega⟩⟩
 · exact absurd rfl (hs _)
 · rename_i id off len s
   split at r
   · rename_i q
     subst q
     simp only [wK] at r
     obtain ⟨d, hd, r⟩ := r
     split at r
     · rename_i hle
       obtain ⟨h1, h2⟩ := wN (wL r)
       subst h1
       have bnd : ∀ i : Int, 0 ≤ i ∧ i < len → i.toNat * s + s ≤ len * s := fun i hi => by
        have := wY s (show i.toNat + 1 ≤ len by omega); rw [xy] at this; omega
       refine ⟨fun i f => .aE id (off + i.toNat * s + f), fun i hi => by simp [gS, Mq hi], fun i f g _ => by simp [fS]; omega, fun i f g _ => rfl, fun g hg => ⟨fun i f c hi hc => ?_, fun i hi => ?_⟩⟩
       · simp only [bZ, hg _ _ hd, wS, iT, wT, xE]
         rw [← h2, xC] at hc
         split at hc
         · rw [xg] at hc; rw [wU]; exact hc
         · cases hc
       · have := bnd i hi
         simp only [bZ, hg _ _ hd, wS, iT, if_true, Nat.add_zero]
         rw [if_pos (by omega), ← h2, List.drop_take, List.take_take, List.drop_drop, Nat.min_eq_left (by omega)]
     · cases r
   · cases r
 · rename_i t cells off len s
   split at r
   · rename_i q
     subst q
     split at r
     · rename_i hle
       obtain ⟨h1, h2⟩ := wN (wL r)
       subst h1
       have bnd : ∀ i : Int, 0 ≤ i ∧ i < len → i.toNat * s + s ≤ len * s := fun i hi => by
        have := wY s (show i.toNat + 1 ≤ len by omega); rw [xy] at this; omega
       refine ⟨fun i f => .aL cells (off + i.toNat * s + f), fun i hi => by simp [gS, Mq hi], fun i f g _ => by simp [fS]; omega, fun i f g _ => rfl, fun g hg => ⟨fun i f c hi hc => ?_, fun i hi => ?_⟩⟩
       · simp only [bZ, iT, wT, xE]
         rw [← h2, xC] at hc
         split at hc
         · rw [xg] at hc; rw [wU]; exact hc
         · cases hc
       · have := bnd i hi
         simp only [bZ, iT, if_true, Nat.add_zero]
         rw [if_pos (by omega), ← h2, List.drop_take, List.take_take, List.drop_drop, Nat.min_eq_left (by omega)]
     · cases r
   · cases r
 · cases r
def yg (n : Nat) (h : H) (v : AV) (k : Nat) (cs : List AV) : Prop := cs.length = k * n ∧ ((v = .aQ ∧ k = 0) ∨ ∃ id, v = .aF id 0 k n ∧ h.get id = some cs ∧ h.floor ≤ id ∧ 0 < k)
theorem yg.nil {n : Nat} {h : H} : yg n h .aQ 0 [] := ⟨by simp, .inl ⟨rfl, rfl⟩⟩
theorem yg.mono {n : Nat} {h g : H} {v : AV} {k : Nat} {cs : List AV} (o : yg n h v k cs) (hf : g.floor = h.floor) (hg : ∀ i, v.id? = some i → g.get i = h.get i) : yg n g v k cs := by
 obtain ⟨l, o⟩ := o
 refine ⟨l, ?_⟩
 rcases o with o | ⟨id, rfl, h1, h2, h3⟩
 · exact .inl o
 · exact .inr ⟨id, rfl, by rw [hg id rfl]; exact h1, by rw [hf]; exact h2, h3⟩
theorem yg.sc {n : Nat} {h : H} {v : AV} {k : Nat} {cs : List AV} (o : yg n h v k cs) : v.sc = true := by
 rcases o.2 with ⟨rfl, _⟩ | ⟨id, rfl, _⟩ <;> rfl
theorem yg.lt {n : Nat} {h : H} {v : AV} {k : Nat} {cs : List AV} (o : yg n h v k cs) {i : Nat} (hi : v.id? = some i) : h.floor ≤ i ∧ i < h.next := by
 rcases o.2 with ⟨rfl, _⟩ | ⟨id, rfl, h1, h2⟩
 · cases hi
 · obtain rfl := wL hi; exact ⟨h2.1, h.lt _ _ h1⟩
theorem yg.rd {n : Nat} {h : H} {v : AV} {k : Nat} {cs : List AV} (o : yg n h v k cs) : zk n h v k cs := by
 obtain ⟨l, o⟩ := o
 rcases o with ⟨rfl, rfl⟩ | ⟨id, rfl, h1, h2⟩
 · have : cs = [] := O9 (by omega)
   subst this
   exact ⟨rfl, by simp, fun _ => by simp⟩
 · refine ⟨?_, l, fun _ => by simp⟩
   simp only [aT, if_true, h1, wS, w8]
   rw [if_pos (by omega), O0, xu (by omega)]
theorem yg.app {n : Nat} {h : H} {v : AV} {k : Nat} {cs : List AV} (o : yg n h v k cs) (hfn : h.floor ≤ h.next) {z m : Nat} (hm : 0 < m) (hn : 0 < n) (bs : List AV) (hb : bs.length = m * n) (hc : AV.aD bs = true) (hr : roomy z (k + m) = true) :
 ∃ v' h', ey h n z v m bs = some (v', h') ∧ yg n h' v' (k + m) (cs ++ bs) ∧ h'.floor = h.floor ∧ h.next ≤ h'.next ∧ (∀ i, v.id? ≠ some i → i ≠ h.next → h'.get i = h.get i) ∧ v'.id? = some h.next := by
 obtain ⟨hl, o⟩ := o
 have hll : (cs ++ bs).length = (k + m) * n := by rw [xD, hl, hb, xy]
 rcases o with ⟨rfl, rfl⟩ | ⟨id, rfl, hg, hf, _⟩
 · have : cs = [] := O9 (by omega)
   subst this
   refine ⟨.aF h.next 0 m n, h.alloc bs, ?_, ⟨hll, .inr ⟨h.next, by simp, by simp [H.aX], by simp; omega, by omega⟩⟩, by simp, by simp, fun i _ hi => by rw [H.aX, if_neg hi], rfl⟩
   unfold ey
   rw [if_neg (by omega), if_neg (by simp [hc]; omega)]
   rw [w8] at hr
   simp only [hr, if_true]
 · have hmn : 0 < m * n := Nat.mul_pos hm hn
   have hnot : ¬ 0 + (k + m) * n ≤ cs.length := by rw [hl, xy]; omega
   refine ⟨.aF h.next 0 (k + m) n, (h.del id).alloc (cs ++ bs), ?_, ⟨hll, .inr ⟨h.next, by simp, by simp [H.aX], ?_, by omega⟩⟩, by simp, by simp, fun i h1 h2 => ?_, rfl⟩
   · unfold ey
     rw [if_neg (by omega), if_neg (by simp [hc]; omega)]
     simp only [hf, and_self, if_true, hg, wS]
     rw [if_neg hnot, if_pos ⟨by omega, hr⟩]
     simp
   · have := h.lt id cs hg; simp; omega
   · rw [H.aX, H.j9, if_neg h2, H.eO, if_neg]
     intro e; subst e; exact h1 rfl
theorem yg.push {n : Nat} {h : H} {v : AV} {k : Nat} {cs : List AV} (o : yg n h v k cs) (hfn : h.floor ≤ h.next) {z m : Nat} (hm : 0 < m) (hn : 0 < n) (bs : List AV) (hb : bs.length = m * n) (hc : AV.aD bs = true) (hr : roomy z (k + m) = true) :
 ∃ v' h', mC (h.alloc bs) n z v (.aF h.next 0 m n) = some (v', h') ∧ yg n h' v' (k + m) (cs ++ bs) ∧ h'.floor = h.floor ∧ h.next + 1 ≤ h'.next ∧ (∀ i, v.id? ≠ some i → i < h.next → h'.get i = h.get i) ∧ v'.id? = some (h.next + 1) := by
 have o1 : yg n (h.alloc bs) v k cs := o.mono (by simp) fun i q => by rw [H.aX, if_neg]; have := o.lt q; omega
 obtain ⟨v', h', p1, p2, p3, p4, p5, p6⟩ := o1.app (z := z) (by simp; omega) hm hn bs hb hc hr
 refine ⟨v', h', ?_, p2, by rw [p3]; simp, by simpa using p4, fun i q1 q2 => ?_, by simpa using p6⟩
 · have src : aT (h.alloc bs) n (.aF h.next 0 m n) = some (m, bs) := by
    simp only [aT, if_true, H.aX, wS, w8]
    rw [if_pos (by omega), O0, xu (by omega)]
   unfold mC; rw [src, wS]; exact p1
 · rw [p5 i q1 (by simp; omega), H.aX, if_neg (by omega)]
def N7 (n k : Nat) (cs : List AV) : AV := if k = 0 then .aQ else .aW false cs 0 k n
theorem yg.CV {n : Nat} {h : H} {v : AV} {k : Nat} {l : List Int} {fl m : Nat} {t : Bool} (o : yg n h v k (ints l)) (hf : fl ≤ h.floor) : snap h.get fl (m + 2) t v = some (N7 n k (ints l)) := by
 obtain ⟨hl, o⟩ := o
 rw [qZ] at hl
 rcases o with ⟨rfl, rfl⟩ | ⟨id, rfl, q, h2, hk⟩
 · rfl
 · unfold snap
   rw [if_neg (by omega), q, wS, if_pos (by rw [qZ]; omega)]
   rw [O0, xu (by rw [qZ]; omega), yQ]
   unfold N7
   rw [if_neg (by omega)]; rfl
attribute [go_sem] List.map_cons List.map_nil Bool.and_true Bool.true_and Bool.and_self List.append_nil Option.map_some Option.map_none Bool.and_false Bool.false_and Bool.or_false Bool.or_true Bool.true_or Bool.false_or Bool.or_self ch.aP ch.aJ Int.reduceAdd Int.reduceSub Int.reduceMul Int.reduceNeg Int.reduceToNat List.take_succ_cons List.take_zero List.drop_zero List.drop_succ_cons Int.cast_ofNat_Int Int.natCast_one Int.natCast_zero List.length_set
theorem xN : type_of% @dt ∧ type_of% @df ∧ type_of% @OE ∧ type_of% @Oq ∧ type_of% @Ov ∧ type_of% @Od ∧ type_of% @wi ∧ type_of% @wb ∧ type_of% @AG ∧ type_of% @Dh ∧ type_of% @HM ∧ type_of% @zq ∧ type_of% @Mq ∧ type_of% @xL ∧ type_of% @yh ∧ type_of% @yu ∧ type_of% @yc ∧ type_of% @H.jZ ∧ type_of% @H.lH ∧ type_of% @H.mR ∧ type_of% @H.ke ∧ type_of% @HG ∧ type_of% @E9 ∧ type_of% @GW ∧ type_of% @GV ∧ type_of% @Fg ∧ type_of% @BJ ∧ type_of% @CB ∧ type_of% @E3 ∧ type_of% @GH ∧ type_of% @Hs ∧ type_of% @Ht ∧ type_of% @rF ∧ type_of% @qI ∧ type_of% @tS ∧ type_of% @rO ∧ type_of% @Hb ∧ type_of% @Ha ∧ type_of% @uU ∧ type_of% @uV ∧ type_of% @DL ∧ type_of% @Dk ∧ type_of% @GA ∧ type_of% @Gz ∧ type_of% @Gy ∧ type_of% @EZ ∧ type_of% @I6 ∧ type_of% @G7 ∧ type_of% @Js ∧ type_of% @Jr ∧ type_of% @Jp ∧ type_of% @Jo ∧ type_of% @Jq ∧ type_of% @Jm ∧ type_of% @C8 ∧ type_of% @DF ∧ type_of% @DJ ∧ type_of% @DG ∧ type_of% @CA ∧ type_of% @Bs ∧ type_of% @BI ∧ type_of% @DI ∧ type_of% @AZ ∧ type_of% @Dm ∧ type_of% @Ho ∧ type_of% @Df ∧ type_of% @Dq ∧ type_of% @Dp ∧ type_of% @Jl ∧ type_of% @Jk ∧ type_of% @vR ∧ type_of% @beq_refl ∧ type_of% @yz ∧ type_of% @Jn ∧ type_of% @I3 ∧ type_of% @HF ∧ type_of% @HE ∧ type_of% @HD ∧ type_of% @Co ∧ type_of% @En ∧ type_of% @Bq ∧ type_of% @CW := ⟨@dt, @df, @OE, @Oq, @Ov, @Od, @wi, @wb, @AG, @Dh, @HM, @zq, @Mq, @xL, @yh, @yu, @yc, @H.jZ, @H.lH, @H.mR, @H.ke, @HG, @E9, @GW, @GV, @Fg, @BJ, @CB, @E3, @GH, @Hs, @Ht, @rF, @qI, @tS, @rO, @Hb, @Ha, @uU, @uV, @DL, @Dk, @GA, @Gz, @Gy, @EZ, @I6, @G7, @Js, @Jr, @Jp, @Jo, @Jq, @Jm, @C8, @DF, @DJ, @DG, @CA, @Bs, @BI, @DI, @AZ, @Dm, @Ho, @Df, @Dq, @Dp, @Jl, @Jk, @vR, @beq_refl, @yz, @Jn, @I3, @HF, @HE, @HD, @Co, @En, @Bq, @CW⟩
theorem Ej : type_of% @AY ∧ type_of% @AU ∧ type_of% @AR ∧ type_of% @Dl ∧ type_of% @De ∧ type_of% @zU ∧ type_of% @OI ∧ type_of% @Hw ∧ type_of% @Hv ∧ type_of% @HC ∧ type_of% @Ji ∧ type_of% @Jg ∧ type_of% @Jh ∧ type_of% @Jj ∧ type_of% @GC ∧ type_of% @IZ ∧ type_of% @IV ∧ type_of% @IY ∧ type_of% @IX ∧ type_of% @Fp ∧ type_of% @MA ∧ type_of% @Mz ∧ type_of% @Ob ∧ type_of% @Oa := ⟨@AY, @AU, @AR, @Dl, @De, @zU, @OI, @Hw, @Hv, @HC, @Ji, @Jg, @Jh, @Jj, @GC, @IZ, @IV, @IY, @IX, @Fp, @MA, @Mz, @Ob, @Oa⟩
theorem yR : type_of% @H.lH ∧ type_of% @H.ke ∧ type_of% @Dl ∧ type_of% @AY ∧ type_of% @H.jZ ∧ type_of% @H.mR ∧ type_of% @De ∧ type_of% @AR := ⟨@H.lH, @H.ke, @Dl, @AY, @H.jZ, @H.mR, @De, @AR⟩
theorem Ds : type_of% @xL ∧ type_of% @yh ∧ type_of% @yu ∧ type_of% @yc ∧ type_of% @zU ∧ type_of% @AU := ⟨@xL, @yh, @yu, @yc, @zU, @AU⟩
end Ab
set_option maxRecDepth 100000
namespace Ab
open Go
theorem wrap_u32 {n : Nat} (h : n < 4294967296) : IntKind.wrap .u32 (n : Int) = n := by
 have e : IntKind.wrap .u32 (n : Int) = (n : Int) % 4294967296 := by simp [IntKind.wrap, IntKind.bits, IntKind.signed]
 rw [e]; omega
theorem Gs (n : Int) : IntKind.wrap .u32 n = n % 4294967296 := by simp [IntKind.wrap, IntKind.bits, IntKind.signed]
theorem wu {n : Int} (h : 0 ≤ n ∧ n < 4294967296) : IntKind.wrap .u32 n = n := by rw [Gs]; omega
theorem Ad {a b : Nat} (ha : a < 4294967296) (hb : b < 4294967296) : a ^^^ b < 4294967296 := Nat.xor_lt_two_pow (n := 32) ha hb
theorem y0 {a b : Nat} (ha : a < 4294967296) (hb : b < 4294967296) : bits .xor .u32 (a : Int) (b : Int) = ((a ^^^ b : Nat) : Int) := by
 have h3 := Ad ha hb
 show IntKind.wrap .u32 (((BitVec.ofInt 32 (a : Int) ^^^ BitVec.ofInt 32 (b : Int)).toNat : Nat) : Int) = _
 rw [BitVec.toNat_xor, yT 32 a (by omega), yT 32 b (by omega)]
 exact wrap_u32 h3
theorem BK {a : Nat} (ha : a < 4294967296) : bits .and .u32 (a : Int) 1 = ((a % 2 : Nat) : Int) := by
 show IntKind.wrap .u32 (((BitVec.ofInt 32 (a : Int) &&& BitVec.ofInt 32 ((1 : Nat) : Int)).toNat : Nat) : Int) = _
 rw [BitVec.toNat_and, yT 32 a (by omega), yT 32 1 (by omega), Nat.and_one_is_mod]
 exact wrap_u32 (by omega)
theorem Fx {a : Nat} (ha : a < 4294967296) : qJ .shr .u32 (a : Int) 1 = some (.int .u32 ((a / 2 : Nat) : Int)) := by
 unfold qJ
 rw [if_neg (by omega)]
 have e : (2 : Int) ^ min (Int.toNat 1) IntKind.u32.bits = 2 := by decide
 rw [e]
 show some (AV.int .u32 _) = _
 rw [Int.fdiv_eq_ediv_of_nonneg _ (by omega)]
 rfl
theorem Dj {h : H} {a : Nat} (ha : a < 4294967296) : uX h (.int .u32 (a : Int)) = some (.int .u32 ((4294967295 - a : Nat) : Int), h) := by
 rw [vU]
 have e : (if IntKind.u32.signed then -1 else IntKind.u32.max) = ((4294967295 : Nat) : Int) := by decide
 rw [e, y0 (by omega) ha]
 have h2 : 4294967295 ^^^ a = 4294967295 - a := by
  have h1 : a < 2 ^ 32 := by simpa using ha
  have : 4294967295 - a = 2 ^ 32 - (a + 1) := by omega
  rw [this]
  apply Nat.eq_of_testBit_eq
  intro i
  rw [Nat.testBit_two_pow_sub_succ h1, Nat.testBit_xor, show 4294967295 = 2 ^ 32 - 1 from rfl, Nat.testBit_two_pow_sub_one]
  by_cases hi : i < 32
  · simp [hi]
  · have : a.testBit i = false := Nat.testBit_lt_two_pow (Nat.lt_of_lt_of_le h1 (O4 (by omega) (by omega)))
    simp [hi, this]
 rw [h2]
def AA (c : Nat) : Nat := if c % 2 = 1 then (c / 2) ^^^ 3988292384 else c / 2
def AN : Nat → Nat → Nat
 | 0, c => c
 | n + 1, c => AN n (AA c)
def yX (c b : Nat) : Nat := AN 8 (c ^^^ b)
def yO (s : ByteArray) : Nat → Nat → Nat → Nat
 | 0, _, c => c
 | n + 1, i, c => yO s n (i + 1) (yX c (zr s i))
theorem A6 {c : Nat} (h : c < 4294967296) : AA c < 4294967296 := by
 unfold AA; split
 · exact Ad (by omega) (by omega)
 · omega
theorem BT : ∀ (n : Nat) {c : Nat}, c < 4294967296 → AN n c < 4294967296
 | 0, _, h => h
 | n + 1, _, h => BT n (A6 h)
theorem zI {c b : Nat} (hc : c < 4294967296) (hb : b < 256) : yX c b < 4294967296 := BT 8 (Ad hc (by omega))
theorem A7 (s : ByteArray) : ∀ (n i : Nat) {c : Nat}, c < 4294967296 → yO s n i c < 4294967296
 | 0, _, _, h => h
 | n + 1, i, _, h => A7 s n (i + 1) (zI h (Ax s i))
theorem CJ (a b d : AV) (h : H) : ∀ (n c k : Nat), k + n = 8 → c < 4294967296 →
 ∃ e', Lp AP.A [1, 5, 12, 13, 22] AP.f103L0 [(1, a), (5, .int .u32 c), (12, b), (13, d), (22, .int .i64 k)] h = some (.exit 2, e', h) ∧ look e' 1 = a ∧ look e' 5 = .int .u32 (AN n c : Nat) ∧ look e' 12 = b ∧ look e' 13 = d
 | 0, c, k, hk, hc => by
   refine ⟨[(1, a), (5, .int .u32 c), (12, b), (13, d), (22, .int .i64 k), (23, .bool false)], vo ?_, rfl, rfl, rfl, rfl⟩
   simp (disch := omega) only [go_sem, xN, AP.f103L0]
 | n + 1, c, k, hk, hc => by
   obtain ⟨e', r1, r2, r3, r4, r5⟩ := CJ a b d h n (AA c) (k + 1) (by omega) (A6 hc)
   have n1 : ((k + 1 : Nat) : Int) = (k : Int) + 1 := by omega
   have x1 := y0 (a := c / 2) (b := 3988292384) (by omega) (by omega)
   have a1 := BK hc
   have s1 := Fx hc
   refine ⟨e', vp ?_ r1, r2, r3, r4, r5⟩
   rw [n1]
   unfold AA
   by_cases p : c % 2 = 1
   · rw [if_pos p]
     rw [show ((3988292384 : Nat) : Int) = 3988292384 from rfl] at x1
     simp (disch := omega) only [go_sem, xN, AP.f103L0, a1, s1, x1]
   · rw [if_neg p]
     simp (disch := omega) only [go_sem, xN, AP.f103L0, a1, s1]
theorem CK (s : ByteArray) (hs : s.size < 1125899906842624) (h : H) : ∀ (n i c : Nat), i + n = s.size → c < 4294967296 →
 ∃ e', Lp AP.A [1, 5, 12, 13] AP.f103L1 [(1, .str s), (5, .int .u32 c), (12, .int .i64 s.size), (13, .int .i64 i)] h = some (.exit 0, e', h) ∧ look e' 5 = .int .u32 (yO s n i c : Nat)
 | 0, i, c, hi, hc => by
   refine ⟨[(1, .str s), (5, .int .u32 c), (12, .int .i64 s.size), (13, .int .i64 i), (14, .bool false)], vo ?_, rfl⟩
   simp (disch := omega) only [go_sem, xN, AP.f103L1]
 | n + 1, i, c, hi, hc => by
   have hb := Ax s i
   obtain ⟨e', r1, r2⟩ := CK s hs h n (i + 1) (yX c (zr s i)) (by omega) (zI hc hb)
   obtain ⟨e1, q1, q2, q3, q4, q5⟩ := CJ (.str s) (.int .i64 s.size) (.int .i64 i) h 8 (c ^^^ zr s i) 0 rfl (Ad hc (by omega))
   have q1' : Lp AP.A [1, 5, 12, 13, 22] AP.f103L0 [(1, .str s), (5, .int .u32 (c ^^^ zr s i : Nat)), (12, .int .i64 s.size), (13, .int .i64 i), (22, .int .i64 0)] h = some (.exit 2, e1, h) := q1
   clear q1
   have x1 := y0 hc (show zr s i < 4294967296 by omega)
   have n1 : ((i + 1 : Nat) : Int) = (i : Int) + 1 := by omega
   refine ⟨e', vp ?_ r1, r2⟩
   rw [n1]
   unfold yX
   simp (disch := omega) only [go_sem, xN, AP.f103L1, wu, x1, uz, q1', q2, q3, q4, q5]
def yw (a : Nat) (s : ByteArray) : Nat := 4294967295 - yO s s.size 0 (4294967295 - a)
theorem B7 (a : Nat) (s : ByteArray) : yw a s < 4294967296 := by unfold yw; omega
theorem ES (h : H) (s : ByteArray) (a : Nat) (ha : a < 4294967296) (hs : s.size < 1125899906842624) : aS AP.A 103 [.int .i64 a, .str s] h = some (.int .i64 (yw a s : Nat), h) := by
 obtain ⟨e', r1, r2⟩ := CK s hs h.eJ s.size 0 (4294967295 - a) (by omega) (by omega)
 have r1' : Lp AP.A [1, 5, 12, 13] AP.f103L1 [(1, .str s), (5, .int .u32 (4294967295 - a : Nat)), (12, .int .i64 s.size), (13, .int .i64 0)] h.eJ = some (.exit 0, e', h.eJ) := r1
 clear r1
 have lt := A7 s s.size 0 (c := 4294967295 - a) (by omega)
 have v1 : ∀ g : H, uX g (.int .u32 (a : Int)) = some (.int .u32 ((4294967295 - a : Nat) : Int), g) := fun g => Dj ha
 have v2 : ∀ g : H, uX g (.int .u32 (yO s s.size 0 (4294967295 - a) : Nat)) = some (.int .u32 ((4294967295 - yO s s.size 0 (4294967295 - a) : Nat) : Int), g) := fun g => Dj lt
 refine vX (fn := AP.f103) (h2 := h.eJ) (e := [(4, .int .i64 (yw a s : Nat))]) rfl rfl rfl ?_ rfl rfl
 unfold yw
 simp (disch := omega) only [go_sem, xN, AP.f103, wu, v1, v2, uz, r1', r2]
def CI (x : Int) : Bool := decide (0 ≤ x ∧ x ≤ 4294967295)
theorem N3 (h : H) (x : Int) : aS AP.A 105 [.int .i64 x] h = some (.bool (CI x), h) := by
 refine vX (fn := AP.f105) (h2 := h.eJ) (e := [(2, .bool (CI x))]) rfl rfl rfl ?_ rfl rfl
 unfold CI
 by_cases c1 : 0 ≤ x
 · by_cases c2 : x ≤ 4294967295
   · simp (disch := omega) only [go_sem, xN, AP.f105]
   · simp (disch := omega) only [go_sem, xN, AP.f105]
 · simp (disch := omega) only [go_sem, xN, AP.f105]
def yN (s : ByteArray) : Nat := yw 0 s
theorem Ed (h : H) (s : ByteArray) (hs : s.size < 1125899906842624) : aS AP.A 115 [.str s] h = some (.int .i64 (yN s : Nat), h) := by
 have k1 := ES h.eJ s 0 (by omega) hs
 have k1' : aS AP.A 103 [.int .i64 0, .str s] h.eJ = some (.int .i64 (yN s : Nat), h.eJ) := k1
 refine vX (fn := AP.f115) (h2 := h.eJ) (e := [(2, .int .i64 (yN s : Nat))]) rfl rfl rfl ?_ rfl rfl
 simp (disch := omega) only [go_sem, xN, AP.f115, k1']
theorem C3 (a d : AV) (h : H) : ∀ (n c k : Nat), k + n = 8 → c < 4294967296 →
 ∃ e', Lp AP.A [0, 1, 5, 6] AP.f111L0 [(0, .int .u32 c), (1, a), (5, d), (6, .int .i64 k)] h = some (.exit 2, e', h) ∧ look e' 1 = a ∧ look e' 0 = .int .u32 (AN n c : Nat) ∧ look e' 5 = d
 | 0, c, k, hk, hc => by
   refine ⟨[(0, .int .u32 c), (1, a), (5, d), (6, .int .i64 k), (20, .bool false)], vo ?_, rfl, rfl, rfl⟩
   simp (disch := omega) only [go_sem, xN, AP.f111L0]
 | n + 1, c, k, hk, hc => by
   obtain ⟨e', r1, r2, r3, r4⟩ := C3 a d h n (AA c) (k + 1) (by omega) (A6 hc)
   have n1 : ((k + 1 : Nat) : Int) = (k : Int) + 1 := by omega
   have x1 := y0 (a := c / 2) (b := 3988292384) (by omega) (by omega)
   have a1 := BK hc
   have s1 := Fx hc
   refine ⟨e', vp ?_ r1, r2, r3, r4⟩
   rw [n1]
   unfold AA
   by_cases p : c % 2 = 1
   · rw [if_pos p]
     rw [show ((3988292384 : Nat) : Int) = 3988292384 from rfl] at x1
     simp (disch := omega) only [go_sem, xN, AP.f111L0, a1, s1, x1]
   · rw [if_neg p]
     simp (disch := omega) only [go_sem, xN, AP.f111L0, a1, s1]
theorem C4 (s : ByteArray) (hs : s.size < 1125899906842624) (h : H) : ∀ (n i c : Nat), i + n = s.size → c < 4294967296 →
 ∃ e', Lp AP.A [0, 1, 5] AP.f111L1 [(0, .int .u32 c), (1, .str s), (5, .int .i64 i)] h = some (.exit 0, e', h) ∧ look e' 0 = .int .u32 (yO s n i c : Nat)
 | 0, i, c, hi, hc => by
   refine ⟨[(0, .int .u32 c), (1, .str s), (5, .int .i64 i), (10, .bool false)], vo ?_, rfl⟩
   simp (disch := omega) only [go_sem, xN, AP.f111L1]
 | n + 1, i, c, hi, hc => by
   have hb := Ax s i
   obtain ⟨e', r1, r2⟩ := C4 s hs h n (i + 1) (yX c (zr s i)) (by omega) (zI hc hb)
   obtain ⟨e1, q1, q2, q3, q4⟩ := C3 (.str s) (.int .i64 i) h 8 (c ^^^ zr s i) 0 rfl (Ad hc (by omega))
   have q1' : Lp AP.A [0, 1, 5, 6] AP.f111L0 [(0, .int .u32 (c ^^^ zr s i : Nat)), (1, .str s), (5, .int .i64 i), (6, .int .i64 0)] h = some (.exit 2, e1, h) := q1
   clear q1
   have x1 := y0 hc (show zr s i < 4294967296 by omega)
   have n1 : ((i + 1 : Nat) : Int) = (i : Int) + 1 := by omega
   refine ⟨e', vp ?_ r1, r2⟩
   rw [n1]
   unfold yX
   simp (disch := omega) only [go_sem, xN, AP.f111L1, wu, x1, uz, q1', q2, q3, q4]
theorem Mn (h : H) (s : ByteArray) (c : Nat) (hc : c < 4294967296) (hs : s.size < 1125899906842624) : aS AP.A 111 [.int .u32 c, .str s] h = some (.int .u32 (yO s s.size 0 c : Nat), h) := by
 obtain ⟨e', r1, r2⟩ := C4 s hs h.eJ s.size 0 c (by omega) hc
 have r1' : Lp AP.A [0, 1, 5] AP.f111L1 [(0, .int .u32 c), (1, .str s), (5, .int .i64 0)] h.eJ = some (.exit 0, e', h.eJ) := r1
 clear r1
 refine vX (fn := AP.f111) (h2 := h.eJ) (e := [(4, .int .u32 (yO s s.size 0 c : Nat))]) rfl rfl rfl ?_ rfl rfl
 simp (disch := omega) only [go_sem, xN, AP.f111, uz, r1', r2]
theorem Ks (h : H) (s : ByteArray) (hs : s.size < 1125899906842624) : aS AP.A 101 [.str s] h = some (.int .i64 (yN s : Nat), h) := by
 have k1 := Mn h.eJ s 4294967295 (by omega) hs
 have k1' : aS AP.A 111 [.int .u32 4294967295, .str s] h.eJ = some (.int .u32 (yO s s.size 0 4294967295 : Nat), h.eJ) := k1
 have lt := A7 s s.size 0 (c := 4294967295) (by omega)
 have v2 : ∀ g : H, uX g (.int .u32 (yO s s.size 0 4294967295 : Nat)) = some (.int .u32 (yN s : Nat), g) := fun g => Dj lt
 have lt2 := B7 0 s
 unfold yN at v2 ⊢
 refine vX (fn := AP.f101) (h2 := h.eJ) (e := [(2, .int .i64 (yw 0 s : Nat))]) rfl rfl rfl ?_ rfl rfl
 simp (disch := omega) only [go_sem, xN, AP.f101, k1', v2]
theorem Hy {a s : Nat} (hs : s ≤ 64) : qJ .shr .i64 (a : Int) (s : Int) = some (.int .i64 ((a / 2 ^ s : Nat) : Int)) := by
 unfold qJ
 rw [if_neg (by omega)]
 simp only [IntKind.bits, Int.toNat_natCast, Nat.min_eq_left hs]
 rw [Int.fdiv_eq_ediv_of_nonneg _ (Int.pow_nonneg (by omega))]
 simp
theorem HQ (n : Nat) : IntKind.wrap .u8 (n : Int) = ((n % 256 : Nat) : Int) := by rw [HP]; omega
def Hj (x i : Nat) : Nat := x / 2 ^ (8 * i) % 256
def xS (x k : Nat) : List Nat := (List.range k).map (Hj x)
theorem F7 (x k : Nat) : xS x (k + 1) = xS x k ++ [Hj x k] := by simp [xS, List.range_succ]
theorem xQ (x k : Nat) : (xS x k).length = k := by simp [xS]
def He (x k : Nat) : ByteArray := bytesOf (xS x k)
theorem GG {h : H} {v : AV} {k : Nat} {l : List Nat} (o : yg 1 h v k (Ap l)) : vP h v (aT h 1 v) = some (.str (bytesOf l), h) := by
 rw [o.rd.1]
 simp only [vP, wS, C7]
 rcases o.2 with ⟨rfl, _⟩ | ⟨id, rfl, _⟩ <;> rfl
theorem Ay (a b : List Nat) : Ap (a ++ b) = Ap a ++ Ap b := by simp [Ap]
theorem D9 (x k id : Nat) (hk : k ≤ 8) : ∀ (m i : Nat) (h : H), i + m = k → h.get id = some (Ap (xS x i ++ List.replicate m 0)) → h.floor ≤ id →
 ∃ e' h', Lp AP.A [0, 5, 10, 11] AP.f104L0 [(0, .int .i64 x), (5, .aF id 0 k 1), (10, .int .i64 k), (11, .int .i64 i)] h = some (.exit 0, e', h') ∧ look e' 5 = .aF id 0 k 1 ∧ h'.get id = some (Ap (xS x k)) ∧ h'.floor = h.floor
 | 0, i, h, hi, hg, hf => by
   obtain rfl : i = k := by omega
   refine ⟨[(0, .int .i64 x), (5, .aF id 0 i 1), (10, .int .i64 i), (11, .int .i64 i), (12, .bool false)], h, vo ?_, rfl, by simpa using hg, rfl⟩
   simp (disch := omega) only [go_sem, xN, AP.f104L0]
 | m + 1, i, h, hi, hg, hf => by
   have g2 : (h.set id (Ap (xS x (i + 1) ++ List.replicate m 0))).get id = some (Ap (xS x (i + 1) ++ List.replicate m 0)) := by rw [yu rfl, hg]; rfl
   obtain ⟨e', h', r1, r2, r3, r4⟩ := D9 x k id hk m (i + 1) _ (by omega) g2 (by simpa using hf)
   have n1 : ((i + 1 : Nat) : Int) = (i : Int) + 1 := by omega
   have n2 : (8 : Int) * (i : Int) = ((8 * i : Nat) : Int) := by omega
   have s1 := Hy (a := x) (s := 8 * i) (by omega)
   have w1 := HQ (x / 2 ^ (8 * i))
   have st : vZ h id i 1 [.int .u8 ((x / 2 ^ (8 * i) % 256 : Nat) : Int)] (some (Ap (xS x i ++ List.replicate (m + 1) 0))) = some (h.set id (Ap (xS x (i + 1) ++ List.replicate m 0))) := by
    rw [wD hf (by simp [xQ]) rfl]
    congr 2
    rw [F7, Ay, Ay, Ay, List.set_append_right _ _ (by simp [xQ]), List.append_assoc]
    simp [xQ, Ap, List.replicate_succ, Hj]
   refine ⟨e', h', vp ?_ r1, r2, r3, by rw [r4]; simp⟩
   rw [n1]
   simp (disch := omega) only [go_sem, xN, AP.f104L0, n2, s1, w1, hg, st]
theorem Ar (h : H) (x k : Nat) (hk : k ≤ 8) (hk0 : 0 < k) : aS AP.A 104 [.int .i64 x, .int .i64 k] h = some (.str (He x k), h) := by
 obtain ⟨h1, eh1⟩ : ∃ g, g = h.eJ.alloc (Cj k [.int .u8 0]) := ⟨_, rfl⟩
 have hz : Cj k [.int .u8 0] = Ap (xS x 0 ++ List.replicate k 0) := by
  unfold Cj; rw [Du]; simp [Ap, xS]
 have g1 : h1.get h.next = some (Ap (xS x 0 ++ List.replicate k 0)) := by rw [eh1, xL (by simp), hz]
 obtain ⟨e', h', r1, r2, r3, r4⟩ := D9 x k h.next hk k 0 h1 (by omega) g1 (by rw [eh1]; simp)
 have r1' : Lp AP.A [0, 5, 10, 11] AP.f104L0 [(0, .int .i64 x), (5, .aF h.next 0 k 1), (10, .int .i64 k), (11, .int .i64 0)] h1 = some (.exit 0, e', h') := r1
 clear r1
 have o : yg 1 h' (.aF h.next 0 k 1) k (Ap (xS x k)) := ⟨by simp [xQ], .inr ⟨h.next, rfl, r3, by rw [r4, eh1]; simp, hk0⟩⟩
 have b := GG o
 have hn : h.eJ.next = h.next := rfl
 refine vX (fn := AP.f104) (h2 := h') (e := [(4, .str (He x k))]) rfl rfl rfl ?_ rfl rfl
 unfold He
 simp (disch := omega) only [go_sem, xN, AP.f104, uz, hn, ← eh1, r1', r2, b]
end Ab
