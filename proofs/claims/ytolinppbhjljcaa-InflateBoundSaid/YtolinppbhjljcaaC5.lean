/- Part C5. -/
import Derived.Test.YtolinppbhjljcaaC4
/- What a stream comes to on a part of its bytes, on more bytes, within another bound. No program in sight. -/
set_option linter.unusedSimpArgs false
set_option linter.unusedVariables false
namespace Ab
open Go

/-- A text that goes on as another one for its whole length. -/
structure Pre (a t : ByteArray) : Prop where
  sz : a.size ≤ t.size
  bit : ∀ i, i < 8 * a.size → bitAt a i = bitAt t i

theorem Pre.val {a t : ByteArray} (h : Pre a t) (p : Nat) : ∀ n, p + n ≤ 8 * a.size → valAt a p n = valAt t p n
  | 0, _ => rfl
  | n + 1, hn => by rw [valAt, valAt, h.val p n (by omega), h.bit (p + n) (by omega)]

section
variable {a t : ByteArray} (h : Pre a t)
include h

theorem symA_down {l : List Int} : ∀ {k n v p : Nat} {y : Int} {p2 : Nat}, symA t l k n v p = some (y, p2) → symA a l k n v p = if p2 ≤ 8 * a.size then some (y, p2) else none
  | 0, _, _, _, _, _, hs => by cases hs
  | k + 1, n, v, p, y, p2, hs => by
    have hb := symA_bd hs
    rw [symA] at hs ⊢
    split at hs
    · by_cases hp : p + 1 ≤ 8 * a.size
      · rw [if_pos hp, h.val p 1 hp]
        split at hs
        · rename_i hf
          obtain ⟨rfl, rfl⟩ := Prod.mk.inj (Option.some.inj hs)
          rw [if_pos hp]
        · exact symA_down hs
      · rw [if_neg hp, if_neg (by omega)]
    · cases hs
theorem symA_up {l : List Int} : ∀ {k n v p : Nat} {r : Int × Nat}, symA a l k n v p = some r → symA t l k n v p = some r
  | 0, _, _, _, _, hs => by cases hs
  | k + 1, n, v, p, r, hs => by
    rw [symA] at hs ⊢
    split at hs
    · rename_i hp
      have := h.sz
      rw [if_pos (by omega), ← h.val p 1 hp]
      split at hs
      · exact hs
      · exact symA_up hs
    · cases hs

theorem againA_down {y : Int} {acc : List Int} {p : Nat} {n : Int} {times p2 : Nat} (hs : againA t y acc p = some (n, times, p2)) (hp : p ≤ 8 * a.size) : againA a y acc p = if p2 ≤ 8 * a.size then some (n, times, p2) else none := by
  have key : ∀ (k : Nat) (f : Nat → Int × Nat), (if p + k ≤ 8 * t.size then some ((f (valAt t p k)).1, (f (valAt t p k)).2, p + k) else none) = some (n, times, p2) → (if p + k ≤ 8 * a.size then some ((f (valAt a p k)).1, (f (valAt a p k)).2, p + k) else none) = if p2 ≤ 8 * a.size then some (n, times, p2) else none := by
    intro k f hk
    split at hk
    · have h2 : p + k = p2 := by have := congrArg (fun o => o.map (·.2.2)) hk; simpa using this
      by_cases hpk : p + k ≤ 8 * a.size
      · rw [if_pos hpk, h.val p k hpk, if_pos (by omega)]; exact hk
      · rw [if_neg hpk, if_neg (by omega)]
    · cases hk
  unfold againA at hs ⊢
  by_cases h16 : y = 16
  · rw [if_pos h16] at hs ⊢
    by_cases hn : acc = []
    · rw [if_pos hn] at hs; cases hs
    · rw [if_neg hn] at hs ⊢
      exact key 2 (fun v => (acc.getD (acc.length - 1) 0, 3 + v)) hs
  · rw [if_neg h16] at hs ⊢
    by_cases h17 : y = 17
    · rw [if_pos h17] at hs ⊢
      exact key 3 (fun v => (0, 3 + v)) hs
    · rw [if_neg h17] at hs ⊢
      by_cases h18 : y = 18
      · rw [if_pos h18] at hs ⊢
        exact key 7 (fun v => (0, 11 + v)) hs
      · rw [if_neg h18] at hs ⊢
        have h2 : p = p2 := by have := congrArg (fun o => o.map (·.2.2)) hs; simpa using this
        rw [if_pos (by omega)]; exact hs
theorem againA_up {y : Int} {acc : List Int} {p : Nat} {r : Int × Nat × Nat} (hs : againA a y acc p = some r) : againA t y acc p = some r := by
  have hsz := h.sz
  have key : ∀ (k : Nat) (f : Nat → Int × Nat), (if p + k ≤ 8 * a.size then some ((f (valAt a p k)).1, (f (valAt a p k)).2, p + k) else none) = some r → (if p + k ≤ 8 * t.size then some ((f (valAt t p k)).1, (f (valAt t p k)).2, p + k) else none) = some r := by
    intro k f hk
    split at hk
    · rename_i hpk
      rw [if_pos (by omega), ← h.val p k hpk]; exact hk
    · cases hk
  unfold againA at hs ⊢
  by_cases h16 : y = 16
  · rw [if_pos h16] at hs ⊢
    by_cases hn : acc = []
    · rw [if_pos hn] at hs; cases hs
    · rw [if_neg hn] at hs ⊢
      exact key 2 (fun v => (acc.getD (acc.length - 1) 0, 3 + v)) hs
  · rw [if_neg h16] at hs ⊢
    by_cases h17 : y = 17
    · rw [if_pos h17] at hs ⊢
      exact key 3 (fun v => (0, 3 + v)) hs
    · rw [if_neg h17] at hs ⊢
      by_cases h18 : y = 18
      · rw [if_pos h18] at hs ⊢
        exact key 7 (fun v => (0, 11 + v)) hs
      · rw [if_neg h18] at hs ⊢; exact hs
omit h in
theorem againA_ge {y : Int} {acc : List Int} {p : Nat} {n : Int} {times p2 : Nat} (hs : againA t y acc p = some (n, times, p2)) : p ≤ p2 := by
  unfold againA at hs
  repeat' split at hs
  all_goals first
    | (cases hs; done)
    | (have := congrArg (fun o => o.map (·.2.2)) hs; simp only [Option.map_some, Option.some.injEq] at this; omega)

theorem lensLoop_down {cl : List Int} {many : Nat} : ∀ {f f' : Nat} {acc : List Int} {p : Nat} {L : List Int} {p2 : Nat}, lensLoop t cl many f acc p = some (L, p2) → 8 * a.size < p + f' → p ≤ 8 * a.size → lensLoop a cl many f' acc p = if p2 ≤ 8 * a.size then some (L, p2) else none
  | 0, _, _, _, _, _, hs, _, _ => by cases hs
  | f + 1, f', acc, p, L, p2, hs, hf, hp => by
    obtain ⟨g, rfl⟩ : ∃ g, f' = g + 1 := ⟨f' - 1, by omega⟩
    rw [lensLoop] at hs ⊢
    by_cases hlt : acc.length < many
    · rw [if_pos hlt] at hs ⊢
      cases hz : symA t cl 15 1 0 p with
      | none => rw [hz] at hs; cases hs
      | some q =>
        obtain ⟨y, p1⟩ := q
        rw [hz] at hs
        have hb := symA_bd hz
        rw [symA_down h hz]
        cases hag : againA t y acc p1 with
        | none => dsimp only at hs; rw [hag] at hs; cases hs
        | some r =>
          obtain ⟨n, times, p3⟩ := r
          dsimp only at hs
          rw [hag] at hs
          dsimp only at hs
          have hge := againA_ge hag
          have hge2 := lensLoop_ge hs
          by_cases hp1 : p1 ≤ 8 * a.size
          · rw [if_pos hp1]
            dsimp only
            rw [againA_down h hag hp1]
            by_cases hp3 : p3 ≤ 8 * a.size
            · rw [if_pos hp3]
              exact lensLoop_down hs (by omega) hp3
            · rw [if_neg hp3, if_neg (by omega)]
          · rw [if_neg hp1, if_neg (by omega)]
    · rw [if_neg hlt] at hs ⊢
      by_cases hg : many < acc.length
      · rw [if_pos hg] at hs; cases hs
      · rw [if_neg hg] at hs ⊢
        obtain ⟨rfl, rfl⟩ := Prod.mk.inj (Option.some.inj hs)
        rw [if_pos hp]
theorem lensLoop_up {cl : List Int} {many : Nat} : ∀ {f f' : Nat} {acc : List Int} {p : Nat} {r : List Int × Nat}, lensLoop a cl many f acc p = some r → 8 * t.size < p + f' → p ≤ 8 * t.size → lensLoop t cl many f' acc p = some r
  | 0, _, _, _, _, hs, _, _ => by cases hs
  | f + 1, f', acc, p, r, hs, hf, hp => by
    obtain ⟨g, rfl⟩ : ∃ g, f' = g + 1 := ⟨f' - 1, by omega⟩
    have hsz := h.sz
    rw [lensLoop] at hs ⊢
    by_cases hlt : acc.length < many
    · rw [if_pos hlt] at hs ⊢
      cases hz : symA a cl 15 1 0 p with
      | none => rw [hz] at hs; cases hs
      | some q =>
        obtain ⟨y, p1⟩ := q
        rw [hz] at hs
        have hb := symA_bd hz
        rw [symA_up h hz]
        cases hag : againA a y acc p1 with
        | none => dsimp only at hs; rw [hag] at hs; cases hs
        | some r2 =>
          obtain ⟨n, times, p3⟩ := r2
          dsimp only at hs ⊢
          rw [hag] at hs
          rw [againA_up h hag]
          dsimp only at hs ⊢
          have hge := againA_ge hag
          refine lensLoop_up hs (by omega) ?_
          have h3 : p3 ≤ 8 * a.size := by
            unfold againA at hag
            repeat' split at hag
            all_goals first
              | (cases hag; done)
              | (have := congrArg (fun o => o.map (·.2.2)) hag; simp only [Option.map_some, Option.some.injEq] at this; omega)
          omega
    · rw [if_neg hlt] at hs ⊢
      exact hs

theorem ownL_pre : ∀ (r : List Int) (p : Nat) (o : List Int), p + 3 * r.length ≤ 8 * a.size → ownL a r p o = ownL t r p o
  | [], _, _, _ => rfl
  | s :: r, p, o, hp => by
    rw [List.length_cons] at hp
    rw [ownL, ownL, h.val p 3 (by omega), ownL_pre r (p + 3) _ (by omega)]

omit h in
theorem order_take (k : Nat) (hk : k ≤ 19) : (orderL.take k).length = k := by rw [List.length_take]; show min k 19 = k; omega

theorem lensA_down {many p : Nat} {L : List Int} {p2 : Nat} (hs : lensA t many p = some (L, p2)) : lensA a many p = if p2 ≤ 8 * a.size then some (L, p2) else none := by
  unfold lensA at hs ⊢
  dsimp only at hs ⊢
  have hv := valAt_lt t p 4
  split at hs
  · split at hs
    · split at hs
      · rename_i h1 h2 h3
        have hge := lensLoop_ge hs
        by_cases hp : p + 4 ≤ 8 * a.size
        · rw [if_pos hp, h.val p 4 hp]
          by_cases hp2 : p + 4 + 3 * (valAt t p 4 + 4) ≤ 8 * a.size
          · rw [if_pos hp2, ownL_pre h _ _ _ (by rw [order_take _ (by omega)]; omega), if_pos h3]
            exact lensLoop_down h hs (by omega) hp2
          · rw [if_neg hp2, if_neg (by omega)]
        · rw [if_neg hp, if_neg (by omega)]
      · cases hs
    · cases hs
  · cases hs
theorem lensA_up {many p : Nat} {r : List Int × Nat} (hs : lensA a many p = some r) : lensA t many p = some r := by
  have hsz := h.sz
  unfold lensA at hs ⊢
  dsimp only at hs ⊢
  have hv := valAt_lt a p 4
  split at hs
  · rename_i hp
    split at hs
    · rename_i hp2
      split at hs
      · rename_i h3
        rw [if_pos (by omega), ← h.val p 4 hp, if_pos (by omega), ← ownL_pre h _ _ _ (by rw [order_take _ (by omega)]; omega), if_pos h3]
        exact lensLoop_up h hs (by omega) (by omega)
      · cases hs
    · cases hs
  · cases hs

/-! ### Bytes -/
theorem storeA_down {most most' : Int} (hm : most ≤ most') : ∀ {n p : Nat} {out : List Nat} {p2 : Nat} {o : List Nat}, storeA t most n p out = .ok (p2, o) → p ≤ 8 * a.size → storeA a most' n p out = if p2 ≤ 8 * a.size then .ok (p2, o) else .error 700
  | 0, p, out, p2, o, hs, hp => by
    rw [storeA] at hs ⊢
    cases hs
    rw [if_pos hp]
  | n + 1, p, out, p2, o, hs, hp => by
    rw [storeA] at hs ⊢
    split at hs
    · split at hs
      · cases hs
      · have hge := storeA_ge hs
        by_cases hp8 : p + 8 ≤ 8 * a.size
        · rw [if_pos hp8, if_neg (by omega), h.val p 8 hp8]
          exact storeA_down hm hs hp8
        · rw [if_neg hp8, if_neg (by omega)]
    · cases hs
theorem storeA_up {most : Int} : ∀ {n p : Nat} {out : List Nat} {r : Nat × List Nat}, storeA a most n p out = .ok r → storeA t most n p out = .ok r
  | 0, p, out, r, hs => hs
  | n + 1, p, out, r, hs => by
    have hsz := h.sz
    rw [storeA] at hs ⊢
    split at hs
    · rename_i hp8
      split at hs
      · cases hs
      · rename_i hm
        rw [if_pos (by omega), if_neg hm, ← h.val p 8 hp8]
        exact storeA_up hs
    · cases hs
theorem storedA_down {most most' : Int} (hm : most ≤ most') {p : Nat} {out : List Nat} {p2 : Nat} {o : List Nat} (hs : storedA t most p out = .ok (p2, o)) : storedA a most' p out = if p2 ≤ 8 * a.size then .ok (p2, o) else .error 700 := by
  unfold storedA at hs ⊢
  dsimp only at hs ⊢
  generalize (p + 7) / 8 * 8 = q at *
  split at hs
  · split at hs
    · rename_i h1 h2
      have hge := storeA_ge hs
      by_cases hp : q + 32 ≤ 8 * a.size
      · rw [if_pos hp, h.val q 16 (by omega), h.val (q + 16) 16 (by omega), if_pos h2]
        exact storeA_down h hm hs hp
      · rw [if_neg hp, if_neg (by omega)]
    · cases hs
  · cases hs
theorem storedA_up {most : Int} {p : Nat} {out : List Nat} {r : Nat × List Nat} (hs : storedA a most p out = .ok r) : storedA t most p out = .ok r := by
  have hsz := h.sz
  unfold storedA at hs ⊢
  dsimp only at hs ⊢
  generalize (p + 7) / 8 * 8 = q at *
  split at hs
  · rename_i hp
    split at hs
    · rename_i h2
      rw [if_pos (by omega), ← h.val q 16 (by omega), ← h.val (q + 16) 16 (by omega), if_pos h2]
      exact storeA_up h hs
    · cases hs
  · cases hs

omit h in
theorem copyL_mono {most most' : Int} (hm : most ≤ most') {d : Nat} : ∀ {n : Nat} {out o : List Nat}, copyL most d n out = .ok o → copyL most' d n out = .ok o
  | 0, out, o, hs => hs
  | n + 1, out, o, hs => by
    rw [copyL] at hs ⊢
    split at hs
    · cases hs
    · rw [if_neg (by omega)]; exact copyL_mono hm hs

theorem copyA_down {most most' : Int} (hm : most ≤ most') {dl : List Int} {y p : Nat} {out : List Nat} {p2 : Nat} {o : List Nat} (hs : copyA t most dl y p out = .ok (p2, o)) : copyA a most' dl y p out = if p2 ≤ 8 * a.size then .ok (p2, o) else .error 700 := by
  unfold copyA at hs ⊢
  cases hl : lenOf y with
  | none => rw [hl] at hs; cases hs
  | some le =>
    obtain ⟨least, extra⟩ := le
    rw [hl] at hs
    dsimp only at hs ⊢
    split at hs
    · cases hz : symA t dl 15 1 0 (p + extra) with
      | none => rw [hz] at hs; cases hs
      | some q =>
        obtain ⟨z, p3⟩ := q
        rw [hz] at hs
        have hb := symA_bd hz
        cases hd : distOf z.toNat with
        | none => dsimp only at hs; rw [hd] at hs; cases hs
        | some lx =>
          obtain ⟨ld, xd⟩ := lx
          dsimp only at hs
          rw [hd] at hs
          dsimp only at hs
          split at hs
          · rename_i h1 h2
            cases hc : copyL most (ld + valAt t p3 xd) (least + valAt t p extra) out with
            | error k => rw [hc] at hs; cases hs
            | ok o2 =>
              rw [hc] at hs
              dsimp only at hs
              obtain ⟨rfl, rfl⟩ : p3 + xd = p2 ∧ o2 = o := by cases hs; exact ⟨rfl, rfl⟩
              by_cases hp : p + extra ≤ 8 * a.size
              · rw [if_pos hp, symA_down h hz]
                by_cases hp3 : p3 ≤ 8 * a.size
                · rw [if_pos hp3]
                  dsimp only
                  rw [hd]
                  dsimp only
                  by_cases hp4 : p3 + xd ≤ 8 * a.size
                  · rw [h.val p3 xd hp4, if_pos ⟨hp4, h2.2⟩, h.val p extra hp, copyL_mono hm hc, if_pos hp4]
                  · rw [if_neg (fun q => hp4 q.1), if_neg hp4]
                · rw [if_neg hp3, if_neg (by omega)]
              · rw [if_neg hp, if_neg (by omega)]
          · cases hs
    · cases hs
theorem copyA_up {most : Int} {dl : List Int} {y p : Nat} {out : List Nat} {r : Nat × List Nat} (hs : copyA a most dl y p out = .ok r) : copyA t most dl y p out = .ok r := by
  have hsz := h.sz
  unfold copyA at hs ⊢
  cases hl : lenOf y with
  | none => rw [hl] at hs; cases hs
  | some le =>
    obtain ⟨least, extra⟩ := le
    rw [hl] at hs
    dsimp only at hs ⊢
    split at hs
    · rename_i hp
      cases hz : symA a dl 15 1 0 (p + extra) with
      | none => rw [hz] at hs; cases hs
      | some q =>
        obtain ⟨z, p3⟩ := q
        rw [hz] at hs
        rw [if_pos (by omega), symA_up h hz]
        cases hd : distOf z.toNat with
        | none => dsimp only at hs; rw [hd] at hs; cases hs
        | some lx =>
          obtain ⟨ld, xd⟩ := lx
          dsimp only at hs ⊢
          rw [hd] at hs
          rw [hd]
          dsimp only at hs ⊢
          split at hs
          · rename_i h2
            rw [← h.val p3 xd h2.1, if_pos ⟨by omega, h2.2⟩, ← h.val p extra hp]; exact hs
          · cases hs
    · cases hs

theorem codedA_down {most most' : Int} (hm : most ≤ most') {ll dl : List Int} : ∀ {k k' p : Nat} {out : List Nat} {p2 : Nat} {o : List Nat}, codedA t most ll dl k p out = .ok (p2, o) → 8 * a.size < p + k' → p ≤ 8 * a.size → codedA a most' ll dl k' p out = if p2 ≤ 8 * a.size then .ok (p2, o) else .error 700
  | 0, _, _, _, _, _, hs, _, _ => by cases hs
  | k + 1, k', p, out, p2, o, hs, hk, hp => by
    obtain ⟨g, rfl⟩ : ∃ g, k' = g + 1 := ⟨k' - 1, by omega⟩
    rw [codedA] at hs ⊢
    cases hz : symA t ll 15 1 0 p with
    | none => rw [hz] at hs; cases hs
    | some q =>
      obtain ⟨y, p1⟩ := q
      rw [hz] at hs
      have hb := symA_bd hz
      rw [symA_down h hz]
      dsimp only at hs
      by_cases c1 : y < 256
      · rw [if_pos c1] at hs
        split at hs
        · cases hs
        · have hge := codedA_ge hs
          by_cases hp1 : p1 ≤ 8 * a.size
          · rw [if_pos hp1]
            dsimp only
            rw [if_pos c1, if_neg (by omega)]
            exact codedA_down hm hs (by omega) hp1
          · rw [if_neg hp1, if_neg (by omega)]
      · rw [if_neg c1] at hs
        by_cases c2 : y = 256
        · rw [if_pos c2] at hs
          cases hs
          by_cases hp1 : p2 ≤ 8 * a.size
          · rw [if_pos hp1, if_pos hp1]
            dsimp only
            rw [if_neg c1, if_pos c2]
          · rw [if_neg hp1, if_neg hp1]
        · rw [if_neg c2] at hs
          cases hc : copyA t most dl y.toNat p1 out with
          | error e => rw [hc] at hs; cases hs
          | ok q2 =>
            obtain ⟨p3, o3⟩ := q2
            rw [hc] at hs
            dsimp only at hs
            have hge := copyA_ge hc
            have hge2 := codedA_ge hs
            by_cases hp1 : p1 ≤ 8 * a.size
            · rw [if_pos hp1]
              dsimp only
              rw [if_neg c1, if_neg c2, copyA_down h hm hc]
              by_cases hp3 : p3 ≤ 8 * a.size
              · rw [if_pos hp3]
                exact codedA_down hm hs (by omega) hp3
              · rw [if_neg hp3, if_neg (by omega)]
            · rw [if_neg hp1, if_neg (by omega)]
theorem codedA_up {most : Int} {ll dl : List Int} : ∀ {k k' p : Nat} {out : List Nat} {r : Nat × List Nat}, codedA a most ll dl k p out = .ok r → 8 * t.size < p + k' → codedA t most ll dl k' p out = .ok r
  | 0, _, _, _, _, hs, _ => by cases hs
  | k + 1, k', p, out, r, hs, hk => by
    rw [codedA] at hs
    have hsz := h.sz
    cases hz : symA a ll 15 1 0 p with
    | none => rw [hz] at hs; cases hs
    | some q =>
      obtain ⟨y, p1⟩ := q
      rw [hz] at hs
      have hb := symA_bd hz
      obtain ⟨g, rfl⟩ : ∃ g, k' = g + 1 := ⟨k' - 1, by omega⟩
      rw [codedA, symA_up h hz]
      dsimp only at hs ⊢
      by_cases c1 : y < 256
      · rw [if_pos c1] at hs ⊢
        split at hs
        · cases hs
        · rename_i hm
          rw [if_neg hm]
          exact codedA_up hs (by omega)
      · rw [if_neg c1] at hs ⊢
        by_cases c2 : y = 256
        · rw [if_pos c2] at hs ⊢; exact hs
        · rw [if_neg c2] at hs ⊢
          cases hc : copyA a most dl y.toNat p1 out with
          | error e => rw [hc] at hs; cases hs
          | ok q2 =>
            obtain ⟨p3, o3⟩ := q2
            rw [hc] at hs
            have hge := copyA_ge hc
            rw [copyA_up h hc]
            dsimp only at hs ⊢
            exact codedA_up hs (by omega)

omit h in
theorem lensA_ge {many p : Nat} {L : List Int} {p2 : Nat} (hl : lensA t many p = some (L, p2)) : p ≤ p2 := by
  unfold lensA at hl
  split at hl
  · dsimp only at hl
    split at hl
    · split at hl
      · have := lensLoop_ge hl; omega
      · cases hl
    · cases hl
  · cases hl

theorem dynA_down {most most' : Int} (hm : most ≤ most') {p : Nat} {out : List Nat} {p2 : Nat} {o : List Nat} (hs : dynA t most p out = .ok (p2, o)) : dynA a most' p out = if p2 ≤ 8 * a.size then .ok (p2, o) else .error 700 := by
  unfold dynA at hs ⊢
  dsimp only at hs ⊢
  split at hs
  · split at hs
    · cases hs
    · rename_i h1 h2
      split at hs
      · cases hs
      · rename_i L p3 hl
        split at hs
        · cases hs
        · rename_i h3
          have hge := lensA_ge hl
          have hge2 := codedA_ge hs
          by_cases hp : p + 10 ≤ 8 * a.size
          · rw [if_pos hp, h.val p 5 (by omega), h.val (p + 5) 5 (by omega), if_neg h2, lensA_down h hl]
            by_cases hp3 : p3 ≤ 8 * a.size
            · rw [if_pos hp3]
              dsimp only
              rw [if_neg h3]
              exact codedA_down h hm hs (by omega) hp3
            · rw [if_neg hp3, if_neg (by omega)]
          · rw [if_neg hp, if_neg (by omega)]
  · cases hs
theorem dynA_up {most : Int} {p : Nat} {out : List Nat} {r : Nat × List Nat} (hs : dynA a most p out = .ok r) : dynA t most p out = .ok r := by
  have hsz := h.sz
  unfold dynA at hs ⊢
  dsimp only at hs ⊢
  split at hs
  · rename_i hp
    split at hs
    · cases hs
    · rename_i h2
      split at hs
      · cases hs
      · rename_i L p3 hl
        split at hs
        · cases hs
        · rename_i h3
          rw [if_pos (by omega), ← h.val p 5 (by omega), ← h.val (p + 5) 5 (by omega), if_neg h2, lensA_up h hl]
          dsimp only
          rw [if_neg h3]
          exact codedA_up h hs (by omega)
  · cases hs

theorem blockA_down {most most' : Int} (hm : most ≤ most') {p : Nat} {out : List Nat} {b : Bool} {p2 : Nat} {o : List Nat} (hs : blockA t most p out = .ok (b, p2, o)) : blockA a most' p out = if p2 ≤ 8 * a.size then .ok (b, p2, o) else .error 700 := by
  have hge := blockA_ge hs
  unfold blockA at hs ⊢
  dsimp only at hs ⊢ hge
  split at hs
  · by_cases hp : p + 3 ≤ 8 * a.size
    · rw [if_pos hp, h.val p 1 (by omega), h.val (p + 1) 2 (by omega)]
      have key : ∀ {r r' : Rs}, (∀ p3 o3, r = .ok (p3, o3) → r' = if p3 ≤ 8 * a.size then .ok (p3, o3) else .error 700) → (match r with | .ok q => Except.ok (ε := Int) (valAt t p 1 == 1, q.1, q.2) | .error k => .error k) = .ok (b, p2, o) → (match r' with | .ok q => Except.ok (ε := Int) (valAt t p 1 == 1, q.1, q.2) | .error k => .error k) = if p2 ≤ 8 * a.size then .ok (b, p2, o) else .error 700 := by
        intro r r' hr hk
        cases r with
        | error k => cases hk
        | ok q =>
          obtain ⟨p3, o3⟩ := q
          rw [hr p3 o3 rfl]
          rw [← hk]
          have h1 : p3 = p2 := by
            have := congrArg (fun r : Except Int (Bool × Nat × List Nat) => match r with | .ok q => q.2.1 | _ => 0) hk
            exact this
          rw [h1]
          by_cases hp2 : p2 ≤ 8 * a.size
          · rw [if_pos hp2, if_pos hp2]
          · rw [if_neg hp2, if_neg hp2]
      refine key (fun p3 o3 hr => ?_) hs
      by_cases d0 : valAt t (p + 1) 2 = 0
      · rw [if_pos d0] at hr ⊢; exact storedA_down h hm hr
      · rw [if_neg d0] at hr ⊢
        by_cases d1 : valAt t (p + 1) 2 = 1
        · rw [if_pos d1] at hr ⊢; exact codedA_down h hm hr (by omega) hp
        · rw [if_neg d1] at hr ⊢
          by_cases d2 : valAt t (p + 1) 2 = 2
          · rw [if_pos d2] at hr ⊢; exact dynA_down h hm hr
          · rw [if_neg d2] at hr; cases hr
    · rw [if_neg hp]
      have : p + 3 ≤ p2 := by
        have h3 : ∀ {r : Rs}, (∀ q, r = .ok q → p + 3 ≤ q.1) → (match r with | .ok q => Except.ok (ε := Int) (valAt t p 1 == 1, q.1, q.2) | .error k => .error k) = .ok (b, p2, o) → p + 3 ≤ p2 := by
          intro r hr hk
          cases r with
          | error k => cases hk
          | ok q => have := hr q rfl; cases hk; exact this
        refine h3 (fun q hr => ?_) hs
        obtain ⟨p3, o3⟩ := q
        by_cases d0 : valAt t (p + 1) 2 = 0
        · rw [if_pos d0] at hr
          unfold storedA at hr
          dsimp only at hr
          split at hr
          · split at hr
            · have := storeA_ge hr; dsimp only; omega
            · cases hr
          · cases hr
        · rw [if_neg d0] at hr
          by_cases d1 : valAt t (p + 1) 2 = 1
          · rw [if_pos d1] at hr; have := codedA_ge hr; dsimp only; omega
          · rw [if_neg d1] at hr
            by_cases d2 : valAt t (p + 1) 2 = 2
            · rw [if_pos d2] at hr
              unfold dynA at hr
              split at hr
              · dsimp only at hr
                split at hr
                · cases hr
                · split at hr
                  · cases hr
                  · rename_i L p4 hl
                    split at hr
                    · cases hr
                    · have := lensA_ge hl; have := codedA_ge hr; dsimp only; omega
              · cases hr
            · rw [if_neg d2] at hr; cases hr
      rw [if_neg (by omega)]
  · cases hs
theorem blockA_up {most : Int} {p : Nat} {out : List Nat} {r : Bool × Nat × List Nat} (hs : blockA a most p out = .ok r) : blockA t most p out = .ok r := by
  have hsz := h.sz
  unfold blockA at hs ⊢
  dsimp only at hs ⊢
  split at hs
  · rename_i hp
    rw [if_pos (by omega), ← h.val p 1 (by omega), ← h.val (p + 1) 2 (by omega)]
    have key : ∀ {x x' : Rs}, (∀ q, x = .ok q → x' = .ok q) → (match x with | .ok q => Except.ok (ε := Int) (valAt a p 1 == 1, q.1, q.2) | .error k => .error k) = .ok r → (match x' with | .ok q => Except.ok (ε := Int) (valAt a p 1 == 1, q.1, q.2) | .error k => .error k) = .ok r := by
      intro x x' hr hk
      cases x with
      | error k => cases hk
      | ok q => rw [hr q rfl]; exact hk
    refine key (fun q hr => ?_) hs
    by_cases d0 : valAt a (p + 1) 2 = 0
    · rw [if_pos d0] at hr ⊢; exact storedA_up h hr
    · rw [if_neg d0] at hr ⊢
      by_cases d1 : valAt a (p + 1) 2 = 1
      · rw [if_pos d1] at hr ⊢; exact codedA_up h hr (by omega)
      · rw [if_neg d1] at hr ⊢
        by_cases d2 : valAt a (p + 1) 2 = 2
        · rw [if_pos d2] at hr ⊢; exact dynA_up h hr
        · rw [if_neg d2] at hr; cases hr
  · cases hs

omit h in
theorem infLoop_ge {most : Int} : ∀ {f p : Nat} {out : List Nat} {p2 : Nat} {o : List Nat}, infLoop t most f p out = .ok (p2, o) → p ≤ p2
  | 0, _, _, _, _, hs => by cases hs
  | f + 1, p, out, p2, o, hs => by
    rw [infLoop] at hs
    cases hb : blockA t most p out with
    | error k => rw [hb] at hs; cases hs
    | ok q =>
      obtain ⟨b, p3, o3⟩ := q
      rw [hb] at hs
      have hge := blockA_ge hb
      dsimp only at hs hge
      cases b with
      | true =>
        simp only [if_true] at hs
        have := congrArg (fun r : Rs => match r with | .ok q => q.1 | _ => 0) hs
        dsimp only at this
        omega
      | false =>
        simp only [Bool.false_eq_true, if_false] at hs
        have := infLoop_ge hs
        omega
theorem infLoop_down {most most' : Int} (hm : most ≤ most') : ∀ {f f' p : Nat} {out : List Nat} {p2 : Nat} {o : List Nat}, infLoop t most f p out = .ok (p2, o) → 8 * a.size < p + f' → p ≤ 8 * a.size → infLoop a most' f' p out = if p2 ≤ 8 * a.size then .ok (p2, o) else .error 700
  | 0, _, _, _, _, _, hs, _, _ => by cases hs
  | f + 1, f', p, out, p2, o, hs, hf, hp => by
    obtain ⟨g, rfl⟩ : ∃ g, f' = g + 1 := ⟨f' - 1, by omega⟩
    rw [infLoop] at hs ⊢
    cases hb : blockA t most p out with
    | error k => rw [hb] at hs; cases hs
    | ok q =>
      obtain ⟨b, p3, o3⟩ := q
      rw [hb] at hs
      have hge := blockA_ge hb
      rw [blockA_down h hm hb]
      dsimp only at hs hge
      cases b with
      | true =>
        simp only [if_true] at hs
        have h1 : p3 = p2 := by
          have := congrArg (fun r : Rs => match r with | .ok q => q.1 | _ => 0) hs
          exact this
        rw [← hs, h1]
        by_cases hp3 : p2 ≤ 8 * a.size
        · rw [if_pos hp3, if_pos hp3]; simp
        · rw [if_neg hp3, if_neg hp3]
      | false =>
        simp only [Bool.false_eq_true, if_false] at hs
        have hge2 : p3 ≤ p2 := infLoop_ge hs
        by_cases hp3 : p3 ≤ 8 * a.size
        · rw [if_pos hp3]
          simp only [Bool.false_eq_true, if_false]
          exact infLoop_down hm hs (by omega) hp3
        · rw [if_neg hp3, if_neg (by omega)]
theorem infLoop_up {most : Int} : ∀ {f f' p : Nat} {out : List Nat} {r : Nat × List Nat}, infLoop a most f p out = .ok r → 8 * t.size < p + f' → p ≤ 8 * t.size → infLoop t most f' p out = .ok r
  | 0, _, _, _, _, hs, _, _ => by cases hs
  | f + 1, f', p, out, r, hs, hf, hp => by
    obtain ⟨g, rfl⟩ : ∃ g, f' = g + 1 := ⟨f' - 1, by omega⟩
    rw [infLoop] at hs ⊢
    cases hb : blockA a most p out with
    | error k => rw [hb] at hs; cases hs
    | ok q =>
      obtain ⟨b, p3, o3⟩ := q
      rw [hb] at hs
      have hge := blockA_ge hb
      have hbt := blockA_up h hb
      rw [hbt]
      dsimp only at hs hge ⊢
      cases b with
      | true => exact hs
      | false =>
        simp only [Bool.false_eq_true, if_false] at hs ⊢
        by_cases hp3 : p3 ≤ 8 * t.size
        · exact infLoop_up hs (by omega) hp3
        · -- what is told ends within the bytes
          exfalso
          have : p3 ≤ 8 * t.size := by
            have hd := blockA_down (a := t) (t := t) ⟨Nat.le_refl _, fun _ _ => rfl⟩ (Int.le_refl most) hbt
            rw [hbt] at hd
            by_cases q : p3 ≤ 8 * t.size
            · exact q
            · rw [if_neg q] at hd; cases hd
          exact hp3 this
end
end Ab

/- What a stream comes to within a smaller bound; InflateBound's plain law. No program in sight. -/
set_option linter.unusedSimpArgs false
set_option linter.unusedVariables false
namespace Ab
open Go

theorem storeA_len {t : ByteArray} {most : Int} : ∀ {n p : Nat} {out : List Nat} {p2 : Nat} {o : List Nat}, storeA t most n p out = .ok (p2, o) → out.length ≤ o.length
  | 0, p, out, p2, o, hs => by rw [storeA] at hs; cases hs; exact Nat.le_refl _
  | n + 1, p, out, p2, o, hs => by
    rw [storeA] at hs
    split at hs
    · split at hs
      · cases hs
      · have := storeA_len hs; simp at this; omega
    · cases hs
theorem copyL_len {most : Int} {d : Nat} : ∀ {n : Nat} {out o : List Nat}, copyL most d n out = .ok o → out.length ≤ o.length
  | 0, out, o, hs => by rw [copyL] at hs; cases hs; exact Nat.le_refl _
  | n + 1, out, o, hs => by
    rw [copyL] at hs
    split at hs
    · cases hs
    · have := copyL_len hs; simp at this; omega

variable {t : ByteArray} {most most' : Int}

theorem storeA_bound : ∀ {n p : Nat} {out : List Nat} {p2 : Nat} {o : List Nat}, storeA t most n p out = .ok (p2, o) → (out.length : Int) ≤ most' → storeA t most' n p out = if (o.length : Int) ≤ most' then .ok (p2, o) else .error 701
  | 0, p, out, p2, o, hs, hm => by
    rw [storeA] at hs ⊢
    have h2 : out = o := by
      have := congrArg (fun r : Rs => match r with | .ok q => q.2 | _ => []) hs
      exact this
    subst h2
    rw [if_pos hm]; exact hs
  | n + 1, p, out, p2, o, hs, hm => by
    rw [storeA] at hs ⊢
    split at hs
    · rename_i hp
      split at hs
      · cases hs
      · rw [if_pos hp]
        have hlen := storeA_len hs
        simp only [List.length_append, List.length_singleton] at hlen
        by_cases hle : most' ≤ (out.length : Int)
        · rw [if_pos hle, if_neg (by omega)]
        · rw [if_neg hle]
          exact storeA_bound hs (by simp; omega)
    · cases hs
theorem copyL_bound {d : Nat} : ∀ {n : Nat} {out o : List Nat}, copyL most d n out = .ok o → (out.length : Int) ≤ most' → copyL most' d n out = if (o.length : Int) ≤ most' then .ok o else .error 701
  | 0, out, o, hs, hm => by
    rw [copyL] at hs ⊢
    cases hs
    rw [if_pos hm]
  | n + 1, out, o, hs, hm => by
    rw [copyL] at hs ⊢
    split at hs
    · cases hs
    · have hlen := copyL_len hs
      simp only [List.length_append, List.length_singleton] at hlen
      by_cases hle : most' ≤ (out.length : Int)
      · rw [if_pos hle, if_neg (by omega)]
      · rw [if_neg hle]
        exact copyL_bound hs (by simp; omega)

theorem copyA_bound {dl : List Int} {y p : Nat} {out : List Nat} {p2 : Nat} {o : List Nat} (hs : copyA t most dl y p out = .ok (p2, o)) (hm : (out.length : Int) ≤ most') : (copyA t most' dl y p out = if (o.length : Int) ≤ most' then .ok (p2, o) else .error 701) ∧ out.length ≤ o.length := by
  unfold copyA at hs ⊢
  cases hl : lenOf y with
  | none => rw [hl] at hs; cases hs
  | some le =>
    obtain ⟨least, extra⟩ := le
    rw [hl] at hs
    dsimp only at hs ⊢
    split at hs
    · rename_i hp
      rw [if_pos hp]
      cases hz : symA t dl 15 1 0 (p + extra) with
      | none => rw [hz] at hs; cases hs
      | some q =>
        obtain ⟨z, p3⟩ := q
        rw [hz] at hs
        dsimp only at hs ⊢
        cases hd : distOf z.toNat with
        | none => rw [hd] at hs; cases hs
        | some lx =>
          obtain ⟨ld, xd⟩ := lx
          rw [hd] at hs
          dsimp only at hs ⊢
          split at hs
          · rename_i h2
            rw [if_pos h2]
            cases hc : copyL most (ld + valAt t p3 xd) (least + valAt t p extra) out with
            | error k => rw [hc] at hs; cases hs
            | ok o2 =>
              rw [hc] at hs
              dsimp only at hs
              have h3 : o2 = o := by
                have := congrArg (fun r : Rs => match r with | .ok q => q.2 | _ => []) hs
                exact this
              subst h3
              have hlen := copyL_len hc
              rw [copyL_bound hc hm]
              refine ⟨?_, hlen⟩
              by_cases hle : (o2.length : Int) ≤ most'
              · rw [if_pos hle, if_pos hle]; exact hs
              · rw [if_neg hle, if_neg hle]
          · cases hs
    · cases hs

theorem codedA_bound {ll dl : List Int} : ∀ {k p : Nat} {out : List Nat} {p2 : Nat} {o : List Nat} {most' : Int}, codedA t most ll dl k p out = .ok (p2, o) → (out.length : Int) ≤ most' → (codedA t most' ll dl k p out = if (o.length : Int) ≤ most' then .ok (p2, o) else .error 701) ∧ out.length ≤ o.length
  | 0, _, _, _, _, _, hs, _ => by cases hs
  | k + 1, p, out, p2, o, most', hs, hm => by
    rw [codedA] at hs ⊢
    cases hz : symA t ll 15 1 0 p with
    | none => rw [hz] at hs; cases hs
    | some q =>
      obtain ⟨y, p1⟩ := q
      rw [hz] at hs
      dsimp only at hs ⊢
      by_cases c1 : y < 256
      · rw [if_pos c1] at hs ⊢
        split at hs
        · cases hs
        · by_cases hle : most' ≤ (out.length : Int)
          · rw [if_pos hle]
            -- the length alone
            have hlen : (out ++ [y.toNat]).length ≤ o.length := (codedA_bound (most' := ((out ++ [y.toNat]).length : Int)) hs (Int.le_refl _)).2
            simp only [List.length_append, List.length_singleton] at hlen
            exact ⟨by rw [if_neg (by omega)], by omega⟩
          · rw [if_neg hle]
            have := codedA_bound (most' := most') hs (by simp; omega)
            refine ⟨this.1, ?_⟩
            have h2 := this.2
            simp only [List.length_append, List.length_singleton] at h2
            omega
      · rw [if_neg c1] at hs ⊢
        by_cases c2 : y = 256
        · rw [if_pos c2] at hs ⊢
          have h3 : out = o := by
            have := congrArg (fun r : Rs => match r with | .ok q => q.2 | _ => []) hs
            exact this
          subst h3
          rw [if_pos hm]
          exact ⟨hs, Nat.le_refl _⟩
        · rw [if_neg c2] at hs ⊢
          cases hc : copyA t most dl y.toNat p1 out with
          | error e => rw [hc] at hs; cases hs
          | ok q2 =>
            obtain ⟨p3, o3⟩ := q2
            rw [hc] at hs
            dsimp only at hs
            have hb := copyA_bound (most' := most') hc hm
            rw [hb.1]
            by_cases hle : (o3.length : Int) ≤ most'
            · rw [if_pos hle]
              have := codedA_bound (most' := most') hs hle
              exact ⟨this.1, Nat.le_trans hb.2 this.2⟩
            · rw [if_neg hle]
              have hlen : o3.length ≤ o.length := (codedA_bound (most' := (o3.length : Int)) hs (Int.le_refl _)).2
              exact ⟨by rw [if_neg (by omega)], by omega⟩

theorem storedA_bound {p : Nat} {out : List Nat} {p2 : Nat} {o : List Nat} (hs : storedA t most p out = .ok (p2, o)) (hm : (out.length : Int) ≤ most') : (storedA t most' p out = if (o.length : Int) ≤ most' then .ok (p2, o) else .error 701) ∧ out.length ≤ o.length := by
  unfold storedA at hs ⊢
  dsimp only at hs ⊢
  split at hs
  · rename_i h1
    split at hs
    · rename_i h2
      rw [if_pos h1, if_pos h2]
      exact ⟨storeA_bound hs hm, storeA_len hs⟩
    · cases hs
  · cases hs
theorem dynA_bound {p : Nat} {out : List Nat} {p2 : Nat} {o : List Nat} (hs : dynA t most p out = .ok (p2, o)) (hm : (out.length : Int) ≤ most') : (dynA t most' p out = if (o.length : Int) ≤ most' then .ok (p2, o) else .error 701) ∧ out.length ≤ o.length := by
  unfold dynA at hs ⊢
  dsimp only at hs ⊢
  split at hs
  · rename_i h1
    rw [if_pos h1]
    split at hs
    · cases hs
    · rename_i h2
      rw [if_neg h2]
      split at hs
      · cases hs
      · rename_i L p3 hl
        split at hs
        · cases hs
        · rename_i h3
          rw [if_neg h3]
          exact codedA_bound hs hm
  · cases hs

theorem blockA_bound {p : Nat} {out : List Nat} {b : Bool} {p2 : Nat} {o : List Nat} (hs : blockA t most p out = .ok (b, p2, o)) (hm : (out.length : Int) ≤ most') : (blockA t most' p out = if (o.length : Int) ≤ most' then .ok (b, p2, o) else .error 701) ∧ out.length ≤ o.length := by
  unfold blockA at hs ⊢
  dsimp only at hs ⊢
  split at hs
  · rename_i hp
    rw [if_pos hp]
    have key : ∀ {r r' : Rs}, (∀ p3 o3, r = .ok (p3, o3) → (r' = if (o3.length : Int) ≤ most' then .ok (p3, o3) else .error 701) ∧ out.length ≤ o3.length) → (match r with | .ok q => Except.ok (ε := Int) (valAt t p 1 == 1, q.1, q.2) | .error k => .error k) = .ok (b, p2, o) → ((match r' with | .ok q => Except.ok (ε := Int) (valAt t p 1 == 1, q.1, q.2) | .error k => .error k) = if (o.length : Int) ≤ most' then .ok (b, p2, o) else .error 701) ∧ out.length ≤ o.length := by
      intro r r' hr hk
      cases r with
      | error k => cases hk
      | ok q =>
        obtain ⟨p3, o3⟩ := q
        have h1 := hr p3 o3 rfl
        have h2 : o3 = o := by
          have := congrArg (fun r : Except Int (Bool × Nat × List Nat) => match r with | .ok q => q.2.2 | _ => []) hk
          exact this
        rw [h1.1, ← hk, ← h2]
        refine ⟨?_, h1.2⟩
        by_cases hle : (o3.length : Int) ≤ most'
        · rw [if_pos hle, if_pos hle]
        · rw [if_neg hle, if_neg hle]
    refine key (fun p3 o3 hr => ?_) hs
    by_cases d0 : valAt t (p + 1) 2 = 0
    · rw [if_pos d0] at hr ⊢; exact storedA_bound hr hm
    · rw [if_neg d0] at hr ⊢
      by_cases d1 : valAt t (p + 1) 2 = 1
      · rw [if_pos d1] at hr ⊢; exact codedA_bound hr hm
      · rw [if_neg d1] at hr ⊢
        by_cases d2 : valAt t (p + 1) 2 = 2
        · rw [if_pos d2] at hr ⊢; exact dynA_bound hr hm
        · rw [if_neg d2] at hr; cases hr
  · cases hs

theorem infLoop_bound : ∀ {f p : Nat} {out : List Nat} {p2 : Nat} {o : List Nat} {most' : Int}, infLoop t most f p out = .ok (p2, o) → (out.length : Int) ≤ most' → (infLoop t most' f p out = if (o.length : Int) ≤ most' then .ok (p2, o) else .error 701) ∧ out.length ≤ o.length
  | 0, _, _, _, _, _, hs, _ => by cases hs
  | f + 1, p, out, p2, o, most', hs, hm => by
    rw [infLoop] at hs ⊢
    cases hb : blockA t most p out with
    | error k => rw [hb] at hs; cases hs
    | ok q =>
      obtain ⟨b, p3, o3⟩ := q
      rw [hb] at hs
      have h1 := blockA_bound (most' := most') hb hm
      rw [h1.1]
      dsimp only at hs
      cases b with
      | true =>
        simp only [if_true] at hs
        have h2 : o3 = o := by
          have := congrArg (fun r : Rs => match r with | .ok q => q.2 | _ => []) hs
          exact this
        subst h2
        refine ⟨?_, h1.2⟩
        by_cases hle : (o3.length : Int) ≤ most'
        · rw [if_pos hle, if_pos hle]; simp only [if_true]; exact hs
        · rw [if_neg hle, if_neg hle]
      | false =>
        simp only [Bool.false_eq_true, if_false] at hs
        by_cases hle : (o3.length : Int) ≤ most'
        · rw [if_pos hle]
          simp only [Bool.false_eq_true, if_false]
          have := infLoop_bound (most' := most') hs hle
          exact ⟨this.1, Nat.le_trans h1.2 this.2⟩
        · rw [if_neg hle]
          have hlen : o3.length ≤ o.length := (infLoop_bound (most' := (o3.length : Int)) hs (Int.le_refl _)).2
          exact ⟨by rw [if_neg (by omega)], by have := h1.2; omega⟩

/-! ### The whole stream -/
theorem inflateA_ok {o : List Nat} {took : Nat} (hs : inflateA t most = .ok (o, took)) : ∃ p, infLoop t most (8 * t.size + 1) 0 [] = .ok (p, o) ∧ took = (p + 7) / 8 ∧ 0 < p ∧ p ≤ 8 * t.size ∧ (o.length : Int) ≤ most ∧ 0 ≤ most ∧ most ≤ 8192 := by
  unfold inflateA at hs
  split at hs
  · cases hs
  · rename_i h1
    cases hi : infLoop t most (8 * t.size + 1) 0 [] with
    | error k => rw [hi] at hs; cases hs
    | ok q =>
      obtain ⟨p, o2⟩ := q
      rw [hi] at hs
      dsimp only at hs
      have h2 : o2 = o ∧ (p + 7) / 8 = took := by
        have := congrArg (fun r : Except Int (List Nat × Nat) => match r with | .ok q => q | _ => ([], 0)) hs
        exact Prod.mk.inj this
      obtain ⟨rfl, rfl⟩ := h2
      have hd := infLoop_down (a := t) (t := t) ⟨Nat.le_refl _, fun _ _ => rfl⟩ (Int.le_refl most) hi (f' := 8 * t.size + 1) (by omega) (Nat.zero_le _)
      rw [hi] at hd
      have hp : p ≤ 8 * t.size := by
        by_cases q : p ≤ 8 * t.size
        · exact q
        · rw [if_neg q] at hd; cases hd
      have hb := (infLoop_bound (most' := most) hi (by simp; omega)).1
      rw [hi] at hb
      have hl : (o2.length : Int) ≤ most := by
        by_cases q : (o2.length : Int) ≤ most
        · exact q
        · rw [if_neg q] at hb; cases hb
      have hp0 : 0 < p := by
        rw [infLoop] at hi
        cases hbk : blockA t most 0 [] with
        | error k => rw [hbk] at hi; cases hi
        | ok z =>
          obtain ⟨b, p3, o3⟩ := z
          rw [hbk] at hi
          have hge := blockA_ge hbk
          dsimp only at hi hge
          cases b with
          | true =>
            simp only [if_true] at hi
            have := congrArg (fun r : Rs => match r with | .ok q => q.1 | _ => 0) hi
            dsimp only at this
            omega
          | false =>
            simp only [Bool.false_eq_true, if_false] at hi
            have := infLoop_ge hi
            omega
      exact ⟨p, rfl, rfl, hp0, hp, hl, by omega, by omega⟩

/-- On a part of its bytes, within a bound that is no smaller. -/
theorem inflateA_part {a : ByteArray} (hp : Pre a t) {o : List Nat} {took : Nat} (hs : inflateA t most = .ok (o, took)) (hm : most ≤ most') (hm' : most' ≤ 8192) : inflateA a most' = if took ≤ a.size then .ok (o, took) else .error 700 := by
  obtain ⟨p, h1, h2, h3, h4, h5, h6, h7⟩ := inflateA_ok hs
  have hd := infLoop_down hp hm h1 (f' := 8 * a.size + 1) (by omega) (Nat.zero_le _)
  unfold inflateA
  rw [if_neg (by omega), hd]
  by_cases q : p ≤ 8 * a.size
  · rw [if_pos q, if_pos (by omega)]; dsimp only; rw [h2]
  · rw [if_neg q, if_neg (by omega)]

/-- With bytes behind. -/
theorem inflateA_more {a : ByteArray} (hp : Pre a t) {o : List Nat} {took : Nat} (hs : inflateA a most = .ok (o, took)) : inflateA t most = .ok (o, took) := by
  obtain ⟨p, h1, h2, h3, h4, h5, h6, h7⟩ := inflateA_ok hs
  have hu := infLoop_up hp h1 (f' := 8 * t.size + 1) (by omega) (Nat.zero_le _)
  unfold inflateA
  rw [if_neg (by omega), hu]
  dsimp only; rw [h2]

/-- Within a smaller bound. -/
theorem inflateA_less {o : List Nat} {took : Nat} (hs : inflateA t most = .ok (o, took)) (h0 : 0 ≤ most') (hm : most' < (o.length : Int)) : inflateA t most' = .error 701 := by
  obtain ⟨p, h1, h2, h3, h4, h5, h6, h7⟩ := inflateA_ok hs
  have hb := (infLoop_bound (most' := most') h1 (by simpa using h0)).1
  unfold inflateA
  rw [if_neg (by omega), hb, if_neg (by omega)]

theorem getElem?_extract0 {s : ByteArray} {n i : Nat} (hn : n ≤ s.size) (hi : i < n) : (s.extract 0 n)[i]? = s[i]? := by
  have h1 : i < (s.extract 0 n).size := by simp [ByteArray.size_extract]; omega
  rw [getElem?_pos (s.extract 0 n) i h1, getElem?_pos s i (by omega)]
  simp [ByteArray.getElem_extract]

theorem pre_extract {s : ByteArray} {n : Nat} (hn : n ≤ s.size) : Pre (s.extract 0 n) s := by
  refine ⟨by rw [ByteArray.size_extract]; omega, fun i hi => ?_⟩
  have hsz : (s.extract 0 n).size = n := by simp [ByteArray.size_extract]; omega
  unfold bitAt
  rw [getElem?_extract0 hn (by omega)]
theorem pre_append (a b : ByteArray) : Pre a (a ++ b) := by
  refine ⟨by rw [ByteArray.size_append]; omega, fun i hi => ?_⟩
  unfold bitAt
  have h1 : i / 8 < a.size := by omega
  rw [getElem?_pos a _ h1, getElem?_pos (a ++ b) _ (by rw [ByteArray.size_append]; omega), ByteArray.getElem_append_left h1]
end Ab

/- portagelaw7: InflateBound. -/
set_option linter.unusedSimpArgs false
set_option linter.unusedVariables false
namespace Ab
open Go

theorem asls_hi {s : ByteArray} {n : Nat} (hn : n ≤ s.size) : asls (.str s) none (some (I n)) = some (.str (s.extract 0 n)) := by
  have : sbound (I n) s.size = some n := sb_of hn
  simp [asls, osbound, this]
theorem bytesOf_size (l : List Nat) : (bytesOf l).size = l.length := by
  show (l.map UInt8.ofNat).toArray.size = _
  simp

set_option maxHeartbeats 1000000 in
theorem inflateBound_c (s : ByteArray) (most : Int) (more : ByteArray) (hs : s.size < 140737488355328) (hm : -9223372036854775808 ≤ most ∧ most < 9223372036854775808) (hmr : more.size < 140737488355328) (h : H) : callW AP.A 1 [.str s, I most, .str more] h = some (.bool true, h) := by
  have aw := awake_c h.fence
  obtain ⟨k, hk⟩ : ∃ k : Nat, (IntKind.wrap .u64 most).tmod 8193 = k := by
    refine Int.eq_ofNat_of_zero_le ?_
    rw [wrapU, Int.tmod_eq_emod_of_nonneg (by omega)]; omega
  have hk2 : k ≤ 8192 := by rw [wrapU, Int.tmod_eq_emod_of_nonneg (by omega)] at hk; omega
  have q1 : abin .rem (.int .u64 (IntKind.wrap .u64 most)) (.int .u64 8193) = some (.int .u64 k) := by rw [abin_rem _ _ _ (by omega), hk]
  have w4 : IntKind.wrap .i64 (k : Int) = k := wrap_nat64 (by omega)
  have k1 := inflate_c h.fence (Nat.le_refl _) s k (by omega)
  cases hr : inflateA s k with
  | error e =>
    rw [hr] at k1
    have he : e ≠ 0 := by
      intro he
      subst he
      -- what is met is never 0
      unfold inflateA at hr
      split at hr
      · cases hr
      · cases hi : infLoop s k (8 * s.size + 1) 0 [] with
        | ok q => rw [hi] at hr; cases hr
        | error e2 =>
          rw [hi] at hr
          have st : St ⟨1, 0, s, k⟩ ⟨0, [], 0⟩ ((H.empty.alloc [.str s, I 0]).alloc [.pobj 0 0, .nils, I k, I 0]) .nils := by
            refine ⟨by simp [H.get_alloc, H.empty], by simp [H.get_alloc, H.empty], .inl ⟨rfl, rfl⟩, by simp, by simp [H.empty], by simp [H.empty], by simp [AV.id?], by simp [AV.id?], by simp [H.empty], by show s.size < _; omega, by simp, by simp, by show (k : Int) ≤ 900000; omega⟩
          obtain ⟨_, _, _, _, _, _, _, _, q5⟩ := inf_loop (8 * s.size + 1) ⟨0, [], 0⟩ _ .nils st rfl (by show 8 * s.size < 0 + (8 * s.size + 1); omega)
          dsimp only at q5
          rw [hi] at q5
          have := q5.2
          cases hr
          exact this rfl
    have n1 := num_c h.fence e
    have c1 := bne_t he
    have e1 : abin .eql (.str ⟨#[]⟩) (.str ⟨#[]⟩) = some (.bool true) := by rw [str_eql]; rfl
    refine pure_c (fn := AP.f1) (h2 := h.fence) (e := [(6, .bool true)]) rfl rfl rfl ?_ rfl rfl
    simp only [I, infV] at *
    simp only [AP.f1, go_sem, abin_shl, abin_shr, Nat.reduceEqDiff, reduceIte, Nat.reduceAdd, Nat.reduceMul, Nat.reduceLT, Nat.reduceLeDiff, Int.reduceBEq, Int.reduceBNe, Int.reduceLT, Int.reduceLE, Int.reduceEq, aw, q1, w4, k1, n1, c1, e1]
  | ok q =>
    obtain ⟨o, took⟩ := q
    rw [hr] at k1
    obtain ⟨p, h1, h2, h3, h4, h5, h6, h7⟩ := inflateA_ok hr
    have ht1 : 1 ≤ took ∧ took ≤ s.size := by omega
    have hex : (s.extract 0 took).size = took := by rw [ByteArray.size_extract]; omega
    have r2 : inflateA (s.extract 0 took ++ more) 8192 = .ok (o, took) := by
      refine inflateA_more (pre_append _ _) ?_
      rw [inflateA_part (pre_extract ht1.2) hr (by omega) (Int.le_refl _), if_pos (by omega)]
    have hex2 : (s.extract 0 (took - 1)).size = took - 1 := by rw [ByteArray.size_extract]; omega
    have r4 : inflateA (s.extract 0 (took - 1)) 8192 = .error 700 := by
      rw [inflateA_part (pre_extract (by omega)) hr (by omega) (Int.le_refl _), if_neg (by omega)]
    have sl1 := asls_hi ht1.2
    have sl2 := asls_hi (show took - 1 ≤ s.size by omega)
    have ad : abin .add (.str (s.extract 0 took)) (.str more) = some (.str (s.extract 0 took ++ more)) := abin_strAdd (by omega)
    have k2 := inflate_c h.fence (Nat.le_refl _) (s.extract 0 took ++ more) 8192 (by rw [ByteArray.size_append, hex]; omega)
    rw [r2] at k2
    have k4 := inflate_c h.fence (Nat.le_refl _) (s.extract 0 (took - 1)) 8192 (by rw [hex2]; omega)
    rw [r4] at k4
    have n0 := num_c h.fence 0
    have n7 := num_c h.fence 700
    have n71 := num_c h.fence 701
    have bsz := bytesOf_size o
    have d1 : ¬ (took : Int) < 1 := by omega
    have d2 : ¬ (s.size : Int) < (took : Int) := by omega
    have d3 : ¬ (k : Int) < ((bytesOf o).size : Int) := by rw [bsz]; omega
    have e0 : ((0 : Int) != 0) = false := rfl
    have e3 : abin .neq (.str (bytesOf o)) (.str (bytesOf o)) = some (.bool false) := by rw [str_neq]; simp
    have e4 : ((took : Int) != (took : Int)) = false := bne_f rfl
    have e5 : ((701 : Int) != 701) = false := rfl
    have w5 : IntKind.wrap .i64 ((took : Int) - 1) = ((took - 1 : Nat) : Int) := by rw [show (took : Int) - 1 = ((took - 1 : Nat) : Int) by omega]; exact wrap_nat64 (by omega)
    by_cases ho : 0 < o.length
    · have d4 : (0 : Int) < ((bytesOf o).size : Int) := by rw [bsz]; omega
      have w6 : IntKind.wrap .i64 (((bytesOf o).size : Int) - 1) = ((o.length - 1 : Nat) : Int) := by rw [bsz, show (o.length : Int) - 1 = ((o.length - 1 : Nat) : Int) by omega]; exact wrap_nat64 (by omega)
      have r3 : inflateA s ((o.length - 1 : Nat) : Int) = .error 701 := inflateA_less hr (by omega) (by omega)
      have k3 := inflate_c h.fence (Nat.le_refl _) s ((o.length - 1 : Nat) : Int) (by omega)
      rw [r3] at k3
      refine pure_c (fn := AP.f1) (h2 := h.fence) (e := [(6, .bool true)]) rfl rfl rfl ?_ rfl rfl
      simp only [infV] at k1 k2 k3 k4
      clear r2 r4 r3 hex hex2 h1 h2 h3 h4 h5 h6 h7 hr bsz ho
      generalize bytesOf o = B at *
      generalize s.extract 0 took ++ more = T2 at *
      generalize s.extract 0 took = T1 at *
      generalize s.extract 0 (took - 1) = T3 at *
      generalize o.length - 1 = OL at *
      generalize took - 1 = TK at *
      simp only [I, infV] at *
      simp only [AP.f1, go_sem, abin_shl, abin_shr, Nat.reduceEqDiff, reduceIte, Nat.reduceAdd, Nat.reduceMul, Nat.reduceLT, Nat.reduceLeDiff, Int.reduceBEq, Int.reduceBNe, Int.reduceLT, Int.reduceLE, Int.reduceEq, Option.map_some, Option.map_none, aw, q1, w4, k1, n0, e0, decide_eq_false d1, decide_eq_false d2, decide_eq_false d3, sl1, ad, k2, e3, e4, decide_eq_true d4, w6, k3, n71, e5, w5, sl2, k4, n7]
    · have d4 : ¬ (0 : Int) < ((bytesOf o).size : Int) := by rw [bsz]; omega
      refine pure_c (fn := AP.f1) (h2 := h.fence) (e := [(6, .bool true)]) rfl rfl rfl ?_ rfl rfl
      simp only [infV] at k1 k2 k4
      clear r2 r4 hex hex2 h1 h2 h3 h4 h5 h6 h7 hr bsz ho
      generalize bytesOf o = B at *
      generalize s.extract 0 took ++ more = T2 at *
      generalize s.extract 0 took = T1 at *
      generalize s.extract 0 (took - 1) = T3 at *
      generalize took - 1 = TK at *
      simp only [I, infV] at *
      simp only [AP.f1, go_sem, abin_shl, abin_shr, Nat.reduceEqDiff, reduceIte, Nat.reduceAdd, Nat.reduceMul, Nat.reduceLT, Nat.reduceLeDiff, Int.reduceBEq, Int.reduceBNe, Int.reduceLT, Int.reduceLE, Int.reduceEq, Option.map_some, Option.map_none, aw, q1, w4, k1, n0, e0, decide_eq_false d1, decide_eq_false d2, decide_eq_false d3, sl1, ad, k2, e3, e4, decide_eq_false d4, w5, sl2, k4, n7]
end Ab
