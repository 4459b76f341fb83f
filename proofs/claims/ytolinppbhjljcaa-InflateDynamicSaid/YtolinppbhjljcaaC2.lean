/- Part C2. -/
import Derived.Test.YtolinppbhjljcaaC1
set_option linter.unusedSimpArgs false
set_option linter.unusedVariables false
namespace Ab
open Go
theorem storeA_len {t : ByteArray} {most : Int} : ∀ {n p : Nat} {out : List Nat} {p2 : Nat} {o : List Nat}, storeA t most n p out = .ok (p2, o) → out.length ≤ o.length
  | 0, p, out, p2, o, hs => by rw [storeA] at hs; cases hs; exact Nat.le_refl _
  | n + 1, p, out, p2, o, hs => by
    rw [storeA] at hs
    split at hs
    · split at hs
      · cases hs
      · have := storeA_len hs; simp at this; omega
    · cases hs
theorem copyL_len {most : Int} {d : Nat} : ∀ {n : Nat} {out o : List Nat}, copyL most d n out = .ok o → out.length ≤ o.length
  | 0, out, o, hs => by rw [copyL] at hs; cases hs; exact Nat.le_refl _
  | n + 1, out, o, hs => by
    rw [copyL] at hs
    split at hs
    · cases hs
    · have := copyL_len hs; simp at this; omega
variable {t : ByteArray} {most most' : Int}
theorem storeA_bound : ∀ {n p : Nat} {out : List Nat} {p2 : Nat} {o : List Nat}, storeA t most n p out = .ok (p2, o) → (out.length : Int) ≤ most' → storeA t most' n p out = if (o.length : Int) ≤ most' then .ok (p2, o) else .error 701
  | 0, p, out, p2, o, hs, hm => by
    rw [storeA] at hs ⊢
    have h2 : out = o := by
      have := congrArg (fun r : Rs => match r with | .ok q => q.2 | _ => []) hs
      exact this
    subst h2
    rw [if_pos hm]; exact hs
  | n + 1, p, out, p2, o, hs, hm => by
    rw [storeA] at hs ⊢
    split at hs
    · rename_i hp
      split at hs
      · cases hs
      · rw [if_pos hp]
        have hlen := storeA_len hs
        simp only [List.length_append, List.length_singleton] at hlen
        by_cases hle : most' ≤ (out.length : Int)
        · rw [if_pos hle, if_neg (by omega)]
        · rw [if_neg hle]
          exact storeA_bound hs (by simp; omega)
    · cases hs
theorem copyL_bound {d : Nat} : ∀ {n : Nat} {out o : List Nat}, copyL most d n out = .ok o → (out.length : Int) ≤ most' → copyL most' d n out = if (o.length : Int) ≤ most' then .ok o else .error 701
  | 0, out, o, hs, hm => by
    rw [copyL] at hs ⊢
    cases hs
    rw [if_pos hm]
  | n + 1, out, o, hs, hm => by
    rw [copyL] at hs ⊢
    split at hs
    · cases hs
    · have hlen := copyL_len hs
      simp only [List.length_append, List.length_singleton] at hlen
      by_cases hle : most' ≤ (out.length : Int)
      · rw [if_pos hle, if_neg (by omega)]
      · rw [if_neg hle]
        exact copyL_bound hs (by simp; omega)
theorem copyA_bound {dl : List Int} {y p : Nat} {out : List Nat} {p2 : Nat} {o : List Nat} (hs : copyA t most dl y p out = .ok (p2, o)) (hm : (out.length : Int) ≤ most') : (copyA t most' dl y p out = if (o.length : Int) ≤ most' then .ok (p2, o) else .error 701) ∧ out.length ≤ o.length := by
  unfold copyA at hs ⊢
  cases hl : lenOf y with
  | none => rw [hl] at hs; cases hs
  | some le =>
    obtain ⟨least, extra⟩ := le
    rw [hl] at hs
    dsimp only at hs ⊢
    split at hs
    · rename_i hp
      rw [if_pos hp]
      cases hz : symA t dl 15 1 0 (p + extra) with
      | none => rw [hz] at hs; cases hs
      | some q =>
        obtain ⟨z, p3⟩ := q
        rw [hz] at hs
        dsimp only at hs ⊢
        cases hd : distOf z.toNat with
        | none => rw [hd] at hs; cases hs
        | some lx =>
          obtain ⟨ld, xd⟩ := lx
          rw [hd] at hs
          dsimp only at hs ⊢
          split at hs
          · rename_i h2
            rw [if_pos h2]
            cases hc : copyL most (ld + valAt t p3 xd) (least + valAt t p extra) out with
            | error k => rw [hc] at hs; cases hs
            | ok o2 =>
              rw [hc] at hs
              dsimp only at hs
              have h3 : o2 = o := by
                have := congrArg (fun r : Rs => match r with | .ok q => q.2 | _ => []) hs
                exact this
              subst h3
              have hlen := copyL_len hc
              rw [copyL_bound hc hm]
              refine ⟨?_, hlen⟩
              by_cases hle : (o2.length : Int) ≤ most'
              · rw [if_pos hle, if_pos hle]; exact hs
              · rw [if_neg hle, if_neg hle]
          · cases hs
    · cases hs
theorem codedA_bound {ll dl : List Int} : ∀ {k p : Nat} {out : List Nat} {p2 : Nat} {o : List Nat} {most' : Int}, codedA t most ll dl k p out = .ok (p2, o) → (out.length : Int) ≤ most' → (codedA t most' ll dl k p out = if (o.length : Int) ≤ most' then .ok (p2, o) else .error 701) ∧ out.length ≤ o.length
  | 0, _, _, _, _, _, hs, _ => by cases hs
  | k + 1, p, out, p2, o, most', hs, hm => by
    rw [codedA] at hs ⊢
    cases hz : symA t ll 15 1 0 p with
    | none => rw [hz] at hs; cases hs
    | some q =>
      obtain ⟨y, p1⟩ := q
      rw [hz] at hs
      dsimp only at hs ⊢
      by_cases c1 : y < 256
      · rw [if_pos c1] at hs ⊢
        split at hs
        · cases hs
        · by_cases hle : most' ≤ (out.length : Int)
          · rw [if_pos hle]
            have hlen : (out ++ [y.toNat]).length ≤ o.length := (codedA_bound (most' := ((out ++ [y.toNat]).length : Int)) hs (Int.le_refl _)).2
            simp only [List.length_append, List.length_singleton] at hlen
            exact ⟨by rw [if_neg (by omega)], by omega⟩
          · rw [if_neg hle]
            have := codedA_bound (most' := most') hs (by simp; omega)
            refine ⟨this.1, ?_⟩
            have h2 := this.2
            simp only [List.length_append, List.length_singleton] at h2
            omega
      · rw [if_neg c1] at hs ⊢
        by_cases c2 : y = 256
        · rw [if_pos c2] at hs ⊢
          have h3 : out = o := by
            have := congrArg (fun r : Rs => match r with | .ok q => q.2 | _ => []) hs
            exact this
          subst h3
          rw [if_pos hm]
          exact ⟨hs, Nat.le_refl _⟩
        · rw [if_neg c2] at hs ⊢
          cases hc : copyA t most dl y.toNat p1 out with
          | error e => rw [hc] at hs; cases hs
          | ok q2 =>
            obtain ⟨p3, o3⟩ := q2
            rw [hc] at hs
            dsimp only at hs
            have hb := copyA_bound (most' := most') hc hm
            rw [hb.1]
            by_cases hle : (o3.length : Int) ≤ most'
            · rw [if_pos hle]
              have := codedA_bound (most' := most') hs hle
              exact ⟨this.1, Nat.le_trans hb.2 this.2⟩
            · rw [if_neg hle]
              have hlen : o3.length ≤ o.length := (codedA_bound (most' := (o3.length : Int)) hs (Int.le_refl _)).2
              exact ⟨by rw [if_neg (by omega)], by omega⟩
theorem storedA_bound {p : Nat} {out : List Nat} {p2 : Nat} {o : List Nat} (hs : storedA t most p out = .ok (p2, o)) (hm : (out.length : Int) ≤ most') : (storedA t most' p out = if (o.length : Int) ≤ most' then .ok (p2, o) else .error 701) ∧ out.length ≤ o.length := by
  unfold storedA at hs ⊢
  dsimp only at hs ⊢
  split at hs
  · rename_i h1
    split at hs
    · rename_i h2
      rw [if_pos h1, if_pos h2]
      exact ⟨storeA_bound hs hm, storeA_len hs⟩
    · cases hs
  · cases hs
theorem dynA_bound {p : Nat} {out : List Nat} {p2 : Nat} {o : List Nat} (hs : dynA t most p out = .ok (p2, o)) (hm : (out.length : Int) ≤ most') : (dynA t most' p out = if (o.length : Int) ≤ most' then .ok (p2, o) else .error 701) ∧ out.length ≤ o.length := by
  unfold dynA at hs ⊢
  dsimp only at hs ⊢
  split at hs
  · rename_i h1
    rw [if_pos h1]
    split at hs
    · cases hs
    · rename_i h2
      rw [if_neg h2]
      split at hs
      · cases hs
      · rename_i L p3 hl
        split at hs
        · cases hs
        · rename_i h3
          rw [if_neg h3]
          exact codedA_bound hs hm
  · cases hs
theorem blockA_bound {p : Nat} {out : List Nat} {b : Bool} {p2 : Nat} {o : List Nat} (hs : blockA t most p out = .ok (b, p2, o)) (hm : (out.length : Int) ≤ most') : (blockA t most' p out = if (o.length : Int) ≤ most' then .ok (b, p2, o) else .error 701) ∧ out.length ≤ o.length := by
  unfold blockA at hs ⊢
  dsimp only at hs ⊢
  split at hs
  · rename_i hp
    rw [if_pos hp]
    have key : ∀ {r r' : Rs}, (∀ p3 o3, r = .ok (p3, o3) → (r' = if (o3.length : Int) ≤ most' then .ok (p3, o3) else .error 701) ∧ out.length ≤ o3.length) → (match r with | .ok q => Except.ok (ε := Int) (valAt t p 1 == 1, q.1, q.2) | .error k => .error k) = .ok (b, p2, o) → ((match r' with | .ok q => Except.ok (ε := Int) (valAt t p 1 == 1, q.1, q.2) | .error k => .error k) = if (o.length : Int) ≤ most' then .ok (b, p2, o) else .error 701) ∧ out.length ≤ o.length := by
      intro r r' hr hk
      cases r with
      | error k => cases hk
      | ok q =>
        obtain ⟨p3, o3⟩ := q
        have h1 := hr p3 o3 rfl
        have h2 : o3 = o := by
          have := congrArg (fun r : Except Int (Bool × Nat × List Nat) => match r with | .ok q => q.2.2 | _ => []) hk
          exact this
        rw [h1.1, ← hk, ← h2]
        refine ⟨?_, h1.2⟩
        by_cases hle : (o3.length : Int) ≤ most'
        · rw [if_pos hle, if_pos hle]
        · rw [if_neg hle, if_neg hle]
    refine key (fun p3 o3 hr => ?_) hs
    by_cases d0 : valAt t (p + 1) 2 = 0
    · rw [if_pos d0] at hr ⊢; exact storedA_bound hr hm
    · rw [if_neg d0] at hr ⊢
      by_cases d1 : valAt t (p + 1) 2 = 1
      · rw [if_pos d1] at hr ⊢; exact codedA_bound hr hm
      · rw [if_neg d1] at hr ⊢
        by_cases d2 : valAt t (p + 1) 2 = 2
        · rw [if_pos d2] at hr ⊢; exact dynA_bound hr hm
        · rw [if_neg d2] at hr; cases hr
  · cases hs
theorem infLoop_bound : ∀ {f p : Nat} {out : List Nat} {p2 : Nat} {o : List Nat} {most' : Int}, infLoop t most f p out = .ok (p2, o) → (out.length : Int) ≤ most' → (infLoop t most' f p out = if (o.length : Int) ≤ most' then .ok (p2, o) else .error 701) ∧ out.length ≤ o.length
  | 0, _, _, _, _, _, hs, _ => by cases hs
  | f + 1, p, out, p2, o, most', hs, hm => by
    rw [infLoop] at hs ⊢
    cases hb : blockA t most p out with
    | error k => rw [hb] at hs; cases hs
    | ok q =>
      obtain ⟨b, p3, o3⟩ := q
      rw [hb] at hs
      have h1 := blockA_bound (most' := most') hb hm
      rw [h1.1]
      dsimp only at hs
      cases b with
      | true =>
        simp only [if_true] at hs
        have h2 : o3 = o := by
          have := congrArg (fun r : Rs => match r with | .ok q => q.2 | _ => []) hs
          exact this
        subst h2
        refine ⟨?_, h1.2⟩
        by_cases hle : (o3.length : Int) ≤ most'
        · rw [if_pos hle, if_pos hle]; simp only [if_true]; exact hs
        · rw [if_neg hle, if_neg hle]
      | false =>
        simp only [Bool.false_eq_true, if_false] at hs
        by_cases hle : (o3.length : Int) ≤ most'
        · rw [if_pos hle]
          simp only [Bool.false_eq_true, if_false]
          have := infLoop_bound (most' := most') hs hle
          exact ⟨this.1, Nat.le_trans h1.2 this.2⟩
        · rw [if_neg hle]
          have hlen : o3.length ≤ o.length := (infLoop_bound (most' := (o3.length : Int)) hs (Int.le_refl _)).2
          exact ⟨by rw [if_neg (by omega)], by have := h1.2; omega⟩
theorem inflateA_ok {o : List Nat} {took : Nat} (hs : inflateA t most = .ok (o, took)) : ∃ p, infLoop t most (8 * t.size + 1) 0 [] = .ok (p, o) ∧ took = (p + 7) / 8 ∧ 0 < p ∧ p ≤ 8 * t.size ∧ (o.length : Int) ≤ most ∧ 0 ≤ most ∧ most ≤ 8192 := by
  unfold inflateA at hs
  split at hs
  · cases hs
  · rename_i h1
    cases hi : infLoop t most (8 * t.size + 1) 0 [] with
    | error k => rw [hi] at hs; cases hs
    | ok q =>
      obtain ⟨p, o2⟩ := q
      rw [hi] at hs
      dsimp only at hs
      have h2 : o2 = o ∧ (p + 7) / 8 = took := by
        have := congrArg (fun r : Except Int (List Nat × Nat) => match r with | .ok q => q | _ => ([], 0)) hs
        exact Prod.mk.inj this
      obtain ⟨rfl, rfl⟩ := h2
      have hd := infLoop_down (a := t) (t := t) ⟨Nat.le_refl _, fun _ _ => rfl⟩ (Int.le_refl most) hi (f' := 8 * t.size + 1) (by omega) (Nat.zero_le _)
      rw [hi] at hd
      have hp : p ≤ 8 * t.size := by
        by_cases q : p ≤ 8 * t.size
        · exact q
        · rw [if_neg q] at hd; cases hd
      have hb := (infLoop_bound (most' := most) hi (by simp; omega)).1
      rw [hi] at hb
      have hl : (o2.length : Int) ≤ most := by
        by_cases q : (o2.length : Int) ≤ most
        · exact q
        · rw [if_neg q] at hb; cases hb
      have hp0 : 0 < p := by
        rw [infLoop] at hi
        cases hbk : blockA t most 0 [] with
        | error k => rw [hbk] at hi; cases hi
        | ok z =>
          obtain ⟨b, p3, o3⟩ := z
          rw [hbk] at hi
          have hge := blockA_ge hbk
          dsimp only at hi hge
          cases b with
          | true =>
            simp only [if_true] at hi
            have := congrArg (fun r : Rs => match r with | .ok q => q.1 | _ => 0) hi
            dsimp only at this
            omega
          | false =>
            simp only [Bool.false_eq_true, if_false] at hi
            have := infLoop_ge hi
            omega
      exact ⟨p, rfl, rfl, hp0, hp, hl, by omega, by omega⟩
theorem inflateA_more {a : ByteArray} (hp : Pre a t) {o : List Nat} {took : Nat} (hs : inflateA a most = .ok (o, took)) : inflateA t most = .ok (o, took) := by
  obtain ⟨p, h1, h2, h3, h4, h5, h6, h7⟩ := inflateA_ok hs
  have hu := infLoop_up hp h1 (f' := 8 * t.size + 1) (by omega) (Nat.zero_le _)
  unfold inflateA
  rw [if_neg (by omega), hu]
  dsimp only; rw [h2]
theorem inflateA_less {o : List Nat} {took : Nat} (hs : inflateA t most = .ok (o, took)) (h0 : 0 ≤ most') (hm : most' < (o.length : Int)) : inflateA t most' = .error 701 := by
  obtain ⟨p, h1, h2, h3, h4, h5, h6, h7⟩ := inflateA_ok hs
  have hb := (infLoop_bound (most' := most') h1 (by simpa using h0)).1
  unfold inflateA
  rw [if_neg (by omega), hb, if_neg (by omega)]
theorem pre_append (a b : ByteArray) : Pre a (a ++ b) := by
  refine ⟨by rw [ByteArray.size_append]; omega, fun i hi => ?_⟩
  unfold bitAt
  have h1 : i / 8 < a.size := by omega
  rw [getElem?_pos a _ h1, getElem?_pos (a ++ b) _ (by rw [ByteArray.size_append]; omega), ByteArray.getElem_append_left h1]
end Ab
set_option linter.unusedSimpArgs false
set_option linter.unusedVariables false
namespace Ab
open Go
theorem bytesOf_size (l : List Nat) : (bytesOf l).size = l.length := by
  show (l.map UInt8.ofNat).toArray.size = _
  simp
end Ab
set_option linter.unusedSimpArgs false
set_option linter.unusedVariables false
namespace Ab
open Go
structure FC where
  f : Nat
  text : ByteArray
  most : Int
structure Ft (c : FC) (S : SS) (h : H) (ov : AV) : Prop where
  gf : h.get c.f = some [.str c.text, I S.at_, ov, I c.most, I S.e]
  own : Own h ov (bys S.out)
  ff : h.floor ≤ c.f
  of : ov.id? ≠ some c.f
  nx : h.floor ≤ h.next
  sz : c.text.size < 1125899906842624
  at_le : S.at_ ≤ 8 * c.text.size
  ol : (S.out.length : Int) ≤ c.most
  ml : c.most ≤ 900000
structure FF (c : FC) (h : H) (ov : AV) (h' : H) (ov' : AV) : Prop where
  fl : h'.floor = h.floor
  nx : h.next ≤ h'.next
  oth : ∀ id, id < h.next → id ≠ c.f → ov.id? ≠ some id → h'.get id = h.get id
  nb : ∀ i, ov'.id? = some i → ov.id? = some i ∨ h.next ≤ i
theorem FF.refl (c : FC) (h : H) (ov : AV) : FF c h ov h ov := ⟨rfl, Nat.le_refl _, fun _ _ _ _ => rfl, fun _ q => .inl q⟩
theorem FF.trans {c : FC} {h1 h2 h3 : H} {o1 o2 o3 : AV} (a : FF c h1 o1 h2 o2) (b : FF c h2 o2 h3 o3) : FF c h1 o1 h3 o3 := by
  refine ⟨b.fl.trans a.fl, Nat.le_trans a.nx b.nx, fun id h4 h5 h7 => ?_, fun i hi => ?_⟩
  · rw [b.oth id (Nat.lt_of_lt_of_le h4 a.nx) h5 (fun q => ?_), a.oth id h4 h5 h7]
    rcases a.nb id q with q | q
    · exact h7 q
    · omega
  · rcases b.nb i hi with q | q
    · exact a.nb i q
    · exact .inr (Nat.le_trans a.nx q)
theorem Ft.keep {c : FC} {S : SS} {h h' : H} {ov : AV} (st : Ft c S h ov) (hf : h'.floor = h.floor) (hn : h.next ≤ h'.next) (hg : ∀ i, i = c.f ∨ ov.id? = some i → h'.get i = h.get i) : Ft c S h' ov :=
  ⟨by rw [hg _ (.inl rfl)]; exact st.gf, st.own.mono hf fun i hi => hg i (.inr hi), by rw [hf]; exact st.ff, st.of, by rw [hf]; exact Nat.le_trans st.nx hn, st.sz, st.at_le, st.ol, st.ml⟩
theorem Ft.lt {c : FC} {S : SS} {h : H} {ov : AV} (st : Ft c S h ov) {i : Nat} (hi : i = c.f ∨ ov.id? = some i) : i < h.next := by
  rcases hi with rfl | hi
  · exact h.lt _ _ st.gf
  · exact st.own.lt hi
theorem Ft.alloc {c : FC} {S : SS} {h : H} {ov : AV} (st : Ft c S h ov) (cs : List AV) : Ft c S (h.alloc cs) ov ∧ FF c h ov (h.alloc cs) ov := by
  refine ⟨st.keep (by simp) (by simp) fun i hi => ?_, ⟨by simp, by simp, fun id h1 _ _ => ?_, fun _ q => .inl q⟩⟩
  · have := st.lt hi; rw [H.get_alloc, if_neg (by omega)]
  · rw [H.get_alloc, if_neg (by omega)]
end Ab
set_option linter.unusedSimpArgs false
set_option linter.unusedVariables false
namespace Ab
open Go
structure Bkr (h0 h : H) (b : Nat) (D : Nat → AV) (k : Nat) (p S0 : List Int) : Prop where
  get : h.get b = some (tab 17 D)
  fl : h.floor = h0.next
  fb : h0.next ≤ b
  nx : h.floor ≤ h.next
  low : ∀ id, id < h0.next → h.get id = h0.get id
  ck : D k = I (cnt p k)
  own : Own h (D 16) (ints (S0 ++ syms p k))
  nb : (D 16).id? ≠ some b
theorem cnt_nil (n : Nat) : cnt [] n = 0 := by unfold cnt; split <;> rfl
end Ab
set_option linter.unusedSimpArgs false
set_option linter.unusedVariables false
namespace Ab
open Go
end Ab
set_option linter.unusedSimpArgs false
set_option linter.unusedVariables false
namespace Ab
open Go
theorem lenOf2_c (h : H) (y : Nat) (hy : y < 1000000) : callW AP.A 50 [I y] h = some (tup3 (lenOf y), h) := by
  by_cases c1 : y ≤ 256
  · rw [lenOf, if_pos (.inl c1)]
    refine pure_c (fn := AP.f50) (h2 := h.fence) (e := [(2, I 0), (3, I 0), (4, I 600)]) rfl rfl rfl ?_ rfl rfl
    have c1' : (y : Int) < 257 := by omega
    simp only [I] at *
    simp only [AP.f50, go_sem, abin_shl, abin_shr, Nat.reduceEqDiff, reduceIte, Nat.reduceAdd, Nat.reduceMul, Nat.reduceLT, Nat.reduceLeDiff, Int.reduceBEq, Int.reduceBNe, Int.reduceLT, Int.reduceLE, Int.reduceEq, decide_eq_true c1']
  have c1' : ¬ (y : Int) < 257 := by omega
  by_cases c2 : 285 < y
  · rw [lenOf, if_pos (.inr c2)]
    refine pure_c (fn := AP.f50) (h2 := h.fence) (e := [(2, I 0), (3, I 0), (4, I 600)]) rfl rfl rfl ?_ rfl rfl
    have c2' : (285 : Int) < y := by omega
    simp only [I] at *
    simp only [AP.f50, go_sem, abin_shl, abin_shr, Nat.reduceEqDiff, reduceIte, Nat.reduceAdd, Nat.reduceMul, Nat.reduceLT, Nat.reduceLeDiff, Int.reduceBEq, Int.reduceBNe, Int.reduceLT, Int.reduceLE, Int.reduceEq, decide_eq_false c1', decide_eq_true c2']
  have c2' : ¬ (285 : Int) < y := by omega
  rw [lenOf, if_neg (by omega)]
  by_cases c3 : y = 285
  · rw [if_pos c3]
    refine pure_c (fn := AP.f50) (h2 := h.fence) (e := [(2, I 258), (3, I 0), (4, I 0)]) rfl rfl rfl ?_ rfl rfl
    have c3' : ((y : Int) == 285) = true := beq_t (by omega)
    simp only [I] at *
    simp only [AP.f50, go_sem, abin_shl, abin_shr, Nat.reduceEqDiff, reduceIte, Nat.reduceAdd, Nat.reduceMul, Nat.reduceLT, Nat.reduceLeDiff, Int.reduceBEq, Int.reduceBNe, Int.reduceLT, Int.reduceLE, Int.reduceEq, decide_eq_false c1', decide_eq_false c2', c3']
  rw [if_neg c3]
  have c3' : ((y : Int) == 285) = false := beq_f (by omega)
  by_cases c4 : y < 265
  · rw [if_pos c4]
    refine pure_c (fn := AP.f50) (h2 := h.fence) (e := [(2, I (y - 254 : Nat)), (3, I 0), (4, I 0)]) rfl rfl rfl ?_ rfl rfl
    have c4' : (y : Int) < 265 := by omega
    have w3 : IntKind.wrap .i64 ((y : Int) - 254) = ((y - 254 : Nat) : Int) := by rw [show (y : Int) - 254 = ((y - 254 : Nat) : Int) by omega]; exact wrap_nat64 (by omega)
    simp only [I] at *
    simp only [AP.f50, go_sem, abin_shl, abin_shr, Nat.reduceEqDiff, reduceIte, Nat.reduceAdd, Nat.reduceMul, Nat.reduceLT, Nat.reduceLeDiff, Int.reduceBEq, Int.reduceBNe, Int.reduceLT, Int.reduceLE, Int.reduceEq, decide_eq_false c1', decide_eq_false c2', c3', decide_eq_true c4', w3]
  rw [if_neg c4]
  have c4' : ¬ (y : Int) < 265 := by omega
  obtain ⟨k, hk⟩ : ∃ k : Nat, y - 261 = k := ⟨_, rfl⟩
  have w1 : IntKind.wrap .i64 ((y : Int) - 261) = (k : Int) := by rw [show (y : Int) - 261 = (k : Int) by omega]; exact wrap_nat64 (by omega)
  rw [show (y - 257) / 4 - 1 = k / 4 - 0 by omega, Nat.sub_zero, show (y - 257) % 4 = k % 4 by omega]
  have q1 : abin .quo (.int .i64 (k : Int)) (.int .i64 4) = some (.int .i64 ((k / 4 : Nat) : Int)) := by
    rw [abin_quo _ _ _ (by omega), show (4 : Int) = ((4 : Nat) : Int) from rfl, tdiv_nat, wrap_nat64 (by omega)]
  have q2 : abin .rem (.int .i64 (k : Int)) (.int .i64 4) = some (.int .i64 ((k % 4 : Nat) : Int)) := by
    rw [abin_rem _ _ _ (by omega), show (4 : Int) = ((4 : Nat) : Int) from rfl, tmod_nat]
  have w4 : IntKind.wrap .i64 (4 + ((k % 4 : Nat) : Int)) = ((4 + k % 4 : Nat) : Int) := by rw [show 4 + ((k % 4 : Nat) : Int) = ((4 + k % 4 : Nat) : Int) by omega]; exact wrap_nat64 (by omega)
  have hp : 2 ^ (k / 4) ≤ 2 ^ 5 := Nat.pow_le_pow_right (by omega) (by omega)
  have hm : (4 + k % 4) * 2 ^ (k / 4) ≤ 7 * 2 ^ 5 := Nat.mul_le_mul (by omega) hp
  have q3 : shft .shl .i64 ((4 + k % 4 : Nat) : Int) ((k / 4 : Nat) : Int) = some (.int .i64 (((4 + k % 4) * 2 ^ (k / 4) : Nat) : Int)) := shl_i64 (by omega) (by omega)
  generalize (4 + k % 4) * 2 ^ (k / 4) = P at *
  have w5 : IntKind.wrap .i64 (3 + (P : Int)) = ((3 + P : Nat) : Int) := by rw [show 3 + (P : Int) = ((3 + P : Nat) : Int) by omega]; exact wrap_nat64 (by omega)
  refine pure_c (fn := AP.f50) (h2 := h.fence) (e := [(2, I (3 + P : Nat)), (3, I (k / 4 : Nat)), (4, I 0)]) rfl rfl rfl ?_ rfl rfl
  simp only [I] at *
  simp only [AP.f50, go_sem, abin_shl, abin_shr, Nat.reduceEqDiff, reduceIte, Nat.reduceAdd, Nat.reduceMul, Nat.reduceLT, Nat.reduceLeDiff, Int.reduceBEq, Int.reduceBNe, Int.reduceLT, Int.reduceLE, Int.reduceEq, decide_eq_false c1', decide_eq_false c2', c3', decide_eq_false c4', w1, q1, q2, w4, q3, w5]
theorem distOf2_c (h : H) (y : Nat) (hy : y < 1000000) : callW AP.A 51 [I y] h = some (tup3 (distOf y), h) := by
  have c0 : ¬ (y : Int) < 0 := by omega
  by_cases c1 : 30 ≤ y
  · rw [distOf, if_pos c1]
    refine pure_c (fn := AP.f51) (h2 := h.fence) (e := [(2, I 0), (3, I 0), (4, I 600)]) rfl rfl rfl ?_ rfl rfl
    have c1' : (29 : Int) < y := by omega
    simp only [I] at *
    simp only [AP.f51, go_sem, abin_shl, abin_shr, Nat.reduceEqDiff, reduceIte, Nat.reduceAdd, Nat.reduceMul, Nat.reduceLT, Nat.reduceLeDiff, Int.reduceBEq, Int.reduceBNe, Int.reduceLT, Int.reduceLE, Int.reduceEq, decide_eq_false c0, decide_eq_true c1']
  have c1' : ¬ (29 : Int) < y := by omega
  rw [distOf, if_neg c1]
  by_cases c2 : y < 4
  · rw [if_pos c2]
    refine pure_c (fn := AP.f51) (h2 := h.fence) (e := [(2, I (1 + y : Nat)), (3, I 0), (4, I 0)]) rfl rfl rfl ?_ rfl rfl
    have c2' : (y : Int) < 4 := by omega
    have w3 : IntKind.wrap .i64 ((y : Int) + 1) = ((1 + y : Nat) : Int) := by rw [show (y : Int) + 1 = ((1 + y : Nat) : Int) by omega]; exact wrap_nat64 (by omega)
    simp only [I] at *
    simp only [AP.f51, go_sem, abin_shl, abin_shr, Nat.reduceEqDiff, reduceIte, Nat.reduceAdd, Nat.reduceMul, Nat.reduceLT, Nat.reduceLeDiff, Int.reduceBEq, Int.reduceBNe, Int.reduceLT, Int.reduceLE, Int.reduceEq, decide_eq_false c0, decide_eq_false c1', decide_eq_true c2', w3]
  rw [if_neg c2]
  have c2' : ¬ (y : Int) < 4 := by omega
  have w1 : IntKind.wrap .i64 ((y : Int) - 2) = ((y - 2 : Nat) : Int) := by rw [show (y : Int) - 2 = ((y - 2 : Nat) : Int) by omega]; exact wrap_nat64 (by omega)
  have q1 : abin .quo (.int .i64 ((y - 2 : Nat) : Int)) (.int .i64 2) = some (.int .i64 ((y / 2 - 1 : Nat) : Int)) := by
    rw [abin_quo _ _ _ (by omega), show (2 : Int) = ((2 : Nat) : Int) from rfl, tdiv_nat, wrap_nat64 (by omega), show (y - 2) / 2 = y / 2 - 1 by omega]
  have q2 : abin .rem (.int .i64 (y : Int)) (.int .i64 2) = some (.int .i64 ((y % 2 : Nat) : Int)) := by
    rw [abin_rem _ _ _ (by omega), show (2 : Int) = ((2 : Nat) : Int) from rfl, tmod_nat]
  have w4 : IntKind.wrap .i64 (2 + ((y % 2 : Nat) : Int)) = ((2 + y % 2 : Nat) : Int) := by rw [show 2 + ((y % 2 : Nat) : Int) = ((2 + y % 2 : Nat) : Int) by omega]; exact wrap_nat64 (by omega)
  have hp : 2 ^ (y / 2 - 1) ≤ 2 ^ 13 := Nat.pow_le_pow_right (by omega) (by omega)
  have hm : (2 + y % 2) * 2 ^ (y / 2 - 1) ≤ 3 * 2 ^ 13 := Nat.mul_le_mul (by omega) hp
  have q3 : shft .shl .i64 ((2 + y % 2 : Nat) : Int) ((y / 2 - 1 : Nat) : Int) = some (.int .i64 (((2 + y % 2) * 2 ^ (y / 2 - 1) : Nat) : Int)) := shl_i64 (by omega) (by omega)
  generalize (2 + y % 2) * 2 ^ (y / 2 - 1) = P at *
  have w5 : IntKind.wrap .i64 (1 + (P : Int)) = ((1 + P : Nat) : Int) := by rw [show 1 + (P : Int) = ((1 + P : Nat) : Int) by omega]; exact wrap_nat64 (by omega)
  refine pure_c (fn := AP.f51) (h2 := h.fence) (e := [(2, I (1 + P : Nat)), (3, I (y / 2 - 1 : Nat)), (4, I 0)]) rfl rfl rfl ?_ rfl rfl
  simp only [I] at *
  simp only [AP.f51, go_sem, abin_shl, abin_shr, Nat.reduceEqDiff, reduceIte, Nat.reduceAdd, Nat.reduceMul, Nat.reduceLT, Nat.reduceLeDiff, Int.reduceBEq, Int.reduceBNe, Int.reduceLT, Int.reduceLE, Int.reduceEq, decide_eq_false c0, decide_eq_false c1', decide_eq_false c2', w1, q1, q2, w4, q3, w5]
end Ab
set_option linter.unusedSimpArgs false
set_option linter.unusedVariables false
namespace Ab
open Go
end Ab
set_option linter.unusedSimpArgs false
set_option linter.unusedVariables false
namespace Ab
open Go
theorem order2_c (h : H) : callW AP.A 32 [] h = some (immI orderL, h) := by
  have b : birth [] (.bslice 1 19 [.int .i64 0] [(0, (.c (.int .i64 16))), (1, (.c (.int .i64 17))), (2, (.c (.int .i64 18))), (3, (.c (.int .i64 0))), (4, (.c (.int .i64 8))), (5, (.c (.int .i64 7))), (6, (.c (.int .i64 9))), (7, (.c (.int .i64 6))), (8, (.c (.int .i64 10))), (9, (.c (.int .i64 5))), (10, (.c (.int .i64 11))), (11, (.c (.int .i64 4))), (12, (.c (.int .i64 12))), (13, (.c (.int .i64 3))), (14, (.c (.int .i64 13))), (15, (.c (.int .i64 2))), (16, (.c (.int .i64 14))), (17, (.c (.int .i64 1))), (18, (.c (.int .i64 15)))]) = some (ints orderL, fun i => .sobj i 0 19 1) := rfl
  refine pure_c (fn := AP.f32) (h2 := h.fence.alloc (ints orderL)) (e := [(0, .sobj h.next 0 19 1)]) (vs := [.sobj h.next 0 19 1]) rfl rfl rfl ?_ rfl ?_
  · have hn : h.fence.next = h.next := rfl
    simp only [AP.f32, go_sem, abin_shl, abin_shr, Nat.reduceEqDiff, reduceIte, Nat.reduceAdd, Nat.reduceMul, Nat.reduceLT, Nat.reduceLeDiff, Int.reduceBEq, Int.reduceBNe, Int.reduceLT, Int.reduceLE, Int.reduceEq, b, hn]
  · show snap (h.fence.alloc (ints orderL)).get h.next 16 true (.sobj h.next 0 19 1) = _
    unfold snap
    rw [if_neg (by omega), H.get_alloc, if_pos (show h.next = h.fence.next from rfl), Option.bind_some, if_pos (by decide)]
    rw [show ((ints orderL).drop 0).take (19 * 1) = ints orderL from rfl, mapO_ints]; rfl
theorem snap_ints {h : H} {v : AV} {l : List Int} {fl : Nat} (o : Own h v (ints l)) (hf : fl ≤ h.floor) (hl : l ≠ []) : snap h.get fl 16 true v = some (immI l) := by
  rcases o with ⟨_, q⟩ | ⟨id, rfl, q, h2, _⟩
  · exact absurd (List.map_eq_nil_iff.1 q) hl
  · unfold snap
    rw [if_neg (by omega), q, Option.bind_some, if_pos (by omega)]
    rw [List.drop_zero, Nat.mul_one, List.take_length, mapO_ints]
    simp [immI]
theorem lmay_loop {x : AV} {l : List Int} (hl : l.length < 100000) (h : H) (rd : Rd h x (ints l)) : ∀ (q p : List Int), l = p ++ q →
    (∃ e', Lp AP.A [0, 3] AP.f67L0 [(0, x), (3, I p.length)] h = some (.exit 0, e', h) ∧ (ints q).any badV = false) ∨ (∃ e', Lp AP.A [0, 3] AP.f67L0 [(0, x), (3, I p.length)] h = some (.ret, e', h) ∧ look e' 2 = .bool false ∧ (ints q).any badV = true)
  | [], p, hp => by
    have ln := rd.len
    rw [ints_length] at ln
    left
    refine ⟨[(0, x), (3, I p.length), (15, .bool false)], Lp_exit ?_, rfl⟩
    have c1 : ¬ (p.length : Int) < (l.length : Int) := by rw [hp]; simp
    simp only [I] at *
    simp only [AP.f67L0, go_sem, abin_shl, abin_shr, Nat.reduceEqDiff, reduceIte, Nat.reduceAdd, Nat.reduceMul, Nat.reduceLT, Nat.reduceLeDiff, Int.reduceBEq, Int.reduceBNe, Int.reduceLT, Int.reduceLE, Int.reduceEq, ln, decide_eq_false c1]
  | y :: q, p, hp => by
    have ln := rd.len
    rw [ints_length] at ln
    have hlen : l.length = p.length + (q.length + 1) := by rw [hp]; simp
    have c1 : (p.length : Int) < (l.length : Int) := by omega
    have hv : (ints l)[p.length]? = some (I y) := ints_get (by rw [hp]; simp)
    obtain ⟨ad, p1, p2⟩ := rd.elem hv
    have p3 := p2 h (fun _ _ q => q)
    have w1 : IntKind.wrap .i64 ((p.length : Int) + 1) = (((p ++ [y]).length : Nat) : Int) := by
      rw [List.length_append]; exact wrap_nat64 (n := p.length + 1) (by omega)
    have hany : (ints (y :: q)).any badV = (badV (I y) || (ints q).any badV) := rfl
    rw [hany]
    by_cases d1 : y < 0
    · right
      refine ⟨[(2, .bool false)], Lp_ret ?_, rfl, by simp [badV, I, d1]⟩
      simp only [I] at *
      simp only [AP.f67L0, go_sem, abin_shl, abin_shr, Nat.reduceEqDiff, reduceIte, Nat.reduceAdd, Nat.reduceMul, Nat.reduceLT, Nat.reduceLeDiff, Int.reduceBEq, Int.reduceBNe, Int.reduceLT, Int.reduceLE, Int.reduceEq, ln, decide_eq_true c1, p1, p3, decide_eq_true d1]
    by_cases d2 : 15 < y
    · right
      refine ⟨[(2, .bool false)], Lp_ret ?_, rfl, by simp [badV, I, d2]⟩
      simp only [I] at *
      simp only [AP.f67L0, go_sem, abin_shl, abin_shr, Nat.reduceEqDiff, reduceIte, Nat.reduceAdd, Nat.reduceMul, Nat.reduceLT, Nat.reduceLeDiff, Int.reduceBEq, Int.reduceBNe, Int.reduceLT, Int.reduceLE, Int.reduceEq, ln, decide_eq_true c1, p1, p3, decide_eq_false d1, decide_eq_true d2]
    have hb : badV (I y) = false := by simp [badV, I]; omega
    have step : evC (callW AP.A) loopW AP.f67L0 (restr [(0, x), (3, I p.length)] [0, 3]) h = some (.normal, [(0, x), (3, I (p ++ [y]).length)], h) := by
      clear hany hb
      generalize (p ++ [y]).length = B at *
      simp only [I] at *
      simp only [AP.f67L0, go_sem, abin_shl, abin_shr, Nat.reduceEqDiff, reduceIte, Nat.reduceAdd, Nat.reduceMul, Nat.reduceLT, Nat.reduceLeDiff, Int.reduceBEq, Int.reduceBNe, Int.reduceLT, Int.reduceLE, Int.reduceEq, ln, decide_eq_true c1, p1, p3, decide_eq_false d1, decide_eq_false d2, w1]
    rw [hb, Bool.false_or]
    rcases lmay_loop hl h rd q (p ++ [y]) (by rw [hp]; simp) with ⟨e', r1, r2⟩ | ⟨e', r1, r2, r3⟩
    · exact .inl ⟨e', Lp_next step r1, r2⟩
    · exact .inr ⟨e', Lp_next step r1, r2, r3⟩
theorem lmay_c (h : H) (x : AV) (l : List Int) (hl : l.length < 100000) (rd : Rd h x (ints l)) : callW AP.A 67 [x] h = some (.bool (mayS l), h) := by
  have rd' := rd.mono (get_fence_mono h)
  have ln := rd.len
  rw [ints_length] at ln
  unfold mayS
  by_cases c1 : l.length < 1
  · refine pure_c (fn := AP.f67) (h2 := h.fence) (e := [(2, .bool false)]) rfl rfl rfl ?_ rfl (by rw [decide_eq_false (show ¬ 1 ≤ l.length by omega)]; rfl)
    have c1' : (l.length : Int) < 1 := by omega
    simp only [I] at *
    simp only [AP.f67, go_sem, abin_shl, abin_shr, Nat.reduceEqDiff, reduceIte, Nat.reduceAdd, Nat.reduceMul, Nat.reduceLT, Nat.reduceLeDiff, Int.reduceBEq, Int.reduceBNe, Int.reduceLT, Int.reduceLE, Int.reduceEq, ln, decide_eq_true c1']
  have c1' : ¬ (l.length : Int) < 1 := by omega
  by_cases c2 : 288 < l.length
  · refine pure_c (fn := AP.f67) (h2 := h.fence) (e := [(2, .bool false)]) rfl rfl rfl ?_ rfl (by rw [decide_eq_false (show ¬ l.length ≤ 288 by omega), Bool.and_false]; rfl)
    have c2' : (288 : Int) < (l.length : Int) := by omega
    simp only [I] at *
    simp only [AP.f67, go_sem, abin_shl, abin_shr, Nat.reduceEqDiff, reduceIte, Nat.reduceAdd, Nat.reduceMul, Nat.reduceLT, Nat.reduceLeDiff, Int.reduceBEq, Int.reduceBNe, Int.reduceLT, Int.reduceLE, Int.reduceEq, ln, decide_eq_false c1', decide_eq_true c2']
  have c2' : ¬ (288 : Int) < (l.length : Int) := by omega
  rw [decide_eq_true (show 1 ≤ l.length by omega), decide_eq_true (show l.length ≤ 288 by omega)]
  rcases lmay_loop hl h.fence rd' l [] rfl with ⟨e', r1, r2⟩ | ⟨e', r1, r2, r3⟩
  · have r1' : Lp AP.A [0, 3] AP.f67L0 [(0, x), (3, I 0)] h.fence = some (.exit 0, e', h.fence) := r1
    clear r1
    rw [r2]
    refine pure_c (fn := AP.f67) (h2 := h.fence) (e := [(2, .bool true)]) rfl rfl rfl ?_ rfl rfl
    simp only [I] at *
    simp only [AP.f67, go_sem, abin_shl, abin_shr, Nat.reduceEqDiff, reduceIte, Nat.reduceAdd, Nat.reduceMul, Nat.reduceLT, Nat.reduceLeDiff, Int.reduceBEq, Int.reduceBNe, Int.reduceLT, Int.reduceLE, Int.reduceEq, ln, decide_eq_false c1', decide_eq_false c2', evC_loop, r1']
  · have r1' : Lp AP.A [0, 3] AP.f67L0 [(0, x), (3, I 0)] h.fence = some (.ret, e', h.fence) := r1
    clear r1
    rw [r3]
    refine pure_c (fn := AP.f67) (h2 := h.fence) (e := e') (vs := [.bool false]) rfl rfl rfl ?_ (by simp only [AP.f67, resAll, resOf, r2]; rfl) rfl
    simp only [I] at *
    simp only [AP.f67, go_sem, abin_shl, abin_shr, Nat.reduceEqDiff, reduceIte, Nat.reduceAdd, Nat.reduceMul, Nat.reduceLT, Nat.reduceLeDiff, Int.reduceBEq, Int.reduceBNe, Int.reduceLT, Int.reduceLE, Int.reduceEq, ln, decide_eq_false c1', decide_eq_false c2', evC_loop, r1']
theorem leftC_snoc (p : List Int) (x : Int) : ∀ n : Nat, leftC (p ++ [x]) n = leftC p n - (if 1 ≤ x ∧ x ≤ n then 2 ^ (n - x.toNat) else 0)
  | 0 => by
    rw [if_neg (by omega)]; simp [leftC]
  | n + 1 => by
    have e1 : leftC (p ++ [x]) (n + 1) = leftC (p ++ [x]) n * 2 - cnt (p ++ [x]) (n + 1) := rfl
    have e2 : leftC p (n + 1) = leftC p n * 2 - cnt p (n + 1) := rfl
    rw [e1, e2, leftC_snoc p x n, cnt_snoc]
    by_cases h1 : x = ((n + 1 : Nat) : Int)
    · rw [if_neg (by omega), if_pos ⟨by omega, h1⟩, if_pos (by omega)]
      rw [show n + 1 - x.toNat = 0 by omega]; simp; omega
    · rw [if_neg (show ¬ (n + 1 ≠ 0 ∧ x = ((n + 1 : Nat) : Int)) from fun q => h1 q.2)]
      by_cases h2 : 1 ≤ x ∧ x ≤ (n : Int)
      · rw [if_pos h2, if_pos (by omega), show n + 1 - x.toNat = (n - x.toNat) + 1 by omega, Int.pow_succ]; omega
      · rw [if_neg h2, if_neg (by omega)]; omega
theorem room_loop {x : AV} {l : List Int} (hl : l.length < 100000) (hr : okLens l) (h : H) (rd : Rd h x (ints l)) : ∀ (q p : List Int), l = p ++ q →
    ∃ e', Lp AP.A [0, 3, 4] AP.f68L0 [(0, x), (3, I (32768 - leftC p 15)), (4, I p.length)] h = some (.exit 0, e', h) ∧ look e' 3 = I (32768 - leftC l 15)
  | [], p, hp => by
    rw [List.append_nil] at hp; subst hp
    have ln := rd.len
    rw [ints_length] at ln
    refine ⟨[(0, x), (3, I (32768 - leftC l 15)), (4, I l.length), (8, .bool false)], Lp_exit ?_, rfl⟩
    have c1 : ¬ (l.length : Int) < (l.length : Int) := by omega
    simp only [I] at *
    simp only [AP.f68L0, go_sem, abin_shl, abin_shr, Nat.reduceEqDiff, reduceIte, Nat.reduceAdd, Nat.reduceMul, Nat.reduceLT, Nat.reduceLeDiff, Int.reduceBEq, Int.reduceBNe, Int.reduceLT, Int.reduceLE, Int.reduceEq, ln, decide_eq_false c1]
  | y :: q, p, hp => by
    have ln := rd.len
    rw [ints_length] at ln
    have hlen : l.length = p.length + (q.length + 1) := by rw [hp]; simp
    have c1 : (p.length : Int) < (l.length : Int) := by omega
    have hv : (ints l)[p.length]? = some (I y) := ints_get (by rw [hp]; simp)
    have hy := hr y (by rw [hp]; simp)
    obtain ⟨ad, p1, p2⟩ := rd.elem hv
    have p3 := p2 h (fun _ _ q => q)
    have w1 : IntKind.wrap .i64 ((p.length : Int) + 1) = (((p ++ [y]).length : Nat) : Int) := by
      rw [List.length_append]; exact wrap_nat64 (n := p.length + 1) (by omega)
    have hsn := leftC_snoc p y 15
    have hbd := leftC_bd (show p.length < 100000 by omega) 15
    have step : evC (callW AP.A) loopW AP.f68L0 (restr [(0, x), (3, I (32768 - leftC p 15)), (4, I p.length)] [0, 3, 4]) h = some (.normal, [(0, x), (3, I (32768 - leftC (p ++ [y]) 15)), (4, I (p ++ [y]).length)], h) := by
      by_cases d1 : 0 < y
      · obtain ⟨yn, hyn⟩ : ∃ n : Nat, y = n := Int.eq_ofNat_of_zero_le hy.1
        subst hyn
        rw [if_pos (by omega), Int.toNat_natCast] at hsn
        have w2 : IntKind.wrap .i64 (15 - (yn : Int)) = ((15 - yn : Nat) : Int) := by rw [show 15 - (yn : Int) = ((15 - yn : Nat) : Int) by omega]; exact wrap_nat64 (by omega)
        have hp15 : 2 ^ (15 - yn) ≤ 2 ^ 15 := Nat.pow_le_pow_right (by omega) (by omega)
        have s1 : shft .shl .i64 1 ((15 - yn : Nat) : Int) = some (.int .i64 ((2 ^ (15 - yn) : Nat) : Int)) := by
          have := shl_i64 (a := 1) (s := 15 - yn) (by omega) (by omega)
          rw [Nat.one_mul] at this; exact this
        have hpc : ((2 ^ (15 - yn) : Nat) : Int) = 2 ^ (15 - yn) := by simp
        have hpos : (0 : Int) ≤ 2 ^ (15 - yn) := Int.pow_nonneg (by omega)
        have w3 : IntKind.wrap .i64 (32768 - leftC p 15 + ((2 ^ (15 - yn) : Nat) : Int)) = 32768 - leftC (p ++ [(yn : Int)]) 15 := by
          rw [show 32768 - leftC p 15 + ((2 ^ (15 - yn) : Nat) : Int) = 32768 - leftC (p ++ [(yn : Int)]) 15 by rw [hsn, hpc]; omega]
          refine wrap_in ?_ ?_
          · rw [hsn]; rw [← hpc]; omega
          · rw [hsn]; rw [← hpc]; omega
        clear hsn hpc hbd hp15
        generalize (p ++ [(yn : Int)]).length = B at *
        generalize leftC (p ++ [(yn : Int)]) 15 = L2 at *
        generalize leftC p 15 = L1 at *
        generalize 2 ^ (15 - yn) = PW at *
        simp only [I] at *
        simp only [AP.f68L0, go_sem, abin_shl, abin_shr, Nat.reduceEqDiff, reduceIte, Nat.reduceAdd, Nat.reduceMul, Nat.reduceLT, Nat.reduceLeDiff, Int.reduceBEq, Int.reduceBNe, Int.reduceLT, Int.reduceLE, Int.reduceEq, ln, decide_eq_true c1, p1, p3, decide_eq_true d1, w2, s1, w3, w1]
      · rw [if_neg (by omega), Int.sub_zero] at hsn
        rw [hsn]
        clear hsn hbd
        generalize (p ++ [y]).length = B at *
        simp only [I] at *
        simp only [AP.f68L0, go_sem, abin_shl, abin_shr, Nat.reduceEqDiff, reduceIte, Nat.reduceAdd, Nat.reduceMul, Nat.reduceLT, Nat.reduceLeDiff, Int.reduceBEq, Int.reduceBNe, Int.reduceLT, Int.reduceLE, Int.reduceEq, ln, decide_eq_true c1, p1, p3, decide_eq_false d1, w1]
    obtain ⟨e', r1, r2⟩ := room_loop hl hr h rd q (p ++ [y]) (by rw [hp]; simp)
    exact ⟨e', Lp_next step r1, r2⟩
theorem room_c (h : H) (x : AV) (l : List Int) (hl : l.length < 100000) (hr : okLens l) (rd : Rd h x (ints l)) : callW AP.A 68 [x] h = some (I (32768 - leftC l 15), h) := by
  obtain ⟨e', r1, r2⟩ := room_loop hl hr h.fence (rd.mono (get_fence_mono h)) l [] rfl
  have r1' : Lp AP.A [0, 3, 4] AP.f68L0 [(0, x), (3, I 0), (4, I 0)] h.fence = some (.exit 0, e', h.fence) := r1
  clear r1
  refine pure_c (fn := AP.f68) (h2 := h.fence) (e := [(2, I (32768 - leftC l 15))]) rfl rfl rfl ?_ rfl rfl
  simp only [I] at *
  simp only [AP.f68, go_sem, abin_shl, abin_shr, Nat.reduceEqDiff, reduceIte, Nat.reduceAdd, Nat.reduceMul, Nat.reduceLT, Nat.reduceLeDiff, Int.reduceBEq, Int.reduceBNe, Int.reduceLT, Int.reduceLE, Int.reduceEq, evC_loop, r1', r2]
theorem check2_c (h : H) (x : AV) (l : List Int) (hl : l.length < 100000) (rd : Rd h x (ints l)) : callW AP.A 52 [x] h = some (I (checkS l), h) := by
  have rd' := rd.mono (get_fence_mono h)
  have k1 := lmay_c h.fence x l hl rd'
  unfold checkS
  by_cases hm : mayS l = true
  · have k2 := room_c h.fence x l hl (may_range hm) rd'
    rw [hm] at k1 ⊢
    rw [if_neg (by decide)]
    by_cases c1 : leftC l 15 < 0
    · rw [if_pos c1]
      have d1 : 32768 < 32768 - leftC l 15 := by omega
      refine pure_c (fn := AP.f52) (h2 := h.fence) (e := [(2, I 301)]) rfl rfl rfl ?_ rfl rfl
      simp only [I] at *
      simp only [AP.f52, go_sem, abin_shl, abin_shr, Nat.reduceEqDiff, reduceIte, Nat.reduceAdd, Nat.reduceMul, Nat.reduceLT, Nat.reduceLeDiff, Int.reduceBEq, Int.reduceBNe, Int.reduceLT, Int.reduceLE, Int.reduceEq, k1, k2, decide_eq_true d1]
    · rw [if_neg c1]
      have d1 : ¬ 32768 < 32768 - leftC l 15 := by omega
      by_cases c2 : 0 < leftC l 15
      · rw [if_pos c2]
        have d2 : 32768 - leftC l 15 < 32768 := by omega
        refine pure_c (fn := AP.f52) (h2 := h.fence) (e := [(2, I 302)]) rfl rfl rfl ?_ rfl rfl
        simp only [I] at *
        simp only [AP.f52, go_sem, abin_shl, abin_shr, Nat.reduceEqDiff, reduceIte, Nat.reduceAdd, Nat.reduceMul, Nat.reduceLT, Nat.reduceLeDiff, Int.reduceBEq, Int.reduceBNe, Int.reduceLT, Int.reduceLE, Int.reduceEq, k1, k2, decide_eq_false d1, decide_eq_true d2]
      · rw [if_neg c2]
        have d2 : ¬ 32768 - leftC l 15 < 32768 := by omega
        refine pure_c (fn := AP.f52) (h2 := h.fence) (e := [(2, I 0)]) rfl rfl rfl ?_ rfl rfl
        simp only [I] at *
        simp only [AP.f52, go_sem, abin_shl, abin_shr, Nat.reduceEqDiff, reduceIte, Nat.reduceAdd, Nat.reduceMul, Nat.reduceLT, Nat.reduceLeDiff, Int.reduceBEq, Int.reduceBNe, Int.reduceLT, Int.reduceLE, Int.reduceEq, k1, k2, decide_eq_false d1, decide_eq_false d2]
  · have hm' : mayS l = false := by simpa using hm
    rw [hm'] at k1 ⊢
    rw [if_pos rfl]
    refine pure_c (fn := AP.f52) (h2 := h.fence) (e := [(2, I 300)]) rfl rfl rfl ?_ rfl rfl
    simp only [I] at *
    simp only [AP.f52, go_sem, abin_shl, abin_shr, Nat.reduceEqDiff, reduceIte, Nat.reduceAdd, Nat.reduceMul, Nat.reduceLT, Nat.reduceLeDiff, Int.reduceBEq, Int.reduceBNe, Int.reduceLT, Int.reduceLE, Int.reduceEq, k1]
end Ab
set_option linter.unusedSimpArgs false
set_option linter.unusedVariables false
namespace Ab
open Go
end Ab
set_option linter.unusedSimpArgs false
set_option linter.unusedVariables false
namespace Ab
open Go
end Ab
set_option linter.unusedSimpArgs false
set_option linter.unusedVariables false
namespace Ab
open Go
end Ab
set_option linter.unusedSimpArgs false
set_option linter.unusedVariables false
namespace Ab
open Go
end Ab
set_option linter.unusedSimpArgs false
set_option linter.unusedVariables false
namespace Ab
open Go
theorem dt {p : Prop} [Decidable p] (h : p) : decide p = true := decide_eq_true h
theorem df {p : Prop} [Decidable p] (h : ¬ p) : decide p = false := decide_eq_false h
theorem eqt {a b : Int} (h : a = b) : (a == b) = true := by simp [h]
theorem eqf {a b : Int} (h : ¬ a = b) : (a == b) = false := by simp [h]
theorem net {a b : Int} (h : ¬ a = b) : (a != b) = true := by simp [h]
theorem nef {a b : Int} (h : a = b) : (a != b) = false := by simp [h]
theorem wi {n : Int} (h : -9223372036854775808 ≤ n ∧ n < 9223372036854775808) : IntKind.wrap .i64 n = n := wrap_in h.1 (by omega)
theorem wb {n : Int} (h : 0 ≤ n ∧ n < 256) : IntKind.wrap .u8 n = n := by
  simp [IntKind.wrap, IntKind.bits, IntKind.signed]; omega
theorem aix {i : Int} {n : Nat} (h : 0 ≤ i ∧ i < n) : aidx (.int .i64 i) n = some i.toNat := by
  simp [aidx, asI, h]
def at_ : Nat → ACode → ACode
  | 0, .seq a _ => a
  | 0, c => c
  | n + 1, .seq _ b => at_ n b
  | _ + 1, c => c
def tl_ : Nat → ACode → ACode
  | 0, c => c
  | n + 1, .seq _ b => tl_ n b
  | _ + 1, c => c
theorem at_z (a b : ACode) : at_ 0 (.seq a b) = a := rfl
theorem at_s (n : Nat) (a b : ACode) : at_ (n + 1) (.seq a b) = at_ n b := rfl
theorem tl_z (c : ACode) : tl_ 0 c = c := rfl
theorem tl_s (n : Nat) (a b : ACode) : tl_ (n + 1) (.seq a b) = tl_ n b := rfl
theorem del_miss {h : H} {id i : Nat} (e : ¬ i = id) : (h.del id).get i = h.get i := by rw [H.get_del, if_neg e]
theorem nx_fence (h : H) : h.fence.next = h.next := Eq.trans rfl rfl
theorem fl_fence (h : H) : h.fence.floor = h.next := Eq.trans rfl rfl
theorem gt_fence (h : H) (i : Nat) : h.fence.get i = h.get i := Eq.trans rfl rfl
theorem nx_del (h : H) (i : Nat) : (h.del i).next = h.next := Eq.trans rfl rfl
theorem fl_del (h : H) (i : Nat) : (h.del i).floor = h.floor := Eq.trans rfl rfl
theorem get_hit {h : H} {cs : List AV} {i : Nat} (e : i = h.next) : (h.alloc cs).get i = some cs := by rw [H.get_alloc, if_pos e]
theorem get_miss {h : H} {cs : List AV} {i : Nat} (e : ¬ i = h.next) : (h.alloc cs).get i = h.get i := by rw [H.get_alloc, if_neg e]
theorem set_hit {h : H} {cs : List AV} {id i : Nat} (e : i = id) : (h.set id cs).get i = (h.get i).map fun _ => cs := by rw [H.get_set, if_pos e, e]
theorem set_miss {h : H} {cs : List AV} {id i : Nat} (e : ¬ i = id) : (h.set id cs).get i = h.get i := by rw [H.get_set, if_neg e]
def condO {α : Type} (b : Bool) (x : α) : Option α := if b then some x else none
theorem condO_t {α : Type} (x : α) : condO true x = some x := rfl
theorem stO_d (h : H) (id off n : Nat) (v cs : List AV) : stO h id off n v (some cs) = condO (decide (h.floor ≤ id) && (decide (v.length = n) && (decide (off + n ≤ cs.length) && AV.allsc v))) (h.set id (setFrom cs off v)) := by
  simp only [stO, Option.bind_some, condO]
  by_cases c : h.floor ≤ id ∧ v.length = n ∧ off + n ≤ cs.length ∧ AV.allsc v = true
  · rw [if_pos c]; obtain ⟨c1, c2, c3, c4⟩ := c; simp [c1, c2, c3, c4]
  · rw [if_neg c, if_neg]; simpa using c
theorem rdT (n : Nat) (cs : List AV) (off : Nat) : rdc true n cs off = condO (decide (off + n ≤ cs.length)) (.agg ((cs.drop off).take n)) := by
  simp only [rdc, condO, if_true, decide_eq_true_eq]
theorem fill_n (z : List AV) : fillA z [] = some z := rfl
def fillS (r : List (Nat × Nat × AV)) (p : Option (List AV)) : Option (List AV) := p.bind fun z => fillA z r
theorem fillS_s (r : List (Nat × Nat × AV)) (z : List AV) : fillS r (some z) = fillA z r := rfl
theorem fill_c (z : List AV) (o n : Nat) (v : AV) (r : List (Nat × Nat × AV)) : fillA z ((o, n, v) :: r) = fillS r (condO (decide (v.cells.length = n) && (decide (o + n ≤ z.length) && AV.allsc v.cells)) (setFrom z o v.cells)) := by
  simp only [fillA, condO]
  by_cases c : v.cells.length = n ∧ o + n ≤ z.length ∧ AV.allsc v.cells = true
  · rw [if_pos c]; obtain ⟨c1, c2, c3⟩ := c; simp [c1, c2, c3, fillS]
  · rw [if_neg c, if_neg]; · rfl
    simpa using c
def birB (p : Option (List AV)) (f : Nat → AV) : Option (List AV × (Nat → AV)) := p.bind fun cs => some (cs, f)
theorem birB_s (cs : List AV) (f : Nat → AV) : birB (some cs) f = some (cs, f) := rfl
theorem bir_alloc (e : Env) (z : List AV) : birth e (.alloc z) = birB (condO (AV.allsc z) z) (fun i => .pobj i 0) := by
  simp only [birth, condO]; split <;> rfl
theorem bir_box (e : Env) (n : Nat) (x : X) : birth e (.box n x) = birB (condO (decide ((x.ev e).cells.length = n) && AV.allsc (x.ev e).cells) (x.ev e).cells) (fun i => .pobj i 0) := by
  simp only [birth, condO]
  by_cases c : (x.ev e).cells.length = n ∧ AV.allsc (x.ev e).cells = true
  · rw [if_pos c]; simp [c, birB]
  · rw [if_neg c, if_neg]; · rfl
    simpa using c
theorem bir_bslice (e : Env) (sz len : Nat) (z : List AV) (ps : List (Nat × X)) : birth e (.bslice sz len z ps) = birB (fillS (ps.map fun p => (p.1 * sz, sz, p.2.ev e)) (condO (decide (z.length = sz) && (decide (0 < sz) && AV.allsc z)) (repl len z))) (fun i => .sobj i 0 len sz) := by
  simp only [birth, condO]
  by_cases c : z.length = sz ∧ 0 < sz ∧ AV.allsc z = true
  · rw [if_pos c]; simp [c, birB, fillS]
  · rw [if_neg c, if_neg]; · rfl
    simpa using c
theorem repl_z (z : List AV) : repl 0 z = [] := rfl
theorem repl_s (n : Nat) (z : List AV) : repl (n + 1) z = z ++ repl n z := rfl
def goD2 (keep : List Nat) (e : Env) (h : H) (b : Bool) : Res := if b then some (.normal, restr e keep, h) else none
theorem goD2_t (keep : List Nat) (e : Env) (h : H) : goD2 keep e h true = some (.normal, restr e keep, h) := rfl
def goD (c : CallT) (ops : List AOper) (fl : List (Nat × List Nat)) (keep : List Nat) (p : Option (Env × H × List H)) : Res := p.bind fun q => goD2 keep q.1 q.2.1 (stables c ops q.1 q.2.2 fl)
theorem goD_s (c : CallT) (ops : List AOper) (fl : List (Nat × List Nat)) (keep : List Nat) (e : Env) (h : H) (gs : List H) : goD c ops fl keep (some (e, h, gs)) = goD2 keep e h (stables c ops e gs fl) := rfl
theorem C_dregF (c : CallT) (l : LoopT) (ord : List Nat) (ops : List AOper) (x : Nat × List Nat) (fl : List (Nat × List Nat)) (keep : List Nat) (e : Env) (h : H) : evC c l (.dreg ord ops (x :: fl) keep) e h = goD c ops (x :: fl) keep (evOpsD c ops e h) := by
  rw [evC]; rfl
theorem stb_n (c : CallT) (ops : List AOper) (e : Env) (gs : List H) : stables c ops e gs [] = true := rfl
def stK (c : CallT) (ops : List AOper) (e : Env) (gs : List H) (i : Nat) (ks : List Nat) : Bool := ks.all (stable1 c ops e gs i)
theorem stb_c (c : CallT) (ops : List AOper) (e : Env) (gs : List H) (i : Nat) (ks : List Nat) (r : List (Nat × List Nat)) : stables c ops e gs ((i, ks) :: r) = (stK c ops e gs i ks && stables c ops e gs r) := rfl
theorem stK_n (c : CallT) (ops : List AOper) (e : Env) (gs : List H) (i : Nat) : stK c ops e gs i [] = true := rfl
def st1 (c : CallT) (e : Env) (o : Option AOper) (g : Option H) : Bool := match o, g with
  | some o, some g =>
    if o.op.births then
      match o.dst.map (look e) with
      | some (.tup []) => true
      | some v => (match v.id?, birth e o.op with
        | some id, some b => (match g.get id with | some cs => AV.beqs cs b.1 | none => false)
        | _, _ => false)
      | none => false
    else match o.dst.map (look e) with
      | some v => (match evOper c o e g with | some (u, _) => AV.beq u v | none => false)
      | none => false
  | _, _ => false
theorem stK_c (c : CallT) (ops : List AOper) (e : Env) (gs : List H) (i k : Nat) (r : List Nat) : stK c ops e gs i (k :: r) = (st1 c e (ops[i]?) (gs[k]?) && stK c ops e gs i r) := by
  unfold stK
  rw [List.all_cons]
  congr 1
def stV (v : AV) (p : Option (AV × H)) : Bool := match p with | some (u, _) => AV.beq u v | none => false
theorem stV_s (v u : AV) (h : H) : stV v (some (u, h)) = AV.beq u v := rfl
def stB (b : Bool) (x y : Bool) : Bool := if b then x else y
theorem stB_f (x y : Bool) : stB false x y = y := rfl
def st1b (c : CallT) (e : Env) (o : Option AOper) (g : Option H) : Bool := st1 c e o g
theorem st1_u (c : CallT) (e : Env) (d : Nat) (op : AOp) (g : H) : st1 c e (some ⟨some d, op, none⟩) (some g) = stB op.births (st1b c e (some ⟨some d, op, none⟩) (some g)) (stV (look e d) (evOp c e g op)) := by
  unfold st1b st1 stB
  dsimp only
  cases op.births <;> rfl
theorem st1_g (c : CallT) (e : Env) (d : Nat) (op : AOp) (k : Nat) (w : Bool) (g : H) : st1 c e (some ⟨some d, op, some (k, w)⟩) (some g) = stB op.births (st1b c e (some ⟨some d, op, some (k, w)⟩) (some g)) (stV (look e d) (goG w c e g op (look e k))) := by
  unfold st1b st1 stB
  dsimp only
  cases op.births with
  | true => rfl
  | false => rw [evOper_g]; rfl
mutual
theorem beq_refl : ∀ a : AV, AV.beq a a = true
  | .bot => rfl
  | .bool b => by simp [AV.beq]
  | .int k n => by simp [AV.beq]
  | .str s => beq_str s
  | .nilp => rfl
  | .pobj i o => by simp [AV.beq]
  | .pimm c o => by simp [AV.beq, beqs_refl c]
  | .nils => rfl
  | .sobj i o l z => by simp [AV.beq]
  | .simm t c o l z => by simp [AV.beq, beqs_refl c]
  | .fn f a b => by simp [AV.beq, beqs_refl a, beqs_refl b]
  | .nilf => rfl
  | .iface t v => by simp [AV.beq, beq_refl v]
  | .nili => rfl
  | .agg c => by simp [AV.beq, beqs_refl c]
  | .tup c => by simp [AV.beq, beqs_refl c]
theorem beqs_refl : ∀ l : List AV, AV.beqs l l = true
  | [] => rfl
  | a :: l => by simp [AV.beqs, beq_refl a, beqs_refl l]
end
theorem stB_t (x y : Bool) : stB true x y = x := rfl
def beO (c : Option (List AV)) (d : List AV) : Bool := match c with | some cs => AV.beqs cs d | none => false
theorem beO_s (c d : List AV) : beO (some c) d = AV.beqs c d := rfl
def stBv (v : AV) (b : Option (List AV × (Nat → AV))) (g : H) : Bool := match v with
  | .tup [] => true
  | v => match v.id?, b with
    | some id, some b => beO (g.get id) b.1
    | _, _ => false
theorem stBv_t (b : Option (List AV × (Nat → AV))) (g : H) : stBv (.tup []) b g = true := rfl
theorem stBv_p (i o : Nat) (cs : List AV) (f : Nat → AV) (g : H) : stBv (.pobj i o) (some (cs, f)) g = beO (g.get i) cs := rfl
theorem stBv_o (i o l z : Nat) (cs : List AV) (f : Nat → AV) (g : H) : stBv (.sobj i o l z) (some (cs, f)) g = beO (g.get i) cs := rfl
theorem st1b_eq {c : CallT} {e : Env} {d : Nat} {op : AOp} {gd : Option (Nat × Bool)} {g : H} (hb : op.births = true) : st1b c e (some ⟨some d, op, gd⟩) (some g) = stBv (look e d) (birth e op) g := by
  unfold st1b st1
  dsimp only
  rw [hb, if_pos rfl]
  show (match some (look e d) with
      | some (.tup []) => true
      | some v => (match v.id?, birth e op with
        | some id, some b => (match g.get id with | some cs => AV.beqs cs b.1 | none => false)
        | _, _ => false)
      | none => false) = _
  generalize look e d = v
  unfold stBv beO
  cases v with
  | tup vs => cases vs <;> rfl
  | _ => cases birth e op <;> rfl
theorem st1b_alloc (c : CallT) (e : Env) (d : Nat) (z : List AV) (gd : Option (Nat × Bool)) (g : H) : st1b c e (some ⟨some d, .alloc z, gd⟩) (some g) = stBv (look e d) (birth e (.alloc z)) g := st1b_eq rfl
theorem st1b_box (c : CallT) (e : Env) (d n : Nat) (x : X) (gd : Option (Nat × Bool)) (g : H) : st1b c e (some ⟨some d, .box n x, gd⟩) (some g) = stBv (look e d) (birth e (.box n x)) g := st1b_eq rfl
theorem st1b_bslice (c : CallT) (e : Env) (d n m : Nat) (z : List AV) (ps : List (Nat × X)) (gd : Option (Nat × Bool)) (g : H) : st1b c e (some ⟨some d, .bslice n m z ps, gd⟩) (some g) = stBv (look e d) (birth e (.bslice n m z ps)) g := st1b_eq rfl
theorem st1b_mksl (c : CallT) (e : Env) (d n m : Nat) (z : List AV) (x y : X) (gd : Option (Nat × Bool)) (g : H) : st1b c e (some ⟨some d, .mksl n m z x y, gd⟩) (some g) = stBv (look e d) (birth e (.mksl n m z x y)) g := st1b_eq rfl
theorem beq_bool (b : Bool) : AV.beq (.bool b) (.bool b) = true := by simp [AV.beq]
theorem beq_tup0 : AV.beq (.tup []) (.tup []) = true := rfl
theorem beq_nils : AV.beq .nils .nils = true := rfl
theorem beq_simm0 : AV.beq .nilp .nilp = true := rfl
theorem iadr_s (sz id off len : Nat) (i : AV) : aiadr sz (.sobj id off len sz) i = idP id off sz (aidx i len) := by simp [aiadr, idP]
theorem iadr_m (t : Bool) (cells : List AV) (sz off len : Nat) (i : AV) : aiadr sz (.simm t cells off len sz) i = idQ cells off sz (aidx i len) := by simp [aiadr, idQ]
def replM (n : Nat) (z : List AV) : List AV := repl n z
def mkslB (sz bytes : Nat) (zero : List AV) (l c : AV) : Option (List AV × (Nat → AV)) :=
  match l, c with
  | .int .i64 l, .int .i64 c => birB (condO (decide (0 ≤ l) && (decide (l ≤ c) && (decide (c ≤ 9223372036854775807) && (decide ((bytes : Int) * c ≤ 281474976710656) && (decide (zero.length = sz) && (decide (0 < sz) && AV.allsc zero)))))) (replM c.toNat zero)) (fun i => .sobj i 0 l.toNat sz)
  | _, _ => none
theorem mkslB_s (sz bytes : Nat) (zero : List AV) (l c : Int) : mkslB sz bytes zero (.int .i64 l) (.int .i64 c) = birB (condO (decide (0 ≤ l) && (decide (l ≤ c) && (decide (c ≤ 9223372036854775807) && (decide ((bytes : Int) * c ≤ 281474976710656) && (decide (zero.length = sz) && (decide (0 < sz) && AV.allsc zero)))))) (replM c.toNat zero)) (fun i => .sobj i 0 l.toNat sz) := rfl
theorem bir_mksl (e : Env) (sz bytes : Nat) (zero : List AV) (l c : X) : birth e (.mksl sz bytes zero l c) = mkslB sz bytes zero (l.ev e) (c.ev e) := by
  simp only [birth]
  cases l.ev e with
  | int k l => cases k <;> cases c.ev e with
    | int k2 c => cases k2 <;> first
      | rfl
      | (simp only [mkslB_s, condO]
         by_cases q : 0 ≤ l ∧ l ≤ c ∧ c ≤ 9223372036854775807 ∧ (bytes : Int) * c ≤ 281474976710656 ∧ zero.length = sz ∧ 0 < sz ∧ AV.allsc zero = true
         · rw [if_pos q]; obtain ⟨q1, q2, q3, q4, q5, q6, q7⟩ := q
           rw [if_pos]
           · rfl
           · simp [q1, q2, q3, q4, q5, q6, q7]
         · rw [if_neg q, if_neg]
           · rfl
           · simpa using q)
    | _ => rfl
  | _ => cases c.ev e <;> rfl
theorem alen_s (i o l z : Nat) : alen false (.sobj i o l z) = some (.int .i64 l) := rfl
theorem alen_n : alen false .nils = some (.int .i64 0) := rfl
theorem alen_m (t : Bool) (c : List AV) (o l z : Nat) : alen false (.simm t c o l z) = some (.int .i64 l) := rfl
theorem alen_str (s : ByteArray) : alen true (.str s) = some (.int .i64 s.size) := rfl
theorem tn_add (a b : Nat) : ((a : Int) + (b : Int)).toNat = a + b := by omega
theorem tn_nat (a : Nat) : ((a : Int)).toNat = a := by omega
def byN (s : ByteArray) (i : Nat) : Nat := ((s[i]?).map (·.toNat)).getD 0
theorem byN_lt (s : ByteArray) (i : Nat) : byN s i < 256 := by
  unfold byN
  cases s[i]? with
  | none => simp
  | some b => simp; exact b.toNat_lt
theorem idxs_at {s : ByteArray} {i : Int} (h : 0 ≤ i ∧ i < s.size) : aidxs (.str s) (.int .i64 i) = some (.int .u8 (byN s i.toNat : Nat)) := by
  have hi : i.toNat < s.size := by omega
  simp [aidxs, aix h, byN, hi]
def selO {α : Type} (b : Bool) (x y : Option α) : Option α := if b then x else y
theorem selO_t {α : Type} (x y : Option α) : selO true x y = x := rfl
theorem selO_f {α : Type} (x y : Option α) : selO false x y = y := rfl
def srcO (n o k : Nat) (p : Option (List AV)) : Option (Nat × List AV) := p.bind fun cs => condO (decide (o + k * n ≤ cs.length)) (k, (cs.drop o).take (k * n))
theorem srcO_s (n o k : Nat) (cs : List AV) : srcO n o k (some cs) = condO (decide (o + k * n ≤ cs.length)) (k, (cs.drop o).take (k * n)) := rfl
theorem src_o (h : H) (n p o k : Nat) : srcCells h n (.sobj p o k n) = srcO n o k (h.get p) := by
  simp only [srcCells, if_true, srcO]
  cases h.get p with
  | none => rfl
  | some cs => simp only [Option.bind_some, condO, decide_eq_true_eq]
theorem src_m (h : H) (t : Bool) (n o k : Nat) (cs : List AV) : srcCells h n (.simm t cs o k n) = condO (decide (o + k * n ≤ cs.length)) (k, (cs.drop o).take (k * n)) := by
  simp only [srcCells, if_true, condO, decide_eq_true_eq]
theorem src_n (h : H) (n : Nat) : srcCells h n .nils = some (0, []) := Eq.trans rfl rfl
theorem src_s (h : H) (s : ByteArray) : srcCells h 1 (.str s) = some (s.size, s.data.toList.map fun b => .int .u8 b.toNat) := Eq.trans rfl rfl
def appS (h : H) (n z : Nat) (a : AV) (p : Option (Nat × List AV)) : Option (AV × H) := p.bind fun r => aappc h n z a r.1 r.2
theorem appS_s (h : H) (n z : Nat) (a : AV) (m : Nat) (bs : List AV) : appS h n z a (some (m, bs)) = aappc h n z a m bs := rfl
theorem app_b (h : H) (n z : Nat) (a b : AV) : aapp h n z a b = appS h n z a (srcCells h n b) := Eq.trans rfl rfl
def apO (h : H) (n z p o k m : Nat) (bs : List AV) (q : Option (List AV)) : Option (AV × H) := q.bind fun cs =>
  selO (decide (o + (k + m) * n ≤ cs.length)) (some (.sobj p o (k + m) n, h.set p (setFrom cs (o + k * n) bs))) (selO (decide (o + k * n = cs.length) && roomy z (k + m)) (some (.sobj h.next 0 (k + m) n, (h.del p).alloc (cs.drop o ++ bs))) none)
theorem apO_s (h : H) (n z p o k m : Nat) (bs cs : List AV) : apO h n z p o k m bs (some cs) = selO (decide (o + (k + m) * n ≤ cs.length)) (some (.sobj p o (k + m) n, h.set p (setFrom cs (o + k * n) bs))) (selO (decide (o + k * n = cs.length) && roomy z (k + m)) (some (.sobj h.next 0 (k + m) n, (h.del p).alloc (cs.drop o ++ bs))) none) := rfl
theorem apc_o (h : H) (n z p o k m : Nat) (bs : List AV) : aappc h n z (.sobj p o k n) m bs = selO (decide (m = 0)) (some (.sobj p o k n, h)) (selO (AV.allsc bs && (decide (0 < n) && decide (h.floor ≤ p))) (apO h n z p o k m bs (h.get p)) none) := by
  unfold aappc selO
  by_cases c : m = 0
  · simp [c]
  · rw [if_neg c]
    simp only [decide_eq_true_eq, if_neg c]
    by_cases c1 : AV.allsc bs = false ∨ n = 0
    · rw [if_pos c1, if_neg]
      rcases c1 with c1 | c1
      · simp [c1]
      · simp [c1]
    · rw [if_neg c1]
      have q1 : AV.allsc bs = true := by cases q : AV.allsc bs with | true => rfl | false => exact absurd (.inl q) c1
      by_cases c2 : h.floor ≤ p
      · have qq : (AV.allsc bs && (decide (0 < n) && decide (h.floor ≤ p))) = true := by simp [q1, c2]; omega
        simp only [true_and, if_pos c2, qq, if_true, apO, selO]
        cases h.get p with
        | none => rfl
        | some cs => simp only [Option.bind_some, decide_eq_true_eq, Bool.and_eq_true]
      · have qq : (AV.allsc bs && (decide (0 < n) && decide (h.floor ≤ p))) = false := by simp [c2]
        simp only [true_and, if_neg c2, qq]; rfl
theorem apc_n (h : H) (n z m : Nat) (bs : List AV) : aappc h n z .nils m bs = selO (decide (m = 0)) (some (.nils, h)) (selO (AV.allsc bs && (decide (0 < n) && roomy z m)) (some (.sobj h.next 0 m n, h.alloc bs)) none) := by
  unfold aappc selO
  by_cases c : m = 0
  · simp [c]
  · rw [if_neg c]
    simp only [decide_eq_true_eq, if_neg c]
    by_cases c1 : AV.allsc bs = false ∨ n = 0
    · rw [if_pos c1, if_neg]
      rcases c1 with c1 | c1
      · simp [c1]
      · simp [c1]
    · rw [if_neg c1]
      have q1 : AV.allsc bs = true := by cases q : AV.allsc bs with | true => rfl | false => exact absurd (.inl q) c1
      have q2 : 0 < n := by omega
      simp [q1, q2]
theorem roomy_t {b n : Nat} (h : 1 ≤ b ∧ (n + n / 4 + 512) * b ≤ 281474976710656) : roomy b n = true := by simp only [roomy, h.1, h.2, and_self, decide_true]
theorem fm_get {α : Type} {C : α → List AV} {n : Nat} (hC : ∀ x, (C x).length = n) : ∀ {l : List α} {i f : Nat} {x : α}, l[i]? = some x → f < n → (l.flatMap C)[i * n + f]? = (C x)[f]?
  | [], i, f, x, h, _ => by simp at h
  | y :: l, 0, f, x, h, hf => by
    obtain rfl : y = x := by simpa using h
    rw [List.flatMap_cons, Nat.zero_mul, Nat.zero_add, List.getElem?_append_left (by rw [hC]; exact hf)]
  | y :: l, i + 1, f, x, h, hf => by
    rw [List.flatMap_cons, List.getElem?_append_right (by rw [hC, Nat.add_mul]; omega), hC]
    rw [show (i + 1) * n + f - n = i * n + f by rw [Nat.add_mul]; omega]
    exact fm_get hC (by simpa using h) hf
theorem fm_len {α : Type} {C : α → List AV} {n : Nat} (hC : ∀ x, (C x).length = n) : ∀ l : List α, (l.flatMap C).length = l.length * n
  | [] => by simp
  | y :: l => by rw [List.flatMap_cons, List.length_append, hC, fm_len hC l, List.length_cons, Nat.add_mul]; omega
theorem fm_take {α : Type} {C : α → List AV} {n : Nat} (hC : ∀ x, (C x).length = n) : ∀ {l : List α} {i : Nat} {x : α}, l[i]? = some x → ((l.flatMap C).drop (i * n)).take n = C x
  | [], i, x, h => by simp at h
  | y :: l, 0, x, h => by
    obtain rfl : y = x := by simpa using h
    rw [List.flatMap_cons, Nat.zero_mul, List.drop_zero, List.take_append_of_le_length (by rw [hC]; omega), List.take_of_length_le (by rw [hC]; omega)]
  | y :: l, i + 1, x, h => by
    rw [List.flatMap_cons, List.drop_append, List.drop_of_length_le (by rw [hC, Nat.add_mul]; omega), List.nil_append, hC, show (i + 1) * n - n = i * n by rw [Nat.add_mul]; omega]
    exact fm_take hC (by simpa using h)
def RdN (n : Nat) (h : H) (v : AV) (k : Nat) (cs : List AV) : Prop := srcCells h n v = some (k, cs) ∧ cs.length = k * n ∧ ∀ s, v ≠ .str s
theorem Rd.rdN {h : H} {v : AV} {cs : List AV} (r : Rd h v cs) : RdN 1 h v cs.length cs := ⟨r.1, by omega, r.2⟩
theorem RdN.len {n : Nat} {h : H} {v : AV} {k : Nat} {cs : List AV} (r : RdN n h v k cs) : alen false v = some (.int .i64 k) := by
  obtain ⟨r, _, hs⟩ := r
  unfold srcCells at r
  split at r
  · obtain ⟨h1, h2⟩ := Prod.mk.inj (Option.some.inj r); subst h1; rfl
  · exact absurd rfl (hs _)
  · split at r
    · simp only [Option.bind_eq_some_iff] at r
      obtain ⟨c, _, r⟩ := r
      split at r
      · obtain ⟨h1, h2⟩ := Prod.mk.inj (Option.some.inj r); simp [alen, h1]
      · cases r
    · cases r
  · split at r
    · split at r
      · obtain ⟨h1, h2⟩ := Prod.mk.inj (Option.some.inj r); simp [alen, h1]
      · cases r
    · cases r
  · cases r
theorem RdN.mono {n : Nat} {h g : H} {v : AV} {k : Nat} {cs : List AV} (r : RdN n h v k cs) (hg : ∀ id c, h.get id = some c → g.get id = some c) : RdN n g v k cs := by
  obtain ⟨r, hl, hs⟩ := r
  refine ⟨?_, hl, hs⟩
  unfold srcCells at r ⊢
  split at r
  · exact r
  · exact r
  · split at r
    · rename_i q; simp only [if_pos q, Option.bind_eq_some_iff] at r ⊢
      obtain ⟨c, h1, r⟩ := r
      exact ⟨c, hg _ _ h1, r⟩
    · cases r
  · exact r
  · cases r
theorem RdN.at_ {n : Nat} {h : H} {v : AV} {k : Nat} {cs : List AV} (r : RdN n h v k cs) : ∃ ad : Int → Nat → AV,
    (∀ i : Int, 0 ≤ i ∧ i < k → aiadr n v (.int .i64 i) = some (ad i 0)) ∧
    (∀ (i : Int) (f g : Nat), 0 ≤ i ∧ i < k → afadr g (ad i f) = some (ad i (f + g))) ∧
    (∀ (i : Int) (f : Nat) (g : H), 0 ≤ i ∧ i < k → nilcB g (ad i f) = some (ad i f, g)) ∧
    (∀ g : H, (∀ id c, h.get id = some c → g.get id = some c) → (∀ (i : Int) (f : Nat) (c : AV), 0 ≤ i ∧ i < k → cs[i.toNat * n + f]? = some c → aload false 1 (ad i f) g = some c) ∧
      ∀ i : Int, 0 ≤ i ∧ i < k → aload true n (ad i 0) g = some (.agg ((cs.drop (i.toNat * n)).take n))) := by
  obtain ⟨r, hl, hs⟩ := r
  unfold srcCells at r
  split at r
  · obtain ⟨h1, h2⟩ := Prod.mk.inj (Option.some.inj r); subst h1
    exact ⟨fun _ _ => .bot, fun i hi => by omega, fun i f g hi => by omega, fun i f g hi => by omega, fun g _ => ⟨fun i f c hi => by omega, fun i hi => by omega⟩⟩
  · exact absurd rfl (hs _)
  · rename_i id off len s
    split at r
    · rename_i q
      subst q
      simp only [Option.bind_eq_some_iff] at r
      obtain ⟨d, hd, r⟩ := r
      split at r
      · rename_i hle
        obtain ⟨h1, h2⟩ := Prod.mk.inj (Option.some.inj r)
        subst h1
        have bnd : ∀ i : Int, 0 ≤ i ∧ i < len → i.toNat * s + s ≤ len * s := fun i hi => by
          have := Nat.mul_le_mul_right s (show i.toNat + 1 ≤ len by omega); rw [Nat.add_mul] at this; omega
        refine ⟨fun i f => .pobj id (off + i.toNat * s + f), fun i hi => by simp [aiadr, aix hi], fun i f g _ => by simp [afadr]; omega, fun i f g _ => rfl, fun g hg => ⟨fun i f c hi hc => ?_, fun i hi => ?_⟩⟩
        · simp only [aload, hg _ _ hd, Option.bind_some, rdc, Bool.false_eq_true, if_false]
          rw [← h2, List.getElem?_take] at hc
          split at hc
          · rw [List.getElem?_drop] at hc; rw [Nat.add_assoc]; exact hc
          · cases hc
        · have := bnd i hi
          simp only [aload, hg _ _ hd, Option.bind_some, rdc, if_true, Nat.add_zero]
          rw [if_pos (by omega), ← h2, List.drop_take, List.take_take, List.drop_drop, Nat.min_eq_left (by omega)]
      · cases r
    · cases r
  · rename_i t cells off len s
    split at r
    · rename_i q
      subst q
      split at r
      · rename_i hle
        obtain ⟨h1, h2⟩ := Prod.mk.inj (Option.some.inj r)
        subst h1
        have bnd : ∀ i : Int, 0 ≤ i ∧ i < len → i.toNat * s + s ≤ len * s := fun i hi => by
          have := Nat.mul_le_mul_right s (show i.toNat + 1 ≤ len by omega); rw [Nat.add_mul] at this; omega
        refine ⟨fun i f => .pimm cells (off + i.toNat * s + f), fun i hi => by simp [aiadr, aix hi], fun i f g _ => by simp [afadr]; omega, fun i f g _ => rfl, fun g hg => ⟨fun i f c hi hc => ?_, fun i hi => ?_⟩⟩
        · simp only [aload, rdc, Bool.false_eq_true, if_false]
          rw [← h2, List.getElem?_take] at hc
          split at hc
          · rw [List.getElem?_drop] at hc; rw [Nat.add_assoc]; exact hc
          · cases hc
        · have := bnd i hi
          simp only [aload, rdc, if_true, Nat.add_zero]
          rw [if_pos (by omega), ← h2, List.drop_take, List.take_take, List.drop_drop, Nat.min_eq_left (by omega)]
      · cases r
    · cases r
  · cases r
def OwnN (n : Nat) (h : H) (v : AV) (k : Nat) (cs : List AV) : Prop := cs.length = k * n ∧ ((v = .nils ∧ k = 0) ∨ ∃ id, v = .sobj id 0 k n ∧ h.get id = some cs ∧ h.floor ≤ id ∧ 0 < k)
theorem OwnN.nil {n : Nat} {h : H} : OwnN n h .nils 0 [] := ⟨by simp, .inl ⟨rfl, rfl⟩⟩
theorem OwnN.mono {n : Nat} {h g : H} {v : AV} {k : Nat} {cs : List AV} (o : OwnN n h v k cs) (hf : g.floor = h.floor) (hg : ∀ i, v.id? = some i → g.get i = h.get i) : OwnN n g v k cs := by
  obtain ⟨l, o⟩ := o
  refine ⟨l, ?_⟩
  rcases o with o | ⟨id, rfl, h1, h2, h3⟩
  · exact .inl o
  · exact .inr ⟨id, rfl, by rw [hg id rfl]; exact h1, by rw [hf]; exact h2, h3⟩
theorem OwnN.sc {n : Nat} {h : H} {v : AV} {k : Nat} {cs : List AV} (o : OwnN n h v k cs) : v.sc = true := by
  rcases o.2 with ⟨rfl, _⟩ | ⟨id, rfl, _⟩ <;> rfl
theorem OwnN.lt {n : Nat} {h : H} {v : AV} {k : Nat} {cs : List AV} (o : OwnN n h v k cs) {i : Nat} (hi : v.id? = some i) : h.floor ≤ i ∧ i < h.next := by
  rcases o.2 with ⟨rfl, _⟩ | ⟨id, rfl, h1, h2⟩
  · cases hi
  · obtain rfl := Option.some.inj hi; exact ⟨h2.1, h.lt _ _ h1⟩
theorem OwnN.rd {n : Nat} {h : H} {v : AV} {k : Nat} {cs : List AV} (o : OwnN n h v k cs) : RdN n h v k cs := by
  obtain ⟨l, o⟩ := o
  rcases o with ⟨rfl, rfl⟩ | ⟨id, rfl, h1, h2⟩
  · have : cs = [] := List.eq_nil_of_length_eq_zero (by omega)
    subst this
    exact ⟨rfl, by simp, fun _ => by simp⟩
  · refine ⟨?_, l, fun _ => by simp⟩
    simp only [srcCells, if_true, h1, Option.bind_some, Nat.zero_add]
    rw [if_pos (by omega), List.drop_zero, List.take_of_length_le (by omega)]
theorem OwnN.app {n : Nat} {h : H} {v : AV} {k : Nat} {cs : List AV} (o : OwnN n h v k cs) (hfn : h.floor ≤ h.next) {z m : Nat} (hm : 0 < m) (hn : 0 < n) (bs : List AV) (hb : bs.length = m * n) (hc : AV.allsc bs = true) (hr : roomy z (k + m) = true) :
    ∃ v' h', aappc h n z v m bs = some (v', h') ∧ OwnN n h' v' (k + m) (cs ++ bs) ∧ h'.floor = h.floor ∧ h.next ≤ h'.next ∧ (∀ i, v.id? ≠ some i → i ≠ h.next → h'.get i = h.get i) ∧ v'.id? = some h.next := by
  obtain ⟨hl, o⟩ := o
  have hll : (cs ++ bs).length = (k + m) * n := by rw [List.length_append, hl, hb, Nat.add_mul]
  rcases o with ⟨rfl, rfl⟩ | ⟨id, rfl, hg, hf, _⟩
  · have : cs = [] := List.eq_nil_of_length_eq_zero (by omega)
    subst this
    refine ⟨.sobj h.next 0 m n, h.alloc bs, ?_, ⟨hll, .inr ⟨h.next, by simp, by simp [H.get_alloc], by simp; omega, by omega⟩⟩, by simp, by simp, fun i _ hi => by rw [H.get_alloc, if_neg hi], rfl⟩
    unfold aappc
    rw [if_neg (by omega), if_neg (by simp [hc]; omega)]
    rw [Nat.zero_add] at hr
    simp only [hr, if_true]
  · have hmn : 0 < m * n := Nat.mul_pos hm hn
    have hnot : ¬ 0 + (k + m) * n ≤ cs.length := by rw [hl, Nat.add_mul]; omega
    refine ⟨.sobj h.next 0 (k + m) n, (h.del id).alloc (cs ++ bs), ?_, ⟨hll, .inr ⟨h.next, by simp, by simp [H.get_alloc], ?_, by omega⟩⟩, by simp, by simp, fun i h1 h2 => ?_, rfl⟩
    · unfold aappc
      rw [if_neg (by omega), if_neg (by simp [hc]; omega)]
      simp only [hf, and_self, if_true, hg, Option.bind_some]
      rw [if_neg hnot, if_pos ⟨by omega, hr⟩]
      simp
    · have := h.lt id cs hg; simp; omega
    · rw [H.get_alloc, H.next_del, if_neg h2, H.get_del, if_neg]
      intro e; subst e; exact h1 rfl
theorem OwnN.push {n : Nat} {h : H} {v : AV} {k : Nat} {cs : List AV} (o : OwnN n h v k cs) (hfn : h.floor ≤ h.next) {z m : Nat} (hm : 0 < m) (hn : 0 < n) (bs : List AV) (hb : bs.length = m * n) (hc : AV.allsc bs = true) (hr : roomy z (k + m) = true) :
    ∃ v' h', aapp (h.alloc bs) n z v (.sobj h.next 0 m n) = some (v', h') ∧ OwnN n h' v' (k + m) (cs ++ bs) ∧ h'.floor = h.floor ∧ h.next + 1 ≤ h'.next ∧ (∀ i, v.id? ≠ some i → i < h.next → h'.get i = h.get i) ∧ v'.id? = some (h.next + 1) := by
  have o1 : OwnN n (h.alloc bs) v k cs := o.mono (by simp) fun i q => by rw [H.get_alloc, if_neg]; have := o.lt q; omega
  obtain ⟨v', h', p1, p2, p3, p4, p5, p6⟩ := o1.app (z := z) (by simp; omega) hm hn bs hb hc hr
  refine ⟨v', h', ?_, p2, by rw [p3]; simp, by simpa using p4, fun i q1 q2 => ?_, by simpa using p6⟩
  · have src : srcCells (h.alloc bs) n (.sobj h.next 0 m n) = some (m, bs) := by
      simp only [srcCells, if_true, H.get_alloc, Option.bind_some, Nat.zero_add]
      rw [if_pos (by omega), List.drop_zero, List.take_of_length_le (by omega)]
    unfold aapp; rw [src, Option.bind_some]; exact p1
  · rw [p5 i q1 (by simp; omega), H.get_alloc, if_neg (by omega)]
def slN (n k : Nat) (cs : List AV) : AV := if k = 0 then .nils else .simm false cs 0 k n
theorem rd_slN {n k : Nat} {h : H} {cs : List AV} (hl : cs.length = k * n) : RdN n h (slN n k cs) k cs := by
  unfold slN
  by_cases hk : k = 0
  · subst hk
    have : cs = [] := List.eq_nil_of_length_eq_zero (by omega)
    subst this
    exact ⟨rfl, by simp, fun _ => by simp⟩
  · rw [if_neg hk]
    refine ⟨?_, hl, fun _ => by simp⟩
    simp only [srcCells, if_true, Nat.zero_add]
    rw [if_pos (by omega), List.drop_zero, List.take_of_length_le (by omega)]
theorem OwnN.snap_ints {n : Nat} {h : H} {v : AV} {k : Nat} {l : List Int} {fl m : Nat} {t : Bool} (o : OwnN n h v k (ints l)) (hf : fl ≤ h.floor) : snap h.get fl (m + 2) t v = some (slN n k (ints l)) := by
  obtain ⟨hl, o⟩ := o
  rw [ints_length] at hl
  rcases o with ⟨rfl, rfl⟩ | ⟨id, rfl, q, h2, hk⟩
  · rfl
  · unfold snap
    rw [if_neg (by omega), q, Option.bind_some, if_pos (by rw [ints_length]; omega)]
    rw [List.drop_zero, List.take_of_length_le (by rw [ints_length]; omega), mapO_ints]
    unfold slN
    rw [if_neg (by omega)]; rfl
attribute [go_sem] List.map_cons List.map_nil Bool.and_true Bool.true_and Bool.and_self List.append_nil Option.map_some Option.map_none Bool.and_false Bool.false_and Bool.or_false Bool.or_true Bool.true_or Bool.false_or Bool.or_self List.take_succ_cons List.take_zero List.drop_zero List.drop_succ_cons Int.cast_ofNat_Int Int.natCast_one Int.natCast_zero List.length_set
theorem qqC : type_of% @dt ∧ type_of% @df ∧ type_of% @eqt ∧ type_of% @eqf ∧ type_of% @net ∧ type_of% @nef ∧ type_of% @wi ∧ type_of% @wb ∧ type_of% @alen_str ∧ type_of% @idxs_at ∧ type_of% @tn_add ∧ type_of% @tn_nat ∧ type_of% @aix ∧ type_of% @get_hit ∧ type_of% @get_miss ∧ type_of% @set_hit ∧ type_of% @set_miss ∧ type_of% @H.floor_alloc ∧ type_of% @H.next_alloc ∧ type_of% @H.floor_set ∧ type_of% @H.next_set ∧ type_of% @stO_d ∧ type_of% @condO_t ∧ type_of% @fill_n ∧ type_of% @fill_c ∧ type_of% @fillS_s ∧ type_of% @bir_bslice ∧ type_of% @bir_alloc ∧ type_of% @bir_box ∧ type_of% @birB_s ∧ type_of% @repl_s ∧ type_of% @repl_z ∧ type_of% @setFrom_nil ∧ type_of% @setFrom_cons ∧ type_of% @allsc_nil ∧ type_of% @allsc_cons ∧ type_of% @iadr_s ∧ type_of% @iadr_m ∧ type_of% @idP_s ∧ type_of% @idQ_s ∧ type_of% @bir_mksl ∧ type_of% @mkslB_s ∧ type_of% @alen_s ∧ type_of% @alen_n ∧ type_of% @alen_m ∧ type_of% @C_dregF ∧ type_of% @goD_s ∧ type_of% @goD2_t ∧ type_of% @stb_n ∧ type_of% @stb_c ∧ type_of% @stK_n ∧ type_of% @stK_c ∧ type_of% @stV_s ∧ type_of% @stB_f ∧ type_of% @beq_int ∧ type_of% @beq_bool ∧ type_of% @beq_tup0 ∧ type_of% @beq_nils ∧ type_of% @beq_simm0 ∧ type_of% @beq_str ∧ type_of% @beq_sobj ∧ type_of% @beq_pobj ∧ type_of% @opsD_nil ∧ type_of% @opsD_u ∧ type_of% @opsD_g ∧ type_of% @goOD_s ∧ type_of% @preD_t ∧ type_of% @preD_f ∧ type_of% @st1_u ∧ type_of% @st1_g ∧ type_of% @eqbB_s ∧ type_of% @beq_refl ∧ type_of% @beqs_refl ∧ type_of% @stB_t ∧ type_of% @beO_s ∧ type_of% @stBv_t ∧ type_of% @stBv_p ∧ type_of% @stBv_o ∧ type_of% @st1b_alloc ∧ type_of% @st1b_box ∧ type_of% @st1b_bslice ∧ type_of% @st1b_mksl := ⟨@dt, @df, @eqt, @eqf, @net, @nef, @wi, @wb, @alen_str, @idxs_at, @tn_add, @tn_nat, @aix, @get_hit, @get_miss, @set_hit, @set_miss, @H.floor_alloc, @H.next_alloc, @H.floor_set, @H.next_set, @stO_d, @condO_t, @fill_n, @fill_c, @fillS_s, @bir_bslice, @bir_alloc, @bir_box, @birB_s, @repl_s, @repl_z, @setFrom_nil, @setFrom_cons, @allsc_nil, @allsc_cons, @iadr_s, @iadr_m, @idP_s, @idQ_s, @bir_mksl, @mkslB_s, @alen_s, @alen_n, @alen_m, @C_dregF, @goD_s, @goD2_t, @stb_n, @stb_c, @stK_n, @stK_c, @stV_s, @stB_f, @beq_int, @beq_bool, @beq_tup0, @beq_nils, @beq_simm0, @beq_str, @beq_sobj, @beq_pobj, @opsD_nil, @opsD_u, @opsD_g, @goOD_s, @preD_t, @preD_f, @st1_u, @st1_g, @eqbB_s, @beq_refl, @beqs_refl, @stB_t, @beO_s, @stBv_t, @stBv_p, @stBv_o, @st1b_alloc, @st1b_box, @st1b_bslice, @st1b_mksl⟩
theorem qqD : type_of% @nx_fence ∧ type_of% @gt_fence ∧ type_of% @fl_fence ∧ type_of% @nx_del ∧ type_of% @fl_del ∧ type_of% @del_miss ∧ type_of% @rdT ∧ type_of% @selO_t ∧ type_of% @selO_f ∧ type_of% @srcO_s ∧ type_of% @src_o ∧ type_of% @src_m ∧ type_of% @src_n ∧ type_of% @src_s ∧ type_of% @appS_s ∧ type_of% @app_b ∧ type_of% @apO_s ∧ type_of% @apc_o ∧ type_of% @apc_n ∧ type_of% @roomy_t ∧ type_of% @at_z ∧ type_of% @at_s ∧ type_of% @tl_z ∧ type_of% @tl_s := ⟨@nx_fence, @gt_fence, @fl_fence, @nx_del, @fl_del, @del_miss, @rdT, @selO_t, @selO_f, @srcO_s, @src_o, @src_m, @src_n, @src_s, @appS_s, @app_b, @apO_s, @apc_o, @apc_n, @roomy_t, @at_z, @at_s, @tl_z, @tl_s⟩
theorem qqH : type_of% @H.next_alloc ∧ type_of% @H.next_set ∧ type_of% @nx_del ∧ type_of% @nx_fence ∧ type_of% @H.floor_alloc ∧ type_of% @H.floor_set ∧ type_of% @fl_del ∧ type_of% @fl_fence := ⟨@H.next_alloc, @H.next_set, @nx_del, @nx_fence, @H.floor_alloc, @H.floor_set, @fl_del, @fl_fence⟩
theorem qqG : type_of% @get_hit ∧ type_of% @get_miss ∧ type_of% @set_hit ∧ type_of% @set_miss ∧ type_of% @del_miss ∧ type_of% @gt_fence := ⟨@get_hit, @get_miss, @set_hit, @set_miss, @del_miss, @gt_fence⟩
end Ab
set_option linter.unusedSimpArgs false
set_option linter.unusedVariables false
set_option maxRecDepth 100000
namespace Ab
open Go
def crcBit (c : Nat) : Nat := if c % 2 = 1 then (c / 2) ^^^ 3988292384 else c / 2
def crcBits : Nat → Nat → Nat
  | 0, c => c
  | n + 1, c => crcBits n (crcBit c)
def crcByte (c b : Nat) : Nat := crcBits 8 (c ^^^ b)
def crcRun (s : ByteArray) : Nat → Nat → Nat → Nat
  | 0, _, c => c
  | n + 1, i, c => crcRun s n (i + 1) (crcByte c (byN s i))
def joinA (a : Nat) (s : ByteArray) : Nat := 4294967295 - crcRun s s.size 0 (4294967295 - a)
def crcA (s : ByteArray) : Nat := joinA 0 s
end Ab
set_option linter.unusedSimpArgs false
set_option linter.unusedVariables false
set_option maxRecDepth 100000
namespace Ab
open Go
theorem shr_i64n {a s : Nat} (hs : s ≤ 64) : shft .shr .i64 (a : Int) (s : Int) = some (.int .i64 ((a / 2 ^ s : Nat) : Int)) := by
  unfold shft
  rw [if_neg (by omega)]
  simp only [IntKind.bits, Int.toNat_natCast, Nat.min_eq_left hs]
  rw [Int.fdiv_eq_ediv_of_nonneg _ (Int.pow_nonneg (by omega))]
  simp
theorem b2s_ownN {h : H} {v : AV} {k : Nat} {l : List Nat} (o : OwnN 1 h v k (bys l)) : b2sB h v (srcCells h 1 v) = some (.str (bytesOf l), h) := by
  rw [o.rd.1]
  simp only [b2sB, Option.bind_some, b2s_bys]
  rcases o.2 with ⟨rfl, _⟩ | ⟨id, rfl, _⟩ <;> rfl
end Ab
set_option linter.unusedSimpArgs false
set_option linter.unusedVariables false
set_option maxRecDepth 100000
namespace Ab
open Go
end Ab
set_option linter.unusedSimpArgs false
set_option linter.unusedVariables false
set_option maxRecDepth 100000
namespace Ab
open Go
def sameA (s : ByteArray) (i j : Nat) : Nat → Nat → Nat
  | 0, k => k
  | f + 1, k => if k < 258 ∧ i + k < s.size ∧ byN s (i + k) = byN s (j + k) then sameA s i j f (k + 1) else k
theorem same_loop (s : ByteArray) (i j : Nat) (hs : s.size < 100000) (hj : j ≤ i) (hi : i ≤ s.size) (h : H) : ∀ (f k : Nat), k + f = 258 →
    ∃ e', Lp AP.A [0, 1, 2, 7] AP.f26L0 [(0, .str s), (1, .int .i64 i), (2, .int .i64 j), (7, .int .i64 k)] h = some (.exit 0, e', h) ∧ look e' 7 = .int .i64 (sameA s i j f k : Nat)
  | 0, k, hk => by
    refine ⟨[(0, .str s), (1, .int .i64 i), (2, .int .i64 j), (7, .int .i64 k), (30, .bool false)], Lp_exit ?_, rfl⟩
    simp (disch := omega) only [go_sem, abin_shl, abin_shr, Nat.reduceEqDiff, reduceIte, Nat.reduceAdd, Nat.reduceMul, Nat.reduceLT, Nat.reduceLeDiff, Int.reduceBEq, Int.reduceBNe, Int.reduceLT, Int.reduceLE, Int.reduceEq, qqC, AOp.loud, AOp.births, Int.reduceAdd, Int.reduceSub, Int.reduceMul, Int.reduceNeg, Int.reduceToNat, AP.f26L0]
  | f + 1, k, hk => by
    have n1 : ((k : Int) + 1) = ((k + 1 : Nat) : Int) := by omega
    by_cases c1 : i + k < s.size
    · by_cases c2 : byN s (i + k) = byN s (j + k)
      · obtain ⟨e', r1, r2⟩ := same_loop s i j hs hj hi h f (k + 1) (by omega)
        refine ⟨e', Lp_next ?_ r1, ?_⟩
        · rw [← n1]
          simp (disch := omega) only [go_sem, abin_shl, abin_shr, Nat.reduceEqDiff, reduceIte, Nat.reduceAdd, Nat.reduceMul, Nat.reduceLT, Nat.reduceLeDiff, Int.reduceBEq, Int.reduceBNe, Int.reduceLT, Int.reduceLE, Int.reduceEq, qqC, AOp.loud, AOp.births, Int.reduceAdd, Int.reduceSub, Int.reduceMul, Int.reduceNeg, Int.reduceToNat, AP.f26L0]
        · rw [r2, sameA, if_pos ⟨by omega, c1, c2⟩]
      · refine ⟨[(0, .str s), (1, .int .i64 i), (2, .int .i64 j), (7, .int .i64 k), (30, .bool false)], Lp_exit ?_, ?_⟩
        · simp (disch := omega) only [go_sem, abin_shl, abin_shr, Nat.reduceEqDiff, reduceIte, Nat.reduceAdd, Nat.reduceMul, Nat.reduceLT, Nat.reduceLeDiff, Int.reduceBEq, Int.reduceBNe, Int.reduceLT, Int.reduceLE, Int.reduceEq, qqC, AOp.loud, AOp.births, Int.reduceAdd, Int.reduceSub, Int.reduceMul, Int.reduceNeg, Int.reduceToNat, AP.f26L0]
        · rw [sameA, if_neg (fun q => c2 q.2.2)]; rfl
    · refine ⟨[(0, .str s), (1, .int .i64 i), (2, .int .i64 j), (7, .int .i64 k), (30, .bool false)], Lp_exit ?_, ?_⟩
      · simp (disch := omega) only [go_sem, abin_shl, abin_shr, Nat.reduceEqDiff, reduceIte, Nat.reduceAdd, Nat.reduceMul, Nat.reduceLT, Nat.reduceLeDiff, Int.reduceBEq, Int.reduceBNe, Int.reduceLT, Int.reduceLE, Int.reduceEq, qqC, AOp.loud, AOp.births, Int.reduceAdd, Int.reduceSub, Int.reduceMul, Int.reduceNeg, Int.reduceToNat, AP.f26L0]
      · rw [sameA, if_neg (fun q => c1 q.2.1)]; rfl
def same (s : ByteArray) (i j : Nat) : Nat := sameA s i j 258 0
theorem same_c (h : H) (s : ByteArray) (i j : Nat) (hs : s.size < 100000) (hj : j ≤ i) (hi : i ≤ s.size) : callW AP.A 26 [.str s, .int .i64 i, .int .i64 j] h = some (.int .i64 (same s i j : Nat), h) := by
  obtain ⟨e', r1, r2⟩ := same_loop s i j hs hj hi h.fence 258 0 rfl
  have r1' : Lp AP.A [0, 1, 2, 7] AP.f26L0 [(0, .str s), (1, .int .i64 i), (2, .int .i64 j), (7, .int .i64 0)] h.fence = some (.exit 0, e', h.fence) := r1
  clear r1
  refine pure_c (fn := AP.f26) (h2 := h.fence) (e := [(6, .int .i64 (same s i j : Nat))]) rfl rfl rfl ?_ rfl rfl
  simp (disch := omega) only [go_sem, abin_shl, abin_shr, Nat.reduceEqDiff, reduceIte, Nat.reduceAdd, Nat.reduceMul, Nat.reduceLT, Nat.reduceLeDiff, Int.reduceBEq, Int.reduceBNe, Int.reduceLT, Int.reduceLE, Int.reduceEq, qqC, AOp.loud, AOp.births, Int.reduceAdd, Int.reduceSub, Int.reduceMul, Int.reduceNeg, Int.reduceToNat, AP.f26, evC_loop, r1', r2, same]
def bestA (s : ByteArray) (i : Nat) : Nat → Nat × Nat → Nat × Nat
  | 0, b => b
  | j + 1, b => bestA s i j (if b.1 < same s i j then (same s i j, i - j) else b)
theorem sameA_le (s : ByteArray) (i j : Nat) : ∀ f k, sameA s i j f k ≤ k + f
  | 0, k => by simp [sameA]
  | f + 1, k => by
    unfold sameA
    split
    · have := sameA_le s i j f (k + 1); omega
    · omega
theorem same_le (s : ByteArray) (i j : Nat) : same s i j ≤ 258 := by have := sameA_le s i j 258 0; unfold same; omega
theorem sameA_room (s : ByteArray) (i j : Nat) (hi : i ≤ s.size) : ∀ f k, i + k ≤ s.size → i + sameA s i j f k ≤ s.size
  | 0, k, h => by simpa [sameA] using h
  | f + 1, k, h => by
    unfold sameA
    split
    · rename_i q; exact sameA_room s i j hi f (k + 1) (by omega)
    · exact h
theorem same_room (s : ByteArray) (i j : Nat) (hi : i ≤ s.size) : i + same s i j ≤ s.size := sameA_room s i j hi 258 0 (by omega)
theorem bestA_room (s : ByteArray) (i : Nat) (hi : i ≤ s.size) : ∀ (j : Nat) (b : Nat × Nat), i + b.1 ≤ s.size → i + (bestA s i j b).1 ≤ s.size
  | 0, b, h => h
  | j + 1, b, h => by
    unfold bestA
    refine bestA_room s i hi j _ ?_
    split
    · exact same_room s i j hi
    · exact h
theorem best_loop (s : ByteArray) (i : Nat) (hs : s.size < 100000) (hi : i < s.size) (v4 : AV) (h : H) : ∀ (n : Nat) (b : Nat × Nat) (j : Int), n ≤ i → j = (n : Int) - 1 →
    ∃ e', Lp AP.A [0, 4, 5, 6, 7, 8] AP.f12L0 [(0, .str s), (4, v4), (5, .int .i64 i), (6, .int .i64 b.1), (7, .int .i64 b.2), (8, .int .i64 j)] h = some (.exit 2, e', h) ∧
      look e' 0 = .str s ∧ look e' 4 = v4 ∧ look e' 5 = .int .i64 i ∧ look e' 6 = .int .i64 (bestA s i n b).1 ∧ look e' 7 = .int .i64 (bestA s i n b).2
  | 0, b, j, hn, hj => by
    refine ⟨[(0, .str s), (4, v4), (5, .int .i64 i), (6, .int .i64 b.1), (7, .int .i64 b.2), (8, .int .i64 j), (20, .bool false)], Lp_exit ?_, rfl, rfl, rfl, rfl, rfl⟩
    simp (disch := omega) only [go_sem, abin_shl, abin_shr, Nat.reduceEqDiff, reduceIte, Nat.reduceAdd, Nat.reduceMul, Nat.reduceLT, Nat.reduceLeDiff, Int.reduceBEq, Int.reduceBNe, Int.reduceLT, Int.reduceLE, Int.reduceEq, qqC, AOp.loud, AOp.births, Int.reduceAdd, Int.reduceSub, Int.reduceMul, Int.reduceNeg, Int.reduceToNat, AP.f12L0]
  | n + 1, b, j, hn, hj => by
    obtain rfl : j = (n : Int) := by omega
    have k1 := same_c h s i n hs (by omega) (by omega)
    have k2 := same_le s i n
    have n1 : (i : Int) - (n : Int) = ((i - n : Nat) : Int) := by omega
    by_cases c : b.1 < same s i n
    · obtain ⟨e', r1, r2, r3, r4, r5, r6⟩ := best_loop s i hs hi v4 h n (same s i n, i - n) ((n : Int) - 1) (by omega) rfl
      refine ⟨e', Lp_next ?_ r1, r2, r3, r4, ?_, ?_⟩
      · simp (disch := omega) only [go_sem, abin_shl, abin_shr, Nat.reduceEqDiff, reduceIte, Nat.reduceAdd, Nat.reduceMul, Nat.reduceLT, Nat.reduceLeDiff, Int.reduceBEq, Int.reduceBNe, Int.reduceLT, Int.reduceLE, Int.reduceEq, qqC, AOp.loud, AOp.births, Int.reduceAdd, Int.reduceSub, Int.reduceMul, Int.reduceNeg, Int.reduceToNat, AP.f12L0, k1, n1]
      · rw [r5, bestA, if_pos c]
      · rw [r6, bestA, if_pos c]
    · obtain ⟨e', r1, r2, r3, r4, r5, r6⟩ := best_loop s i hs hi v4 h n b ((n : Int) - 1) (by omega) rfl
      refine ⟨e', Lp_next ?_ r1, r2, r3, r4, ?_, ?_⟩
      · simp (disch := omega) only [go_sem, abin_shl, abin_shr, Nat.reduceEqDiff, reduceIte, Nat.reduceAdd, Nat.reduceMul, Nat.reduceLT, Nat.reduceLeDiff, Int.reduceBEq, Int.reduceBNe, Int.reduceLT, Int.reduceLE, Int.reduceEq, qqC, AOp.loud, AOp.births, Int.reduceAdd, Int.reduceSub, Int.reduceMul, Int.reduceNeg, Int.reduceToNat, AP.f12L0, k1, n1]
      · rw [r5, bestA, if_neg c]
      · rw [r6, bestA, if_neg c]
structure Tok where
  lit : Int
  len : Int
  dist : Int
deriving DecidableEq
def tokL (t : Tok) : List Int := [t.lit, t.len, t.dist]
def tokC (t : Tok) : List AV := ints (tokL t)
def toksL (ts : List Tok) : List Int := ts.flatMap tokL
def toksC (ts : List Tok) : List AV := ts.flatMap tokC
theorem tokC_len (t : Tok) : (tokC t).length = 3 := rfl
theorem toksC_len (ts : List Tok) : (toksC ts).length = ts.length * 3 := fm_len tokC_len ts
theorem toksC_ints : ∀ ts : List Tok, toksC ts = ints (toksL ts)
  | [] => rfl
  | t :: ts => by
    have := toksC_ints ts
    unfold toksC toksL at *
    rw [List.flatMap_cons, List.flatMap_cons, ints_append, this]; rfl
theorem toksC_snoc (ts : List Tok) (t : Tok) : toksC (ts ++ [t]) = toksC ts ++ tokC t := by simp [toksC]
def tokAt (s : ByteArray) (i : Nat) : Tok × Nat :=
  if (bestA s i i (0, 0)).1 < 3 then (⟨byN s i, 0, 0⟩, i + 1) else (⟨0, (bestA s i i (0, 0)).1, (bestA s i i (0, 0)).2⟩, i + (bestA s i i (0, 0)).1)
def tokA (s : ByteArray) : Nat → Nat → List Tok
  | 0, _ => []
  | f + 1, i => if i < s.size then (tokAt s i).1 :: tokA s f (tokAt s i).2 else []
theorem tokAt_lt (s : ByteArray) (i : Nat) : i < (tokAt s i).2 := by
  unfold tokAt; split <;> simp <;> omega
theorem tokAt_le (s : ByteArray) (i : Nat) (hi : i < s.size) : (tokAt s i).2 ≤ s.size := by
  unfold tokAt; split
  · exact hi
  · exact bestA_room s i (by omega) i (0, 0) (by show i + 0 ≤ _; omega)
theorem tok_stop (s : ByteArray) (i : Nat) (hi : s.size ≤ i) (h : H) (ov : AV) : ∃ e', Lp AP.A [0, 4, 5] AP.f12L1 [(0, .str s), (4, ov), (5, .int .i64 i)] h = some (.exit 0, e', h) ∧ look e' 4 = ov := by
  refine ⟨[(0, .str s), (4, ov), (5, .int .i64 i), (16, .bool false)], Lp_exit ?_, rfl⟩
  simp (disch := omega) only [go_sem, abin_shl, abin_shr, Nat.reduceEqDiff, reduceIte, Nat.reduceAdd, Nat.reduceMul, Nat.reduceLT, Nat.reduceLeDiff, Int.reduceBEq, Int.reduceBNe, Int.reduceLT, Int.reduceLE, Int.reduceEq, qqC, AOp.loud, AOp.births, Int.reduceAdd, Int.reduceSub, Int.reduceMul, Int.reduceNeg, Int.reduceToNat, AP.f12L1]
theorem tok_loop (s : ByteArray) (hs : s.size < 100000) : ∀ (f i : Nat) (h : H) (ov : AV) (ts : List Tok), s.size - i ≤ f → i ≤ s.size → ts.length ≤ i → OwnN 3 h ov ts.length (toksC ts) → h.floor ≤ h.next →
    ∃ e' h' ov', Lp AP.A [0, 4, 5] AP.f12L1 [(0, .str s), (4, ov), (5, .int .i64 i)] h = some (.exit 0, e', h') ∧ look e' 4 = ov' ∧ OwnN 3 h' ov' (ts ++ tokA s f i).length (toksC (ts ++ tokA s f i)) ∧ h'.floor = h.floor ∧ h.next ≤ h'.next := by
  intro f
  induction f with
  | zero =>
    intro i h ov ts hf hi hts o hfn
    obtain ⟨e', r1, r2⟩ := tok_stop s i (by omega) h ov
    exact ⟨e', h, ov, r1, r2, by simpa [tokA] using o, rfl, Nat.le_refl _⟩
  | succ f ih =>
    intro i h ov ts hf hi hts o hfn
    by_cases c0 : i < s.size
    · obtain ⟨e1, q1, q2, q3, q4, q5, q6⟩ := best_loop s i hs c0 ov h i (0, 0) ((i : Int) - 1) (by omega) rfl
      have q1' : Lp AP.A [0, 4, 5, 6, 7, 8] AP.f12L0 [(0, .str s), (4, ov), (5, .int .i64 i), (6, .int .i64 0), (7, .int .i64 0), (8, .int .i64 ((i : Int) - 1))] h = some (.exit 2, e1, h) := q1
      clear q1
      have hb := byN_lt s i
      have hr := bestA_room s i (by omega) i (0, 0) (by show i + 0 ≤ _; omega)
      have lt := tokAt_lt s i
      have le := tokAt_le s i c0
      obtain ⟨t, i', et⟩ : ∃ t i', tokAt s i = (t, i') := ⟨_, _, rfl⟩
      have et0 := et
      rw [et] at lt le
      simp only at lt le
      obtain ⟨v', h', p1, p2, p3, p4, p5, p6⟩ := o.push hfn (z := 24) (m := 1) (by omega) (by omega) (tokC t) rfl rfl (by simp [roomy]; omega)
      have step : evC (callW AP.A) loopW AP.f12L1 (restr [(0, .str s), (4, ov), (5, .int .i64 i)] [0, 4, 5]) h = some (.normal, [(0, .str s), (4, v'), (5, .int .i64 i')], h') := by
        unfold tokAt at et
        by_cases c1 : (bestA s i i (0, 0)).1 < 3
        · rw [if_pos c1] at et
          obtain ⟨rfl, rfl⟩ := Prod.mk.inj et
          simp only [tokC, tokL, ints, List.map_cons, List.map_nil, I] at p1
          have n1 : ((i + 1 : Nat) : Int) = (i : Int) + 1 := by omega
          simp (disch := omega) only [go_sem, abin_shl, abin_shr, Nat.reduceEqDiff, reduceIte, Nat.reduceAdd, Nat.reduceMul, Nat.reduceLT, Nat.reduceLeDiff, Int.reduceBEq, Int.reduceBNe, Int.reduceLT, Int.reduceLE, Int.reduceEq, qqC, AOp.loud, AOp.births, Int.reduceAdd, Int.reduceSub, Int.reduceMul, Int.reduceNeg, Int.reduceToNat, AP.f12L1, evC_loop, q1', q2, q3, q4, q5, q6, p1, n1]
        · rw [if_neg c1] at et
          obtain ⟨rfl, rfl⟩ := Prod.mk.inj et
          simp only [tokC, tokL, ints, List.map_cons, List.map_nil, I] at p1
          have n1 : ((i + (bestA s i i (0, 0)).1 : Nat) : Int) = (i : Int) + ((bestA s i i (0, 0)).1 : Nat) := by omega
          simp (disch := omega) only [go_sem, abin_shl, abin_shr, Nat.reduceEqDiff, reduceIte, Nat.reduceAdd, Nat.reduceMul, Nat.reduceLT, Nat.reduceLeDiff, Int.reduceBEq, Int.reduceBNe, Int.reduceLT, Int.reduceLE, Int.reduceEq, qqC, AOp.loud, AOp.births, Int.reduceAdd, Int.reduceSub, Int.reduceMul, Int.reduceNeg, Int.reduceToNat, AP.f12L1, evC_loop, q1', q2, q3, q4, q5, q6, p1, n1]
      have o2 : OwnN 3 h' v' (ts ++ [t]).length (toksC (ts ++ [t])) := by rw [toksC_snoc, List.length_append]; exact p2
      obtain ⟨e', h2, ov', r1, r2, r3, r4, r5⟩ := ih i' h' v' (ts ++ [t]) (by omega) le (by simp; omega) o2 (by omega)
      refine ⟨e', h2, ov', Lp_next step r1, r2, ?_, by omega, by omega⟩
      rw [tokA, if_pos c0, et0]
      simpa using r3
    · obtain ⟨e', r1, r2⟩ := tok_stop s i (by omega) h ov
      exact ⟨e', h, ov, r1, r2, by simpa [tokA, c0] using o, rfl, Nat.le_refl _⟩
def toksV (ts : List Tok) : AV := slN 3 ts.length (toksC ts)
def tokens (s : ByteArray) : List Tok := tokA s s.size 0
theorem tokens_c (h : H) (s : ByteArray) (hs : s.size < 1125899906842624) : callW AP.A 12 [.str s] h = some (if 300 < s.size then .tup [.nils, .int .i64 500] else .tup [toksV (tokens s), .int .i64 0], h) := by
  by_cases c : 300 < s.size
  · rw [if_pos c]
    refine pure_c (fn := AP.f12) (h2 := h.fence) (e := [(2, .nils), (3, .int .i64 500)]) rfl rfl rfl ?_ rfl rfl
    simp (disch := omega) only [go_sem, abin_shl, abin_shr, Nat.reduceEqDiff, reduceIte, Nat.reduceAdd, Nat.reduceMul, Nat.reduceLT, Nat.reduceLeDiff, Int.reduceBEq, Int.reduceBNe, Int.reduceLT, Int.reduceLE, Int.reduceEq, qqC, AOp.loud, AOp.births, Int.reduceAdd, Int.reduceSub, Int.reduceMul, Int.reduceNeg, Int.reduceToNat, AP.f12]
  · rw [if_neg c]
    obtain ⟨e', h', ov', r1, r2, r3, r4, r5⟩ := tok_loop s (by omega) s.size 0 h.fence .nils [] (by omega) (by omega) (by simp) OwnN.nil (by simp)
    have r1' : Lp AP.A [0, 4, 5] AP.f12L1 [(0, .str s), (4, .nils), (5, .int .i64 0)] h.fence = some (.exit 0, e', h') := r1
    clear r1
    rw [List.nil_append] at r3
    refine pure_c (fn := AP.f12) (h2 := h') (e := [(2, ov'), (3, .int .i64 0)]) (vs := [ov', .int .i64 0]) rfl rfl rfl ?_ rfl ?_
    · simp (disch := omega) only [go_sem, abin_shl, abin_shr, Nat.reduceEqDiff, reduceIte, Nat.reduceAdd, Nat.reduceMul, Nat.reduceLT, Nat.reduceLeDiff, Int.reduceBEq, Int.reduceBNe, Int.reduceLT, Int.reduceLE, Int.reduceEq, qqC, AOp.loud, AOp.births, Int.reduceAdd, Int.reduceSub, Int.reduceMul, Int.reduceNeg, Int.reduceToNat, AP.f12, evC_loop, r1', r2]
    · have o' := r3
      rw [toksC_ints] at o'
      have s1 := o'.snap_ints (fl := h.next) (m := 13) (t := true) (by rw [r4]; simp)
      show (mapO (snap h'.get h.next 15 true) [ov', .int .i64 0]).bind _ = _
      simp only [mapO, s1, Option.bind_some]
      rw [← toksC_ints]; rfl
end Ab
set_option linter.unusedSimpArgs false
set_option linter.unusedVariables false
set_option maxRecDepth 100000
namespace Ab
open Go
def Ext (h g : H) : Prop := ∀ id c, h.get id = some c → g.get id = some c
theorem Ext.refl (h : H) : Ext h h := fun _ _ q => q
theorem Ext.trans {a b c : H} (x : Ext a b) (y : Ext b c) : Ext a c := fun i d q => y i d (x i d q)
theorem Ext.alloc {a h : H} (x : Ext a h) (cs : List AV) : Ext a (h.alloc cs) := fun i d q => by
  have := h.lt _ _ (x i d q)
  rw [H.get_alloc, if_neg (by omega)]; exact x i d q
theorem Ext.set {a h : H} (x : Ext a h) {id : Nat} (hid : a.next ≤ id) (cs : List AV) : Ext a (h.set id cs) := fun i d q => by
  have := a.lt _ _ q
  rw [H.get_set, if_neg (by omega)]; exact x i d q
theorem RdN.toks {h : H} {v : AV} {ts : List Tok} (r : RdN 3 h v ts.length (toksC ts)) : ∃ ad : Int → Nat → AV,
    (∀ i : Int, 0 ≤ i ∧ i < ts.length → aiadr 3 v (.int .i64 i) = some (ad i 0)) ∧
    (∀ (i : Int) (f g : Nat), 0 ≤ i ∧ i < ts.length → afadr g (ad i f) = some (ad i (f + g))) ∧
    ∀ g : H, Ext h g → ∀ (i : Nat) (t : Tok), ts[i]? = some t → aload false 1 (ad i 0) g = some (.int .i64 t.lit) ∧ aload false 1 (ad i 1) g = some (.int .i64 t.len) ∧ aload false 1 (ad i 2) g = some (.int .i64 t.dist) ∧
      aload true 3 (ad i 0) g = some (.agg [.int .i64 t.lit, .int .i64 t.len, .int .i64 t.dist]) := by
  obtain ⟨ad, a1, a2, _, a3⟩ := r.at_
  refine ⟨ad, a1, a2, fun g hg i t ht => ?_⟩
  obtain ⟨b1, b2⟩ := a3 g hg
  have hi : i < ts.length := (List.getElem?_eq_some_iff.1 ht).1
  have hI : (0 : Int) ≤ (i : Int) ∧ (i : Int) < ts.length := ⟨by omega, by omega⟩
  have ti : ((i : Int)).toNat = i := by omega
  have q : ∀ f, f < 3 → (toksC ts)[((i : Int)).toNat * 3 + f]? = (tokC t)[f]? := fun f hf => by rw [ti]; exact fm_get tokC_len ht hf
  refine ⟨b1 i 0 _ hI (q 0 (by omega)), b1 i 1 _ hI (q 1 (by omega)), b1 i 2 _ hI (q 2 (by omega)), ?_⟩
  rw [b2 i hI, ti, toksC, fm_take tokC_len ht]; rfl
def tokStep (size : Int) (t : Tok) : Option Int :=
  if t.len = 0 then (if t.lit < 0 ∨ 255 < t.lit ∨ t.dist ≠ 0 then none else some (size + 1))
  else if t.len < 3 ∨ 258 < t.len ∨ t.dist < 1 ∨ 32768 < t.dist ∨ size < t.dist ∨ t.lit ≠ 0 then none else some (size + t.len)
def toksMayA : Int → List Tok → Bool
  | _, [] => true
  | s, t :: r => match tokStep s t with
    | none => false
    | some s' => if 8192 < s' then false else toksMayA s' r
theorem tmay_bad {v a0 : AV} {n i : Nat} {s : Int} {t : Tok} {h h1 : H} (hi : i < n) (hfl : h.floor ≤ h.next) (ln : alen false v = some (.int .i64 n)) (b1 : aiadr 3 v (.int .i64 i) = some a0) (b2 : aload true 3 a0 h = some (.agg [.int .i64 t.lit, .int .i64 t.len, .int .i64 t.dist]))
    (eh1 : h1 = (h.alloc [.int .i64 0, .int .i64 0, .int .i64 0]).set h.next [.int .i64 t.lit, .int .i64 t.len, .int .i64 t.dist]) (g1 : h1.get h.next = some [.int .i64 t.lit, .int .i64 t.len, .int .i64 t.dist]) (hb : tokStep s t = none) :
    evC (callW AP.A) loopW AP.f69L0 (restr [(0, v), (3, .int .i64 s), (4, .int .i64 i)] [0, 3, 4]) h = some (.ret, [(2, .bool false)], h1) := by
  unfold tokStep at hb
  by_cases c0 : t.len = 0
  · rw [if_pos c0] at hb
    have hb' : t.lit < 0 ∨ 255 < t.lit ∨ t.dist ≠ 0 := by
      by_cases c : t.lit < 0 ∨ 255 < t.lit ∨ t.dist ≠ 0
      · exact c
      · rw [if_neg c] at hb; cases hb
    by_cases d1 : t.lit < 0
    · clear hb' hb; simp (disch := omega) only [go_sem, abin_shl, abin_shr, Nat.reduceEqDiff, reduceIte, Nat.reduceAdd, Nat.reduceMul, Nat.reduceLT, Nat.reduceLeDiff, Int.reduceBEq, Int.reduceBNe, Int.reduceLT, Int.reduceLE, Int.reduceEq, qqC, AOp.loud, AOp.births, Int.reduceAdd, Int.reduceSub, Int.reduceMul, Int.reduceNeg, Int.reduceToNat, AP.f69L0, ln, b1, b2, ← eh1, g1]
    by_cases d2 : 255 < t.lit
    · clear hb' hb; simp (disch := omega) only [go_sem, abin_shl, abin_shr, Nat.reduceEqDiff, reduceIte, Nat.reduceAdd, Nat.reduceMul, Nat.reduceLT, Nat.reduceLeDiff, Int.reduceBEq, Int.reduceBNe, Int.reduceLT, Int.reduceLE, Int.reduceEq, qqC, AOp.loud, AOp.births, Int.reduceAdd, Int.reduceSub, Int.reduceMul, Int.reduceNeg, Int.reduceToNat, AP.f69L0, ln, b1, b2, ← eh1, g1]
    have d3 : ¬ t.dist = 0 := by omega
    clear hb' hb
    simp (disch := omega) only [go_sem, abin_shl, abin_shr, Nat.reduceEqDiff, reduceIte, Nat.reduceAdd, Nat.reduceMul, Nat.reduceLT, Nat.reduceLeDiff, Int.reduceBEq, Int.reduceBNe, Int.reduceLT, Int.reduceLE, Int.reduceEq, qqC, AOp.loud, AOp.births, Int.reduceAdd, Int.reduceSub, Int.reduceMul, Int.reduceNeg, Int.reduceToNat, AP.f69L0, ln, b1, b2, ← eh1, g1]
  · rw [if_neg c0] at hb
    have hb' : t.len < 3 ∨ 258 < t.len ∨ t.dist < 1 ∨ 32768 < t.dist ∨ s < t.dist ∨ t.lit ≠ 0 := by
      by_cases c : t.len < 3 ∨ 258 < t.len ∨ t.dist < 1 ∨ 32768 < t.dist ∨ s < t.dist ∨ t.lit ≠ 0
      · exact c
      · rw [if_neg c] at hb; cases hb
    by_cases d1 : t.len < 3
    · clear hb' hb; simp (disch := omega) only [go_sem, abin_shl, abin_shr, Nat.reduceEqDiff, reduceIte, Nat.reduceAdd, Nat.reduceMul, Nat.reduceLT, Nat.reduceLeDiff, Int.reduceBEq, Int.reduceBNe, Int.reduceLT, Int.reduceLE, Int.reduceEq, qqC, AOp.loud, AOp.births, Int.reduceAdd, Int.reduceSub, Int.reduceMul, Int.reduceNeg, Int.reduceToNat, AP.f69L0, ln, b1, b2, ← eh1, g1]
    by_cases d2 : 258 < t.len
    · clear hb' hb; simp (disch := omega) only [go_sem, abin_shl, abin_shr, Nat.reduceEqDiff, reduceIte, Nat.reduceAdd, Nat.reduceMul, Nat.reduceLT, Nat.reduceLeDiff, Int.reduceBEq, Int.reduceBNe, Int.reduceLT, Int.reduceLE, Int.reduceEq, qqC, AOp.loud, AOp.births, Int.reduceAdd, Int.reduceSub, Int.reduceMul, Int.reduceNeg, Int.reduceToNat, AP.f69L0, ln, b1, b2, ← eh1, g1]
    by_cases d3 : t.dist < 1
    · clear hb' hb; simp (disch := omega) only [go_sem, abin_shl, abin_shr, Nat.reduceEqDiff, reduceIte, Nat.reduceAdd, Nat.reduceMul, Nat.reduceLT, Nat.reduceLeDiff, Int.reduceBEq, Int.reduceBNe, Int.reduceLT, Int.reduceLE, Int.reduceEq, qqC, AOp.loud, AOp.births, Int.reduceAdd, Int.reduceSub, Int.reduceMul, Int.reduceNeg, Int.reduceToNat, AP.f69L0, ln, b1, b2, ← eh1, g1]
    by_cases d4 : 32768 < t.dist
    · clear hb' hb; simp (disch := omega) only [go_sem, abin_shl, abin_shr, Nat.reduceEqDiff, reduceIte, Nat.reduceAdd, Nat.reduceMul, Nat.reduceLT, Nat.reduceLeDiff, Int.reduceBEq, Int.reduceBNe, Int.reduceLT, Int.reduceLE, Int.reduceEq, qqC, AOp.loud, AOp.births, Int.reduceAdd, Int.reduceSub, Int.reduceMul, Int.reduceNeg, Int.reduceToNat, AP.f69L0, ln, b1, b2, ← eh1, g1]
    by_cases d5 : s < t.dist
    · clear hb' hb; simp (disch := omega) only [go_sem, abin_shl, abin_shr, Nat.reduceEqDiff, reduceIte, Nat.reduceAdd, Nat.reduceMul, Nat.reduceLT, Nat.reduceLeDiff, Int.reduceBEq, Int.reduceBNe, Int.reduceLT, Int.reduceLE, Int.reduceEq, qqC, AOp.loud, AOp.births, Int.reduceAdd, Int.reduceSub, Int.reduceMul, Int.reduceNeg, Int.reduceToNat, AP.f69L0, ln, b1, b2, ← eh1, g1]
    have d6 : ¬ t.lit = 0 := by omega
    clear hb' hb
    simp (disch := omega) only [go_sem, abin_shl, abin_shr, Nat.reduceEqDiff, reduceIte, Nat.reduceAdd, Nat.reduceMul, Nat.reduceLT, Nat.reduceLeDiff, Int.reduceBEq, Int.reduceBNe, Int.reduceLT, Int.reduceLE, Int.reduceEq, qqC, AOp.loud, AOp.births, Int.reduceAdd, Int.reduceSub, Int.reduceMul, Int.reduceNeg, Int.reduceToNat, AP.f69L0, ln, b1, b2, ← eh1, g1]
theorem tmay_good {v a0 : AV} {n i : Nat} {s s' : Int} {t : Tok} {h h1 : H} (hi : i < n) (hn : n < 1000000000) (hs : 0 ≤ s ∧ s ≤ 8192) (hfl : h.floor ≤ h.next) (ln : alen false v = some (.int .i64 n)) (b1 : aiadr 3 v (.int .i64 i) = some a0) (b2 : aload true 3 a0 h = some (.agg [.int .i64 t.lit, .int .i64 t.len, .int .i64 t.dist]))
    (eh1 : h1 = (h.alloc [.int .i64 0, .int .i64 0, .int .i64 0]).set h.next [.int .i64 t.lit, .int .i64 t.len, .int .i64 t.dist]) (g1 : h1.get h.next = some [.int .i64 t.lit, .int .i64 t.len, .int .i64 t.dist]) (hst : tokStep s t = some s') :
    evC (callW AP.A) loopW AP.f69L0 (restr [(0, v), (3, .int .i64 s), (4, .int .i64 i)] [0, 3, 4]) h = if 8192 < s' then some (.ret, [(2, .bool false)], h1) else some (.normal, [(0, v), (3, .int .i64 s'), (4, .int .i64 ((i : Int) + 1))], h1) := by
  unfold tokStep at hst
  by_cases c0 : t.len = 0
  · rw [if_pos c0] at hst
    by_cases c : t.lit < 0 ∨ 255 < t.lit ∨ t.dist ≠ 0
    · rw [if_pos c] at hst; cases hst
    rw [if_neg c] at hst
    obtain rfl := Option.some.inj hst
    have k1 : ¬ t.lit < 0 := by omega
    have k2 : ¬ 255 < t.lit := by omega
    have k3 : t.dist = 0 := by omega
    clear c
    by_cases k : 8192 < s + 1
    · rw [if_pos k]
      simp (disch := omega) only [go_sem, abin_shl, abin_shr, Nat.reduceEqDiff, reduceIte, Nat.reduceAdd, Nat.reduceMul, Nat.reduceLT, Nat.reduceLeDiff, Int.reduceBEq, Int.reduceBNe, Int.reduceLT, Int.reduceLE, Int.reduceEq, qqC, AOp.loud, AOp.births, Int.reduceAdd, Int.reduceSub, Int.reduceMul, Int.reduceNeg, Int.reduceToNat, AP.f69L0, ln, b1, b2, ← eh1, g1]
    · rw [if_neg k]
      simp (disch := omega) only [go_sem, abin_shl, abin_shr, Nat.reduceEqDiff, reduceIte, Nat.reduceAdd, Nat.reduceMul, Nat.reduceLT, Nat.reduceLeDiff, Int.reduceBEq, Int.reduceBNe, Int.reduceLT, Int.reduceLE, Int.reduceEq, qqC, AOp.loud, AOp.births, Int.reduceAdd, Int.reduceSub, Int.reduceMul, Int.reduceNeg, Int.reduceToNat, AP.f69L0, ln, b1, b2, ← eh1, g1]
  · rw [if_neg c0] at hst
    by_cases c : t.len < 3 ∨ 258 < t.len ∨ t.dist < 1 ∨ 32768 < t.dist ∨ s < t.dist ∨ t.lit ≠ 0
    · rw [if_pos c] at hst; cases hst
    rw [if_neg c] at hst
    obtain rfl := Option.some.inj hst
    have k1 : ¬ t.len < 3 := by omega
    have k2 : ¬ 258 < t.len := by omega
    have k3 : ¬ t.dist < 1 := by omega
    have k4 : ¬ 32768 < t.dist := by omega
    have k5 : ¬ s < t.dist := by omega
    have k6 : t.lit = 0 := by omega
    clear c
    by_cases k : 8192 < s + t.len
    · rw [if_pos k]
      simp (disch := omega) only [go_sem, abin_shl, abin_shr, Nat.reduceEqDiff, reduceIte, Nat.reduceAdd, Nat.reduceMul, Nat.reduceLT, Nat.reduceLeDiff, Int.reduceBEq, Int.reduceBNe, Int.reduceLT, Int.reduceLE, Int.reduceEq, qqC, AOp.loud, AOp.births, Int.reduceAdd, Int.reduceSub, Int.reduceMul, Int.reduceNeg, Int.reduceToNat, AP.f69L0, ln, b1, b2, ← eh1, g1]
    · rw [if_neg k]
      simp (disch := omega) only [go_sem, abin_shl, abin_shr, Nat.reduceEqDiff, reduceIte, Nat.reduceAdd, Nat.reduceMul, Nat.reduceLT, Nat.reduceLeDiff, Int.reduceBEq, Int.reduceBNe, Int.reduceLT, Int.reduceLE, Int.reduceEq, qqC, AOp.loud, AOp.births, Int.reduceAdd, Int.reduceSub, Int.reduceMul, Int.reduceNeg, Int.reduceToNat, AP.f69L0, ln, b1, b2, ← eh1, g1]
theorem tmay_loop {v : AV} {ts : List Tok} (hn : ts.length < 1000000000) (h0 : H) (rd : RdN 3 h0 v ts.length (toksC ts)) : ∀ (q p : List Tok) (s : Int) (h : H), ts = p ++ q → 0 ≤ s ∧ s ≤ 8192 → Ext h0 h → h0.next ≤ h.next → h.floor ≤ h.next →
    (∃ e' h', Lp AP.A [0, 3, 4] AP.f69L0 [(0, v), (3, .int .i64 s), (4, .int .i64 p.length)] h = some (.exit 0, e', h') ∧ toksMayA s q = true) ∨
    (∃ e' h', Lp AP.A [0, 3, 4] AP.f69L0 [(0, v), (3, .int .i64 s), (4, .int .i64 p.length)] h = some (.ret, e', h') ∧ look e' 2 = .bool false ∧ toksMayA s q = false)
  | [], p, s, h, hp, hs, hx, hnx, hfl => by
    left
    have ln := rd.len
    rw [List.append_nil] at hp; subst hp
    refine ⟨[(0, v), (3, .int .i64 s), (4, .int .i64 ts.length), (9, .bool false)], h, Lp_exit ?_, rfl⟩
    simp (disch := omega) only [go_sem, abin_shl, abin_shr, Nat.reduceEqDiff, reduceIte, Nat.reduceAdd, Nat.reduceMul, Nat.reduceLT, Nat.reduceLeDiff, Int.reduceBEq, Int.reduceBNe, Int.reduceLT, Int.reduceLE, Int.reduceEq, qqC, AOp.loud, AOp.births, Int.reduceAdd, Int.reduceSub, Int.reduceMul, Int.reduceNeg, Int.reduceToNat, AP.f69L0, ln]
  | t :: q, p, s, h, hp, hs, hx, hnx, hfl => by
    have ln := rd.len
    have hlen : ts.length = p.length + (q.length + 1) := by rw [hp]; simp
    have ht : ts[p.length]? = some t := by rw [hp]; simp
    obtain ⟨ad, a1, a2, a3⟩ := rd.toks
    have hI : (0 : Int) ≤ (p.length : Int) ∧ (p.length : Int) < ts.length := ⟨by omega, by omega⟩
    have b1 := a1 _ hI
    obtain ⟨_, _, _, b2⟩ := a3 h hx _ _ ht
    obtain ⟨h1, eh1⟩ : ∃ g, g = (h.alloc [.int .i64 0, .int .i64 0, .int .i64 0]).set h.next [.int .i64 t.lit, .int .i64 t.len, .int .i64 t.dist] := ⟨_, rfl⟩
    have w1 : ((p.length : Int) + 1) = (((p ++ [t]).length : Nat) : Int) := by simp
    have b2' := b2
    have gA : (h.alloc [.int .i64 0, .int .i64 0, .int .i64 0]).get h.next = some [.int .i64 0, .int .i64 0, .int .i64 0] := get_hit rfl
    have ldA : aload true 3 (ad p.length 0) (h.alloc [.int .i64 0, .int .i64 0, .int .i64 0]) = some (.agg [.int .i64 t.lit, .int .i64 t.len, .int .i64 t.dist]) := (a3 _ (hx.alloc _) _ _ ht).2.2.2
    have g1 : h1.get h.next = some [.int .i64 t.lit, .int .i64 t.len, .int .i64 t.dist] := by rw [eh1, set_hit rfl, gA]; rfl
    have hx1 : Ext h0 h1 := by rw [eh1]; exact (hx.alloc _).set hnx _
    have hn1 : h0.next ≤ h1.next := by rw [eh1]; simp; omega
    have hf1 : h1.floor ≤ h1.next := by rw [eh1]; simp; omega
    cases hst : tokStep s t with
    | none =>
      right
      exact ⟨_, h1, Lp_ret (tmay_bad (by omega) hfl ln b1 b2 eh1 g1 hst), rfl, by simp [toksMayA, hst]⟩
    | some s' =>
      have good := tmay_good (by omega) hn hs hfl ln b1 b2 eh1 g1 hst
      have hs' : 0 ≤ s' := by
        unfold tokStep at hst
        clear good
        by_cases c0 : t.len = 0
        · rw [if_pos c0] at hst
          split at hst
          · cases hst
          · obtain rfl := Option.some.inj hst; omega
        · rw [if_neg c0] at hst
          split at hst
          · cases hst
          · obtain rfl := Option.some.inj hst; omega
      by_cases k : 8192 < s'
      · right
        rw [if_pos k] at good
        exact ⟨_, h1, Lp_ret good, rfl, by simp [toksMayA, hst, k]⟩
      · rw [if_neg k] at good
        have e : toksMayA s (t :: q) = toksMayA s' q := by simp [toksMayA, hst, k]
        rw [e]
        rw [w1] at good
        rcases tmay_loop hn h0 rd q (p ++ [t]) s' h1 (by rw [hp]; simp) ⟨hs', by omega⟩ hx1 hn1 hf1 with ⟨e', h', r1, r2⟩ | ⟨e', h', r1, r2, r3⟩
        · exact .inl ⟨e', h', Lp_next good r1, r2⟩
        · exact .inr ⟨e', h', Lp_next good r1, r2, r3⟩
end Ab
set_option linter.unusedSimpArgs false
set_option linter.unusedVariables false
set_option maxRecDepth 100000
namespace Ab
open Go
theorem Rd.ints_at {h : H} {v : AV} {l : List Int} (r : Rd h v (ints l)) : ∃ ad : Int → AV, (∀ i : Int, 0 ≤ i ∧ i < l.length → aiadr 1 v (.int .i64 i) = some (ad i)) ∧
    ∀ g : H, Ext h g → ∀ (i : Nat) (n : Int), l[i]? = some n → aload false 1 (ad i) g = some (.int .i64 n) := by
  have r2 := r.rdN
  rw [ints_length] at r2
  obtain ⟨ad, a1, _, _, a3⟩ := r2.at_
  refine ⟨fun i => ad i 0, a1, fun g hg i n hn => ?_⟩
  have hi : i < l.length := (List.getElem?_eq_some_iff.1 hn).1
  refine (a3 g hg).1 i 0 _ ⟨by omega, by omega⟩ ?_
  rw [tn_nat, Nat.mul_one, Nat.add_zero]
  exact ints_get hn
structure Ent where
  name : ByteArray
  gone : Bool
  vec : List Int
  stamp : Int
  node : Int
  method : Int
  packed : ByteArray
  size : Int
  crc : Int
structure PE (h : H) (p : AV) (cs : List AV) : Prop where
  nil : ∀ g : H, nilcB g p = some (p, g)
  fld : ∃ q : Nat → AV, (∀ k, afadr k p = some (q k)) ∧ ∀ g : H, Ext h g → ∀ (k : Nat) (c : AV), cs[k]? = some c → aload false 1 (q k) g = some c
end Ab
set_option linter.unusedSimpArgs false
set_option linter.unusedVariables false
set_option maxRecDepth 100000
namespace Ab
open Go
abbrev EntP := Ent × AV
structure EOk (h : H) (x : EntP) : Prop where
  vec : Rd h x.2 (ints x.1.vec)
  vl : x.1.vec.length < 1125899906842624
  nl : x.1.name.size < 1125899906842624
  pl : x.1.packed.size < 1125899906842624
theorem EOk.mono {h g : H} {x : EntP} (o : EOk h x) (e : Ext h g) : EOk g x := ⟨o.vec.mono fun i c q => e i c q, o.vl, o.nl, o.pl⟩
end Ab
set_option linter.unusedSimpArgs false
set_option linter.unusedVariables false
set_option maxRecDepth 100000
namespace Ab
open Go
end Ab
set_option linter.unusedSimpArgs false
set_option linter.unusedVariables false
set_option maxRecDepth 100000
namespace Ab
open Go
theorem op_mx2 (c : CallT) (e : Env) (h : H) (x y : X) : evOp c e h (.mx [x, y]) = ret1 h (amax2 (x.ev e) (y.ev e)) := by
  simp only [evOp, evArgs, List.map_cons, List.map_nil, fold2]
  cases amax2 (x.ev e) (y.ev e) <;> rfl
def maxI (a b : Int) : Int := if a < b then b else a
theorem amax2_s (k : IntKind) (a b : Int) : amax2 (.int k a) (.int k b) = some (.int k (maxI a b)) := rfl
theorem app_empty {n : Nat} {h : H} {v : AV} {k : Nat} {cs : List AV} (r : RdN n h v k cs) (hfn : h.floor ≤ h.next) (hn : 0 < n) (hk : 0 < k) {z : Nat} (hr : roomy z k = true) (hc : AV.allsc cs = true) :
    aapp (h.alloc []) n z (.sobj h.next 0 0 n) v = some (.sobj (h.next + 1) 0 k n, ((h.alloc []).del h.next).alloc cs) := by
  have r2 : RdN n (h.alloc []) v k cs := r.mono fun i c q => by rw [H.get_alloc, if_neg (by have := h.lt _ _ q; omega)]; exact q
  unfold aapp
  rw [r2.1, Option.bind_some]
  have hkn : 0 < k * n := Nat.mul_pos hk hn
  unfold aappc
  rw [if_neg (by omega), if_neg (by simp [hc]; omega)]
  simp only [H.floor_alloc, hfn, and_self, if_true]
  rw [get_hit rfl, Option.bind_some, if_neg (by simp; omega), if_pos ⟨by simp, by simpa using hr⟩]
  simp
end Ab
set_option linter.unusedSimpArgs false
set_option linter.unusedVariables false
set_option maxRecDepth 100000
namespace Ab
open Go
def smallE (name : ByteArray) (node : Nat) (stamp : Int) (text : ByteArray) : Ent := ⟨name, false, [0, 0, 0, 0].set node stamp, stamp, node, 0, text, text.size, crcA text⟩
end Ab
set_option linter.unusedSimpArgs false
set_option linter.unusedVariables false
set_option maxRecDepth 100000
namespace Ab
open Go
def nA : ByteArray := ⟨#[97]⟩
def tHi : ByteArray := ⟨#[104, 105]⟩
def tHo : ByteArray := ⟨#[104, 111]⟩
def eA : Ent := smallE nA 0 1 tHi
def eB : Ent := smallE nA 2 1 tHo
def eD : Ent := { eA with crc := (crcA tHi ^^^ 1 : Nat) }
end Ab
set_option linter.unusedVariables false
namespace Ab
open Go
theorem sh_str {as : List AV} (h : Sh reachBytes .str as) : ∃ s : ByteArray, as = [.str s] ∧ s.size < 140737488355328 := by
  cases h with
  | str h => exact ⟨_, rfl, str_sz h⟩
theorem row1 {P : Ty × List AV → Prop} {a : Ty} {r : List (Ty × List AV)} (h : r.map (·.1) = [a]) (hp : ∀ x ∈ r, P x) : ∃ x, r = [(a, x)] ∧ P (a, x) := by
  match r, h with
  | [(b, x)], h => simp at h; subst h; exact ⟨x, rfl, hp _ (by simp)⟩
end Ab
set_option linter.unusedSimpArgs false
set_option linter.unusedVariables false
set_option maxRecDepth 100000
namespace Ab
open Go
def toL (s : ByteArray) : List Nat := s.data.toList.map (·.toNat)
theorem toL_len (s : ByteArray) : (toL s).length = s.size := by unfold toL; rw [List.length_map, Array.length_toList]; rfl
theorem toL_lt (s : ByteArray) : ∀ b ∈ toL s, b < 256 := by
  intro b hb
  obtain ⟨x, _, rfl⟩ := List.mem_map.1 hb
  exact x.toNat_lt
theorem bytesOf_toL (s : ByteArray) : bytesOf (toL s) = s := by
  unfold toL bytesOf; rw [List.map_map]; apply ByteArray.ext; simp [Function.comp_def]
end Ab
set_option linter.unusedSimpArgs false
set_option linter.unusedVariables false
set_option maxRecDepth 100000
namespace Ab
open Go
theorem and_mask' (x : Int) (k : Nat) (hk : k ≤ 62) : bits .and .i64 x ((2 ^ k - 1 : Nat) : Int) = x % ((2 ^ k : Nat) : Int) := by
  have h2 : 2 ^ k ≤ 2 ^ 62 := Nat.pow_le_pow_right (by omega) hk
  have h3 : 0 < 2 ^ k := Nat.pow_pos (by omega)
  show IntKind.wrap .i64 (((BitVec.ofInt 64 x &&& BitVec.ofInt 64 ((2 ^ k - 1 : Nat) : Int)).toNat : Nat) : Int) = _
  rw [BitVec.toNat_and, bv_nat 64 (2 ^ k - 1) (by omega), BitVec.toNat_ofInt, Nat.and_two_pow_sub_one_eq_mod, wrap_nat64 (by
    have := Nat.mod_lt (x % ((2 ^ 64 : Nat) : Int)).toNat h3
    omega)]
  have e : (((x % ((2 ^ 64 : Nat) : Int)).toNat : Nat) : Int) = x % ((2 ^ 64 : Nat) : Int) := Int.toNat_of_nonneg (Int.emod_nonneg _ (by decide))
  rw [Int.natCast_emod, e]
  refine Int.emod_emod_of_dvd x ?_
  refine Int.natCast_dvd_natCast.2 (Nat.pow_dvd_pow 2 (by omega))
end Ab
set_option linter.unusedSimpArgs false
set_option linter.unusedVariables false
set_option maxRecDepth 100000
namespace Ab
open Go
end Ab
set_option linter.unusedSimpArgs false
set_option linter.unusedVariables false
namespace Ab
open Go
end Ab
set_option linter.unusedSimpArgs false
set_option linter.unusedVariables false
set_option maxRecDepth 100000
namespace Ab
open Go
end Ab
set_option linter.unusedSimpArgs false
set_option linter.unusedVariables false
set_option maxRecDepth 100000
namespace Ab
open Go
theorem wb' {n : Nat} (h : n < 256) : IntKind.wrap .u8 (n : Int) = n := wb (by omega)
theorem tm_n {a n : Nat} (hn : 0 < n) : abin .rem (.int .i64 ((a : Nat) : Int)) (.int .i64 (n : Int)) = some (.int .i64 ((a % n : Nat) : Int)) := by
  show (if (n : Int) = 0 then none else some (AV.int .i64 ((a : Int).tmod n))) = _
  rw [if_neg (by omega), Int.tmod_eq_emod_of_nonneg (by omega)]; rfl
end Ab
set_option linter.unusedSimpArgs false
set_option linter.unusedVariables false
set_option maxRecDepth 100000
namespace Ab
open Go
theorem setFrom_eq : ∀ (l cs : List AV) (off : Nat), off + l.length ≤ cs.length → setFrom cs off l = cs.take off ++ (l ++ cs.drop (off + l.length))
  | [], cs, off, h => by simp [setFrom]
  | v :: l, cs, off, h => by
    rw [List.length_cons] at h
    rw [setFrom, setFrom_eq l (cs.set off v) (off + 1) (by rw [List.length_set]; omega)]
    rw [List.take_set, List.drop_set_of_lt (by omega), List.length_cons, show off + 1 + l.length = off + (l.length + 1) by omega]
    rw [List.take_succ_eq_append_getElem (by omega), List.set_append_right _ _ (by simp; omega)]
    simp [show min off cs.length = off by omega]
end Ab
set_option linter.unusedSimpArgs false
set_option linter.unusedVariables false
set_option maxRecDepth 100000
namespace Ab
open Go
def packB (bs : List Nat) : List Nat := outAll bs 0 []
theorem outAll_app : ∀ (a b : List Nat) (i : Nat) (out : List Nat), outAll (a ++ b) i out = outAll b (i + a.length) (outAll a i out)
  | [], b, i, out => rfl
  | x :: a, b, i, out => by
    show outAll (a ++ b) (i + 1) (outStep out i x) = _
    rw [outAll_app a b]
    show outAll b (i + 1 + a.length) _ = outAll b (i + (a.length + 1)) _
    rw [show i + 1 + a.length = i + (a.length + 1) by omega]; rfl
theorem packB_app (bs : List Nat) (b : Nat) : packB (bs ++ [b]) = outStep (packB bs) bs.length b := by
  unfold packB; rw [outAll_app, Nat.zero_add]; rfl
theorem packB_len (bs : List Nat) : (packB bs).length = (bs.length + 7) / 8 := by
  have : ∀ (l : List Nat) (i : Nat) (out : List Nat), out.length = (i + 7) / 8 → (outAll l i out).length = (i + l.length + 7) / 8 := by
    intro l
    induction l with
    | nil => intro i out h; exact h
    | cons x l ih => intro i out h; rw [outAll, ih (i + 1) _ (by rw [outStep_len h]), List.length_cons]; congr 1; omega
  have := this bs 0 [] rfl
  rw [packB, this, Nat.zero_add]
structure Wr (h : H) (w : Nat) (bs : List Nat) (ov : AV) : Prop where
  get : h.get w = some [ov, .int .i64 (bs.length : Nat)]
  own : OwnN 1 h ov (packB bs).length (bys (packB bs))
  fl : h.floor ≤ w
  flx : h.floor ≤ h.next
  ne : ov.id? ≠ some w
  byt : Byt (packB bs)
structure FrW (h : H) (w : Nat) (ov : AV) (h' : H) (ov' : AV) : Prop where
  floor : h'.floor = h.floor
  next : h.next ≤ h'.next
  keep : ∀ i, i < h.next → i ≠ w → ov.id? ≠ some i → h'.get i = h.get i
  ids : ∀ j, ov'.id? = some j → ov.id? = some j ∨ h.next ≤ j
theorem FrW.refl (h : H) (w : Nat) (ov : AV) : FrW h w ov h ov := ⟨rfl, Nat.le_refl _, fun _ _ _ _ => rfl, fun _ h => .inl h⟩
theorem FrW.trans {h1 h2 h3 : H} {w : Nat} {o1 o2 o3 : AV} (a : FrW h1 w o1 h2 o2) (b : FrW h2 w o2 h3 o3) : FrW h1 w o1 h3 o3 :=
  ⟨by rw [b.floor, a.floor], Nat.le_trans a.next b.next, fun i h hw ho => by
    rw [b.keep i (by have := a.next; omega) hw (fun q => by rcases a.ids i q with q | q; exact ho q; omega), a.keep i h hw ho],
   fun j h => by
    rcases b.ids j h with q | q
    · exact a.ids j q
    · exact .inr (Nat.le_trans a.next q)⟩
theorem shl_bit {b k : Nat} (hb : b ≤ 1) (hk : k < 8) : shft .shl .i64 (b : Int) ((k : Nat) : Int) = some (.int .i64 ((b * 2 ^ k : Nat) : Int)) := by
  unfold shft
  rw [if_neg (by omega)]
  simp only [IntKind.bits, Int.toNat_natCast, show min k 64 = k by omega]
  have h1 : 2 ^ k ≤ 2 ^ 7 := Nat.pow_le_pow_right (by omega) (by omega)
  have h2 : b * 2 ^ k ≤ 1 * 2 ^ 7 := Nat.mul_le_mul hb h1
  have : (b : Int) * 2 ^ k = ((b * 2 ^ k : Nat) : Int) := by rw [Int.natCast_mul, Int.natCast_pow]; rfl
  rw [this, wi (by omega)]
theorem bysG {l : List Nat} {i x : Nat} (h : l[i]? = some x) : (bys l)[i]? = some (.int .u8 (x : Int)) := by simp [bys, h]
theorem bysS (l : List Nat) (i x : Nat) : (bys l).set i (.int .u8 (x : Int)) = bys (l.set i x) := by simp [bys, List.map_set]
theorem bysL (l : List Nat) : (bys l).length = l.length := by simp [bys]
theorem one_rest {g : H} {w id n b : Nat} {P : List Nat} {x : Nat} (hb : b ≤ 1) (hw : g.get w = some [.sobj id 0 (n / 8 + 1) 1, .int .i64 n]) (hi : g.get id = some (bys P)) (hl : P.length = n / 8 + 1) (hx : P[n / 8]? = some x) (hx8 : x < 256) (hne : id ≠ w) (hf : g.floor ≤ w) (hf2 : g.floor ≤ id) (hn : n < 1000000) :
    ∃ e', evC (callW AP.A) loopW (tl_ 1 AP.f57.body) [(0, .pobj w 0), (1, .int .i64 b)] g = some (.normal, e', (g.set id (bys (P.set (n / 8) (x ||| b * 2 ^ (n % 8))))).set w [.sobj id 0 (n / 8 + 1) 1, .int .i64 ((n : Int) + 1)]) := by
  have c8 : b * 2 ^ (n % 8) < 256 := by
    have h1 : 2 ^ (n % 8) ≤ 2 ^ 7 := Nat.pow_le_pow_right (by omega) (by omega)
    have h2 : b * 2 ^ (n % 8) ≤ 1 * 2 ^ 7 := Nat.mul_le_mul hb h1
    omega
  have s1 := shl_bit hb (show n % 8 < 8 by omega)
  have o1 := bits_or8 hx8 c8
  have w1 := wb' (n := b * 2 ^ (n % 8)) c8
  have rm := tm_n (a := n) (n := 8) (by omega)
  have rm' : abin .rem (.int .i64 (n : Int)) (.int .i64 8) = some (.int .i64 ((n % 8 : Nat) : Int)) := rm
  have w2 : IntKind.wrap .i64 (((n / 8 + 1 : Nat) : Int) - 1) = ((n / 8 : Nat) : Int) := by rw [wi (by omega)]; omega
  have bl := bysL P
  have gx := bysG hx
  have st := bysS P (n / 8) (x ||| b * 2 ^ (n % 8))
  have sgn : ((n / 8 : Nat) : Int).toNat = n / 8 := by omega
  have gw2 : (g.set id (bys (P.set (n / 8) (x ||| b * 2 ^ (n % 8))))).get w = some [.sobj id 0 (n / 8 + 1) 1, .int .i64 n] := by rw [set_miss (fun q => hne q.symm), hw]
  generalize bys P = BP at *
  generalize b * 2 ^ (n % 8) = Y at *
  generalize (x ||| Y) = Z at *
  generalize bys (P.set (n / 8) Z) = BZ at *
  refine ⟨?_, ?_⟩
  rotate_left
  simp (disch := first | omega | (simp only [qqH, List.length_cons, List.length_nil, Nat.zero_add, Nat.reduceAdd]; first | done | omega | fail) | (simp (disch := first | omega | (simp only [qqH, List.length_cons, List.length_nil, Nat.zero_add, Nat.reduceAdd]; first | done | omega | fail) | fail) only [qqH, qqG, Option.map_some, List.length_cons, List.length_nil, Nat.zero_add, Nat.reduceAdd]; done) | fail) only [go_sem, abin_shl, abin_shr, Nat.reduceEqDiff, reduceIte, Nat.reduceAdd, Nat.reduceMul, Nat.reduceLT, Nat.reduceLeDiff, Int.reduceBEq, Int.reduceBNe, Int.reduceLT, Int.reduceLE, Int.reduceEq, qqC, qqD, AOp.loud, AOp.births, Int.reduceAdd, Int.reduceSub, Int.reduceMul, Int.reduceNeg, Int.reduceToNat, AP.f57, hw, hi, s1, o1, w1, rm', w2, bl, hl, gx, st, sgn, gw2]
  rfl
theorem bys_push (P : List Nat) (x : Nat) : bys (P ++ [x]) = bys P ++ [.int .u8 (x : Int)] := by simp [bys]
theorem one_c {h : H} {w b : Nat} {bs : List Nat} {ov : AV} (wr : Wr h w bs ov) (hb : b ≤ 1) (hn : bs.length < 1000000) :
    ∃ h' ov', callW AP.A 57 [.pobj w 0, .int .i64 b] h = some (.tup [], h') ∧ Wr h' w (bs ++ [b]) ov' ∧ FrW h w ov h' ov' := by
  obtain ⟨gw, ow, fl, flx, ne, byt⟩ := wr
  obtain ⟨n, en⟩ : ∃ n, n = bs.length := ⟨_, rfl⟩
  rw [← en] at gw hn
  have pl := packB_len bs
  rw [← en] at pl
  have pa := packB_app bs b
  rw [← en] at pa
  obtain ⟨P, eP⟩ : ∃ P, P = packB bs := ⟨_, rfl⟩
  rw [← eP] at ow byt pa pl
  have wlt := h.lt _ _ gw
  obtain ⟨g, ov', id, P', x, s1, hw, hi, hl, hx, hid, hne, hf, hf2, hflx, hP, hk, hx8, hids, hbt⟩ : ∃ g ov' id P' x, evC (callW AP.A) loopW (at_ 0 AP.f57.body) [(0, .pobj w 0), (1, .int .i64 b)] h = some (.normal, [(0, .pobj w 0), (1, .int .i64 b)], g) ∧ g.get w = some [.sobj id 0 (n / 8 + 1) 1, .int .i64 n] ∧ g.get id = some (bys P') ∧ P'.length = n / 8 + 1 ∧ P'[n / 8]? = some x ∧ ov' = AV.sobj id 0 (n / 8 + 1) 1 ∧ id ≠ w ∧ g.floor = h.floor ∧ h.floor ≤ id ∧ h.next ≤ g.next ∧ outStep P n b = P'.set (n / 8) (x ||| b * 2 ^ (n % 8)) ∧ (∀ i, i < h.next → i ≠ w → ov.id? ≠ some i → g.get i = h.get i) ∧ x < 256 ∧ (ov.id? = some id ∨ h.next ≤ id) ∧ Byt P' := by
    have rm : abin .rem (.int .i64 (n : Int)) (.int .i64 8) = some (.int .i64 ((n % 8 : Nat) : Int)) := tm_n (a := n) (n := 8) (by omega)
    by_cases c : n % 8 = 0
    · have cz : ((n % 8 : Nat) : Int) = 0 := by omega
      obtain ⟨v', h', p1, p2, p3, p4, p5, p6⟩ := ow.push flx (z := 1) (m := 1) (by omega) (by omega) [.int .u8 0] rfl rfl (roomy_t (by omega))
      have gw1 : h'.get w = some [ov, .int .i64 n] := by rw [p5 w ne wlt, gw]
      have e1 := p2.1
      rcases p2.2 with ⟨_, q⟩ | ⟨id, q1, q2, q3, q4⟩
      · omega
      · have hk : P.length + 1 = n / 8 + 1 := by omega
        rw [hk] at q1
        have qid : id = h.next + 1 := by rw [q1] at p6; exact Option.some.inj p6
        refine ⟨h'.set w [v', .int .i64 n], v', id, P ++ [0], 0, ?_, ?_, ?_, ?_, ?_, q1, by omega, by simp [p3], by omega, ?_, ?_, ?_, by omega, .inr (by omega), ?_⟩
        · rw [q1]
          rw [q1] at p1
          have fl' : h'.floor ≤ w := by omega
          simp (disch := omega) only [go_sem, abin_shl, abin_shr, Nat.reduceEqDiff, reduceIte, Nat.reduceAdd, Nat.reduceMul, Nat.reduceLT, Nat.reduceLeDiff, Int.reduceBEq, Int.reduceBNe, Int.reduceLT, Int.reduceLE, Int.reduceEq, qqC, AOp.loud, AOp.births, Int.reduceAdd, Int.reduceSub, Int.reduceMul, Int.reduceNeg, Int.reduceToNat, AP.f57, at_z, gw, gw1, rm, cz, p1, fl', set_hit, set_miss]
        · rw [set_hit rfl, gw1, q1]; rfl
        · rw [set_miss (by omega), q2, bys_push]; rfl
        · simp; omega
        · rw [List.getElem?_append_right (by omega), show n / 8 - P.length = 0 by omega]; rfl
        · simp; omega
        · unfold outStep; rw [if_pos c]; dsimp only; rw [List.getD_eq_getElem?_getD, List.getElem?_append_right (by omega), show n / 8 - P.length = 0 by omega]; rfl
        · intro i hi hiw hio
          rw [set_miss hiw, p5 i hio hi]
        · intro y hy
          rcases List.mem_append.1 hy with q | q
          · exact byt y q
          · simp at q; omega
    · have cz : ¬ ((n % 8 : Nat) : Int) = 0 := by omega
      rcases ow.2 with ⟨_, q⟩ | ⟨id, q1, q2, q3, q4⟩
      · omega
      · have hk : P.length = n / 8 + 1 := by omega
        rw [hk] at q1
        obtain ⟨x, hx⟩ : ∃ x, P[n / 8]? = some x := ⟨_, List.getElem?_eq_getElem (by omega)⟩
        have hneq : id ≠ w := fun q => ne (by rw [q1, q]; rfl)
        refine ⟨h, ov, id, P, x, ?_, by rw [gw, q1], q2, hk, hx, q1, hneq, rfl, q3, Nat.le_refl _, ?_, fun _ _ _ _ => rfl, byt x (List.mem_of_getElem? hx), .inl (by rw [q1]; rfl), byt⟩
        · simp (disch := first | omega | (simp only [qqH, List.length_cons, List.length_nil, Nat.zero_add, Nat.reduceAdd]; first | done | omega | fail) | (simp (disch := first | omega | (simp only [qqH, List.length_cons, List.length_nil, Nat.zero_add, Nat.reduceAdd]; first | done | omega | fail) | fail) only [qqH, qqG, Option.map_some, List.length_cons, List.length_nil, Nat.zero_add, Nat.reduceAdd]; done) | fail) only [go_sem, abin_shl, abin_shr, Nat.reduceEqDiff, reduceIte, Nat.reduceAdd, Nat.reduceMul, Nat.reduceLT, Nat.reduceLeDiff, Int.reduceBEq, Int.reduceBNe, Int.reduceLT, Int.reduceLE, Int.reduceEq, qqC, qqD, AOp.loud, AOp.births, Int.reduceAdd, Int.reduceSub, Int.reduceMul, Int.reduceNeg, Int.reduceToNat, AP.f57, gw, rm, cz]
        · unfold outStep; rw [if_neg c]; dsimp only; rw [List.getD_eq_getElem?_getD, hx]; rfl
  obtain ⟨e', s2⟩ := one_rest hb hw hi hl hx hx8 hne (by omega) (by omega) hn
  have cs : callW AP.A 57 [.pobj w 0, .int .i64 b] h = some (.tup [], (g.set id (bys (P'.set (n / 8) (x ||| b * 2 ^ (n % 8))))).set w [.sobj id 0 (n / 8 + 1) 1, .int .i64 ((n : Int) + 1)]) := by
    refine plain_n (fn := AP.f57) (e := e') (vs := []) rfl rfl rfl ?_ rfl
    have hb : AP.f57.body = .seq (at_ 0 AP.f57.body) (tl_ 1 AP.f57.body) := rfl
    rw [hb, C_seq]
    have s1' : evC (callW AP.A) loopW (at_ 0 AP.f57.body) (params 0 [.pobj w 0, .int .i64 b]) h = some (.normal, [(0, .pobj w 0), (1, .int .i64 b)], g) := s1
    rw [s1', goS_n, s2]
  rw [← hP] at cs
  have ol : (outStep P n b).length = n / 8 + 1 := by rw [hP, List.length_set, hl]
  refine ⟨_, ov', cs, ⟨?_, ?_, ?_, ?_, ?_, ?_⟩, ?_, ?_, ?_, ?_⟩
  · rw [set_hit rfl, set_miss hne.symm, hw, hid, List.length_append, ← en]; rfl
  · rw [pa, hid]
    exact ⟨by simp [bys, ol], .inr ⟨id, by rw [ol], by rw [set_miss hne, set_hit rfl, hi]; rfl, by simpa [hf] using hf2, by omega⟩⟩
  · simpa [hf] using fl
  · simp; omega
  · rw [hid]; exact fun q => hne (Option.some.inj q)
  · rw [pa]; exact outStep_byt hb byt
  · simp [hf]
  · simpa using hflx
  · intro i hi1 hi2 hi3
    have : i ≠ id := by
      rcases hids with q | q
      · intro q2; exact hi3 (by rw [q, q2])
      · omega
    rw [set_miss hi2, set_miss this, hk i hi1 hi2 hi3]
  · intro j hj
    rw [hid] at hj
    obtain rfl := Option.some.inj hj
    exact hids
def putF (v : Nat) : Nat → Nat → List Nat
  | _, 0 => []
  | i, m + 1 => v / 2 ^ i % 2 :: putF v (i + 1) m
def putB (v n : Nat) : List Nat := putF v 0 n
def codeB (v : Nat) : Nat → List Nat
  | 0 => []
  | m + 1 => v / 2 ^ m % 2 :: codeB v m
theorem putF_len (v : Nat) : ∀ m i, (putF v i m).length = m
  | 0, _ => rfl
  | m + 1, i => by simp [putF, putF_len v m]
theorem codeB_len (v : Nat) : ∀ m, (codeB v m).length = m
  | 0 => rfl
  | m + 1 => by simp [codeB, codeB_len v m]
theorem and1_i64 {n : Nat} (h : n < 1000000000) : bits .and .i64 (n : Int) 1 = ((n % 2 : Nat) : Int) := by
  have := and_mask' (n : Int) 1 (by omega)
  exact this.trans (by omega)
theorem wput_loop (w v n : Nat) (hv : v < 65536) (hn : n ≤ 16) : ∀ (m i : Nat) (h : H) (bs : List Nat) (ov : AV), i + m = n → Wr h w bs ov → bs.length + m < 1000000 →
    ∃ e' h' ov', Lp AP.A [0, 1, 2, 7] AP.f33L0 [(0, .pobj w 0), (1, .int .i64 v), (2, .int .i64 n), (7, .int .i64 i)] h = some (.exit 0, e', h') ∧ Wr h' w (bs ++ putF v i m) ov' ∧ FrW h w ov h' ov'
  | 0, i, h, bs, ov, hi, wr, hb => by
    obtain rfl : i = n := by omega
    refine ⟨[(0, .pobj w 0), (1, .int .i64 v), (2, .int .i64 i), (7, .int .i64 i), (35, .bool false)], h, ov, Lp_exit ?_, by simpa [putF] using wr, FrW.refl h w ov⟩
    simp (disch := omega) only [go_sem, abin_shl, abin_shr, Nat.reduceEqDiff, reduceIte, Nat.reduceAdd, Nat.reduceMul, Nat.reduceLT, Nat.reduceLeDiff, Int.reduceBEq, Int.reduceBNe, Int.reduceLT, Int.reduceLE, Int.reduceEq, qqC, AOp.loud, AOp.births, Int.reduceAdd, Int.reduceSub, Int.reduceMul, Int.reduceNeg, Int.reduceToNat, AP.f33L0]
  | m + 1, i, h, bs, ov, hi, wr, hb => by
    have q := Nat.div_le_self v (2 ^ i)
    obtain ⟨h1, o1, k1, wr1, f1⟩ := one_c wr (b := v / 2 ^ i % 2) (by omega) (by omega)
    obtain ⟨e', h', ov', r1, r2, r3⟩ := wput_loop w v n hv hn m (i + 1) h1 _ o1 (by omega) wr1 (by simp; omega)
    have n1 : ((i + 1 : Nat) : Int) = (i : Int) + 1 := by omega
    have s1 := shr_i64n (a := v) (s := i) (by omega)
    have a1 := and1_i64 (n := v / 2 ^ i) (by omega)
    rw [List.append_assoc] at r2
    refine ⟨e', h', ov', Lp_next ?_ r1, r2, f1.trans r3⟩
    rw [n1]
    simp (disch := omega) only [go_sem, abin_shl, abin_shr, Nat.reduceEqDiff, reduceIte, Nat.reduceAdd, Nat.reduceMul, Nat.reduceLT, Nat.reduceLeDiff, Int.reduceBEq, Int.reduceBNe, Int.reduceLT, Int.reduceLE, Int.reduceEq, qqC, AOp.loud, AOp.births, Int.reduceAdd, Int.reduceSub, Int.reduceMul, Int.reduceNeg, Int.reduceToNat, AP.f33L0, s1, a1, k1]
theorem wput_c {h : H} {w : Nat} {bs : List Nat} {ov : AV} (wr : Wr h w bs ov) (v n : Nat) (hn : n ≤ 16) (hv : v < 2 ^ n) (hb : bs.length + n ≤ 65536) :
    ∃ h' ov', callW AP.A 33 [.pobj w 0, .int .i64 v, .int .i64 n] h = some (.int .i64 0, h') ∧ Wr h' w (bs ++ putB v n) ov' ∧ FrW h w ov h' ov' := by
  have hp : 2 ^ n ≤ 2 ^ 16 := Nat.pow_le_pow_right (by omega) hn
  obtain ⟨e', h', ov', r1, r2, r3⟩ := wput_loop w v n (by omega) hn n 0 h bs ov (by omega) wr (by omega)
  have r1' : Lp AP.A [0, 1, 2, 7] AP.f33L0 [(0, .pobj w 0), (1, .int .i64 v), (2, .int .i64 n), (7, .int .i64 0)] h = some (.exit 0, e', h') := r1
  clear r1
  have gw := wr.get
  have s1 : shft .shl .i64 1 (n : Int) = some (.int .i64 ((2 ^ n : Nat) : Int)) := by
    have := shl_i64 (a := 1) (s := n) (by omega) (by omega)
    rwa [Nat.one_mul] at this
  refine ⟨h', ov', plain_c (fn := AP.f33) (e := [(6, .int .i64 0)]) (vs := [.int .i64 0]) rfl rfl rfl ?_ rfl, r2, r3⟩
  generalize 2 ^ n = N at *
  simp (disch := omega) only [go_sem, abin_shl, abin_shr, Nat.reduceEqDiff, reduceIte, Nat.reduceAdd, Nat.reduceMul, Nat.reduceLT, Nat.reduceLeDiff, Int.reduceBEq, Int.reduceBNe, Int.reduceLT, Int.reduceLE, Int.reduceEq, qqC, AOp.loud, AOp.births, Int.reduceAdd, Int.reduceSub, Int.reduceMul, Int.reduceNeg, Int.reduceToNat, AP.f33, evC_loop, r1', gw, s1]
theorem wcode_loop (w v : Nat) (A : List AV) (hA : A[1]? = some (.int .i64 v)) (hA2 : A.length = 2) (c : Nat) (hv : v < 65536) : ∀ (m : Nat) (h : H) (bs : List Nat) (ov : AV), m ≤ 15 → Wr h w bs ov → bs.length + m < 1000000 → h.get c = some A → c ≠ w → ov.id? ≠ some c →
    ∃ e' h' ov', Lp AP.A [0, 3, 5] AP.f35L0 [(0, .pobj w 0), (3, .pobj c 0), (5, .int .i64 ((m : Int) - 1))] h = some (.exit 0, e', h') ∧ Wr h' w (bs ++ codeB v m) ov' ∧ FrW h w ov h' ov'
  | 0, h, bs, ov, hm, wr, hb, hc, hcw, hco => by
    refine ⟨[(0, .pobj w 0), (3, .pobj c 0), (5, .int .i64 (-1)), (41, .bool false)], h, ov, Lp_exit ?_, by simpa [codeB] using wr, FrW.refl h w ov⟩
    simp (disch := omega) only [go_sem, abin_shl, abin_shr, Nat.reduceEqDiff, reduceIte, Nat.reduceAdd, Nat.reduceMul, Nat.reduceLT, Nat.reduceLeDiff, Int.reduceBEq, Int.reduceBNe, Int.reduceLT, Int.reduceLE, Int.reduceEq, qqC, AOp.loud, AOp.births, Int.reduceAdd, Int.reduceSub, Int.reduceMul, Int.reduceNeg, Int.reduceToNat, AP.f35L0]
  | m + 1, h, bs, ov, hm, wr, hb, hc, hcw, hco => by
    have q := Nat.div_le_self v (2 ^ m)
    obtain ⟨h1, o1, k1, wr1, f1⟩ := one_c wr (b := v / 2 ^ m % 2) (by omega) (by omega)
    have hcl := h.lt _ _ hc
    obtain ⟨e', h', ov', r1, r2, r3⟩ := wcode_loop w v A hA hA2 c hv m h1 _ o1 (by omega) wr1 (by simp; omega) (by rw [f1.keep c hcl hcw hco, hc]) hcw (fun q => by rcases f1.ids c q with q | q; exact hco q; omega)
    have n1 : ((m + 1 : Nat) : Int) - 1 = (m : Int) := by omega
    have s1 := shr_i64n (a := v) (s := m) (by omega)
    have a1 := and1_i64 (n := v / 2 ^ m) (by omega)
    rw [List.append_assoc] at r2
    refine ⟨e', h', ov', Lp_next ?_ r1, r2, f1.trans r3⟩
    rw [n1]
    simp (disch := omega) only [go_sem, abin_shl, abin_shr, Nat.reduceEqDiff, reduceIte, Nat.reduceAdd, Nat.reduceMul, Nat.reduceLT, Nat.reduceLeDiff, Int.reduceBEq, Int.reduceBNe, Int.reduceLT, Int.reduceLE, Int.reduceEq, qqC, AOp.loud, AOp.births, Int.reduceAdd, Int.reduceSub, Int.reduceMul, Int.reduceNeg, Int.reduceToNat, AP.f35L0, s1, a1, k1, hc, hA, hA2]
theorem wcode_c {h : H} {w : Nat} {bs : List Nat} {ov : AV} (wr : Wr h w bs ov) (v n : Nat) (hn0 : 1 ≤ n) (hn : n ≤ 15) (hv : v < 2 ^ n) (hb : bs.length + n ≤ 65536) :
    ∃ h' ov', callW AP.A 35 [.pobj w 0, .agg [.int .i64 n, .int .i64 v]] h = some (.int .i64 0, h') ∧ Wr h' w (bs ++ codeB v n) ov' ∧ FrW h w ov h' ov' := by
  have hp : 2 ^ n ≤ 2 ^ 15 := Nat.pow_le_pow_right (by omega) hn
  obtain ⟨g, eg⟩ : ∃ g, g = h.alloc [.int .i64 n, .int .i64 v] := ⟨_, rfl⟩
  have hw := h.lt _ _ wr.get
  have frA : ∀ i, i < h.next → g.get i = h.get i := fun i hi => by rw [eg, get_miss (by omega)]
  have wr1 : Wr g w bs ov := ⟨by rw [frA w hw, wr.get], wr.own.mono (by rw [eg]; simp) (fun i q => frA i (wr.own.lt q).2), by rw [eg]; simpa using wr.fl, by rw [eg]; have := wr.flx; simp; omega, wr.ne, wr.byt⟩
  have gc : g.get h.next = some [.int .i64 n, .int .i64 v] := by rw [eg, get_hit rfl]
  obtain ⟨e', h', ov', r1, r2, r3⟩ := wcode_loop w v _ rfl rfl h.next (by omega) n g bs ov hn wr1 (by omega) gc (by omega) (fun q => by have := (wr.own.lt q).2; omega)
  have gw := wr1.get
  have s1 : shft .shl .i64 1 (n : Int) = some (.int .i64 ((2 ^ n : Nat) : Int)) := by
    have := shl_i64 (a := 1) (s := n) (by omega) (by omega)
    rwa [Nat.one_mul] at this
  refine ⟨h', ov', plain_c (fn := AP.f35) (e := [(4, .int .i64 0)]) (vs := [.int .i64 0]) rfl rfl rfl ?_ rfl, r2, ⟨by rw [r3.floor, eg]; simp, by have := r3.next; rw [eg] at this; simp at this; omega, fun i h1 h2 h3 => by rw [r3.keep i (by rw [eg]; simp; omega) h2 h3, frA i h1], fun j hj => by
    rcases r3.ids j hj with q | q
    · exact .inl q
    · rw [eg] at q; simp at q; exact .inr (by omega)⟩⟩
  generalize 2 ^ n = N at *
  simp (disch := omega) only [go_sem, abin_shl, abin_shr, Nat.reduceEqDiff, reduceIte, Nat.reduceAdd, Nat.reduceMul, Nat.reduceLT, Nat.reduceLeDiff, Int.reduceBEq, Int.reduceBNe, Int.reduceLT, Int.reduceLE, Int.reduceEq, qqC, AOp.loud, AOp.births, Int.reduceAdd, Int.reduceSub, Int.reduceMul, Int.reduceNeg, Int.reduceToNat, AP.f35, evC_loop, ← eg, r1, gw, gc, s1]
theorem wtext_c {h : H} {w : Nat} {bs : List Nat} {ov : AV} (wr : Wr h w bs ov) : callW AP.A 37 [.pobj w 0] h = some (.str (bytesOf (packB bs)), h) := by
  have gw := wr.get
  have b := b2s_ownN wr.own
  refine plain_c (fn := AP.f37) (e := [(2, .str (bytesOf (packB bs)))]) (vs := [.str (bytesOf (packB bs))]) rfl rfl rfl ?_ rfl
  simp (disch := omega) only [go_sem, abin_shl, abin_shr, Nat.reduceEqDiff, reduceIte, Nat.reduceAdd, Nat.reduceMul, Nat.reduceLT, Nat.reduceLeDiff, Int.reduceBEq, Int.reduceBNe, Int.reduceLT, Int.reduceLE, Int.reduceEq, qqC, AOp.loud, AOp.births, Int.reduceAdd, Int.reduceSub, Int.reduceMul, Int.reduceNeg, Int.reduceToNat, AP.f37, gw, b]
end Ab
set_option linter.unusedSimpArgs false
set_option linter.unusedVariables false
set_option maxRecDepth 100000
namespace Ab
open Go
def leastOf (o : Option (Nat × Nat)) : Nat := (o.getD (0, 0)).1
def bitsOf (o : Option (Nat × Nat)) : Nat := (o.getD (0, 0)).2
def dnF (f : Nat → Option (Nat × Nat)) (k : Nat) : Nat → Nat
  | 0 => 0
  | s + 1 => if leastOf (f (s + 1)) ≤ k then s + 1 else dnF f k s
def lsym (k : Nat) : Nat := dnF lenOf k 285
def lbit (k : Nat) : Nat := bitsOf (lenOf (lsym k))
def lval (k : Nat) : Nat := k - leastOf (lenOf (lsym k))
def dsym (k : Nat) : Nat := dnF distOf k 29
def dbit (k : Nat) : Nat := bitsOf (distOf (dsym k))
def dval (k : Nat) : Nat := k - leastOf (distOf (dsym k))
theorem lenOf_some {s : Nat} (h1 : 257 ≤ s) (h2 : s ≤ 285) : ∃ a b, lenOf s = some (a, b) := by
  unfold lenOf; rw [if_neg (by omega)]; split; exact ⟨_, _, rfl⟩; split <;> exact ⟨_, _, rfl⟩
theorem distOf_some {s : Nat} (h2 : s ≤ 29) : ∃ a b, distOf s = some (a, b) := by
  unfold distOf; rw [if_neg (by omega)]; split <;> exact ⟨_, _, rfl⟩
theorem len_gap : ∀ s, 257 ≤ s → s < 285 → leastOf (lenOf (s + 1)) ≤ leastOf (lenOf s) + 2 ^ bitsOf (lenOf s) := by
  intro s h1 h2
  have : ∀ s < 285, 257 ≤ s → leastOf (lenOf (s + 1)) ≤ leastOf (lenOf s) + 2 ^ bitsOf (lenOf s) := by decide +kernel
  exact this s h2 h1
theorem dist_gap : ∀ s, s < 29 → leastOf (distOf (s + 1)) ≤ leastOf (distOf s) + 2 ^ bitsOf (distOf s) := by decide +kernel
theorem lsym_spec {k : Nat} (h1 : 3 ≤ k) (h2 : k ≤ 258) : 257 ≤ lsym k ∧ lsym k ≤ 285 ∧ leastOf (lenOf (lsym k)) ≤ k ∧ k < leastOf (lenOf (lsym k)) + 2 ^ bitsOf (lenOf (lsym k)) := by
  have key : ∀ n s, s = 257 + n → s ≤ 285 → (s = 285 ∨ k < leastOf (lenOf (s + 1))) → 257 ≤ dnF lenOf k s ∧ dnF lenOf k s ≤ 285 ∧ leastOf (lenOf (dnF lenOf k s)) ≤ k ∧ k < leastOf (lenOf (dnF lenOf k s)) + 2 ^ bitsOf (lenOf (dnF lenOf k s)) := by
    intro n
    induction n with
    | zero =>
      intro s hs h hk
      obtain rfl : s = 257 := hs
      have e : dnF lenOf k 257 = 257 := by rw [dnF, if_pos (show leastOf (lenOf (256 + 1)) ≤ k from h1)]
      have g := len_gap 257 (by omega) (by omega)
      rw [e]
      refine ⟨by omega, by omega, h1, ?_⟩
      rcases hk with q | q
      · omega
      · omega
    | succ n ih =>
      intro s hs h hk
      obtain ⟨s, rfl⟩ : ∃ t, s = t + 1 := ⟨s - 1, by omega⟩
      by_cases c : leastOf (lenOf (s + 1)) ≤ k
      · rw [dnF, if_pos c]
        refine ⟨by omega, by omega, c, ?_⟩
        rcases hk with q | q
        · obtain rfl : s = 284 := by omega
          have : leastOf (lenOf (284 + 1)) = 258 := rfl
          have : 0 < 2 ^ bitsOf (lenOf (284 + 1)) := Nat.pow_pos (by omega)
          omega
        · by_cases c2 : s + 1 = 285
          · obtain rfl : s = 284 := by omega
            have : leastOf (lenOf (284 + 1)) = 258 := rfl
            have : 0 < 2 ^ bitsOf (lenOf (284 + 1)) := Nat.pow_pos (by omega)
            omega
          · have := len_gap (s + 1) (by omega) (by omega); omega
      · rw [dnF, if_neg c]
        exact ih s (by omega) (by omega) (.inr (by omega))
  exact key 28 285 (by omega) (by omega) (.inl rfl)
theorem dsym_spec {k : Nat} (h1 : 1 ≤ k) (h2 : k ≤ 32768) : dsym k ≤ 29 ∧ leastOf (distOf (dsym k)) ≤ k ∧ k < leastOf (distOf (dsym k)) + 2 ^ bitsOf (distOf (dsym k)) := by
  have l0 : leastOf (distOf 0) = 1 := rfl
  have key : ∀ s, s ≤ 29 → (s = 29 ∨ k < leastOf (distOf (s + 1))) → dnF distOf k s ≤ 29 ∧ leastOf (distOf (dnF distOf k s)) ≤ k ∧ k < leastOf (distOf (dnF distOf k s)) + 2 ^ bitsOf (distOf (dnF distOf k s)) := by
    intro s
    induction s with
    | zero =>
      intro h hk
      rw [dnF]
      have g := dist_gap 0 (by omega)
      refine ⟨by omega, by omega, ?_⟩
      rcases hk with q | q <;> omega
    | succ s ih =>
      intro h hk
      by_cases c : leastOf (distOf (s + 1)) ≤ k
      · rw [dnF, if_pos c]
        refine ⟨by omega, c, ?_⟩
        by_cases c2 : s + 1 = 29
        · obtain rfl : s = 28 := by omega
          have a1 : leastOf (distOf (28 + 1)) = 24577 := rfl
          have a2 : 2 ^ bitsOf (distOf (28 + 1)) = 8192 := rfl
          omega
        · have := dist_gap (s + 1) (by omega)
          rcases hk with q | q <;> omega
      · rw [dnF, if_neg c]
        exact ih (by omega) (.inr (by omega))
  exact key 29 (by omega) (.inl rfl)
theorem len_loop2 (k : Nat) (h1 : 3 ≤ k) (h2 : k ≤ 258) (g : H) (id : Nat) (hf : g.floor ≤ id) (hfl : g.floor ≤ g.next) (hg : g.get id = some [.int .i64 0, .int .i64 0, .int .i64 0]) : ∀ n s : Nat, s = 257 + n → s ≤ 285 →
    Lp AP.A [0, 2, 4] AP.f28L0 [(0, .int .i64 k), (2, .pobj id 0), (4, .int .i64 s)] g = some (.ret, [(2, .pobj id 0), (3, .int .i64 0)], g.set id [.int .i64 (dnF lenOf k s : Nat), .int .i64 (bitsOf (lenOf (dnF lenOf k s)) : Nat), .int .i64 ((k - leastOf (lenOf (dnF lenOf k s)) : Nat) : Int)]) := by
  intro n
  induction n with
  | zero =>
    intro s hs h
    obtain rfl : s = 257 := hs
    have e : dnF lenOf k 257 = 257 := by rw [dnF, if_pos (show leastOf (lenOf (256 + 1)) ≤ k from h1)]
    have l1 : leastOf (lenOf 257) = 3 := rfl
    have b1 : bitsOf (lenOf 257) = 0 := rfl
    have kk : callW AP.A 50 [.int .i64 257] g = _ := lenOf2_c g 257 (by omega)
    have tt : tup3 (lenOf 257) = .tup [.int .i64 3, .int .i64 0, .int .i64 0] := rfl
    rw [tt] at kk
    rw [e, l1, b1]
    have n1 : ((k - 3 : Nat) : Int) = (k : Int) - 3 := by omega
    rw [n1]
    refine Lp_ret ?_
    simp (disch := first | omega | (simp only [qqH, List.length_cons, List.length_nil, Nat.zero_add, Nat.reduceAdd]; first | done | omega | fail) | (simp (disch := first | omega | (simp only [qqH, List.length_cons, List.length_nil, Nat.zero_add, Nat.reduceAdd]; first | done | omega | fail) | fail) only [qqH, qqG, Option.map_some, List.length_cons, List.length_nil, Nat.zero_add, Nat.reduceAdd]; done) | fail) only [go_sem, abin_shl, abin_shr, Nat.reduceEqDiff, reduceIte, Nat.reduceAdd, Nat.reduceMul, Nat.reduceLT, Nat.reduceLeDiff, Int.reduceBEq, Int.reduceBNe, Int.reduceLT, Int.reduceLE, Int.reduceEq, qqC, qqD, AOp.loud, AOp.births, Int.reduceAdd, Int.reduceSub, Int.reduceMul, Int.reduceNeg, Int.reduceToNat, AP.f28L0, kk, hg]
  | succ n ih =>
    intro s hs h
    obtain ⟨s, rfl⟩ : ∃ t, s = t + 1 := ⟨s - 1, by omega⟩
    obtain ⟨a, b, hab⟩ := lenOf_some (s := s + 1) (by omega) h
    have kk := lenOf2_c g (s + 1) (by omega)
    rw [hab] at kk
    simp only [I, tup3] at kk
    have la : leastOf (lenOf (s + 1)) = a := by rw [hab]; rfl
    have lb : bitsOf (lenOf (s + 1)) = b := by rw [hab]; rfl
    have bd := lenOf_bd hab
    by_cases c1 : a ≤ k
    · rw [dnF, la, if_pos c1, la, lb]
      have n1 : ((k - a : Nat) : Int) = (k : Int) - (a : Int) := by omega
      rw [n1]
      refine Lp_ret ?_
      simp (disch := first | omega | (simp only [qqH, List.length_cons, List.length_nil, Nat.zero_add, Nat.reduceAdd]; first | done | omega | fail) | (simp (disch := first | omega | (simp only [qqH, List.length_cons, List.length_nil, Nat.zero_add, Nat.reduceAdd]; first | done | omega | fail) | fail) only [qqH, qqG, Option.map_some, List.length_cons, List.length_nil, Nat.zero_add, Nat.reduceAdd]; done) | fail) only [go_sem, abin_shl, abin_shr, Nat.reduceEqDiff, reduceIte, Nat.reduceAdd, Nat.reduceMul, Nat.reduceLT, Nat.reduceLeDiff, Int.reduceBEq, Int.reduceBNe, Int.reduceLT, Int.reduceLE, Int.reduceEq, qqC, qqD, AOp.loud, AOp.births, Int.reduceAdd, Int.reduceSub, Int.reduceMul, Int.reduceNeg, Int.reduceToNat, AP.f28L0, kk, hg]
    · rw [dnF, la, if_neg c1]
      have r1 := ih s (by omega) (by omega)
      have n1 : ((s + 1 : Nat) : Int) - 1 = (s : Int) := by omega
      refine Lp_next (e' := [(0, .int .i64 k), (2, .pobj id 0), (4, .int .i64 s)]) ?_ r1
      simp (disch := first | omega | (simp only [qqH, List.length_cons, List.length_nil, Nat.zero_add, Nat.reduceAdd]; first | done | omega | fail) | (simp (disch := first | omega | (simp only [qqH, List.length_cons, List.length_nil, Nat.zero_add, Nat.reduceAdd]; first | done | omega | fail) | fail) only [qqH, qqG, Option.map_some, List.length_cons, List.length_nil, Nat.zero_add, Nat.reduceAdd]; done) | fail) only [go_sem, abin_shl, abin_shr, Nat.reduceEqDiff, reduceIte, Nat.reduceAdd, Nat.reduceMul, Nat.reduceLT, Nat.reduceLeDiff, Int.reduceBEq, Int.reduceBNe, Int.reduceLT, Int.reduceLE, Int.reduceEq, qqC, qqD, AOp.loud, AOp.births, Int.reduceAdd, Int.reduceSub, Int.reduceMul, Int.reduceNeg, Int.reduceToNat, AP.f28L0, kk, n1]
theorem length_c (h : H) (k : Nat) (h1 : 3 ≤ k) (h2 : k ≤ 258) : callW AP.A 28 [.int .i64 k] h = some (.tup [.agg [.int .i64 (lsym k : Nat), .int .i64 (lbit k : Nat), .int .i64 (lval k : Nat)], .int .i64 0], h) := by
  have r1 := len_loop2 k h1 h2 (h.fence.alloc [.int .i64 0, .int .i64 0, .int .i64 0]) h.next (by simp) (by simp) (by rw [get_hit (by simp)]) 28 285 (by omega) (by omega)
  have r1' : Lp AP.A [0, 2, 4] AP.f28L0 [(0, .int .i64 k), (2, .pobj h.next 0), (4, .int .i64 285)] (h.fence.alloc [.int .i64 0, .int .i64 0, .int .i64 0]) = some (.ret, [(2, .pobj h.next 0), (3, .int .i64 0)], (h.fence.alloc [.int .i64 0, .int .i64 0, .int .i64 0]).set h.next [.int .i64 (lsym k : Nat), .int .i64 (lbit k : Nat), .int .i64 (lval k : Nat)]) := r1
  clear r1
  generalize lsym k = S at *
  generalize lbit k = B at *
  generalize lval k = V at *
  refine pure_c (fn := AP.f28) (h2 := (h.fence.alloc [.int .i64 0, .int .i64 0, .int .i64 0]).set h.next [.int .i64 S, .int .i64 B, .int .i64 V]) (e := [(2, .pobj h.next 0), (3, .int .i64 0)]) (vs := [.agg [.int .i64 S, .int .i64 B, .int .i64 V], .int .i64 0]) rfl rfl rfl ?_ ?_ ?_
  · simp (disch := first | omega | (simp only [qqH, List.length_cons, List.length_nil, Nat.zero_add, Nat.reduceAdd]; first | done | omega | fail) | (simp (disch := first | omega | (simp only [qqH, List.length_cons, List.length_nil, Nat.zero_add, Nat.reduceAdd]; first | done | omega | fail) | fail) only [qqH, qqG, Option.map_some, List.length_cons, List.length_nil, Nat.zero_add, Nat.reduceAdd]; done) | fail) only [go_sem, abin_shl, abin_shr, Nat.reduceEqDiff, reduceIte, Nat.reduceAdd, Nat.reduceMul, Nat.reduceLT, Nat.reduceLeDiff, Int.reduceBEq, Int.reduceBNe, Int.reduceLT, Int.reduceLE, Int.reduceEq, qqC, qqD, AOp.loud, AOp.births, Int.reduceAdd, Int.reduceSub, Int.reduceMul, Int.reduceNeg, Int.reduceToNat, AP.f28, evC_loop, r1']
  · simp (disch := first | omega | (simp only [qqH, List.length_cons, List.length_nil, Nat.zero_add, Nat.reduceAdd]; first | done | omega | fail) | (simp (disch := first | omega | (simp only [qqH, List.length_cons, List.length_nil, Nat.zero_add, Nat.reduceAdd]; first | done | omega | fail) | fail) only [qqH, qqG, Option.map_some, List.length_cons, List.length_nil, Nat.zero_add, Nat.reduceAdd]; done) | fail) only [go_sem, abin_shl, abin_shr, Nat.reduceEqDiff, reduceIte, Nat.reduceAdd, Nat.reduceMul, Nat.reduceLT, Nat.reduceLeDiff, Int.reduceBEq, Int.reduceBNe, Int.reduceLT, Int.reduceLE, Int.reduceEq, qqC, qqD, AOp.loud, AOp.births, Int.reduceAdd, Int.reduceSub, Int.reduceMul, Int.reduceNeg, Int.reduceToNat, AP.f28, resAll, resOf]; rfl
  · rfl
theorem dist_loop2 (k : Nat) (h1 : 1 ≤ k) (h2 : k ≤ 32768) (g : H) (id : Nat) (hf : g.floor ≤ id) (hfl : g.floor ≤ g.next) (hg : g.get id = some [.int .i64 0, .int .i64 0, .int .i64 0]) : ∀ n s : Nat, s = n → s ≤ 29 →
    Lp AP.A [0, 2, 4] AP.f29L0 [(0, .int .i64 k), (2, .pobj id 0), (4, .int .i64 s)] g = some (.ret, [(2, .pobj id 0), (3, .int .i64 0)], g.set id [.int .i64 (dnF distOf k s : Nat), .int .i64 (bitsOf (distOf (dnF distOf k s)) : Nat), .int .i64 ((k - leastOf (distOf (dnF distOf k s)) : Nat) : Int)]) := by
  intro n
  induction n with
  | zero =>
    intro s hs h
    obtain rfl : s = 0 := hs
    have e : dnF distOf k 0 = 0 := rfl
    have l1 : leastOf (distOf 0) = 1 := rfl
    have b1 : bitsOf (distOf 0) = 0 := rfl
    have kk : callW AP.A 51 [.int .i64 0] g = _ := distOf2_c g 0 (by omega)
    have tt : tup3 (distOf 0) = .tup [.int .i64 1, .int .i64 0, .int .i64 0] := rfl
    rw [tt] at kk
    rw [e, l1, b1]
    have n1 : ((k - 1 : Nat) : Int) = (k : Int) - 1 := by omega
    rw [n1]
    refine Lp_ret ?_
    simp (disch := first | omega | (simp only [qqH, List.length_cons, List.length_nil, Nat.zero_add, Nat.reduceAdd]; first | done | omega | fail) | (simp (disch := first | omega | (simp only [qqH, List.length_cons, List.length_nil, Nat.zero_add, Nat.reduceAdd]; first | done | omega | fail) | fail) only [qqH, qqG, Option.map_some, List.length_cons, List.length_nil, Nat.zero_add, Nat.reduceAdd]; done) | fail) only [go_sem, abin_shl, abin_shr, Nat.reduceEqDiff, reduceIte, Nat.reduceAdd, Nat.reduceMul, Nat.reduceLT, Nat.reduceLeDiff, Int.reduceBEq, Int.reduceBNe, Int.reduceLT, Int.reduceLE, Int.reduceEq, qqC, qqD, AOp.loud, AOp.births, Int.reduceAdd, Int.reduceSub, Int.reduceMul, Int.reduceNeg, Int.reduceToNat, AP.f29L0, kk, hg]
  | succ n ih =>
    intro s hs h
    obtain ⟨s, rfl⟩ : ∃ t, s = t + 1 := ⟨s - 1, by omega⟩
    obtain ⟨a, b, hab⟩ := distOf_some (s := s + 1) h
    have kk := distOf2_c g (s + 1) (by omega)
    rw [hab] at kk
    simp only [I, tup3] at kk
    have la : leastOf (distOf (s + 1)) = a := by rw [hab]; rfl
    have lb : bitsOf (distOf (s + 1)) = b := by rw [hab]; rfl
    have bd := distOf_bd hab
    by_cases c1 : a ≤ k
    · rw [dnF, la, if_pos c1, la, lb]
      have n1 : ((k - a : Nat) : Int) = (k : Int) - (a : Int) := by omega
      rw [n1]
      refine Lp_ret ?_
      simp (disch := first | omega | (simp only [qqH, List.length_cons, List.length_nil, Nat.zero_add, Nat.reduceAdd]; first | done | omega | fail) | (simp (disch := first | omega | (simp only [qqH, List.length_cons, List.length_nil, Nat.zero_add, Nat.reduceAdd]; first | done | omega | fail) | fail) only [qqH, qqG, Option.map_some, List.length_cons, List.length_nil, Nat.zero_add, Nat.reduceAdd]; done) | fail) only [go_sem, abin_shl, abin_shr, Nat.reduceEqDiff, reduceIte, Nat.reduceAdd, Nat.reduceMul, Nat.reduceLT, Nat.reduceLeDiff, Int.reduceBEq, Int.reduceBNe, Int.reduceLT, Int.reduceLE, Int.reduceEq, qqC, qqD, AOp.loud, AOp.births, Int.reduceAdd, Int.reduceSub, Int.reduceMul, Int.reduceNeg, Int.reduceToNat, AP.f29L0, kk, hg]
    · rw [dnF, la, if_neg c1]
      have r1 := ih s (by omega) (by omega)
      have n1 : ((s + 1 : Nat) : Int) - 1 = (s : Int) := by omega
      refine Lp_next (e' := [(0, .int .i64 k), (2, .pobj id 0), (4, .int .i64 s)]) ?_ r1
      simp (disch := first | omega | (simp only [qqH, List.length_cons, List.length_nil, Nat.zero_add, Nat.reduceAdd]; first | done | omega | fail) | (simp (disch := first | omega | (simp only [qqH, List.length_cons, List.length_nil, Nat.zero_add, Nat.reduceAdd]; first | done | omega | fail) | fail) only [qqH, qqG, Option.map_some, List.length_cons, List.length_nil, Nat.zero_add, Nat.reduceAdd]; done) | fail) only [go_sem, abin_shl, abin_shr, Nat.reduceEqDiff, reduceIte, Nat.reduceAdd, Nat.reduceMul, Nat.reduceLT, Nat.reduceLeDiff, Int.reduceBEq, Int.reduceBNe, Int.reduceLT, Int.reduceLE, Int.reduceEq, qqC, qqD, AOp.loud, AOp.births, Int.reduceAdd, Int.reduceSub, Int.reduceMul, Int.reduceNeg, Int.reduceToNat, AP.f29L0, kk, n1]
theorem dist_c (h : H) (k : Nat) (h1 : 1 ≤ k) (h2 : k ≤ 32768) : callW AP.A 29 [.int .i64 k] h = some (.tup [.agg [.int .i64 (dsym k : Nat), .int .i64 (dbit k : Nat), .int .i64 (dval k : Nat)], .int .i64 0], h) := by
  have r1 := dist_loop2 k h1 h2 (h.fence.alloc [.int .i64 0, .int .i64 0, .int .i64 0]) h.next (by simp) (by simp) (by rw [get_hit (by simp)]) 29 29 (by omega) (by omega)
  have r1' : Lp AP.A [0, 2, 4] AP.f29L0 [(0, .int .i64 k), (2, .pobj h.next 0), (4, .int .i64 29)] (h.fence.alloc [.int .i64 0, .int .i64 0, .int .i64 0]) = some (.ret, [(2, .pobj h.next 0), (3, .int .i64 0)], (h.fence.alloc [.int .i64 0, .int .i64 0, .int .i64 0]).set h.next [.int .i64 (dsym k : Nat), .int .i64 (dbit k : Nat), .int .i64 (dval k : Nat)]) := r1
  clear r1
  generalize dsym k = S at *
  generalize dbit k = B at *
  generalize dval k = V at *
  refine pure_c (fn := AP.f29) (h2 := (h.fence.alloc [.int .i64 0, .int .i64 0, .int .i64 0]).set h.next [.int .i64 S, .int .i64 B, .int .i64 V]) (e := [(2, .pobj h.next 0), (3, .int .i64 0)]) (vs := [.agg [.int .i64 S, .int .i64 B, .int .i64 V], .int .i64 0]) rfl rfl rfl ?_ ?_ ?_
  · simp (disch := first | omega | (simp only [qqH, List.length_cons, List.length_nil, Nat.zero_add, Nat.reduceAdd]; first | done | omega | fail) | (simp (disch := first | omega | (simp only [qqH, List.length_cons, List.length_nil, Nat.zero_add, Nat.reduceAdd]; first | done | omega | fail) | fail) only [qqH, qqG, Option.map_some, List.length_cons, List.length_nil, Nat.zero_add, Nat.reduceAdd]; done) | fail) only [go_sem, abin_shl, abin_shr, Nat.reduceEqDiff, reduceIte, Nat.reduceAdd, Nat.reduceMul, Nat.reduceLT, Nat.reduceLeDiff, Int.reduceBEq, Int.reduceBNe, Int.reduceLT, Int.reduceLE, Int.reduceEq, qqC, qqD, AOp.loud, AOp.births, Int.reduceAdd, Int.reduceSub, Int.reduceMul, Int.reduceNeg, Int.reduceToNat, AP.f29, evC_loop, r1']
  · simp (disch := first | omega | (simp only [qqH, List.length_cons, List.length_nil, Nat.zero_add, Nat.reduceAdd]; first | done | omega | fail) | (simp (disch := first | omega | (simp only [qqH, List.length_cons, List.length_nil, Nat.zero_add, Nat.reduceAdd]; first | done | omega | fail) | fail) only [qqH, qqG, Option.map_some, List.length_cons, List.length_nil, Nat.zero_add, Nat.reduceAdd]; done) | fail) only [go_sem, abin_shl, abin_shr, Nat.reduceEqDiff, reduceIte, Nat.reduceAdd, Nat.reduceMul, Nat.reduceLT, Nat.reduceLeDiff, Int.reduceBEq, Int.reduceBNe, Int.reduceLT, Int.reduceLE, Int.reduceEq, qqC, qqD, AOp.loud, AOp.births, Int.reduceAdd, Int.reduceSub, Int.reduceMul, Int.reduceNeg, Int.reduceToNat, AP.f29, resAll, resOf]; rfl
  · rfl
end Ab
set_option linter.unusedSimpArgs false
set_option linter.unusedVariables false
set_option maxRecDepth 100000
namespace Ab
open Go
theorem tmay_c (h : H) (v : AV) (ts : List Tok) (hn : ts.length < 1000000000) (rd : RdN 3 h v ts.length (toksC ts)) : callW AP.A 69 [v] h = some (.bool (toksMayA 0 ts), h) := by
  have rd1 : RdN 3 h.fence v ts.length (toksC ts) := rd.mono fun i c q => q
  have hfl : h.fence.floor ≤ h.fence.next := by simp
  rcases tmay_loop hn h.fence rd1 ts [] 0 h.fence rfl (by omega) (Ext.refl _) (Nat.le_refl _) hfl with ⟨e', h', r1, r2⟩ | ⟨e', h', r1, r2, r3⟩
  · have r1' : Lp AP.A [0, 3, 4] AP.f69L0 [(0, v), (3, .int .i64 0), (4, .int .i64 0)] h.fence = some (.exit 0, e', h') := r1
    rw [r2]
    refine pure_c (fn := AP.f69) (h2 := h') (e := [(2, .bool true)]) rfl rfl rfl ?_ rfl rfl
    simp (disch := omega) only [go_sem, abin_shl, abin_shr, Nat.reduceEqDiff, reduceIte, Nat.reduceAdd, Nat.reduceMul, Nat.reduceLT, Nat.reduceLeDiff, Int.reduceBEq, Int.reduceBNe, Int.reduceLT, Int.reduceLE, Int.reduceEq, qqC, AOp.loud, AOp.births, Int.reduceAdd, Int.reduceSub, Int.reduceMul, Int.reduceNeg, Int.reduceToNat, AP.f69, evC_loop, r1']
  · have r1' : Lp AP.A [0, 3, 4] AP.f69L0 [(0, v), (3, .int .i64 0), (4, .int .i64 0)] h.fence = some (.ret, e', h') := r1
    rw [r3]
    obtain ⟨e2, he2⟩ : ∃ e2, evC (callW AP.A) loopW AP.f69.body (params 0 [v]) h.fence = some (.ret, e2, h') ∧ look e2 2 = .bool false := by
      refine ⟨e', ?_, r2⟩
      simp (disch := omega) only [go_sem, abin_shl, abin_shr, Nat.reduceEqDiff, reduceIte, Nat.reduceAdd, Nat.reduceMul, Nat.reduceLT, Nat.reduceLeDiff, Int.reduceBEq, Int.reduceBNe, Int.reduceLT, Int.reduceLE, Int.reduceEq, qqC, AOp.loud, AOp.births, Int.reduceAdd, Int.reduceSub, Int.reduceMul, Int.reduceNeg, Int.reduceToNat, AP.f69, evC_loop, r1']
    refine pure_c (fn := AP.f69) (h2 := h') (e := e2) (vs := [.bool false]) rfl rfl rfl he2.1 ?_ rfl
    simp only [AP.f69, resAll, resOf, he2.2]; rfl
def cpy (d : Nat) : Nat → List Nat → List Nat
  | 0, o => o
  | n + 1, o => cpy d n (o ++ [o.getD (o.length - d) 0])
theorem cpy_len (d : Nat) : ∀ n o, (cpy d n o).length = o.length + n
  | 0, o => rfl
  | n + 1, o => by rw [cpy, cpy_len d n]; simp; omega
theorem cpy_byt (d : Nat) : ∀ n o, Byt o → Byt (cpy d n o)
  | 0, o, h => h
  | n + 1, o, h => by
    refine cpy_byt d n _ fun x hx => ?_
    rcases List.mem_append.1 hx with q | q
    · exact h x q
    · simp only [List.mem_singleton] at q
      subst q
      rw [List.getD_eq_getElem?_getD]
      cases hg : o[o.length - d]? with
      | none => simp
      | some y => exact h y (List.mem_of_getElem? hg)
def expStep (o : List Nat) (t : Tok) : List Nat := if t.len = 0 then o ++ [t.lit.toNat] else cpy t.dist.toNat t.len.toNat o
def expT : List Tok → List Nat → List Nat
  | [], o => o
  | t :: r, o => expT r (expStep o t)
theorem cpy_loop {v : AV} {ts : List Tok} (hn : ts.length < 1000000000) (h0 : H) (rd : RdN 3 h0 v ts.length (toksC ts)) (i : Nat) (t : Tok) (ht : ts[i]? = some t) (L D : Nat) (hL : t.len = L) (hD : t.dist = D) (hLb : L ≤ 258) (hD1 : 1 ≤ D) : ∀ (m j : Nat) (out : List Nat) (h : H) (ov : AV), j + m = L → D ≤ out.length → out.length + m ≤ 10000 → Byt out → Ext h0 h → h0.next ≤ h.floor → h.floor ≤ h.next → OwnN 1 h ov out.length (bys out) →
    ∃ h' ov', Lp AP.A [0, 4, 5, 6] AP.f55L0 [(0, v), (4, ov), (5, .int .i64 i), (6, .int .i64 j)] h = some (.exit 2, [(0, v), (4, ov'), (5, .int .i64 i), (6, .int .i64 L), (37, .bool false)], h') ∧ Ext h0 h' ∧ h'.floor = h.floor ∧ h'.floor ≤ h'.next ∧ OwnN 1 h' ov' (cpy D m out).length (bys (cpy D m out))
  | 0, j, out, h, ov, hj, hDo, hs, hb, hx, hf, hfn, ow => by
    obtain rfl : j = L := by omega
    obtain ⟨ad, a1, a2, a3⟩ := rd.toks
    have hi : i < ts.length := (List.getElem?_eq_some_iff.1 ht).1
    have hI : (0 : Int) ≤ (i : Int) ∧ (i : Int) < ts.length := ⟨by omega, by omega⟩
    have b1 := a1 _ hI
    have b2 := a2 i 0 1 hI
    obtain ⟨_, b3, _, _⟩ := a3 h hx _ _ ht
    rw [hL] at b3
    clear a1 a2 a3
    refine ⟨h, ov, Lp_exit ?_, hx, rfl, hfn, ow⟩
    simp (disch := omega) only [go_sem, abin_shl, abin_shr, Nat.reduceEqDiff, reduceIte, Nat.reduceAdd, Nat.reduceMul, Nat.reduceLT, Nat.reduceLeDiff, Int.reduceBEq, Int.reduceBNe, Int.reduceLT, Int.reduceLE, Int.reduceEq, qqC, AOp.loud, AOp.births, Int.reduceAdd, Int.reduceSub, Int.reduceMul, Int.reduceNeg, Int.reduceToNat, AP.f55L0, b1, b2, b3]
  | m + 1, j, out, h, ov, hj, hDo, hs, hb, hx, hf, hfn, ow => by
    obtain ⟨ad, a1, a2, a3⟩ := rd.toks
    have hi : i < ts.length := (List.getElem?_eq_some_iff.1 ht).1
    have hI : (0 : Int) ≤ (i : Int) ∧ (i : Int) < ts.length := ⟨by omega, by omega⟩
    have b1 := a1 _ hI
    have b2 := a2 i 0 1 hI
    have b2' := a2 i 0 2 hI
    obtain ⟨_, b3, b4, _⟩ := a3 h hx _ _ ht
    rw [hL] at b3
    rw [hD] at b4
    clear a1 a2 a3
    rcases ow.2 with ⟨_, q⟩ | ⟨id, q1, q2, q3, q4⟩
    · omega
    obtain ⟨x, hxx⟩ : ∃ x, out[out.length - D]? = some x := ⟨_, List.getElem?_eq_getElem (by omega)⟩
    have gx := bysG hxx
    have gd : out.getD (out.length - D) 0 = x := by rw [List.getD_eq_getElem?_getD, hxx]; rfl
    obtain ⟨v', h', p1, p2, p3, p4, p5, p6⟩ := ow.push hfn (z := 1) (m := 1) (by omega) (by omega) [.int .u8 x] rfl rfl (roomy_t (by omega))
    have x8 := hb x (List.mem_of_getElem? hxx)
    have hxn : Ext h0 h' := fun k c hk => by
      have := h0.lt _ _ hk
      rw [p5 k (fun e => by rw [q1] at e; have := Option.some.inj e; omega) (by omega), hx k c hk]
    have ow2 : OwnN 1 h' v' (out ++ [x]).length (bys (out ++ [x])) := by rw [bys_push, List.length_append]; exact p2
    obtain ⟨h2, ov', r1, r2, r3, r4, r5⟩ := cpy_loop hn h0 rd i t ht L D hL hD hLb hD1 m (j + 1) (out ++ [x]) h' v' (by omega) (by simp; omega) (by simp; omega) (fun y hy => by
      rcases List.mem_append.1 hy with q | q
      · exact hb y q
      · simp at q; omega) hxn (by omega) (by omega) ow2
    have n1 : ((j + 1 : Nat) : Int) = (j : Int) + 1 := by omega
    have n2 : (out.length : Int) - (D : Int) = ((out.length - D : Nat) : Int) := by omega
    have bl := bysL out
    rw [cpy, gd]
    refine ⟨h2, ov', Lp_next ?_ r1, r2, by omega, r4, r5⟩
    rw [n1]
    subst q1
    clear r5 hb x8 ow2 r1 r2 hx hxn
    generalize bys out = BO at *
    simp (disch := omega) only [go_sem, abin_shl, abin_shr, Nat.reduceEqDiff, reduceIte, Nat.reduceAdd, Nat.reduceMul, Nat.reduceLT, Nat.reduceLeDiff, Int.reduceBEq, Int.reduceBNe, Int.reduceLT, Int.reduceLE, Int.reduceEq, qqC, AOp.loud, AOp.births, Int.reduceAdd, Int.reduceSub, Int.reduceMul, Int.reduceNeg, Int.reduceToNat, AP.f55L0, b1, b2, b2', b3, b4, n2, q2, gx, bl, p1]
theorem exp_loop {v : AV} {ts : List Tok} (hn : ts.length < 1000000000) (h0 : H) (rd : RdN 3 h0 v ts.length (toksC ts)) : ∀ (q p : List Tok) (out : List Nat) (h : H) (ov : AV), ts = p ++ q → toksMayA out.length q = true → out.length ≤ 8192 → Byt out → Ext h0 h → h0.next ≤ h.floor → h.floor ≤ h.next → OwnN 1 h ov out.length (bys out) →
    ∃ e' h' ov', Lp AP.A [0, 4, 5] AP.f55L1 [(0, v), (4, ov), (5, .int .i64 p.length)] h = some (.exit 0, e', h') ∧ look e' 4 = ov' ∧ h'.floor = h.floor ∧ OwnN 1 h' ov' (expT q out).length (bys (expT q out)) ∧ (expT q out).length ≤ 8192 ∧ Byt (expT q out)
  | [], p, out, h, ov, hp, hm, hs, hb, hx, hf, hfn, ow => by
    rw [List.append_nil] at hp; subst hp
    have ln := rd.len
    refine ⟨[(0, v), (4, ov), (5, .int .i64 ts.length), (13, .bool false)], h, ov, Lp_exit ?_, rfl, rfl, ow, hs, hb⟩
    simp (disch := omega) only [go_sem, abin_shl, abin_shr, Nat.reduceEqDiff, reduceIte, Nat.reduceAdd, Nat.reduceMul, Nat.reduceLT, Nat.reduceLeDiff, Int.reduceBEq, Int.reduceBNe, Int.reduceLT, Int.reduceLE, Int.reduceEq, qqC, AOp.loud, AOp.births, Int.reduceAdd, Int.reduceSub, Int.reduceMul, Int.reduceNeg, Int.reduceToNat, AP.f55L1, ln]
  | t :: q, p, out, h, ov, hp, hm, hs, hb, hx, hf, hfn, ow => by
    have ln := rd.len
    have hlen : ts.length = p.length + (q.length + 1) := by rw [hp]; simp
    have ht : ts[p.length]? = some t := by rw [hp]; simp
    obtain ⟨ad, a1, a2, a3⟩ := rd.toks
    have hI : (0 : Int) ≤ (p.length : Int) ∧ (p.length : Int) < ts.length := ⟨by omega, by omega⟩
    have b1 := a1 _ hI
    have b2 := a2 p.length 0 1 hI
    have b2' := a2 p.length 0 0 hI
    obtain ⟨b3, b4, _, _⟩ := a3 h hx _ _ ht
    rw [toksMayA] at hm
    have pl : p.length < ts.length := by omega
    cases hst : tokStep out.length t with
    | none => rw [hst] at hm; cases hm
    | some s' =>
      rw [hst] at hm
      simp only at hm
      by_cases k : 8192 < s'
      · rw [if_pos k] at hm; cases hm
      rw [if_neg k] at hm
      unfold tokStep at hst
      have n1 : (((p ++ [t]).length : Nat) : Int) = (p.length : Int) + 1 := by simp
      by_cases c0 : t.len = 0
      · rw [if_pos c0] at hst
        by_cases c : t.lit < 0 ∨ 255 < t.lit ∨ t.dist ≠ 0
        · rw [if_pos c] at hst; cases hst
        rw [if_neg c] at hst
        obtain rfl := Option.some.inj hst
        obtain ⟨x, hxl⟩ : ∃ x : Nat, t.lit = x := Int.eq_ofNat_of_zero_le (by omega)
        have es : expStep out t = out ++ [x] := by unfold expStep; rw [if_pos c0, hxl]; rfl
        have hx8 : x < 256 := by omega
        obtain ⟨v', h', p1, p2, p3, p4, p5, p6⟩ := ow.push hfn (z := 1) (m := 1) (by omega) (by omega) [.int .u8 x] rfl rfl (roomy_t (by omega))
        have hxn : Ext h0 h' := fun k c hk => by
          have := h0.lt _ _ hk
          rw [p5 k (fun e => by have := ow.lt e; omega) (by omega), hx k c hk]
        have ow2 : OwnN 1 h' v' (out ++ [x]).length (bys (out ++ [x])) := by rw [bys_push, List.length_append]; exact p2
        have hx3 : Ext h0 h' := hxn
        obtain ⟨b3', b4', _, _⟩ := a3 h' hxn _ _ ht
        rw [hxl] at b3
        rw [c0] at b4 b4'
        have wx := wb' (n := x) hx8
        clear a1 a2 a3
        obtain ⟨e', h2, ov', r1, r2, r3, r4, r5, r6⟩ := exp_loop hn h0 rd q (p ++ [t]) (out ++ [x]) h' v' (by rw [hp]; simp) (by rw [← hm]; simp) (by simp; omega) (fun y hy => by
          rcases List.mem_append.1 hy with q | q
          · exact hb y q
          · simp at q; omega) hxn (by omega) (by omega) ow2
        have L0 : Lp AP.A [0, 4, 5, 6] AP.f55L0 [(0, v), (4, v'), (5, .int .i64 p.length), (6, .int .i64 0)] h' = some (.exit 2, [(0, v), (4, v'), (5, .int .i64 p.length), (6, .int .i64 0), (37, .bool false)], h') := by
          refine Lp_exit ?_
          simp (disch := omega) only [go_sem, abin_shl, abin_shr, Nat.reduceEqDiff, reduceIte, Nat.reduceAdd, Nat.reduceMul, Nat.reduceLT, Nat.reduceLeDiff, Int.reduceBEq, Int.reduceBNe, Int.reduceLT, Int.reduceLE, Int.reduceEq, qqC, AOp.loud, AOp.births, Int.reduceAdd, Int.reduceSub, Int.reduceMul, Int.reduceNeg, Int.reduceToNat, AP.f55L0, b1, b2, b4']
        rw [expT, es]
        refine ⟨e', h2, ov', Lp_next ?_ r1, r2, by omega, r4, r5, r6⟩
        rw [n1]
        clear r1 r2 r4 r5 r6 hm hp hx hxn hx3 hb hst c
        simp (disch := omega) only [go_sem, abin_shl, abin_shr, Nat.reduceEqDiff, reduceIte, Nat.reduceAdd, Nat.reduceMul, Nat.reduceLT, Nat.reduceLeDiff, Int.reduceBEq, Int.reduceBNe, Int.reduceLT, Int.reduceLE, Int.reduceEq, qqC, AOp.loud, AOp.births, Int.reduceAdd, Int.reduceSub, Int.reduceMul, Int.reduceNeg, Int.reduceToNat, AP.f55L1, ln, b1, b2, b2', b3, b4, wx, p1, evC_loop, L0]
      · rw [if_neg c0] at hst
        by_cases c : t.len < 3 ∨ 258 < t.len ∨ t.dist < 1 ∨ 32768 < t.dist ∨ (out.length : Int) < t.dist ∨ t.lit ≠ 0
        · rw [if_pos c] at hst; cases hst
        rw [if_neg c] at hst
        obtain rfl := Option.some.inj hst
        obtain ⟨L, hL⟩ : ∃ x : Nat, t.len = x := Int.eq_ofNat_of_zero_le (by omega)
        obtain ⟨D, hD⟩ : ∃ x : Nat, t.dist = x := Int.eq_ofNat_of_zero_le (by omega)
        have es : expStep out t = cpy D L out := by unfold expStep; rw [if_neg c0, hL, hD]; rfl
        have cl := cpy_len D L out
        have cb := cpy_byt D L out hb
        obtain ⟨h', v', L0, s1, s2, s3, s4⟩ := cpy_loop hn h0 rd p.length t ht L D hL hD (by omega) (by omega) L 0 out h ov (by omega) (by omega) (by omega) hb hx hf hfn ow
        have L0' : Lp AP.A [0, 4, 5, 6] AP.f55L0 [(0, v), (4, ov), (5, .int .i64 p.length), (6, .int .i64 0)] h = _ := L0
        obtain ⟨e', h2, ov', r1, r2, r3, r4, r5, r6⟩ := exp_loop hn h0 rd q (p ++ [t]) (cpy D L out) h' v' (by rw [hp]; simp) (by rw [← hm, cl, hL]; simp) (by omega) cb s1 (by omega) s3 s4
        rw [expT, es]
        refine ⟨e', h2, ov', Lp_next ?_ r1, r2, by omega, r4, r5, r6⟩
        rw [n1]
        have c0' : ¬ (L : Int) = 0 := by omega
        rw [hL] at b4
        clear r1 r2 r4 r5 r6 hm hp hx hb hst c c0 L0 s4 cb es a1 a2 a3
        simp (disch := omega) only [go_sem, abin_shl, abin_shr, Nat.reduceEqDiff, reduceIte, Nat.reduceAdd, Nat.reduceMul, Nat.reduceLT, Nat.reduceLeDiff, Int.reduceBEq, Int.reduceBNe, Int.reduceLT, Int.reduceLE, Int.reduceEq, qqC, AOp.loud, AOp.births, Int.reduceAdd, Int.reduceSub, Int.reduceMul, Int.reduceNeg, Int.reduceToNat, AP.f55L1, ln, b1, b2, b2', b4, evC_loop, L0', c0']
def expandA (ts : List Tok) : Option ByteArray := if toksMayA 0 ts = true then some (bytesOf (expT ts [])) else none
def expV : Option ByteArray → AV
  | some t => .tup [.str t, .int .i64 0]
  | none => .tup [.str ⟨#[]⟩, .int .i64 500]
theorem expand_c (h : H) (v : AV) (ts : List Tok) (hn : ts.length < 1000000000) (rd : RdN 3 h v ts.length (toksC ts)) : callW AP.A 55 [v] h = some (expV (expandA ts), h) ∧ ∀ t, expandA ts = some t → t.size ≤ 8192 := by
  have k1 : ∀ g : H, g = h.fence → callW AP.A 69 [v] g = some (.bool (toksMayA 0 ts), g) := fun g e => by subst e; exact tmay_c h.fence v ts hn (rd.mono fun i c q => q)
  unfold expandA
  by_cases hm : toksMayA 0 ts = true
  · rw [if_pos hm]
    have rd1 : RdN 3 h.fence v ts.length (toksC ts) := rd.mono fun i c q => q
    obtain ⟨e', h', ov', r1, r2, r3, r4, r5, r6⟩ := exp_loop hn h.fence rd1 ts [] [] h.fence .nils rfl hm (by simp) (fun _ h => by simp at h) (Ext.refl _) (by simp) (by simp) OwnN.nil
    have r1' : Lp AP.A [0, 4, 5] AP.f55L1 [(0, v), (4, .nils), (5, .int .i64 0)] h.fence = some (.exit 0, e', h') := r1
    have b := b2s_ownN r4
    have k := k1 _ rfl
    rw [hm] at k
    refine ⟨?_, fun t ht => ?_⟩
    · generalize bytesOf (expT ts []) = B at *
      refine pure_c (fn := AP.f55) (h2 := h') (e := [(2, .str B), (3, .int .i64 0)]) rfl rfl rfl ?_ rfl rfl
      clear r1 r4 r5 r6 rd1 rd k1
      simp (disch := omega) only [go_sem, abin_shl, abin_shr, Nat.reduceEqDiff, reduceIte, Nat.reduceAdd, Nat.reduceMul, Nat.reduceLT, Nat.reduceLeDiff, Int.reduceBEq, Int.reduceBNe, Int.reduceLT, Int.reduceLE, Int.reduceEq, qqC, AOp.loud, AOp.births, Int.reduceAdd, Int.reduceSub, Int.reduceMul, Int.reduceNeg, Int.reduceToNat, AP.f55, k, evC_loop, r1', r2, b]
    · obtain rfl := Option.some.inj ht
      rw [bytesOf_size]; omega
  · rw [if_neg hm]
    have k := k1 _ rfl
    rw [Bool.eq_false_iff.2 hm] at k
    refine ⟨?_, fun t ht => by cases ht⟩
    refine pure_c (fn := AP.f55) (h2 := h.fence) (e := [(2, .str ⟨#[]⟩), (3, .int .i64 500)]) rfl rfl rfl ?_ rfl rfl
    clear rd k1
    simp (disch := omega) only [go_sem, abin_shl, abin_shr, Nat.reduceEqDiff, reduceIte, Nat.reduceAdd, Nat.reduceMul, Nat.reduceLT, Nat.reduceLeDiff, Int.reduceBEq, Int.reduceBNe, Int.reduceLT, Int.reduceLE, Int.reduceEq, qqC, AOp.loud, AOp.births, Int.reduceAdd, Int.reduceSub, Int.reduceMul, Int.reduceNeg, Int.reduceToNat, AP.f55, k]
def fewA (ts : List Tok) : Bool := match expandA ts with
  | some t => decide (t.size ≤ 300)
  | none => false
theorem few_c (h : H) (v : AV) (ts : List Tok) (hn : ts.length < 1000000000) (rd : RdN 3 h v ts.length (toksC ts)) : callW AP.A 27 [v] h = some (.bool (fewA ts), h) := by
  obtain ⟨k, kl⟩ := expand_c h.fence v ts hn (rd.mono fun i c q => q)
  unfold fewA
  cases he : expandA ts with
  | none =>
    rw [he] at k
    simp only [expV] at k
    refine pure_c (fn := AP.f27) (h2 := h.fence) (e := [(2, .bool false)]) rfl rfl rfl ?_ rfl rfl
    clear rd kl
    simp (disch := omega) only [go_sem, abin_shl, abin_shr, Nat.reduceEqDiff, reduceIte, Nat.reduceAdd, Nat.reduceMul, Nat.reduceLT, Nat.reduceLeDiff, Int.reduceBEq, Int.reduceBNe, Int.reduceLT, Int.reduceLE, Int.reduceEq, qqC, AOp.loud, AOp.births, Int.reduceAdd, Int.reduceSub, Int.reduceMul, Int.reduceNeg, Int.reduceToNat, AP.f27, k]
  | some t =>
    rw [he] at k
    have := kl t he
    simp only [expV] at k
    refine pure_c (fn := AP.f27) (h2 := h.fence) (e := [(2, .bool (decide (t.size ≤ 300)))]) rfl rfl rfl ?_ rfl rfl
    clear rd kl
    by_cases c : t.size ≤ 300
    · simp (disch := omega) only [go_sem, abin_shl, abin_shr, Nat.reduceEqDiff, reduceIte, Nat.reduceAdd, Nat.reduceMul, Nat.reduceLT, Nat.reduceLeDiff, Int.reduceBEq, Int.reduceBNe, Int.reduceLT, Int.reduceLE, Int.reduceEq, qqC, AOp.loud, AOp.births, Int.reduceAdd, Int.reduceSub, Int.reduceMul, Int.reduceNeg, Int.reduceToNat, AP.f27, k, decide_eq_true c]
    · simp (disch := omega) only [go_sem, abin_shl, abin_shr, Nat.reduceEqDiff, reduceIte, Nat.reduceAdd, Nat.reduceMul, Nat.reduceLT, Nat.reduceLeDiff, Int.reduceBEq, Int.reduceBNe, Int.reduceLT, Int.reduceLE, Int.reduceEq, qqC, AOp.loud, AOp.births, Int.reduceAdd, Int.reduceSub, Int.reduceMul, Int.reduceNeg, Int.reduceToNat, AP.f27, k, decide_eq_false c]
end Ab
set_option linter.unusedSimpArgs false
set_option linter.unusedVariables false
set_option maxRecDepth 100000
namespace Ab
open Go
theorem ite_iff {p q : Prop} [Decidable p] [Decidable q] {α : Type} {a b : α} (h : p ↔ q) : (if p then a else b) = if q then a else b := by
  by_cases c : p
  · rw [if_pos c, if_pos (h.1 c)]
  · rw [if_neg c, if_neg (fun x => c (h.2 x))]
def pairC (p : Int × Int) : List AV := [.int .i64 p.1, .int .i64 p.2]
theorem pairC_len (p : Int × Int) : (pairC p).length = 2 := rfl
theorem fm_set {α : Type} {C : α → List AV} {n : Nat} (hC : ∀ x, (C x).length = n) : ∀ (l : List α) (i : Nat) (x : α), i < l.length → setFrom (l.flatMap C) (i * n) (C x) = (l.set i x).flatMap C
  | [], i, x, h => by simp at h
  | y :: l, 0, x, h => by
    have := setFrom_mid (C y) (C x) [] (l.flatMap C) (by rw [hC, hC])
    simpa using this
  | y :: l, i + 1, x, h => by
    have ih := fm_set hC l i x (by simpa using h)
    rw [List.flatMap_cons, List.set_cons_succ, List.flatMap_cons, ← ih]
    have e := fm_len hC l
    have : i < l.length := by simpa using h
    have hi : i * n + n ≤ l.length * n := by
      have := Nat.mul_le_mul_right n (show i + 1 ≤ l.length from this)
      rwa [Nat.succ_mul] at this
    have hs : (i + 1) * n = n + i * n := by rw [Nat.succ_mul]; omega
    rw [setFrom_eq _ _ _ (by rw [List.length_append, hC, hC, e, hs]; omega), setFrom_eq _ _ _ (by rw [hC, e]; omega), hs, hC]
    rw [List.take_append, List.drop_append, hC]
    rw [List.take_of_length_le (by rw [hC]; omega), List.drop_of_length_le (by rw [hC]; omega)]
    rw [show n + i * n - n = i * n by omega, show n + i * n + n - n = i * n + n by omega]
    simp
def codeP (l : List Int) (i : Nat) : Int × Int := if 1 ≤ l.getD i 0 then (l.getD i 0, firstC l (l.getD i 0).toNat + cnt (l.take i) (l.getD i 0).toNat) else (0, 0)
def codesE (l : List Int) : List (Int × Int) := (List.range l.length).map (codeP l)
def codeS (l : List Int) (b i : Nat) : List (Int × Int) := (List.range l.length).map fun j => if 1 ≤ l.getD j 0 ∧ (l.getD j 0 < b ∨ (l.getD j 0 = b ∧ j < i)) then codeP l j else (0, 0)
theorem codeS_len (l : List Int) (b i : Nat) : (codeS l b i).length = l.length := by simp [codeS]
theorem codeS_hit {l : List Int} {b i : Nat} (hi : i < l.length) (hb : 1 ≤ b) (hl : l.getD i 0 = (b : Int)) : (codeS l b i).set i ((b : Int), firstC l b + cnt (l.take i) b) = codeS l b (i + 1) := by
  apply List.ext_getElem?
  intro j
  rw [List.getElem?_set]
  by_cases e : i = j
  · subst e
    rw [if_pos rfl, if_pos (by rw [codeS_len]; exact hi)]
    simp only [codeS, List.getElem?_map, List.getElem?_range hi, Option.map_some]
    rw [if_pos ⟨by omega, .inr ⟨hl, by omega⟩⟩, codeP, if_pos (by omega), hl]; rfl
  · rw [if_neg e]
    simp only [codeS, List.getElem?_map]
    by_cases hj : j < l.length
    · rw [List.getElem?_range hj]
      simp only [Option.map_some]
      exact congrArg some (ite_iff (by omega))
    · rw [List.getElem?_eq_none (by simp; omega)]; rfl
theorem codeS_miss {l : List Int} {b i : Nat} (hl : ¬ l.getD i 0 = (b : Int)) : codeS l b (i + 1) = codeS l b i := by
  unfold codeS
  refine List.map_congr_left fun j hj => ?_
  by_cases e : j = i
  · subst e
    exact ite_iff (by omega)
  · exact ite_iff (by omega)
theorem codeS_next (l : List Int) (b : Nat) : codeS l (b + 1) 0 = codeS l b l.length := by
  unfold codeS
  refine List.map_congr_left fun j hj => ?_
  have hj' : j < l.length := List.mem_range.1 hj
  exact ite_iff (by omega)
theorem codeS_end {l : List Int} (hr : ∀ y ∈ l, 0 ≤ y ∧ y < 16) : codeS l 16 0 = codesE l := by
  unfold codeS codesE
  refine List.map_congr_left fun j hj => ?_
  have hj' : j < l.length := List.mem_range.1 hj
  have hm := hr (l.getD j 0) (by rw [List.getD_eq_getElem?_getD, List.getElem?_eq_getElem hj']; simp)
  by_cases c : 1 ≤ l.getD j 0
  · rw [if_pos ⟨c, .inl (by omega)⟩]
  · rw [if_neg (fun q => c q.1), codeP, if_neg c]
theorem codeS_zero (l : List Int) : codeS l 1 0 = List.replicate l.length (0, 0) := by
  unfold codeS
  have : (List.range l.length).map (fun j => if 1 ≤ l.getD j 0 ∧ (l.getD j 0 < (1 : Nat) ∨ (l.getD j 0 = (1 : Nat) ∧ j < 0)) then codeP l j else ((0 : Int), (0 : Int))) = (List.range l.length).map (fun _ => ((0 : Int), (0 : Int))) := by
    refine List.map_congr_left fun j hj => ?_
    rw [if_neg (by omega)]
  rw [this, List.map_const', List.length_range]
theorem cnt_take_succ {l : List Int} {i : Nat} (hi : i < l.length) (b : Nat) (hb : 1 ≤ b) : cnt (l.take (i + 1)) b = cnt (l.take i) b + if l.getD i 0 = (b : Int) then 1 else 0 := by
  have e : l.take (i + 1) = l.take i ++ [l.getD i 0] := by
    rw [List.take_add_one, List.getElem?_eq_getElem hi, List.getD_eq_getElem?_getD, List.getElem?_eq_getElem hi]; rfl
  rw [e, cnt_snoc]
  congr 1
  by_cases c : l.getD i 0 = (b : Int)
  · rw [if_pos ⟨by omega, c⟩, if_pos c]
  · rw [if_neg (fun q => c q.2), if_neg c]
theorem cs_inner {x : AV} {l : List Int} (hl : l.length < 1000) (h0 : H) (rd : Rd h0 x (ints l)) (id b : Nat) (hid : h0.next ≤ id) (hb1 : 1 ≤ b) (hb : b ≤ 15) : ∀ (m i : Nat) (h : H), i + m = l.length → Ext h0 h → h.floor ≤ id → h.get id = some ((codeS l b i).flatMap pairC) →
    ∃ h', Lp AP.A [0, 5, 6, 7, 8] AP.f34L0 [(0, x), (5, .sobj id 0 l.length 2), (6, .int .i64 (firstC l b + cnt (l.take i) b)), (7, .int .i64 b), (8, .int .i64 i)] h = some (.exit 2, [(0, x), (5, .sobj id 0 l.length 2), (6, .int .i64 (firstC l b + cnt l b)), (7, .int .i64 b), (8, .int .i64 l.length), (30, .bool false)], h') ∧ Ext h0 h' ∧ h'.floor = h.floor ∧ h'.get id = some ((codeS l b l.length).flatMap pairC)
  | 0, i, h, hi, hx, hf, hg => by
    obtain rfl : i = l.length := by omega
    have ln := rd.len
    rw [ints_length] at ln
    simp only [I] at ln
    rw [List.take_length]
    refine ⟨h, Lp_exit ?_, hx, rfl, hg⟩
    simp (disch := omega) only [go_sem, abin_shl, abin_shr, Nat.reduceEqDiff, reduceIte, Nat.reduceAdd, Nat.reduceMul, Nat.reduceLT, Nat.reduceLeDiff, Int.reduceBEq, Int.reduceBNe, Int.reduceLT, Int.reduceLE, Int.reduceEq, qqC, AOp.loud, AOp.births, Int.reduceAdd, Int.reduceSub, Int.reduceMul, Int.reduceNeg, Int.reduceToNat, AP.f34L0, ln]
  | m + 1, i, h, hi, hx, hf, hg => by
    have ln := rd.len
    rw [ints_length] at ln
    simp only [I] at ln
    have hil : i < l.length := by omega
    obtain ⟨ad, a1, a2⟩ := rd.ints_at
    have b1 := a1 i ⟨by omega, by omega⟩
    have lg : l[i]? = some (l.getD i 0) := by rw [List.getD_eq_getElem?_getD, List.getElem?_eq_getElem hil]; rfl
    have b2 := a2 h hx i _ lg
    have n1 : ((i + 1 : Nat) : Int) = (i : Int) + 1 := by omega
    have ct := cnt_take_succ hil b hb1
    have fb := firstC_bd (l := l) (by omega) b
    have pw := pow_le_15 hb
    have cl := cnt_le (l.take i) b
    have tl := List.length_take_le i l
    generalize hy : l.getD i 0 = y at *
    by_cases c : y = (b : Int)
    · have st : stO h id (i * 2) 2 [.int .i64 (b : Int), .int .i64 (firstC l b + cnt (l.take i) b)] (some ((codeS l b i).flatMap pairC)) = some (h.set id ((codeS l b (i + 1)).flatMap pairC)) := by
        rw [stO_d, ← codeS_hit hil hb1 (hy.trans c), ← fm_set pairC_len _ _ _ (by rw [codeS_len]; exact hil)]
        have := fm_len pairC_len (codeS l b i)
        rw [codeS_len] at this
        simp only [this, hf, List.length_cons, List.length_nil, decide_true, AV.allsc, AV.sc, Bool.and_true, Bool.true_and, show i * 2 + 2 ≤ l.length * 2 by omega]
        rfl
      rw [if_pos c] at ct
      have g2 : (h.set id ((codeS l b (i + 1)).flatMap pairC)).get id = some ((codeS l b (i + 1)).flatMap pairC) := by rw [set_hit rfl, hg]; rfl
      obtain ⟨h', r1, r2, r3, r4⟩ := cs_inner hl h0 rd id b hid hb1 hb m (i + 1) _ (by omega) (hx.set hid _) (by simpa using hf) g2
      have e1 : firstC l b + (cnt (l.take i) b : Int) + 1 = firstC l b + (cnt (l.take (i + 1)) b : Nat) := by rw [ct]; omega
      refine ⟨h', Lp_next ?_ r1, r2, by rw [r3]; simp, r4⟩
      rw [← e1, n1]
      subst c
      clear r1 r2 r3 r4 g2 ct e1 hx
      generalize firstC l b = F at *
      generalize cnt (l.take i) b = K at *
      generalize (codeS l b i).flatMap pairC = CS at *
      generalize (codeS l b (i + 1)).flatMap pairC = CS2 at *
      simp (disch := omega) only [go_sem, abin_shl, abin_shr, Nat.reduceEqDiff, reduceIte, Nat.reduceAdd, Nat.reduceMul, Nat.reduceLT, Nat.reduceLeDiff, Int.reduceBEq, Int.reduceBNe, Int.reduceLT, Int.reduceLE, Int.reduceEq, qqC, AOp.loud, AOp.births, Int.reduceAdd, Int.reduceSub, Int.reduceMul, Int.reduceNeg, Int.reduceToNat, AP.f34L0, ln, b1, b2, hg, st]
    · rw [if_neg c, Nat.add_zero] at ct
      obtain ⟨h', r1, r2, r3, r4⟩ := cs_inner hl h0 rd id b hid hb1 hb m (i + 1) h (by omega) hx hf (by rw [codeS_miss (fun q => c (hy.symm.trans q))]; exact hg)
      rw [ct] at r1
      refine ⟨h', Lp_next ?_ r1, r2, r3, r4⟩
      rw [n1]
      generalize firstC l b = F at *
      generalize cnt (l.take i) b = K at *
      simp (disch := omega) only [go_sem, abin_shl, abin_shr, Nat.reduceEqDiff, reduceIte, Nat.reduceAdd, Nat.reduceMul, Nat.reduceLT, Nat.reduceLeDiff, Int.reduceBEq, Int.reduceBNe, Int.reduceLT, Int.reduceLE, Int.reduceEq, qqC, AOp.loud, AOp.births, Int.reduceAdd, Int.reduceSub, Int.reduceMul, Int.reduceNeg, Int.reduceToNat, AP.f34L0, ln, b1, b2]
theorem cs_outer {x : AV} {l : List Int} (hl : l.length < 1000) (h0 : H) (rd : Rd h0 x (ints l)) (id : Nat) (hid : h0.next ≤ id) : ∀ (m b : Nat) (h : H) (F : Int), b + m = 16 → 1 ≤ b → F + F = firstC l b → Ext h0 h → h.floor ≤ id → h.get id = some ((codeS l b 0).flatMap pairC) →
    ∃ e' h', Lp AP.A [0, 5, 6, 7] AP.f34L1 [(0, x), (5, .sobj id 0 l.length 2), (6, .int .i64 F), (7, .int .i64 b)] h = some (.exit 0, e', h') ∧ look e' 5 = .sobj id 0 l.length 2 ∧ h'.floor = h.floor ∧ h'.get id = some ((codeS l 16 0).flatMap pairC)
  | 0, b, h, F, hb, hb1, hF, hx, hf, hg => by
    obtain rfl : b = 16 := by omega
    refine ⟨[(0, x), (5, .sobj id 0 l.length 2), (6, .int .i64 F), (7, .int .i64 16), (22, .bool false)], h, Lp_exit ?_, rfl, rfl, hg⟩
    simp (disch := omega) only [go_sem, abin_shl, abin_shr, Nat.reduceEqDiff, reduceIte, Nat.reduceAdd, Nat.reduceMul, Nat.reduceLT, Nat.reduceLeDiff, Int.reduceBEq, Int.reduceBNe, Int.reduceLT, Int.reduceLE, Int.reduceEq, qqC, AOp.loud, AOp.births, Int.reduceAdd, Int.reduceSub, Int.reduceMul, Int.reduceNeg, Int.reduceToNat, AP.f34L1]
  | m + 1, b, h, F, hb, hb1, hF, hx, hf, hg => by
    obtain ⟨h1, q1, q2, q3, q4⟩ := cs_inner hl h0 rd id b hid hb1 (by omega) l.length 0 h (by omega) hx hf hg
    rw [← codeS_next] at q4
    have c0 : cnt (l.take 0) b = 0 := by rw [List.take_zero]; exact cnt_nil b
    rw [c0] at q1
    have fb := firstC_bd (l := l) (by omega) b
    have pw := pow_le_15 (m := b) (by omega)
    have q1' : Lp AP.A [0, 5, 6, 7, 8] AP.f34L0 [(0, x), (5, .sobj id 0 l.length 2), (6, .int .i64 (firstC l b)), (7, .int .i64 b), (8, .int .i64 0)] h = some (.exit 2, [(0, x), (5, .sobj id 0 l.length 2), (6, .int .i64 (firstC l b + cnt l b)), (7, .int .i64 b), (8, .int .i64 l.length), (30, .bool false)], h1) := by
      have e : (firstC l b + ((0 : Nat) : Int)) = firstC l b := by omega
      rw [e] at q1; exact q1
    obtain ⟨e', h', r1, r2, r3, r4⟩ := cs_outer hl h0 rd id hid m (b + 1) h1 (firstC l b + cnt l b) (by omega) (by omega) (by rw [firstC]; omega) q2 (by omega) q4
    have n1 : ((b + 1 : Nat) : Int) = (b : Int) + 1 := by omega
    have n2 : 2 * F = firstC l b := by omega
    have hFb : 0 ≤ F ∧ F < 100000000000 := by omega
    refine ⟨e', h', Lp_next ?_ r1, r2, by omega, r4⟩
    rw [n1]
    clear q1 r1 r2 r3 r4 q4 hx rd
    generalize firstC l b = G at *
    simp (disch := omega) only [go_sem, abin_shl, abin_shr, Nat.reduceEqDiff, reduceIte, Nat.reduceAdd, Nat.reduceMul, Nat.reduceLT, Nat.reduceLeDiff, Int.reduceBEq, Int.reduceBNe, Int.reduceLT, Int.reduceLE, Int.reduceEq, qqC, AOp.loud, AOp.births, Int.reduceAdd, Int.reduceSub, Int.reduceMul, Int.reduceNeg, Int.reduceToNat, AP.f34L1, n2, evC_loop, q1']
theorem pairs_ints : ∀ E : List (Int × Int), E.flatMap pairC = ints (E.flatMap fun p => [p.1, p.2])
  | [] => rfl
  | p :: E => by rw [List.flatMap_cons, List.flatMap_cons, ints_append, pairs_ints E]; rfl
theorem replM_pairs : ∀ n, replM n [.int .i64 0, .int .i64 0] = (List.replicate n ((0 : Int), (0 : Int))).flatMap pairC
  | 0 => rfl
  | n + 1 => by
    have := replM_pairs n
    unfold replM at *
    rw [repl, this, List.replicate_succ, List.flatMap_cons]; rfl
def codesV (l : List Int) : AV := slN 2 l.length ((codesE l).flatMap pairC)
theorem codes_c (h : H) (x : AV) (l : List Int) (h1 : 1 ≤ l.length) (hl : l.length < 1000) (rd : Rd h x (ints l)) (hc : checkS l = 0 ∨ checkS l = 302) : callW AP.A 34 [x] h = some (.tup [codesV l, .int .i64 0], h) := by
  have k := check2_c h.fence x l (by omega) (rd.mono (get_fence_mono h))
  simp only [I] at k
  have hr : ∀ y ∈ l, 0 ≤ y ∧ y < 16 := by
    refine may_range ?_
    unfold checkS at hc
    by_cases q : mayS l = false
    · rw [if_pos q] at hc; omega
    · simpa using q
  have rd1 : Rd h.fence x (ints l) := rd.mono (get_fence_mono h)
  obtain ⟨g, eg⟩ : ∃ g, g = h.fence.alloc (replM l.length [.int .i64 0, .int .i64 0]) := ⟨_, rfl⟩
  have hn : h.fence.next = h.next := rfl
  have ex : Ext h.fence g := by rw [eg]; exact (Ext.refl _).alloc _
  have gg : g.get h.next = some ((codeS l 1 0).flatMap pairC) := by rw [eg, get_hit (by simp), replM_pairs, codeS_zero]
  obtain ⟨e', h', r1, r2, r3, r4⟩ := cs_outer hl h.fence rd1 h.next (by simp) 15 1 g 0 (by omega) (by omega) (by simp [firstC, cnt]) ex (by rw [eg]; simp) gg
  have r1' : Lp AP.A [0, 5, 6, 7] AP.f34L1 [(0, x), (5, .sobj h.next 0 l.length 2), (6, .int .i64 0), (7, .int .i64 1)] g = some (.exit 0, e', h') := r1
  have ln := rd.len
  rw [ints_length] at ln
  simp only [I] at ln
  rw [codeS_end hr] at r4
  have ce : (codesE l).length = l.length := by simp [codesE]
  have ow : OwnN 2 h' (.sobj h.next 0 l.length 2) l.length ((codesE l).flatMap pairC) := ⟨by rw [fm_len pairC_len, ce], .inr ⟨h.next, rfl, r4, by rw [r3, eg]; simp, by omega⟩⟩
  have kk : (¬ checkS l = 0 ∧ ¬ checkS l = 302) = False := by simp; omega
  refine pure_c (fn := AP.f34) (h2 := h') (e := [(2, .sobj h.next 0 l.length 2), (3, .int .i64 0)]) (vs := [.sobj h.next 0 l.length 2, .int .i64 0]) rfl rfl rfl ?_ rfl ?_
  · clear r1 r4 ow rd rd1 hr kk gg ex
    rcases hc with q | q
    · rw [q] at k
      simp (disch := omega) only [go_sem, abin_shl, abin_shr, Nat.reduceEqDiff, reduceIte, Nat.reduceAdd, Nat.reduceMul, Nat.reduceLT, Nat.reduceLeDiff, Int.reduceBEq, Int.reduceBNe, Int.reduceLT, Int.reduceLE, Int.reduceEq, qqC, AOp.loud, AOp.births, Int.reduceAdd, Int.reduceSub, Int.reduceMul, Int.reduceNeg, Int.reduceToNat, AP.f34, k, ln, ← eg, hn, evC_loop, r1', r2]
    · rw [q] at k
      simp (disch := omega) only [go_sem, abin_shl, abin_shr, Nat.reduceEqDiff, reduceIte, Nat.reduceAdd, Nat.reduceMul, Nat.reduceLT, Nat.reduceLeDiff, Int.reduceBEq, Int.reduceBNe, Int.reduceLT, Int.reduceLE, Int.reduceEq, qqC, AOp.loud, AOp.births, Int.reduceAdd, Int.reduceSub, Int.reduceMul, Int.reduceNeg, Int.reduceToNat, AP.f34, k, ln, ← eg, hn, evC_loop, r1', r2]
  · have o' := ow
    rw [pairs_ints] at o'
    have s1 := o'.snap_ints (fl := h.next) (m := 13) (t := true) (by rw [r3, eg]; simp)
    show (mapO (snap h'.get h.next 15 true) [.sobj h.next 0 l.length 2, .int .i64 0]).bind _ = _
    simp only [mapO, s1, Option.bind_some]
    rw [← pairs_ints]; rfl
def upToA (l : List Int) (least : Nat) : Nat → Nat
  | 0 => least
  | i + 1 => if i + 1 ≤ least then least else if 0 < l.getD i 0 then i + 1 else upToA l least i
theorem upto_loop {x : AV} {l : List Int} (hl : l.length < 1000) (h : H) (rd : Rd h x (ints l)) (k : Nat) (hk : k < 1000) : ∀ i : Nat, i ≤ l.length →
    (∃ e', Lp AP.A [0, 1, 5] AP.f31L0 [(0, x), (1, .int .i64 k), (5, .int .i64 i)] h = some (.exit 0, e', h) ∧ look e' 1 = .int .i64 k ∧ upToA l k i = k) ∨
    Lp AP.A [0, 1, 5] AP.f31L0 [(0, x), (1, .int .i64 k), (5, .int .i64 i)] h = some (.ret, [(4, .int .i64 (upToA l k i : Nat))], h)
  | 0, hi => by
    refine .inl ⟨[(0, x), (1, .int .i64 k), (5, .int .i64 0), (10, .bool false)], Lp_exit ?_, rfl, rfl⟩
    simp (disch := omega) only [go_sem, abin_shl, abin_shr, Nat.reduceEqDiff, reduceIte, Nat.reduceAdd, Nat.reduceMul, Nat.reduceLT, Nat.reduceLeDiff, Int.reduceBEq, Int.reduceBNe, Int.reduceLT, Int.reduceLE, Int.reduceEq, qqC, AOp.loud, AOp.births, Int.reduceAdd, Int.reduceSub, Int.reduceMul, Int.reduceNeg, Int.reduceToNat, AP.f31L0]
  | i + 1, hi => by
    by_cases c : i + 1 ≤ k
    · refine .inl ⟨[(0, x), (1, .int .i64 k), (5, .int .i64 (i + 1 : Nat)), (10, .bool false)], Lp_exit ?_, rfl, by rw [upToA, if_pos c]⟩
      simp (disch := omega) only [go_sem, abin_shl, abin_shr, Nat.reduceEqDiff, reduceIte, Nat.reduceAdd, Nat.reduceMul, Nat.reduceLT, Nat.reduceLeDiff, Int.reduceBEq, Int.reduceBNe, Int.reduceLT, Int.reduceLE, Int.reduceEq, qqC, AOp.loud, AOp.births, Int.reduceAdd, Int.reduceSub, Int.reduceMul, Int.reduceNeg, Int.reduceToNat, AP.f31L0]
    · obtain ⟨ad, a1, a2⟩ := rd.ints_at
      have b1 := a1 i ⟨by omega, by omega⟩
      have lg : l[i]? = some (l.getD i 0) := by rw [List.getD_eq_getElem?_getD, List.getElem?_eq_getElem (by omega)]; rfl
      have b2 := a2 h (Ext.refl h) i _ lg
      have n1 : ((i + 1 : Nat) : Int) - 1 = (i : Int) := by omega
      rw [upToA, if_neg c]
      generalize hy : l.getD i 0 = y at *
      by_cases c2 : 0 < y
      · rw [if_pos c2]
        refine .inr (Lp_ret ?_)
        simp (disch := omega) only [go_sem, abin_shl, abin_shr, Nat.reduceEqDiff, reduceIte, Nat.reduceAdd, Nat.reduceMul, Nat.reduceLT, Nat.reduceLeDiff, Int.reduceBEq, Int.reduceBNe, Int.reduceLT, Int.reduceLE, Int.reduceEq, qqC, AOp.loud, AOp.births, Int.reduceAdd, Int.reduceSub, Int.reduceMul, Int.reduceNeg, Int.reduceToNat, AP.f31L0, n1, b1, b2]
      · rw [if_neg c2]
        have step : evC (callW AP.A) loopW AP.f31L0 (restr [(0, x), (1, .int .i64 k), (5, .int .i64 (i + 1 : Nat))] [0, 1, 5]) h = some (.normal, [(0, x), (1, .int .i64 k), (5, .int .i64 i)], h) := by
          simp (disch := omega) only [go_sem, abin_shl, abin_shr, Nat.reduceEqDiff, reduceIte, Nat.reduceAdd, Nat.reduceMul, Nat.reduceLT, Nat.reduceLeDiff, Int.reduceBEq, Int.reduceBNe, Int.reduceLT, Int.reduceLE, Int.reduceEq, qqC, AOp.loud, AOp.births, Int.reduceAdd, Int.reduceSub, Int.reduceMul, Int.reduceNeg, Int.reduceToNat, AP.f31L0, n1, b1, b2]
        rcases upto_loop hl h rd k hk i (by omega) with ⟨e', r1, r2, r3⟩ | r1
        · exact .inl ⟨e', Lp_next step r1, r2, r3⟩
        · exact .inr (Lp_next step r1)
theorem upto_c (h : H) (x : AV) (l : List Int) (hl : l.length < 1000) (rd : Rd h x (ints l)) (k : Nat) (hk : k < 1000) : callW AP.A 31 [x, .int .i64 k] h = some (.int .i64 (upToA l k l.length : Nat), h) := by
  have ln := rd.len
  rw [ints_length] at ln
  simp only [I] at ln
  have rd1 : Rd h.fence x (ints l) := rd.mono (get_fence_mono h)
  rcases upto_loop hl h.fence rd1 k hk l.length (Nat.le_refl _) with ⟨e', r1, r2, r3⟩ | r1
  · rw [r3]
    refine pure_c (fn := AP.f31) (h2 := h.fence) (e := [(4, .int .i64 k)]) rfl rfl rfl ?_ rfl rfl
    simp (disch := omega) only [go_sem, abin_shl, abin_shr, Nat.reduceEqDiff, reduceIte, Nat.reduceAdd, Nat.reduceMul, Nat.reduceLT, Nat.reduceLeDiff, Int.reduceBEq, Int.reduceBNe, Int.reduceLT, Int.reduceLE, Int.reduceEq, qqC, AOp.loud, AOp.births, Int.reduceAdd, Int.reduceSub, Int.reduceMul, Int.reduceNeg, Int.reduceToNat, AP.f31, ln, evC_loop, r1, r2]
  · refine pure_c (fn := AP.f31) (h2 := h.fence) (e := [(4, .int .i64 (upToA l k l.length : Nat))]) rfl rfl rfl ?_ rfl rfl
    generalize upToA l k l.length = U at *
    simp (disch := omega) only [go_sem, abin_shl, abin_shr, Nat.reduceEqDiff, reduceIte, Nat.reduceAdd, Nat.reduceMul, Nat.reduceLT, Nat.reduceLeDiff, Int.reduceBEq, Int.reduceBNe, Int.reduceLT, Int.reduceLE, Int.reduceEq, qqC, AOp.loud, AOp.births, Int.reduceAdd, Int.reduceSub, Int.reduceMul, Int.reduceNeg, Int.reduceToNat, AP.f31, ln, evC_loop, r1]
end Ab
set_option linter.unusedSimpArgs false
set_option linter.unusedVariables false
set_option maxRecDepth 100000
namespace Ab
open Go
structure WX (h0 h : H) (w : Nat) (bs : List Nat) (ov : AV) : Prop where
  wr : Wr h w bs ov
  ext : Ext h0 h
  lw : h0.next ≤ w
  ln : h0.next ≤ h.next
  lo : ∀ j, ov.id? = some j → h0.next ≤ j
theorem WX.step {h0 h h' : H} {w : Nat} {bs bs' : List Nat} {ov ov' : AV} (x : WX h0 h w bs ov) (wr : Wr h' w bs' ov') (f : FrW h w ov h' ov') : WX h0 h' w bs' ov' :=
  ⟨wr, fun i c hi => by
    have := h0.lt _ _ hi
    have := x.ln
    have := x.lw
    rw [f.keep i (by omega) (by omega) (fun q => by have := x.lo i q; omega), x.ext i c hi], x.lw, by have := f.next; have := x.ln; omega, fun j hj => by
    rcases f.ids j hj with q | q
    · exact x.lo j q
    · have := x.ln; omega⟩
theorem WX.turn {h0 h h' : H} {w : Nat} {bs : List Nat} {ov : AV} (x : WX h0 h w bs ov) (hf : h'.floor = h.floor) (hn : h.next ≤ h'.next) (hk : ∀ i, i < h.next → h'.get i = h.get i) : WX h0 h' w bs ov :=
  ⟨⟨by rw [hk w (h.lt _ _ x.wr.get), x.wr.get], x.wr.own.mono hf fun i q => hk i (x.wr.own.lt q).2, by rw [hf]; exact x.wr.fl, by rw [hf]; exact Nat.le_trans x.wr.flx hn, x.wr.ne, x.wr.byt⟩,
    fun i c hi => by have := h0.lt _ _ hi; have := x.ln; rw [hk i (by omega), x.ext i c hi], x.lw, Nat.le_trans x.ln hn, x.lo⟩
def okC (E : List (Int × Int)) (s : Nat) : Prop := ∃ n v : Nat, E[s]? = some ((n : Int), (v : Int)) ∧ 1 ≤ n ∧ n ≤ 15 ∧ v < 2 ^ n
def codeBits (E : List (Int × Int)) (s : Nat) : List Nat := codeB (E.getD s (0, 0)).2.toNat (E.getD s (0, 0)).1.toNat
theorem okC.bits {E : List (Int × Int)} {s : Nat} (o : okC E s) : ∃ n v : Nat, E[s]? = some ((n : Int), (v : Int)) ∧ 1 ≤ n ∧ n ≤ 15 ∧ v < 2 ^ n ∧ codeBits E s = codeB v n := by
  obtain ⟨n, v, h, h1, h2, h3⟩ := o
  refine ⟨n, v, h, h1, h2, h3, ?_⟩
  unfold codeBits
  rw [List.getD_eq_getElem?_getD, h]; rfl
theorem okC.lt {E : List (Int × Int)} {s : Nat} (o : okC E s) : s < E.length := by
  obtain ⟨n, v, h, _⟩ := o
  exact (List.getElem?_eq_some_iff.1 h).1
theorem RdN.pairs {h : H} {v : AV} {E : List (Int × Int)} (r : RdN 2 h v E.length (E.flatMap pairC)) : ∃ ad : Int → AV,
    (∀ i : Int, 0 ≤ i ∧ i < E.length → aiadr 2 v (.int .i64 i) = some (ad i)) ∧
    ∀ g : H, Ext h g → ∀ (i : Nat) (p : Int × Int), E[i]? = some p → aload true 2 (ad i) g = some (.agg [.int .i64 p.1, .int .i64 p.2]) := by
  obtain ⟨ad, a1, a2, _, a3⟩ := r.at_
  refine ⟨fun i => ad i 0, a1, fun g hg i t ht => ?_⟩
  obtain ⟨b1, b2⟩ := a3 g hg
  have hi : i < E.length := (List.getElem?_eq_some_iff.1 ht).1
  have hI : (0 : Int) ≤ (i : Int) ∧ (i : Int) < E.length := ⟨by omega, by omega⟩
  have ti : ((i : Int)).toNat = i := by omega
  rw [b2 i hI, ti, fm_take pairC_len ht]; rfl
def tokBits (E D : List (Int × Int)) (t : Tok) : List Nat :=
  if t.len = 0 then codeBits E t.lit.toNat
  else codeBits E (lsym t.len.toNat) ++ (putB (lval t.len.toNat) (lbit t.len.toNat) ++ (codeBits D (dsym t.dist.toNat) ++ putB (dval t.dist.toNat) (dbit t.dist.toNat)))
def toksB (E D : List (Int × Int)) (ts : List Tok) : List Nat := ts.flatMap (tokBits E D)
def okT (E D : List (Int × Int)) (t : Tok) : Prop :=
  (t.len = 0 ∧ 0 ≤ t.lit ∧ okC E t.lit.toNat) ∨ (3 ≤ t.len ∧ t.len ≤ 258 ∧ 1 ≤ t.dist ∧ t.dist ≤ 32768 ∧ okC E (lsym t.len.toNat) ∧ okC D (dsym t.dist.toNat))
theorem lbit_bd {k : Nat} (h1 : 3 ≤ k) (h2 : k ≤ 258) : lbit k ≤ 5 ∧ lval k < 2 ^ lbit k := by
  obtain ⟨a1, a2, a3, a4⟩ := lsym_spec h1 h2
  obtain ⟨a, b, hab⟩ := lenOf_some a1 a2
  have := lenOf_bd hab
  refine ⟨by unfold lbit; rw [hab]; show b ≤ 5; omega, ?_⟩
  unfold lval lbit; omega
theorem dbit_bd {k : Nat} (h1 : 1 ≤ k) (h2 : k ≤ 32768) : dbit k ≤ 13 ∧ dval k < 2 ^ dbit k := by
  obtain ⟨a2, a3, a4⟩ := dsym_spec h1 h2
  obtain ⟨a, b, hab⟩ := distOf_some a2
  have := distOf_bd hab
  refine ⟨by unfold dbit; rw [hab]; show b ≤ 13; omega, ?_⟩
  unfold dval dbit; omega
theorem tokBits_len {E D : List (Int × Int)} {t : Tok} (o : okT E D t) : (tokBits E D t).length ≤ 48 := by
  rcases o with ⟨h1, h2, h3⟩ | ⟨h1, h2, h3, h4, h5, h6⟩
  · obtain ⟨n, v, _, q1, q2, q3, q4⟩ := h3.bits
    rw [tokBits, if_pos h1, q4, codeB_len]; omega
  · obtain ⟨n, v, _, q1, q2, q3, q4⟩ := h5.bits
    obtain ⟨n', v', _, q1', q2', q3', q4'⟩ := h6.bits
    have l := lbit_bd (k := t.len.toNat) (by omega) (by omega)
    have d := dbit_bd (k := t.dist.toNat) (by omega) (by omega)
    rw [tokBits, if_neg (by omega), q4, q4']
    simp only [List.length_append, codeB_len, putB, putF_len]; omega
theorem tput_step {v lv dv : AV} {ts : List Tok} {E D : List (Int × Int)} (hn : ts.length < 1000000) (h0 : H) (rd : RdN 3 h0 v ts.length (toksC ts)) (rl : RdN 2 h0 lv E.length (E.flatMap pairC)) (rx : RdN 2 h0 dv D.length (D.flatMap pairC)) (w i : Nat) (t : Tok) (ht : ts[i]? = some t) (o : okT E D t) (h : H) (bs : List Nat) (ov : AV) (x : WX h0 h w bs ov) (hb : bs.length + 48 ≤ 65000) :
    ∃ h' ov', evC (callW AP.A) loopW AP.f36L0 (restr [(0, .pobj w 0), (1, v), (2, lv), (3, dv), (8, .int .i64 i)] [0, 1, 2, 3, 8]) h = some (.normal, [(0, .pobj w 0), (1, v), (2, lv), (3, dv), (8, .int .i64 (i + 1 : Nat))], h') ∧ WX h0 h' w (bs ++ tokBits E D t) ov' := by
  have ln := rd.len
  obtain ⟨ad, a1, a2, a3⟩ := rd.toks
  have hi : i < ts.length := (List.getElem?_eq_some_iff.1 ht).1
  have hI : (0 : Int) ≤ (i : Int) ∧ (i : Int) < ts.length := ⟨by omega, by omega⟩
  have b1 := a1 _ hI
  have b2 := a2 i 0 1 hI
  have b20 := a2 i 0 0 hI
  have b22 := a2 i 0 2 hI
  obtain ⟨b3, b4, b5, _⟩ := a3 h x.ext _ _ ht
  obtain ⟨le, l1, l2⟩ := rl.pairs
  have n1 : ((i + 1 : Nat) : Int) = (i : Int) + 1 := by omega
  rcases o with ⟨c0, h2, h3⟩ | ⟨h1, h2, h3, h4, h5, h6⟩
  · obtain ⟨y, hy⟩ : ∃ y : Nat, t.lit = y := Int.eq_ofNat_of_zero_le h2
    have yt : t.lit.toNat = y := by omega
    have yl := h3.lt
    obtain ⟨n, c, q0, q1, q2, q3, q4⟩ := h3.bits
    rw [yt] at q0 q4 yl
    have e1 := l1 y ⟨by omega, by omega⟩
    have e2 := l2 h x.ext _ _ q0
    obtain ⟨h', ov', k1, k2, k3⟩ := wcode_c x.wr c n q1 q2 q3 (by omega)
    rw [hy] at b3
    rw [c0] at b4
    refine ⟨h', ov', ?_, ?_⟩
    · rw [n1]
      clear rd rl rx a1 a2 a3 l1 l2 x k2 k3 q4 b5 h3 ht q3
      simp (disch := omega) only [go_sem, abin_shl, abin_shr, Nat.reduceEqDiff, reduceIte, Nat.reduceAdd, Nat.reduceMul, Nat.reduceLT, Nat.reduceLeDiff, Int.reduceBEq, Int.reduceBNe, Int.reduceLT, Int.reduceLE, Int.reduceEq, qqC, AOp.loud, AOp.births, Int.reduceAdd, Int.reduceSub, Int.reduceMul, Int.reduceNeg, Int.reduceToNat, AP.f36L0, ln, b1, b2, b20, b3, b4, e1, e2, k1]
    · rw [tokBits, if_pos c0, yt, q4]
      exact x.step k2 k3
  · obtain ⟨L, hL⟩ : ∃ y : Nat, t.len = y := Int.eq_ofNat_of_zero_le (by omega)
    obtain ⟨K, hK⟩ : ∃ y : Nat, t.dist = y := Int.eq_ofNat_of_zero_le (by omega)
    have Lt : t.len.toNat = L := by omega
    have Kt : t.dist.toNat = K := by omega
    rw [Lt] at h5
    rw [Kt] at h6
    have lb := lbit_bd (k := L) (by omega) (by omega)
    have db := dbit_bd (k := K) (by omega) (by omega)
    obtain ⟨de, d1, d2⟩ := rx.pairs
    have ll := h5.lt
    have dl := h6.lt
    obtain ⟨n, c, q0, q1, q2, q3, q4⟩ := h5.bits
    obtain ⟨n', c', p0, p1, p2, p3, p4⟩ := h6.bits
    have kl : ∀ g : H, callW AP.A 28 [.int .i64 L] g = _ := fun g => length_c g L (by omega) (by omega)
    have kd : ∀ g : H, callW AP.A 29 [.int .i64 K] g = _ := fun g => dist_c g K (by omega) (by omega)
    have e1 := l1 (lsym L) ⟨by omega, by omega⟩
    have f1 := d1 (dsym K) ⟨by omega, by omega⟩
    obtain ⟨h1', eh1⟩ : ∃ g, g = (h.alloc [.int .i64 0, .int .i64 0, .int .i64 0]).set h.next [.int .i64 (lsym L : Nat), .int .i64 (lbit L : Nat), .int .i64 (lval L : Nat)] := ⟨_, rfl⟩
    have x1 : WX h0 h1' w bs ov := x.turn (by rw [eh1]; simp) (by rw [eh1]; simp) fun j hj => by rw [eh1, set_miss (by omega), get_miss (by omega)]
    have g1 : h1'.get h.next = some [.int .i64 (lsym L : Nat), .int .i64 (lbit L : Nat), .int .i64 (lval L : Nat)] := by rw [eh1, set_hit rfl, get_hit rfl]; rfl
    have nx1 : h1'.next = h.next + 1 := by rw [eh1]; simp
    have e2 := l2 h1' x1.ext _ _ q0
    obtain ⟨h2', o2, k1, k2, k3⟩ := wcode_c x1.wr c n q1 q2 q3 (by omega)
    have x2 := x1.step k2 k3
    have hw := h.lt _ _ x.wr.get
    have hon : ov.id? ≠ some h.next := fun q => by have := (x.wr.own.lt q).2; omega
    have g2 : h2'.get h.next = _ := (k3.keep h.next (by omega) (by omega) hon).trans g1
    obtain ⟨h3', o3, k4, k5, k6⟩ := wput_c x2.wr (lval L) (lbit L) (by omega) lb.2 (by simp [codeB_len]; omega)
    have x3 := x2.step k5 k6
    have nx3 : h1'.next ≤ h3'.next := Nat.le_trans k3.next k6.next
    obtain ⟨_, _, b5', _⟩ := a3 h3' x3.ext _ _ ht
    obtain ⟨h4, eh4⟩ : ∃ g, g = (h3'.alloc [.int .i64 0, .int .i64 0, .int .i64 0]).set h3'.next [.int .i64 (dsym K : Nat), .int .i64 (dbit K : Nat), .int .i64 (dval K : Nat)] := ⟨_, rfl⟩
    have x4 : WX h0 h4 w _ o3 := x3.turn (h' := h4) (by rw [eh4]; simp) (by rw [eh4]; simp) fun j hj => by rw [eh4, set_miss (by omega), get_miss (by omega)]
    have g4 : h4.get h3'.next = some [.int .i64 (dsym K : Nat), .int .i64 (dbit K : Nat), .int .i64 (dval K : Nat)] := by rw [eh4, set_hit rfl, get_hit rfl]; rfl
    have f2 := d2 h4 x4.ext _ _ p0
    obtain ⟨h5', o5, m1, m2, m3⟩ := wcode_c x4.wr c' n' p1 p2 p3 (by simp [codeB_len, putB, putF_len]; omega)
    have x5 := x4.step m2 m3
    have hw3 := h3'.lt _ _ x3.wr.get
    have hon3 : o3.id? ≠ some h3'.next := fun q => by have := (x3.wr.own.lt q).2; omega
    have g5 : h5'.get h3'.next = _ := (m3.keep h3'.next (by rw [eh4]; simp) (by omega) hon3).trans g4
    obtain ⟨h6', o6, m4, m5, m6⟩ := wput_c x5.wr (dval K) (dbit K) (by omega) db.2 (by simp [codeB_len, putB, putF_len]; omega)
    have x6 := x5.step m5 m6
    rw [hL] at b4
    rw [hK] at b5'
    have fl1 : h.floor ≤ h.next := x.wr.flx
    have fl3 : h3'.floor ≤ h3'.next := x3.wr.flx
    have cL : ¬ (L : Int) = 0 := by omega
    refine ⟨h6', o6, ?_, ?_⟩
    · rw [n1]
      clear rd rl rx a1 a2 a3 l1 l2 d1 d2 x x1 x2 x3 x4 x5 x6 k2 k3 k5 k6 m2 m3 m5 m6 q4 p4 b5 h5 h6 ht b3 hon hon3 lb db p3 q3 hI hb
      generalize lsym L = S at *
      generalize lbit L = B at *
      generalize lval L = V at *
      generalize dsym K = S' at *
      generalize dbit K = B' at *
      generalize dval K = V' at *
      simp (disch := omega) only [go_sem, abin_shl, abin_shr, Nat.reduceEqDiff, reduceIte, Nat.reduceAdd, Nat.reduceMul, Nat.reduceLT, Nat.reduceLeDiff, Int.reduceBEq, Int.reduceBNe, Int.reduceLT, Int.reduceLE, Int.reduceEq, qqC, AOp.loud, AOp.births, Int.reduceAdd, Int.reduceSub, Int.reduceMul, Int.reduceNeg, Int.reduceToNat, AP.f36L0, ln, b1, b2, b22, b4, b5', e1, e2, f1, f2, kl, kd, cL, ← eh1, ← eh4, g1, g2, g4, g5, k1, k4, m1, m4]
    · rw [tokBits, if_neg (by omega), Lt, Kt, q4, p4]
      rw [List.append_assoc, List.append_assoc, List.append_assoc] at x6
      exact x6
theorem toksB_len {E D : List (Int × Int)} : ∀ {ts : List Tok}, (∀ t ∈ ts, okT E D t) → (toksB E D ts).length ≤ 48 * ts.length
  | [], _ => by simp [toksB]
  | t :: ts, h => by
    have a := tokBits_len (h t (by simp))
    have b := toksB_len (E := E) (D := D) (ts := ts) fun u hu => h u (by simp [hu])
    unfold toksB at *
    simp only [List.flatMap_cons, List.length_append, List.length_cons]; omega
theorem tput_loop {v lv dv : AV} {ts : List Tok} {E D : List (Int × Int)} (hn : ts.length < 1000000) (h0 : H) (rd : RdN 3 h0 v ts.length (toksC ts)) (rl : RdN 2 h0 lv E.length (E.flatMap pairC)) (rx : RdN 2 h0 dv D.length (D.flatMap pairC)) (ok : ∀ t ∈ ts, okT E D t) (w : Nat) : ∀ (q p : List Tok) (bs : List Nat) (h : H) (ov : AV), ts = p ++ q → WX h0 h w bs ov → bs.length + 48 * q.length ≤ 65000 →
    ∃ e' h' ov', Lp AP.A [0, 1, 2, 3, 8] AP.f36L0 [(0, .pobj w 0), (1, v), (2, lv), (3, dv), (8, .int .i64 p.length)] h = some (.exit 0, e', h') ∧ look e' 0 = .pobj w 0 ∧ look e' 2 = lv ∧ WX h0 h' w (bs ++ toksB E D q) ov'
  | [], p, bs, h, ov, hp, x, hb => by
    rw [List.append_nil] at hp; subst hp
    have ln := rd.len
    refine ⟨[(0, .pobj w 0), (1, v), (2, lv), (3, dv), (8, .int .i64 ts.length), (16, .bool false)], h, ov, Lp_exit ?_, rfl, rfl, by simpa [toksB] using x⟩
    simp (disch := omega) only [go_sem, abin_shl, abin_shr, Nat.reduceEqDiff, reduceIte, Nat.reduceAdd, Nat.reduceMul, Nat.reduceLT, Nat.reduceLeDiff, Int.reduceBEq, Int.reduceBNe, Int.reduceLT, Int.reduceLE, Int.reduceEq, qqC, AOp.loud, AOp.births, Int.reduceAdd, Int.reduceSub, Int.reduceMul, Int.reduceNeg, Int.reduceToNat, AP.f36L0, ln]
  | t :: q, p, bs, h, ov, hp, x, hb => by
    have ht : ts[p.length]? = some t := by rw [hp]; simp
    have o := ok t (List.mem_of_getElem? ht)
    have tl := tokBits_len o
    simp only [List.length_cons] at hb
    obtain ⟨h1, o1, s1, x1⟩ := tput_step hn h0 rd rl rx w p.length t ht o h bs ov x (by omega)
    have hlen : (((p ++ [t]).length : Nat) : Int) = ((p.length + 1 : Nat) : Int) := by simp
    obtain ⟨e', h', ov', r1, r2, r3, r4⟩ := tput_loop hn h0 rd rl rx ok w q (p ++ [t]) _ h1 o1 (by rw [hp]; simp) x1 (by simp; omega)
    rw [hlen] at r1
    refine ⟨e', h', ov', Lp_next s1 r1, r2, r3, ?_⟩
    have e : bs ++ toksB E D (t :: q) = bs ++ tokBits E D t ++ toksB E D q := by unfold toksB; rw [List.flatMap_cons, List.append_assoc]
    rw [e]; exact r4
theorem tput_c {v lv dv : AV} {ts : List Tok} {E D : List (Int × Int)} (hn : ts.length < 1000000) (h0 : H) (rd : RdN 3 h0 v ts.length (toksC ts)) (rl : RdN 2 h0 lv E.length (E.flatMap pairC)) (rx : RdN 2 h0 dv D.length (D.flatMap pairC)) (ok : ∀ t ∈ ts, okT E D t) (o256 : okC E 256) (w : Nat) (bs : List Nat) (h : H) (ov : AV) (x : WX h0 h w bs ov) (hb : bs.length + 48 * ts.length ≤ 65000) :
    ∃ h' ov', callW AP.A 36 [.pobj w 0, v, lv, dv] h = some (.tup [], h') ∧ WX h0 h' w (bs ++ (toksB E D ts ++ codeBits E 256)) ov' := by
  obtain ⟨e', h1, o1, r1, r2, r3, x1⟩ := tput_loop hn h0 rd rl rx ok w ts [] bs h ov rfl x hb
  have r1' : Lp AP.A [0, 1, 2, 3, 8] AP.f36L0 [(0, .pobj w 0), (1, v), (2, lv), (3, dv), (8, .int .i64 0)] h = some (.exit 0, e', h1) := r1
  obtain ⟨n, c, q0, q1, q2, q3, q4⟩ := o256.bits
  obtain ⟨le, l1, l2⟩ := rl.pairs
  have ll := o256.lt
  have e1 := l1 256 ⟨by omega, by omega⟩
  have e2 : aload true 2 (le 256) h1 = _ := l2 h1 x1.ext _ _ q0
  have tb := toksB_len ok
  obtain ⟨h', ov', k1, k2, k3⟩ := wcode_c x1.wr c n q1 q2 q3 (by rw [List.length_append]; omega)
  have x2 := x1.step k2 k3
  rw [← q4, List.append_assoc] at x2
  obtain ⟨e2', he⟩ : ∃ e2', evC (callW AP.A) loopW AP.f36.body (params 0 [.pobj w 0, v, lv, dv]) h = some (.normal, e2', h') := by
    clear rd rl rx x x1 k2 k3 x2 q4 l1 l2 ok o256 r1
    refine ⟨?_, ?_⟩
    rotate_left
    · simp (disch := omega) only [go_sem, abin_shl, abin_shr, Nat.reduceEqDiff, reduceIte, Nat.reduceAdd, Nat.reduceMul, Nat.reduceLT, Nat.reduceLeDiff, Int.reduceBEq, Int.reduceBNe, Int.reduceLT, Int.reduceLE, Int.reduceEq, qqC, AOp.loud, AOp.births, Int.reduceAdd, Int.reduceSub, Int.reduceMul, Int.reduceNeg, Int.reduceToNat, AP.f36, evC_loop, r1', r2, r3, e1, e2, k1]
      rfl
  exact ⟨h', ov', plain_n (fn := AP.f36) (e := e2') (vs := []) rfl rfl rfl he rfl, x2⟩
end Ab
set_option linter.unusedSimpArgs false
set_option linter.unusedVariables false
set_option maxRecDepth 100000
namespace Ab
open Go
structure Ro (h : H) (f : Nat) (vs : List AV) (cs : List (List AV)) : Prop where
  get : h.get f = some vs
  own : ∀ (i : Nat) (v : AV) (c : List AV), vs[i]? = some v → cs[i]? = some c → OwnN 1 h v c.length c
  len : vs.length = cs.length
  ne : ∀ (i : Nat) (v : AV), vs[i]? = some v → v.id? ≠ some f
  dis : ∀ (i j : Nat) (v u : AV), i ≠ j → vs[i]? = some v → vs[j]? = some u → ∀ id, v.id? = some id → u.id? ≠ some id
  fl : h.floor ≤ f
  flx : h.floor ≤ h.next
structure Lo (h h' : H) : Prop where
  floor : h'.floor = h.floor
  next : h.next ≤ h'.next
  keep : ∀ i, i < h.floor → h'.get i = h.get i
theorem Lo.refl (h : H) : Lo h h := ⟨rfl, Nat.le_refl _, fun _ _ => rfl⟩
theorem Lo.trans {a b c : H} (x : Lo a b) (y : Lo b c) : Lo a c := ⟨y.floor.trans x.floor, Nat.le_trans x.next y.next, fun i hi => (y.keep i (by rw [x.floor]; exact hi)).trans (x.keep i hi)⟩
theorem Ext.lo {h0 a b : H} (x : Ext h0 a) (y : Lo a b) (hf : a.floor = h0.next) : Ext h0 b := fun i c hi => by
  rw [y.keep i (by rw [hf]; exact h0.lt _ _ hi), x i c hi]
theorem Ro.push {h : H} {f : Nat} {vs : List AV} {cs : List (List AV)} (r : Ro h f vs cs) (k : Nat) {v : AV} {c : List AV} (hv : vs[k]? = some v) (hc : cs[k]? = some c) (x : AV) (sc : x.sc = true) {z : Nat} (hz : roomy z (c.length + 1) = true) :
    ∃ v' h1, aapp (h.alloc [x]) 1 z v (.sobj h.next 0 1 1) = some (v', h1) ∧ h1.get f = some vs ∧ h1.floor = h.floor ∧ Ro (h1.set f (vs.set k v')) f (vs.set k v') (cs.set k (c ++ [x])) ∧ Lo h (h1.set f (vs.set k v')) := by
  have o := r.own k v c hv hc
  have hfl := h.lt _ _ r.get
  obtain ⟨v', h1, p1, p2, p3, p4, p5, p6⟩ := o.push r.flx (z := z) (m := 1) (by omega) (by omega) [x] rfl (by simp [AV.allsc, sc]) hz
  have hk : k < vs.length := (List.getElem?_eq_some_iff.1 hv).1
  have gf : h1.get f = some vs := by rw [p5 f (r.ne k v hv) hfl, r.get]
  have key : ∀ (i : Nat) (u : AV), (vs.set k v')[i]? = some u → (i = k ∧ u = v') ∨ (i ≠ k ∧ vs[i]? = some u) := by
    intro i u hu
    by_cases e : k = i
    · subst e
      rw [List.getElem?_set, if_pos rfl, if_pos hk] at hu
      exact .inl ⟨rfl, (Option.some.inj hu).symm⟩
    · rw [List.getElem?_set, if_neg e] at hu
      exact .inr ⟨fun q => e q.symm, hu⟩
  have old : ∀ (i : Nat) (u : AV), vs[i]? = some u → ∀ id, u.id? = some id → id < h.next := by
    intro i u hu id hid
    have hi : i < cs.length := by rw [← r.len]; exact (List.getElem?_eq_some_iff.1 hu).1
    exact ((r.own i u _ hu (List.getElem?_eq_getElem hi)).lt hid).2
  refine ⟨v', h1, p1, gf, p3, ⟨?_, ?_, ?_, ?_, ?_, ?_, ?_⟩, ⟨by simp [p3], by simp; omega, ?_⟩⟩
  · rw [set_hit rfl, gf]; rfl
  · intro i u d hu hd
    rcases key i u hu with ⟨rfl, rfl⟩ | ⟨hne, hu⟩
    · rw [List.getElem?_set, if_pos rfl, if_pos (by rw [← r.len]; exact hk)] at hd
      obtain rfl := Option.some.inj hd
      have : (c ++ [x]).length = c.length + 1 := by simp
      rw [this]
      exact p2.mono (by simp) fun j hj => by rw [set_miss]; rw [p6] at hj; have := Option.some.inj hj; omega
    · rw [List.getElem?_set, if_neg (fun q => hne q.symm)] at hd
      exact (r.own i u d hu hd).mono (by simp [p3]) fun j hj => by
        rw [set_miss (fun q => r.ne i u hu (by rw [hj, q])), p5 j (fun q => r.dis i k u v hne hu hv j hj q) (old i u hu j hj)]
  · simp [r.len]
  · intro i u hu
    rcases key i u hu with ⟨rfl, rfl⟩ | ⟨hne, hu⟩
    · rw [p6]; intro q; have := Option.some.inj q; omega
    · exact r.ne i u hu
  · intro i j u w hij hu hw id hid
    rcases key i u hu with ⟨e1, e2⟩ | ⟨hne, hu2⟩
    · rcases key j w hw with ⟨e3, e4⟩ | ⟨hne2, hw2⟩
      · exact absurd (e1.trans e3.symm) hij
      · intro q; have := old j w hw2 id q; rw [e2, p6] at hid; have := Option.some.inj hid; omega
    · rcases key j w hw with ⟨e3, e4⟩ | ⟨hne2, hw2⟩
      · intro q; have := old i u hu2 id hid; rw [e4, p6] at q; have := Option.some.inj q; omega
      · exact r.dis i j u w hij hu2 hw2 id hid
  · simpa [p3] using r.fl
  · simp [p3]; have := r.flx; omega
  · intro i hi
    have := r.fl
    rw [set_miss (by omega), p5 i (fun q => by have := (o.lt q).1; omega) (by have := r.flx; omega)]
theorem Ro.put {h : H} {f : Nat} {vs : List AV} {cs : List (List AV)} (r : Ro h f vs cs) (k i : Nat) {v : AV} {c : List AV} (hv : vs[k]? = some v) (hc : cs[k]? = some c) (x : AV) (sc : x.sc = true) (hi : i < c.length) :
    ∃ id, v = .sobj id 0 c.length 1 ∧ h.get id = some c ∧ h.floor ≤ id ∧ id ≠ f ∧ (∀ (j : Nat) (u : AV), j ≠ k → vs[j]? = some u → u.id? ≠ some id) ∧ Ro (h.set id (c.set i x)) f vs (cs.set k (c.set i x)) ∧ Lo h (h.set id (c.set i x)) := by
  have o := r.own k v c hv hc
  rcases o.2 with ⟨_, q⟩ | ⟨id, q1, q2, q3, q4⟩
  · omega
  have hid : v.id? = some id := by rw [q1]; rfl
  have hne : id ≠ f := fun q => r.ne k v hv (by rw [hid, q])
  have hk : k < vs.length := (List.getElem?_eq_some_iff.1 hv).1
  refine ⟨id, q1, q2, q3, hne, fun j u hj hu q => r.dis j k u v hj hu hv id q hid, ⟨?_, ?_, ?_, r.ne, r.dis, by simpa using r.fl, by simpa using r.flx⟩, ⟨by simp, by simp, fun j hj => by rw [set_miss (by omega)]⟩⟩
  · rw [set_miss hne.symm, r.get]
  · intro j u d hu hd
    by_cases e : k = j
    · subst e
      rw [hv] at hu
      obtain rfl := Option.some.inj hu
      rw [List.getElem?_set, if_pos rfl, if_pos (by rw [← r.len]; exact hk)] at hd
      obtain rfl := Option.some.inj hd
      have lc : (c.set i x).length = c.length := List.length_set
      rw [lc]
      exact ⟨by omega, .inr ⟨id, q1, by rw [set_hit rfl, q2]; rfl, by simpa using q3, q4⟩⟩
    · rw [List.getElem?_set, if_neg e] at hd
      exact (r.own j u d hu hd).mono (by simp) fun m hm => by rw [set_miss]; intro q; subst q; exact r.dis j k u v (fun q => e q.symm) hu hv m hm hid
  · simp [r.len]
def bls (F : List Bool) : List AV := F.map .bool
theorem bls_len (F : List Bool) : (bls F).length = F.length := by simp [bls]
theorem bls_get {F : List Bool} {i : Nat} {b : Bool} (h : F[i]? = some b) : (bls F)[i]? = some (.bool b) := by simp [bls, h]
abbrev foC (W U : List Int) (F : List Bool) : List (List AV) := [ints W, ints U, bls F]
theorem OwnN.cells {n : Nat} {h : H} {v : AV} {k : Nat} {cs : List AV} (o : OwnN n h v k cs) : v.cells = [v] := by
  rcases o.2 with ⟨e, _⟩ | ⟨id, e, _⟩ <;> rw [e] <;> rfl
theorem fadd_c {h : H} {f : Nat} {W U : List Int} {F : List Bool} {wv uv fv : AV} (r : Ro h f [wv, uv, fv] (foC W U F)) (x : Int) (hl : W.length < 100000 ∧ U.length < 100000 ∧ F.length < 100000) :
    ∃ h' wv' uv' fv', callW AP.A 70 [.pobj f 0, .int .i64 x] h = some (.tup [], h') ∧ Ro h' f [wv', uv', fv'] (foC (W ++ [x]) (U ++ [-1]) (F ++ [true])) ∧ Lo h h' := by
  have rz : ∀ n z, n < 100000 → 1 ≤ z → z ≤ 8 → roomy z (n + 1) = true := fun n z h1 h2 h3 => roomy_t ⟨h2, by
    have : (n + 1 + (n + 1) / 4 + 512) * z ≤ 1000000 * 8 := Nat.mul_le_mul (by omega) h3
    omega⟩
  obtain ⟨v1, h1, a1, a2, a3, a4, a5⟩ := r.push 0 rfl rfl (.int .i64 x) rfl (z := 8) (rz _ _ (by rw [ints_length]; exact hl.1) (by omega) (by omega))
  simp only [List.set_cons_zero] at a4 a5
  obtain ⟨g1, eg1⟩ : ∃ g, g = h1.set f [v1, uv, fv] := ⟨_, rfl⟩
  rw [← eg1] at a4 a5
  obtain ⟨v2, h2, b1, b2, b3, b4, b5⟩ := a4.push 1 rfl rfl (.int .i64 (-1)) rfl (z := 8) (rz _ _ (by rw [ints_length]; exact hl.2.1) (by omega) (by omega))
  simp only [List.set_cons_succ, List.set_cons_zero] at b4 b5
  obtain ⟨g2, eg2⟩ : ∃ g, g = h2.set f [v1, v2, fv] := ⟨_, rfl⟩
  rw [← eg2] at b4 b5
  obtain ⟨v3, h3, c1, c2, c3, c4, c5⟩ := b4.push 2 rfl rfl (.bool true) rfl (z := 1) (rz _ _ (by rw [bls_len]; exact hl.2.2) (by omega) (by omega))
  simp only [List.set_cons_succ, List.set_cons_zero] at c4 c5
  obtain ⟨g3, eg3⟩ : ∃ g, g = h3.set f [v1, v2, v3] := ⟨_, rfl⟩
  rw [← eg3] at c4 c5
  have e : foC (W ++ [x]) (U ++ [-1]) (F ++ [true]) = [ints W ++ [.int .i64 x], ints U ++ [.int .i64 (-1)], bls F ++ [.bool true]] := by
    unfold foC bls; rw [ints_append, ints_append, List.map_append]; rfl
  have gf := r.get
  have gf1 := a4.get
  have gf2 := b4.get
  have f1 : h1.floor ≤ f := by have := r.fl; omega
  have f2 : h2.floor ≤ f := by have := a4.fl; omega
  have f3 : h3.floor ≤ f := by have := b4.fl; omega
  have k1 := (a4.own 0 _ _ rfl rfl).cells
  have k2 := (b4.own 1 _ _ rfl rfl).cells
  have k3 := (c4.own 2 _ _ rfl rfl).cells
  have s1 : v1.sc = true := (a4.own 0 _ _ rfl rfl).sc
  have s2 : v2.sc = true := (b4.own 1 _ _ rfl rfl).sc
  have s3 : v3.sc = true := (c4.own 2 _ _ rfl rfl).sc
  refine ⟨g3, v1, v2, v3, plain_n (fn := AP.f70) (e := []) (vs := []) rfl rfl rfl ?_ rfl, by rw [e]; exact c4, a5.trans (b5.trans c5)⟩
  clear a4 a5 b4 b5 c4 c5 r e rz
  simp (disch := omega) only [go_sem, abin_shl, abin_shr, Nat.reduceEqDiff, reduceIte, Nat.reduceAdd, Nat.reduceMul, Nat.reduceLT, Nat.reduceLeDiff, Int.reduceBEq, Int.reduceBNe, Int.reduceLT, Int.reduceLE, Int.reduceEq, qqC, AOp.loud, AOp.births, Int.reduceAdd, Int.reduceSub, Int.reduceMul, Int.reduceNeg, Int.reduceToNat, AP.f70, gf, gf1, gf2, a1, a2, b1, b2, c1, c2, s1, s2, s3, k1, k2, k3, f1, f2, f3, ← eg1, ← eg2, ← eg3]
def leastF (W : List Int) (F : List Bool) : Nat → Nat → Int → Int
  | 0, _, a => a
  | m + 1, i, a => leastF W F m (i + 1) (if F.getD i false = true ∧ (a < 0 ∨ W.getD i 0 < W.getD a.toNat 0) then i else a)
theorem leastF_rng {W : List Int} {F : List Bool} {n : Nat} : ∀ (m i : Nat) (a : Int), i + m = n → (a = -1 ∨ (0 ≤ a ∧ a < n)) → (leastF W F m i a = -1 ∨ (0 ≤ leastF W F m i a ∧ leastF W F m i a < n))
  | 0, i, a, _, h => h
  | m + 1, i, a, hi, h => by
    rw [leastF]
    refine leastF_rng m (i + 1) _ (by omega) ?_
    split
    · right; omega
    · exact h
theorem fleast_loop {h : H} {f iw ifr n : Nat} {uv : AV} {W : List Int} {F : List Bool} (gf : h.get f = some [.sobj iw 0 n 1, uv, .sobj ifr 0 n 1]) (gw : h.get iw = some (ints W)) (gb : h.get ifr = some (bls F)) (hW : W.length = n) (hF : F.length = n) (hn : n < 100000) : ∀ (m i : Nat) (a : Int), i + m = n → (a = -1 ∨ (0 ≤ a ∧ a < n)) →
    Lp AP.A [0, 3, 4] AP.f71L0 [(0, .pobj f 0), (3, .int .i64 a), (4, .int .i64 i)] h = some (.exit 0, [(0, .pobj f 0), (3, .int .i64 (leastF W F m i a)), (4, .int .i64 n), (11, .bool false)], h)
  | 0, i, a, hi, ha => by
    obtain rfl : i = n := by omega
    refine Lp_exit ?_
    rw [leastF]
    simp (disch := omega) only [go_sem, abin_shl, abin_shr, Nat.reduceEqDiff, reduceIte, Nat.reduceAdd, Nat.reduceMul, Nat.reduceLT, Nat.reduceLeDiff, Int.reduceBEq, Int.reduceBNe, Int.reduceLT, Int.reduceLE, Int.reduceEq, qqC, AOp.loud, AOp.births, Int.reduceAdd, Int.reduceSub, Int.reduceMul, Int.reduceNeg, Int.reduceToNat, AP.f71L0, gf]
  | m + 1, i, a, hi, ha => by
    have lw : (ints W).length = n := by rw [ints_length, hW]
    have lb : (bls F).length = n := by rw [bls_len, hF]
    have n1 : ((i + 1 : Nat) : Int) = (i : Int) + 1 := by omega
    obtain ⟨b, hb⟩ : ∃ b, F[i]? = some b := ⟨_, List.getElem?_eq_getElem (by omega)⟩
    obtain ⟨x, hx⟩ : ∃ x, W[i]? = some x := ⟨_, List.getElem?_eq_getElem (by omega)⟩
    have gb' := bls_get hb
    have gx := ints_get hx
    simp only [I] at gx
    have fb : F.getD i false = b := by rw [List.getD_eq_getElem?_getD, hb]; rfl
    have fx : W.getD i 0 = x := by rw [List.getD_eq_getElem?_getD, hx]; rfl
    have hk : 0 ≤ a → ∃ k : Nat, a = k ∧ k < n ∧ (ints W)[k]? = some (.int .i64 (W.getD k 0)) := fun h0 => by
      refine ⟨a.toNat, by omega, by omega, ?_⟩
      have := ints_get (l := W) (i := a.toNat) (x := W.getD a.toNat 0) (by rw [List.getD_eq_getElem?_getD, List.getElem?_eq_getElem (by omega)]; rfl)
      exact this
    have r1 := fleast_loop gf gw gb hW hF hn m (i + 1) (if F.getD i false = true ∧ (a < 0 ∨ W.getD i 0 < W.getD a.toNat 0) then i else a) (by omega) (by
      split
      · right; omega
      · exact ha)
    rw [leastF]
    refine Lp_next ?_ r1
    rw [n1, fb, fx]
    clear r1 hb hx
    generalize ints W = IW at *
    generalize bls F = BF at *
    cases b with
    | false =>
      rw [if_neg (by simp)]
      simp (disch := omega) only [go_sem, abin_shl, abin_shr, Nat.reduceEqDiff, reduceIte, Nat.reduceAdd, Nat.reduceMul, Nat.reduceLT, Nat.reduceLeDiff, Int.reduceBEq, Int.reduceBNe, Int.reduceLT, Int.reduceLE, Int.reduceEq, qqC, AOp.loud, AOp.births, Int.reduceAdd, Int.reduceSub, Int.reduceMul, Int.reduceNeg, Int.reduceToNat, AP.f71L0, gf, gw, gb, lw, lb, gb']
    | true =>
      by_cases c : a < 0
      · rw [if_pos ⟨rfl, .inl c⟩]
        simp (disch := omega) only [go_sem, abin_shl, abin_shr, Nat.reduceEqDiff, reduceIte, Nat.reduceAdd, Nat.reduceMul, Nat.reduceLT, Nat.reduceLeDiff, Int.reduceBEq, Int.reduceBNe, Int.reduceLT, Int.reduceLE, Int.reduceEq, qqC, AOp.loud, AOp.births, Int.reduceAdd, Int.reduceSub, Int.reduceMul, Int.reduceNeg, Int.reduceToNat, AP.f71L0, gf, gw, gb, lw, lb, gb', decide_eq_true c]
      · obtain ⟨k, rfl, hkn, gk⟩ := hk (by omega)
        have tk : ((k : Nat) : Int).toNat = k := by omega
        rw [tk]
        have c' : ¬ ((k : Nat) : Int) < 0 := c
        by_cases c2 : x < W.getD k 0
        · rw [if_pos ⟨rfl, .inr c2⟩]
          generalize W.getD k 0 = y at *
          clear fx fb ha hk c
          simp (disch := omega) only [go_sem, abin_shl, abin_shr, Nat.reduceEqDiff, reduceIte, Nat.reduceAdd, Nat.reduceMul, Nat.reduceLT, Nat.reduceLeDiff, Int.reduceBEq, Int.reduceBNe, Int.reduceLT, Int.reduceLE, Int.reduceEq, qqC, AOp.loud, AOp.births, Int.reduceAdd, Int.reduceSub, Int.reduceMul, Int.reduceNeg, Int.reduceToNat, AP.f71L0, gf, gw, gb, lw, lb, gb', gx, gk, decide_eq_false c', decide_eq_true c2]
        · rw [if_neg (by rintro ⟨_, q | q⟩; exact c' q; exact c2 q)]
          generalize W.getD k 0 = y at *
          clear fx fb ha hk c
          simp (disch := omega) only [go_sem, abin_shl, abin_shr, Nat.reduceEqDiff, reduceIte, Nat.reduceAdd, Nat.reduceMul, Nat.reduceLT, Nat.reduceLeDiff, Int.reduceBEq, Int.reduceBNe, Int.reduceLT, Int.reduceLE, Int.reduceEq, qqC, AOp.loud, AOp.births, Int.reduceAdd, Int.reduceSub, Int.reduceMul, Int.reduceNeg, Int.reduceToNat, AP.f71L0, gf, gw, gb, lw, lb, gb', gx, gk, decide_eq_false c', decide_eq_false c2]
def leastA (W : List Int) (F : List Bool) : Nat := (leastF W F W.length 0 (-1)).toNat
theorem fleast_c {h : H} {f : Nat} {W U : List Int} {F : List Bool} {wv uv fv : AV} (r : Ro h f [wv, uv, fv] (foC W U F)) (hF : F.length = W.length) (hn : W.length < 100000) (h0 : 0 ≤ leastF W F W.length 0 (-1)) :
    ∃ h', callW AP.A 71 [.pobj f 0] h = some (.int .i64 (leastA W F : Nat), h') ∧ Ro h' f [wv, uv, fv] (foC W U (F.set (leastA W F) false)) ∧ Lo h h' := by
  have rg := leastF_rng (W := W) (F := F) (n := W.length) W.length 0 (-1) (by omega) (.inl rfl)
  have hA : leastF W F W.length 0 (-1) = ((leastA W F : Nat) : Int) := by unfold leastA; omega
  have hAn : leastA W F < W.length := by omega
  obtain ⟨n, en⟩ : ∃ n, n = W.length := ⟨_, rfl⟩
  obtain ⟨ifr, q1, q2, q3, q4, q5, q6, q7⟩ := r.put 2 (leastA W F) (v := fv) (c := bls F) rfl rfl (.bool false) rfl (by rw [bls_len, hF]; exact hAn)
  rw [bls_len, hF, ← en] at q1
  obtain ⟨iw, p1, p2, _⟩ := r.put 0 (leastA W F) (v := wv) (c := ints W) rfl rfl (.int .i64 0) rfl (by rw [ints_length]; exact hAn)
  rw [ints_length, ← en] at p1
  have gf := r.get
  rw [q1, p1] at gf
  have L := fleast_loop gf p2 q2 en.symm (hF.trans en.symm) (by omega) n 0 (-1) (by omega) (.inl rfl)
  rw [en, hA, ← en] at L
  have L' : Lp AP.A [0, 3, 4] AP.f71L0 [(0, .pobj f 0), (3, .int .i64 (-1)), (4, .int .i64 0)] h = _ := L
  have lb : (bls F).length = n := by rw [bls_len, hF, en]
  have es : (bls F).set (leastA W F) (.bool false) = bls (F.set (leastA W F) false) := by simp [bls, List.map_set]
  rw [es] at q6 q7
  have q6' : Ro (h.set ifr (bls (F.set (leastA W F) false))) f [wv, uv, fv] (foC W U (F.set (leastA W F) false)) := q6
  have fl := r.fl
  refine ⟨h.set ifr (bls (F.set (leastA W F) false)), plain_c (fn := AP.f71) (e := [(2, .int .i64 (leastA W F : Nat))]) (vs := [.int .i64 (leastA W F : Nat)]) rfl rfl rfl ?_ rfl, q6', q7⟩
  rw [← en] at hAn
  clear q6 q6' q7 q5 r rg hA L p1 q1 h0
  generalize leastA W F = A at *
  generalize bls F = BF at *
  generalize bls (F.set A false) = BF2 at *
  simp (disch := omega) only [go_sem, abin_shl, abin_shr, Nat.reduceEqDiff, reduceIte, Nat.reduceAdd, Nat.reduceMul, Nat.reduceLT, Nat.reduceLeDiff, Int.reduceBEq, Int.reduceBNe, Int.reduceLT, Int.reduceLE, Int.reduceEq, qqC, AOp.loud, AOp.births, Int.reduceAdd, Int.reduceSub, Int.reduceMul, Int.reduceNeg, Int.reduceToNat, AP.f71, evC_loop, L', gf, q2, lb, es]
end Ab
set_option linter.unusedSimpArgs false
set_option linter.unusedVariables false
set_option maxRecDepth 100000
namespace Ab
open Go
structure FS where
  W : List Int
  U : List Int
  F : List Bool
def FS.add (s : FS) (x : Int) : FS := ⟨s.W ++ [x], s.U ++ [-1], s.F ++ [true]⟩
def FS.a (s : FS) : Nat := leastA s.W s.F
def FS.F1 (s : FS) : List Bool := s.F.set s.a false
def FS.b (s : FS) : Nat := leastA s.W s.F1
def FS.F2 (s : FS) : List Bool := s.F1.set s.b false
def FS.sum (s : FS) : Int := s.W.getD s.a 0 + s.W.getD s.b 0
def FS.mer (s : FS) : FS := FS.add ⟨s.W, (s.U.set s.a s.U.length).set s.b s.U.length, s.F2⟩ s.sum
structure FS.ok (s : FS) : Prop where
  lu : s.U.length = s.W.length
  lf : s.F.length = s.W.length
  l1 : 0 ≤ leastF s.W s.F s.W.length 0 (-1)
  l2 : 0 ≤ leastF s.W s.F1 s.W.length 0 (-1)
  sm : 0 ≤ s.sum ∧ s.sum < 1000000000000000
abbrev FS.C (s : FS) : List (List AV) := foC s.W s.U s.F
theorem leastA_lt {W : List Int} {F : List Bool} (h : 0 ≤ leastF W F W.length 0 (-1)) : leastA W F < W.length := by
  have rg := leastF_rng (W := W) (F := F) (n := W.length) W.length 0 (-1) (by omega) (.inl rfl)
  unfold leastA; omega
theorem ints_set (l : List Int) (i : Nat) (x : Int) : (ints l).set i (.int .i64 x) = ints (l.set i x) := by simp [ints, List.map_set, I]
theorem fmer_c {h : H} {f : Nat} {s : FS} {wv uv fv : AV} {N : Nat} {x : AV} {i : Nat} (r : Ro h f [wv, uv, fv] s.C) (ok : s.ok) (hn : s.W.length < 10000) (ln : alen false x = some (.int .i64 N)) (hi : i < N) (hN : N < 100000) :
    ∃ h' wv' uv' fv', evC (callW AP.A) loopW AP.f56L2 (restr [(0, x), (3, .pobj f 0), (5, .int .i64 i)] [0, 3, 5]) h = some (.normal, [(0, x), (3, .pobj f 0), (5, .int .i64 (i + 1 : Nat))], h') ∧ Ro h' f [wv', uv', fv'] s.mer.C ∧ Lo h h' := by
  obtain ⟨lu, lf, l1, l2, sm⟩ := ok
  have la := leastA_lt l1
  have lb := leastA_lt l2
  change s.a < s.W.length at la
  change s.b < s.W.length at lb
  obtain ⟨h1, k1, r1, o1⟩ := fleast_c r lf (by omega) l1
  obtain ⟨h2, k2, r2, o2⟩ := fleast_c r1 (by rw [List.length_set]; exact lf) (by omega) l2
  change callW AP.A 71 [.pobj f 0] h = some (.int .i64 (s.a : Nat), h1) at k1
  change callW AP.A 71 [.pobj f 0] h1 = some (.int .i64 (s.b : Nat), h2) at k2
  obtain ⟨iw, p1, p2, p3, p4, p5, _⟩ := r2.put 0 s.a (v := wv) (c := ints s.W) rfl rfl (.int .i64 0) rfl (by rw [ints_length]; exact la)
  obtain ⟨iu, q1, q2, q3, q4, q5, r3, o3⟩ := r2.put 1 s.a (v := uv) (c := ints s.U) rfl rfl (.int .i64 s.U.length) rfl (by rw [ints_length]; omega)
  rw [ints_set] at r3 o3
  obtain ⟨h3, eh3⟩ : ∃ g, g = h2.set iu (ints (s.U.set s.a s.U.length)) := ⟨_, rfl⟩
  rw [← eh3] at r3 o3
  obtain ⟨iu2, q1', q2', q3', q4', q5', r4, o4⟩ := r3.put 1 s.b (v := uv) (c := ints (s.U.set s.a s.U.length)) rfl rfl (.int .i64 s.U.length) rfl (by rw [ints_length, List.length_set]; omega)
  rw [ints_set] at r4 o4
  have : iu2 = iu := by rw [q1] at q1'; injection q1' with a _ _ _; exact a.symm
  subst this
  obtain ⟨h4, eh4⟩ : ∃ g, g = h3.set iu2 (ints ((s.U.set s.a s.U.length).set s.b s.U.length)) := ⟨_, rfl⟩
  rw [← eh4] at r4 o4
  obtain ⟨h5, wv', uv', fv', k5, r5, o5⟩ := fadd_c r4 s.sum (by
    refine ⟨by omega, by rw [List.length_set, List.length_set]; omega, by rw [List.length_set, List.length_set]; omega⟩)
  refine ⟨h5, wv', uv', fv', ?_, r5, o1.trans (o2.trans (o3.trans (o4.trans o5)))⟩
  have hwu : iw ≠ iu2 := by
    intro e
    exact p5 1 uv (by omega) rfl (by rw [q1, e]; rfl)
  have gf2 := r2.get
  have gf3 := r3.get
  have gf4 := r4.get
  have gw4 : h4.get iw = some (ints s.W) := by rw [eh4, set_miss hwu, eh3, set_miss hwu, p2]
  rw [p1, q1] at gf2 gf3 gf4
  rw [ints_length] at gf2 gf3 gf4
  rw [ints_length] at gf2 gf3 gf4
  have n1 : ((i + 1 : Nat) : Int) = (i : Int) + 1 := by omega
  have luI := ints_length s.U
  have lwI := ints_length s.W
  have lsI := ints_length (s.U.set s.a s.U.length)
  rw [List.length_set] at lsI
  have e1 := ints_set s.U s.a s.U.length
  have e2 := ints_set (s.U.set s.a s.U.length) s.b s.U.length
  have ga : (ints s.W)[s.a]? = some (.int .i64 (s.W.getD s.a 0)) := ints_get (by rw [List.getD_eq_getElem?_getD, List.getElem?_eq_getElem la]; rfl)
  have gb : (ints s.W)[s.b]? = some (.int .i64 (s.W.getD s.b 0)) := ints_get (by rw [List.getD_eq_getElem?_getD, List.getElem?_eq_getElem lb]; rfl)
  have es : s.W.getD s.a 0 + s.W.getD s.b 0 = s.sum := rfl
  clear r r1 r2 r3 r4 r5 o1 o2 o3 o4 o5 p5 q5 q5' l1 l2 p1 q1 q1'
  rw [n1]
  generalize ints ((s.U.set s.a s.U.length).set s.b s.U.length) = U2 at *
  generalize ints (s.U.set s.a s.U.length) = U1 at *
  generalize ints s.U = U0 at *
  generalize ints s.W = W0 at *
  generalize s.W.getD s.a 0 = wa at *
  generalize s.W.getD s.b 0 = wb0 at *
  generalize s.sum = S at *
  generalize s.a = a at *
  generalize s.b = b at *
  generalize s.U.length = ul at *
  generalize s.W.length = wl at *
  subst lu
  simp (disch := omega) only [go_sem, abin_shl, abin_shr, Nat.reduceEqDiff, reduceIte, Nat.reduceAdd, Nat.reduceMul, Nat.reduceLT, Nat.reduceLeDiff, Int.reduceBEq, Int.reduceBNe, Int.reduceLT, Int.reduceLE, Int.reduceEq, qqC, AOp.loud, AOp.births, Int.reduceAdd, Int.reduceSub, Int.reduceMul, Int.reduceNeg, Int.reduceToNat, AP.f56L2, ln, k1, k2, gf2, gf3, gf4, q2, q2', gw4, luI, lwI, lsI, ga, gb, e1, e2, es, ← eh3, ← eh4, k5]
def FS.merN : Nat → FS → FS
  | 0, s => s
  | n + 1, s => FS.merN n s.mer
theorem FS.mer_len (s : FS) : s.mer.W.length = s.W.length + 1 := by simp [FS.mer, FS.add]
theorem FS.merN_len : ∀ (n : Nat) (s : FS), (FS.merN n s).W.length = s.W.length + n
  | 0, s => rfl
  | n + 1, s => by rw [FS.merN, FS.merN_len n, FS.mer_len]; omega
theorem fmer_loop {f : Nat} {N : Nat} {x : AV} (hN : N < 1000) : ∀ (m i : Nat) (s : FS) (h : H) (wv uv fv : AV), i + m = N → Ro h f [wv, uv, fv] s.C → (∀ k, k < m → (FS.merN k s).ok) → s.W.length + m < 10000 → alen false x = some (.int .i64 N) →
    ∃ h' wv' uv' fv', Lp AP.A [0, 3, 5] AP.f56L2 [(0, x), (3, .pobj f 0), (5, .int .i64 i)] h = some (.exit 2, [(0, x), (3, .pobj f 0), (5, .int .i64 N), (29, .bool false)], h') ∧ Ro h' f [wv', uv', fv'] (FS.merN m s).C ∧ Lo h h'
  | 0, i, s, h, wv, uv, fv, hi, r, ok, hl, ln => by
    obtain rfl : i = N := by omega
    refine ⟨h, wv, uv, fv, Lp_exit ?_, r, Lo.refl h⟩
    simp (disch := omega) only [go_sem, abin_shl, abin_shr, Nat.reduceEqDiff, reduceIte, Nat.reduceAdd, Nat.reduceMul, Nat.reduceLT, Nat.reduceLeDiff, Int.reduceBEq, Int.reduceBNe, Int.reduceLT, Int.reduceLE, Int.reduceEq, qqC, AOp.loud, AOp.births, Int.reduceAdd, Int.reduceSub, Int.reduceMul, Int.reduceNeg, Int.reduceToNat, AP.f56L2, ln]
  | m + 1, i, s, h, wv, uv, fv, hi, r, ok, hl, ln => by
    obtain ⟨h1, w1, u1, f1, k1, r1, o1⟩ := fmer_c r (ok 0 (by omega)) (by omega) ln (show i < N by omega) (by omega)
    obtain ⟨h', w', u', f', k2, r2, o2⟩ := fmer_loop hN m (i + 1) s.mer h1 w1 u1 f1 (by omega) r1 (fun k hk => ok (k + 1) (by omega)) (by rw [FS.mer_len]; omega) ln
    exact ⟨h', w', u', f', Lp_next k1 k2, r2, o1.trans o2⟩
def fs0 (ws : List Int) : FS := ⟨ws, List.replicate ws.length (-1), List.replicate ws.length true⟩
theorem fs0_snoc (p : List Int) (x : Int) : fs0 (p ++ [x]) = (fs0 p).add x := by
  unfold fs0 FS.add
  simp only [List.length_append, List.length_singleton, List.replicate_succ']
theorem fadd_loop {f : Nat} {x : AV} {ws : List Int} (hn : ws.length < 1000) (h0 : H) (rd : Rd h0 x (ints ws)) : ∀ (q p : List Int) (h : H) (wv uv fv : AV), ws = p ++ q → Ext h0 h → h.floor = h0.next → Ro h f [wv, uv, fv] (fs0 p).C →
    ∃ h' wv' uv' fv', Lp AP.A [0, 3, 4] AP.f56L3 [(0, x), (3, .pobj f 0), (4, .int .i64 p.length)] h = some (.exit 0, [(0, x), (3, .pobj f 0), (4, .int .i64 ws.length), (17, .bool false)], h') ∧ Ro h' f [wv', uv', fv'] (fs0 ws).C ∧ Lo h h'
  | [], p, h, wv, uv, fv, hp, hx, hf, r => by
    rw [List.append_nil] at hp; subst hp
    have ln := rd.len
    rw [ints_length] at ln
    simp only [I] at ln
    refine ⟨h, wv, uv, fv, Lp_exit ?_, r, Lo.refl h⟩
    simp (disch := omega) only [go_sem, abin_shl, abin_shr, Nat.reduceEqDiff, reduceIte, Nat.reduceAdd, Nat.reduceMul, Nat.reduceLT, Nat.reduceLeDiff, Int.reduceBEq, Int.reduceBNe, Int.reduceLT, Int.reduceLE, Int.reduceEq, qqC, AOp.loud, AOp.births, Int.reduceAdd, Int.reduceSub, Int.reduceMul, Int.reduceNeg, Int.reduceToNat, AP.f56L3, ln]
  | y :: q, p, h, wv, uv, fv, hp, hx, hf, r => by
    have ln := rd.len
    rw [ints_length] at ln
    simp only [I] at ln
    have hl : ws.length = p.length + (q.length + 1) := by rw [hp]; simp
    obtain ⟨ad, a1, a2⟩ := rd.ints_at
    have b1 := a1 p.length ⟨by omega, by omega⟩
    have b2 := a2 h hx p.length y (by rw [hp]; simp)
    obtain ⟨h1, w1, u1, f1, k1, r1, o1⟩ := fadd_c r y (by simp [fs0]; omega)
    have r1' : Ro h1 f [w1, u1, f1] (fs0 (p ++ [y])).C := by rw [fs0_snoc]; exact r1
    obtain ⟨h', w', u', f', k2, r2, o2⟩ := fadd_loop hn h0 rd q (p ++ [y]) h1 w1 u1 f1 (by rw [hp]; simp) (hx.lo o1 hf) (by rw [o1.floor, hf]) r1'
    have n1 : (((p ++ [y]).length : Nat) : Int) = (p.length : Int) + 1 := by simp
    refine ⟨h', w', u', f', Lp_next ?_ k2, r2, o1.trans o2⟩
    rw [n1]
    clear r r1 r1' k2 r2 o1 o2 hx rd a1 a2
    simp (disch := omega) only [go_sem, abin_shl, abin_shr, Nat.reduceEqDiff, reduceIte, Nat.reduceAdd, Nat.reduceMul, Nat.reduceLT, Nat.reduceLeDiff, Int.reduceBEq, Int.reduceBNe, Int.reduceLT, Int.reduceLE, Int.reduceEq, qqC, AOp.loud, AOp.births, Int.reduceAdd, Int.reduceSub, Int.reduceMul, Int.reduceNeg, Int.reduceToNat, AP.f56L3, ln, b1, b2, k1]
def upsA (U : List Int) : Nat → Int → Nat
  | 0, _ => 0
  | m + 1, j => if 0 ≤ j then upsA U m (U.getD j.toNat (-1)) + 1 else 0
def upOk (U : List Int) : Prop := ∀ j : Nat, j < U.length → U.getD j (-1) = -1 ∨ ((j : Int) < U.getD j (-1) ∧ U.getD j (-1) < U.length)
theorem walk_loop {h : H} {f iu n : Nat} {wv fv x ov : AV} {U : List Int} {i : Nat} (gf : h.get f = some [wv, .sobj iu 0 n 1, fv]) (gu : h.get iu = some (ints U)) (hU : U.length = n) (hn : n < 10000) (ok : upOk U) : ∀ (m : Nat) (j : Int) (k : Nat), (j = -1 ∨ (0 ≤ j ∧ j < n)) → (0 ≤ j → (n : Int) ≤ j + m) → k + m < 100000 →
    ∃ j', Lp AP.A [0, 3, 8, 9, 10, 11] AP.f56L0 [(0, x), (3, .pobj f 0), (8, ov), (9, .int .i64 i), (10, .int .i64 k), (11, .int .i64 j)] h = some (.exit 6, [(0, x), (3, .pobj f 0), (8, ov), (9, .int .i64 i), (10, .int .i64 (k + upsA U m j : Nat)), (11, .int .i64 j'), (89, .bool false)], h)
  | 0, j, k, hj, hm, hk => by
    obtain rfl : j = -1 := by omega
    refine ⟨-1, Lp_exit ?_⟩
    rw [upsA]
    simp (disch := omega) only [go_sem, abin_shl, abin_shr, Nat.reduceEqDiff, reduceIte, Nat.reduceAdd, Nat.reduceMul, Nat.reduceLT, Nat.reduceLeDiff, Int.reduceBEq, Int.reduceBNe, Int.reduceLT, Int.reduceLE, Int.reduceEq, qqC, AOp.loud, AOp.births, Int.reduceAdd, Int.reduceSub, Int.reduceMul, Int.reduceNeg, Int.reduceToNat, AP.f56L0]
  | m + 1, j, k, hj, hm, hk => by
    by_cases c : 0 ≤ j
    · obtain ⟨q, rfl⟩ := Int.eq_ofNat_of_zero_le c
      have hq : q < n := by omega
      have o := ok q (by omega)
      have lu : (ints U).length = n := by rw [ints_length, hU]
      have gq : (ints U)[q]? = some (.int .i64 (U.getD q (-1))) := ints_get (by rw [List.getD_eq_getElem?_getD, List.getElem?_eq_getElem (by omega)]; rfl)
      rw [hU] at o
      obtain ⟨j', r1⟩ := walk_loop (x := x) (ov := ov) (i := i) gf gu hU hn ok m (U.getD q (-1)) (k + 1) (by omega) (by omega) (by omega)
      have n1 : ((k + 1 : Nat) : Int) = (k : Int) + 1 := by omega
      have tq : ((q : Nat) : Int).toNat = q := by omega
      rw [upsA, if_pos c, tq]
      rw [show k + (upsA U m (U.getD q (-1)) + 1) = k + 1 + upsA U m (U.getD q (-1)) by omega]
      refine ⟨j', Lp_next ?_ r1⟩
      rw [n1]
      clear r1 o ok
      generalize U.getD q (-1) = y at *
      generalize ints U = IU at *
      simp (disch := omega) only [go_sem, abin_shl, abin_shr, Nat.reduceEqDiff, reduceIte, Nat.reduceAdd, Nat.reduceMul, Nat.reduceLT, Nat.reduceLeDiff, Int.reduceBEq, Int.reduceBNe, Int.reduceLT, Int.reduceLE, Int.reduceEq, qqC, AOp.loud, AOp.births, Int.reduceAdd, Int.reduceSub, Int.reduceMul, Int.reduceNeg, Int.reduceToNat, AP.f56L0, gf, gu, lu, gq]
    · rw [upsA, if_neg c]
      refine ⟨j, Lp_exit ?_⟩
      simp (disch := omega) only [go_sem, abin_shl, abin_shr, Nat.reduceEqDiff, reduceIte, Nat.reduceAdd, Nat.reduceMul, Nat.reduceLT, Nat.reduceLeDiff, Int.reduceBEq, Int.reduceBNe, Int.reduceLT, Int.reduceLE, Int.reduceEq, qqC, AOp.loud, AOp.births, Int.reduceAdd, Int.reduceSub, Int.reduceMul, Int.reduceNeg, Int.reduceToNat, AP.f56L0]
def depA (U : List Int) (n : Nat) : List Int := (List.range n).map fun i => ((upsA U U.length (U.getD i (-1)) : Nat) : Int)
theorem depA_succ (U : List Int) (n : Nat) : depA U (n + 1) = depA U n ++ [((upsA U U.length (U.getD n (-1)) : Nat) : Int)] := by simp [depA, List.range_succ]
theorem depA_len (U : List Int) (n : Nat) : (depA U n).length = n := by simp [depA]
theorem dep_loop {f iu n N : Nat} {wv fv x : AV} {U : List Int} (hU : U.length = n) (hn : n < 10000) (ok : upOk U) (hN : N ≤ n) (ln : alen false x = some (.int .i64 N)) (B : Nat) : ∀ (m i : Nat) (h : H) (ov : AV), i + m = N → h.get f = some [wv, .sobj iu 0 n 1, fv] → h.get iu = some (ints U) → f < B → iu < B → B ≤ h.next → OwnN 1 h ov i (ints (depA U i)) → h.floor ≤ h.next → (∀ j, ov.id? = some j → B ≤ j) →
    ∃ h' ov', Lp AP.A [0, 3, 8, 9] AP.f56L1 [(0, x), (3, .pobj f 0), (8, ov), (9, .int .i64 i)] h = some (.exit 4, [(0, x), (3, .pobj f 0), (8, ov'), (9, .int .i64 N), (78, .bool false)], h') ∧ OwnN 1 h' ov' N (ints (depA U N)) ∧ h'.floor = h.floor
  | 0, i, h, ov, hi, gf, gu, hf, hiu, hB, ow, hfl, hov => by
    obtain rfl : i = N := by omega
    refine ⟨h, ov, Lp_exit ?_, ow, rfl⟩
    simp (disch := omega) only [go_sem, abin_shl, abin_shr, Nat.reduceEqDiff, reduceIte, Nat.reduceAdd, Nat.reduceMul, Nat.reduceLT, Nat.reduceLeDiff, Int.reduceBEq, Int.reduceBNe, Int.reduceLT, Int.reduceLE, Int.reduceEq, qqC, AOp.loud, AOp.births, Int.reduceAdd, Int.reduceSub, Int.reduceMul, Int.reduceNeg, Int.reduceToNat, AP.f56L1, ln]
  | m + 1, i, h, ov, hi, gf, gu, hf, hiu, hB, ow, hfl, hov => by
    have o := ok i (by omega)
    rw [hU] at o
    have lu : (ints U).length = n := by rw [ints_length, hU]
    have gq : (ints U)[i]? = some (.int .i64 (U.getD i (-1))) := ints_get (by rw [List.getD_eq_getElem?_getD, List.getElem?_eq_getElem (by omega)]; rfl)
    obtain ⟨j', L⟩ := walk_loop (x := x) (ov := ov) (i := i) gf gu hU hn ok n (U.getD i (-1)) 0 (by omega) (by omega) (by omega)
    rw [Nat.zero_add] at L
    obtain ⟨v', h1, p1, p2, p3, p4, p5, p6⟩ := ow.push hfl (z := 8) (m := 1) (by omega) (by omega) [.int .i64 (upsA U n (U.getD i (-1)) : Nat)] rfl rfl (roomy_t (by omega))
    have e := depA_succ U i
    rw [hU] at e
    have ow2 : OwnN 1 h1 v' (i + 1) (ints (depA U (i + 1))) := by rw [e, ints_append]; exact p2
    obtain ⟨h', ov', r1, r2, r3⟩ := dep_loop hU hn ok hN ln B m (i + 1) h1 v' (by omega) (by rw [p5 f (fun q => by have := hov f q; omega) (by omega), gf]) (by rw [p5 iu (fun q => by have := hov iu q; omega) (by omega), gu]) hf hiu (by omega) ow2 (by omega) (fun j hj => by rw [p6] at hj; have := Option.some.inj hj; omega)
    have n1 : ((i + 1 : Nat) : Int) = (i : Int) + 1 := by omega
    have L' : Lp AP.A [0, 3, 8, 9, 10, 11] AP.f56L0 [(0, x), (3, .pobj f 0), (8, ov), (9, .int .i64 i), (10, .int .i64 0), (11, .int .i64 (U.getD i (-1)))] h = _ := L
    refine ⟨h', ov', Lp_next ?_ r1, r2, by omega⟩
    rw [n1]
    clear r1 r2 r3 ow2 e p2 p5 p6 ok o L hov ow
    generalize upsA U n (U.getD i (-1)) = K at *
    generalize U.getD i (-1) = y at *
    generalize ints U = IU at *
    simp (disch := omega) only [go_sem, abin_shl, abin_shr, Nat.reduceEqDiff, reduceIte, Nat.reduceAdd, Nat.reduceMul, Nat.reduceLT, Nat.reduceLeDiff, Int.reduceBEq, Int.reduceBNe, Int.reduceLT, Int.reduceLE, Int.reduceEq, qqC, AOp.loud, AOp.births, Int.reduceAdd, Int.reduceSub, Int.reduceMul, Int.reduceNeg, Int.reduceToNat, AP.f56L1, ln, gf, gu, lu, gq, evC_loop, L', p1]
def depthsA (ws : List Int) : List Int := depA (FS.merN (ws.length - 1) (fs0 ws)).U ws.length
theorem depths_c (h : H) (x : AV) (ws : List Int) (h2 : 1 ≤ ws.length) (hn : ws.length < 1000) (rd : Rd h x (ints ws)) (ok : ∀ k, k < ws.length - 1 → (FS.merN k (fs0 ws)).ok) (up : upOk (FS.merN (ws.length - 1) (fs0 ws)).U) (lu : (FS.merN (ws.length - 1) (fs0 ws)).U.length = (FS.merN (ws.length - 1) (fs0 ws)).W.length) :
    callW AP.A 56 [x] h = some (slN 1 ws.length (ints (depthsA ws)), h) := by
  have rd1 : Rd h.fence x (ints ws) := rd.mono (get_fence_mono h)
  have ln := rd.len
  rw [ints_length] at ln
  simp only [I] at ln
  obtain ⟨h1, eh1⟩ : ∃ g, g = h.fence.alloc [.nils, .nils, .nils] := ⟨_, rfl⟩
  have g1 : h1.get h.next = some [.nils, .nils, .nils] := by rw [eh1, get_hit (by simp)]
  have r0 : Ro h1 h.next [.nils, .nils, .nils] (fs0 []).C := by
    have nl : ∀ (i : Nat) (v : AV), ([.nils, .nils, .nils] : List AV)[i]? = some v → v = .nils := by
      intro i v hv
      have := List.mem_of_getElem? hv
      simp at this; exact this
    refine ⟨g1, ?_, rfl, ?_, ?_, by rw [eh1]; simp, by rw [eh1]; simp⟩
    · intro i v c hv hc
      have := nl i v hv
      subst this
      have hc' : c = [] := by
        have := List.mem_of_getElem? hc
        simp [fs0, ints, bls] at this; exact this
      subst hc'
      exact OwnN.nil
    · intro i v hv; rw [nl i v hv]; simp [AV.id?]
    · intro i j v u _ hv _ id hid; rw [nl i v hv] at hid; simp [AV.id?] at hid
  obtain ⟨h2', w2, u2, f2, k2, r2, o2⟩ := fadd_loop hn h.fence rd1 ws [] h1 .nils .nils .nils rfl (by rw [eh1]; exact (Ext.refl _).alloc _) (by rw [eh1]; simp) r0
  have k2' : Lp AP.A [0, 3, 4] AP.f56L3 [(0, x), (3, .pobj h.next 0), (4, .int .i64 0)] h1 = _ := k2
  obtain ⟨h3, w3, u3, f3, k3, r3, o3⟩ := fmer_loop (N := ws.length) (x := x) hn (ws.length - 1) 1 (fs0 ws) h2' w2 u2 f2 (by omega) r2 ok (by simp [fs0]; omega) ln
  have k3' : Lp AP.A [0, 3, 5] AP.f56L2 [(0, x), (3, .pobj h.next 0), (5, .int .i64 1)] h2' = _ := k3
  unfold depthsA
  have wl := FS.merN_len (ws.length - 1) (fs0 ws)
  have wl0 : (fs0 ws).W.length = ws.length := rfl
  generalize hS : FS.merN (ws.length - 1) (fs0 ws) = S at *
  obtain ⟨iu, q1, q2, q3, q4, q5, _⟩ := r3.put 1 0 (v := u3) (c := ints S.U) rfl rfl (.int .i64 0) rfl (by rw [ints_length]; omega)
  rw [ints_length] at q1
  have gf := r3.get
  rw [q1] at gf
  obtain ⟨h4, o4, k4, ow4, fl4⟩ := dep_loop (x := x) (N := ws.length) (f := h.next) (iu := iu) (wv := w3) (fv := f3) (n := S.U.length) (U := S.U) rfl (by omega) up (by omega) ln h3.next ws.length 0 h3 .nils (by omega) gf q2 (h3.lt _ _ gf) (h3.lt _ _ q2) (Nat.le_refl _) OwnN.nil r3.flx (fun j hj => by simp [AV.id?] at hj)
  have k4' : Lp AP.A [0, 3, 8, 9] AP.f56L1 [(0, x), (3, .pobj h.next 0), (8, .nils), (9, .int .i64 0)] h3 = _ := k4
  have hnx : h.fence.next = h.next := rfl
  have fl : h4.floor = h.next := by rw [fl4, o3.floor, o2.floor, eh1]; simp
  refine pure_c (fn := AP.f56) (h2 := h4) (e := [(2, o4)]) (vs := [o4]) rfl rfl rfl ?_ rfl ?_
  · clear k2 k3 k4 r0 r2 r3 ow4 rd rd1 ok up o2 o3 q5
    simp (disch := omega) only [go_sem, abin_shl, abin_shr, Nat.reduceEqDiff, reduceIte, Nat.reduceAdd, Nat.reduceMul, Nat.reduceLT, Nat.reduceLeDiff, Int.reduceBEq, Int.reduceBNe, Int.reduceLT, Int.reduceLE, Int.reduceEq, qqC, AOp.loud, AOp.births, Int.reduceAdd, Int.reduceSub, Int.reduceMul, Int.reduceNeg, Int.reduceToNat, AP.f56, hnx, ← eh1, evC_loop, k2', k3', k4']
  · exact ow4.snap_ints (fl := h.next) (m := 14) (t := true) (by omega)
end Ab
