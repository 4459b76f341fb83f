/- Part C3. -/
import Derived.Test.YtbihdlhgfnoejaaGreatDoorC2
set_option linter.unusedSimpArgs false
set_option linter.unusedVariables false
set_option maxRecDepth 100000
namespace Ab
open Go
def isEmp (s : ByteArray) : Bool := s.data.toList == (⟨#[]⟩ : ByteArray).data.toList
def contA (e : Ent) : Bool :=
  if e.gone then decide (e.method = 0) && (isEmp e.packed && (decide (e.size = 0) && decide (e.crc = 0)))
  else (decide (0 ≤ e.size) && (decide (e.size ≤ 300) && isA e.crc)) && (decide (e.method = 0) && decide ((e.packed.size : Int) = e.size) || decide (e.method = 8) && decide (e.packed.size ≤ 300))
theorem content_c (h : H) (p v : AV) (e : Ent) (pe : PE h p (entC e v)) : callW AP.A 122 [p] h = some (.bool (contA e), h) := by
  have nl := pe.nil
  obtain ⟨q, f1, f2⟩ := pe.fld
  have l1 := f2 h (Ext.refl h) 1 _ rfl
  have l5 := f2 h (Ext.refl h) 5 _ rfl
  have l6 := f2 h (Ext.refl h) 6 _ rfl
  have l7 := f2 h (Ext.refl h) 7 _ rfl
  have l8 := f2 h (Ext.refl h) 8 _ rfl
  have k1 := is_c h e.crc
  have e1 : abin .eql (.str e.packed) (.str ⟨#[]⟩) = some (.bool (isEmp e.packed)) := str_eql _ _
  refine plain_c (fn := AP.f122) (h2 := h) (e := [(2, .bool (contA e))]) (vs := [.bool (contA e)]) rfl rfl rfl ?_ rfl
  unfold contA
  clear pe f2
  generalize isEmp e.packed = B1 at *
  generalize isA e.crc = B2 at *
  cases hg : e.gone with
  | true =>
    rw [hg] at l1
    rw [if_pos rfl]
    by_cases c1 : e.method = 0
    · cases B1 with
      | false => simp (disch := omega) only [go_sem, abin_shl, abin_shr, Nat.reduceEqDiff, reduceIte, Nat.reduceAdd, Nat.reduceMul, Nat.reduceLT, Nat.reduceLeDiff, Int.reduceBEq, Int.reduceBNe, Int.reduceLT, Int.reduceLE, Int.reduceEq, qqC, AOp.loud, AOp.births, Int.reduceAdd, Int.reduceSub, Int.reduceMul, Int.reduceNeg, Int.reduceToNat, AP.f122, nl, f1, l1, l5, l6, l7, l8, e1]
      | true =>
        by_cases c2 : e.size = 0
        · by_cases c3 : e.crc = 0 <;> simp (disch := omega) only [go_sem, abin_shl, abin_shr, Nat.reduceEqDiff, reduceIte, Nat.reduceAdd, Nat.reduceMul, Nat.reduceLT, Nat.reduceLeDiff, Int.reduceBEq, Int.reduceBNe, Int.reduceLT, Int.reduceLE, Int.reduceEq, qqC, AOp.loud, AOp.births, Int.reduceAdd, Int.reduceSub, Int.reduceMul, Int.reduceNeg, Int.reduceToNat, AP.f122, nl, f1, l1, l5, l6, l7, l8, e1]
        · simp (disch := omega) only [go_sem, abin_shl, abin_shr, Nat.reduceEqDiff, reduceIte, Nat.reduceAdd, Nat.reduceMul, Nat.reduceLT, Nat.reduceLeDiff, Int.reduceBEq, Int.reduceBNe, Int.reduceLT, Int.reduceLE, Int.reduceEq, qqC, AOp.loud, AOp.births, Int.reduceAdd, Int.reduceSub, Int.reduceMul, Int.reduceNeg, Int.reduceToNat, AP.f122, nl, f1, l1, l5, l6, l7, l8, e1]
    · simp (disch := omega) only [go_sem, abin_shl, abin_shr, Nat.reduceEqDiff, reduceIte, Nat.reduceAdd, Nat.reduceMul, Nat.reduceLT, Nat.reduceLeDiff, Int.reduceBEq, Int.reduceBNe, Int.reduceLT, Int.reduceLE, Int.reduceEq, qqC, AOp.loud, AOp.births, Int.reduceAdd, Int.reduceSub, Int.reduceMul, Int.reduceNeg, Int.reduceToNat, AP.f122, nl, f1, l1, l5, l6, l7, l8, e1]
  | false =>
    rw [hg] at l1
    rw [if_neg (by decide)]
    by_cases c1 : e.method = 0
    · have c1' : ¬ e.method = 8 := by omega
      by_cases c2 : (e.packed.size : Int) = e.size
      · by_cases c3 : 0 ≤ e.size
        · by_cases c4 : e.size ≤ 300
          · cases B2 <;> simp (disch := omega) only [go_sem, abin_shl, abin_shr, Nat.reduceEqDiff, reduceIte, Nat.reduceAdd, Nat.reduceMul, Nat.reduceLT, Nat.reduceLeDiff, Int.reduceBEq, Int.reduceBNe, Int.reduceLT, Int.reduceLE, Int.reduceEq, qqC, AOp.loud, AOp.births, Int.reduceAdd, Int.reduceSub, Int.reduceMul, Int.reduceNeg, Int.reduceToNat, AP.f122, nl, f1, l1, l5, l6, l7, l8, e1, k1]
          · simp (disch := omega) only [go_sem, abin_shl, abin_shr, Nat.reduceEqDiff, reduceIte, Nat.reduceAdd, Nat.reduceMul, Nat.reduceLT, Nat.reduceLeDiff, Int.reduceBEq, Int.reduceBNe, Int.reduceLT, Int.reduceLE, Int.reduceEq, qqC, AOp.loud, AOp.births, Int.reduceAdd, Int.reduceSub, Int.reduceMul, Int.reduceNeg, Int.reduceToNat, AP.f122, nl, f1, l1, l5, l6, l7, l8, e1, k1]
        · exfalso; omega
      · simp (disch := omega) only [go_sem, abin_shl, abin_shr, Nat.reduceEqDiff, reduceIte, Nat.reduceAdd, Nat.reduceMul, Nat.reduceLT, Nat.reduceLeDiff, Int.reduceBEq, Int.reduceBNe, Int.reduceLT, Int.reduceLE, Int.reduceEq, qqC, AOp.loud, AOp.births, Int.reduceAdd, Int.reduceSub, Int.reduceMul, Int.reduceNeg, Int.reduceToNat, AP.f122, nl, f1, l1, l5, l6, l7, l8, e1, k1]
    · by_cases c0 : e.method = 8
      · by_cases c2 : e.packed.size ≤ 300
        · by_cases c3 : 0 ≤ e.size
          · by_cases c4 : e.size ≤ 300
            · cases B2 <;> simp (disch := omega) only [go_sem, abin_shl, abin_shr, Nat.reduceEqDiff, reduceIte, Nat.reduceAdd, Nat.reduceMul, Nat.reduceLT, Nat.reduceLeDiff, Int.reduceBEq, Int.reduceBNe, Int.reduceLT, Int.reduceLE, Int.reduceEq, qqC, AOp.loud, AOp.births, Int.reduceAdd, Int.reduceSub, Int.reduceMul, Int.reduceNeg, Int.reduceToNat, AP.f122, nl, f1, l1, l5, l6, l7, l8, e1, k1]
            · simp (disch := omega) only [go_sem, abin_shl, abin_shr, Nat.reduceEqDiff, reduceIte, Nat.reduceAdd, Nat.reduceMul, Nat.reduceLT, Nat.reduceLeDiff, Int.reduceBEq, Int.reduceBNe, Int.reduceLT, Int.reduceLE, Int.reduceEq, qqC, AOp.loud, AOp.births, Int.reduceAdd, Int.reduceSub, Int.reduceMul, Int.reduceNeg, Int.reduceToNat, AP.f122, nl, f1, l1, l5, l6, l7, l8, e1, k1]
          · simp (disch := omega) only [go_sem, abin_shl, abin_shr, Nat.reduceEqDiff, reduceIte, Nat.reduceAdd, Nat.reduceMul, Nat.reduceLT, Nat.reduceLeDiff, Int.reduceBEq, Int.reduceBNe, Int.reduceLT, Int.reduceLE, Int.reduceEq, qqC, AOp.loud, AOp.births, Int.reduceAdd, Int.reduceSub, Int.reduceMul, Int.reduceNeg, Int.reduceToNat, AP.f122, nl, f1, l1, l5, l6, l7, l8, e1, k1]
        · simp (disch := omega) only [go_sem, abin_shl, abin_shr, Nat.reduceEqDiff, reduceIte, Nat.reduceAdd, Nat.reduceMul, Nat.reduceLT, Nat.reduceLeDiff, Int.reduceBEq, Int.reduceBNe, Int.reduceLT, Int.reduceLE, Int.reduceEq, qqC, AOp.loud, AOp.births, Int.reduceAdd, Int.reduceSub, Int.reduceMul, Int.reduceNeg, Int.reduceToNat, AP.f122, nl, f1, l1, l5, l6, l7, l8, e1, k1]
      · simp (disch := omega) only [go_sem, abin_shl, abin_shr, Nat.reduceEqDiff, reduceIte, Nat.reduceAdd, Nat.reduceMul, Nat.reduceLT, Nat.reduceLeDiff, Int.reduceBEq, Int.reduceBNe, Int.reduceLT, Int.reduceLE, Int.reduceEq, qqC, AOp.loud, AOp.births, Int.reduceAdd, Int.reduceSub, Int.reduceMul, Int.reduceNeg, Int.reduceToNat, AP.f122, nl, f1, l1, l5, l6, l7, l8, e1, k1]
def entOk (prev : Option Ent) (e : Ent) : Bool := nameA e.name && ((match prev with | none => true | some p => Op.bytesLess p.name.toList e.name.toList) && (headA e && contA e))
theorem entOk_n (e : Ent) : entOk none e = (nameA e.name && (headA e && contA e)) := by simp [entOk]
theorem entOk_s (p e : Ent) : entOk (some p) e = (nameA e.name && (Op.bytesLess p.name.toList e.name.toList && (headA e && contA e))) := rfl
def mayL : Option Ent → List Ent → Bool
  | _, [] => true
  | p, e :: r => entOk p e && mayL (some e) r
abbrev EntP := Ent × AV
def epC (x : EntP) : List AV := entC x.1 x.2
def entsC (l : List EntP) : List AV := l.flatMap epC
theorem epC_len (x : EntP) : (epC x).length = 9 := rfl
structure EOk (h : H) (x : EntP) : Prop where
  vec : Rd h x.2 (ints x.1.vec)
  vl : x.1.vec.length < 1125899906842624
  nl : x.1.name.size < 1125899906842624
  pl : x.1.packed.size < 1125899906842624
theorem EOk.mono {h g : H} {x : EntP} (o : EOk h x) (e : Ext h g) : EOk g x := ⟨o.vec.mono fun i c q => e i c q, o.vl, o.nl, o.pl⟩
theorem zm_loop {v : AV} {l : List EntP} (hn : l.length < 1125899906842624) (h : H) (b : Nat) (hb : h.get b = some [v]) (rd : RdN 9 h v l.length (entsC l)) (hv : ∀ x ∈ l, EOk h x) : ∀ (q p : List EntP), l = p ++ q →
    (∃ e', Lp AP.A [1, 7, 8] AP.f113L0 [(1, .pobj b 0), (7, .int .i64 l.length), (8, .int .i64 p.length)] h = some (.exit 0, e', h) ∧ look e' 1 = .pobj b 0 ∧ mayL (p.getLast?.map (·.1)) (q.map (·.1)) = true) ∨
    (∃ e', Lp AP.A [1, 7, 8] AP.f113L0 [(1, .pobj b 0), (7, .int .i64 l.length), (8, .int .i64 p.length)] h = some (.ret, e', h) ∧ look e' 2 = .bool false ∧ mayL (p.getLast?.map (·.1)) (q.map (·.1)) = false)
  | [], p, hp => by
    left
    rw [List.append_nil] at hp; subst hp
    refine ⟨[(1, .pobj b 0), (7, .int .i64 l.length), (8, .int .i64 l.length), (9, .bool false)], Lp_exit ?_, rfl, rfl⟩
    simp (disch := omega) only [go_sem, abin_shl, abin_shr, Nat.reduceEqDiff, reduceIte, Nat.reduceAdd, Nat.reduceMul, Nat.reduceLT, Nat.reduceLeDiff, Int.reduceBEq, Int.reduceBNe, Int.reduceLT, Int.reduceLE, Int.reduceEq, qqC, AOp.loud, AOp.births, Int.reduceAdd, Int.reduceSub, Int.reduceMul, Int.reduceNeg, Int.reduceToNat, AP.f113L0]
  | x :: q, p, hp => by
    have hlen : l.length = p.length + (q.length + 1) := by rw [hp]; simp
    have hx : l[p.length]? = some x := by rw [hp]; simp
    have ho := hv x (by rw [hp]; simp)
    obtain ⟨ad, a1, a2, a4, a3⟩ := rd.at_
    have hI : (0 : Int) ≤ (p.length : Int) ∧ (p.length : Int) < l.length := ⟨by omega, by omega⟩
    have b1 := a1 _ hI
    have pe : PE h (ad p.length 0) (entC x.1 x.2) := by
      refine ⟨fun g => a4 _ 0 g hI, fun k => ad p.length (0 + k), fun k => a2 _ 0 k hI, fun g hg k c hc => ?_⟩
      have hk : k < 9 := (List.getElem?_eq_some_iff.1 hc).1
      refine (a3 g hg).1 _ _ _ hI ?_
      rw [tn_nat, Nat.zero_add, show entsC l = l.flatMap epC from rfl, fm_get epC_len hx hk]; exact hc
    have k1 := name_c h x.1.name ho.nl
    have k2 := head_c h _ _ x.1 pe ho.vec ho.vl
    have k3 := content_c h _ _ x.1 pe
    have nl := pe.nil
    obtain ⟨qq, f1, f2⟩ := pe.fld
    have l0 := f2 h (Ext.refl h) 0 _ rfl
    have ih := zm_loop hn h b hb rd hv q (p ++ [x]) (by rw [hp]; simp)
    have w1 : (((p ++ [x]).length : Nat) : Int) = (p.length : Int) + 1 := by simp
    rw [w1, List.getLast?_concat] at ih
    have step : evC (callW AP.A) loopW AP.f113L0 (restr [(1, .pobj b 0), (7, .int .i64 l.length), (8, .int .i64 p.length)] [1, 7, 8]) h = if entOk (p.getLast?.map (·.1)) x.1 then some (.normal, [(1, .pobj b 0), (7, .int .i64 l.length), (8, .int .i64 ((p.length : Int) + 1))], h) else some (.ret, [(2, .bool false)], h) := by
      cases hl : p.getLast? with
      | none =>
        have hp0 : p = [] := List.getLast?_eq_none_iff.1 hl
        have hp1 : p.length = 0 := by rw [hp0]; rfl
        clear ih w1 pe f2 a1 a2 a3 a4 hl hv hp ho hx
        rw [Option.map_none, entOk_n]
        generalize nameA x.1.name = B1 at *
        generalize headA x.1 = B3 at *
        generalize contA x.1 = B4 at *
        cases B1 with
        | false =>
          rw [Bool.false_and, if_neg (by decide)]
          simp (disch := omega) only [go_sem, abin_shl, abin_shr, Nat.reduceEqDiff, reduceIte, Nat.reduceAdd, Nat.reduceMul, Nat.reduceLT, Nat.reduceLeDiff, Int.reduceBEq, Int.reduceBNe, Int.reduceLT, Int.reduceLE, Int.reduceEq, qqC, AOp.loud, AOp.births, Int.reduceAdd, Int.reduceSub, Int.reduceMul, Int.reduceNeg, Int.reduceToNat, AP.f113L0, hb, b1, nl, f1, l0, k1, k2, k3]
        | true =>
          cases B3 with
          | false =>
            rw [Bool.false_and, Bool.and_false, if_neg (by decide)]
            simp (disch := omega) only [go_sem, abin_shl, abin_shr, Nat.reduceEqDiff, reduceIte, Nat.reduceAdd, Nat.reduceMul, Nat.reduceLT, Nat.reduceLeDiff, Int.reduceBEq, Int.reduceBNe, Int.reduceLT, Int.reduceLE, Int.reduceEq, qqC, AOp.loud, AOp.births, Int.reduceAdd, Int.reduceSub, Int.reduceMul, Int.reduceNeg, Int.reduceToNat, AP.f113L0, hb, b1, nl, f1, l0, k1, k2, k3]
          | true =>
            cases B4 with
            | false =>
              rw [Bool.and_false, Bool.and_false, if_neg (by decide)]
              simp (disch := omega) only [go_sem, abin_shl, abin_shr, Nat.reduceEqDiff, reduceIte, Nat.reduceAdd, Nat.reduceMul, Nat.reduceLT, Nat.reduceLeDiff, Int.reduceBEq, Int.reduceBNe, Int.reduceLT, Int.reduceLE, Int.reduceEq, qqC, AOp.loud, AOp.births, Int.reduceAdd, Int.reduceSub, Int.reduceMul, Int.reduceNeg, Int.reduceToNat, AP.f113L0, hb, b1, nl, f1, l0, k1, k2, k3]
            | true =>
              rw [Bool.and_self, Bool.and_self, if_pos rfl]
              simp (disch := omega) only [go_sem, abin_shl, abin_shr, Nat.reduceEqDiff, reduceIte, Nat.reduceAdd, Nat.reduceMul, Nat.reduceLT, Nat.reduceLeDiff, Int.reduceBEq, Int.reduceBNe, Int.reduceLT, Int.reduceLE, Int.reduceEq, qqC, AOp.loud, AOp.births, Int.reduceAdd, Int.reduceSub, Int.reduceMul, Int.reduceNeg, Int.reduceToNat, AP.f113L0, hb, b1, nl, f1, l0, k1, k2, k3]
      | some y =>
        obtain ⟨p', rfl⟩ : ∃ p', p = p' ++ [y] := List.getLast?_eq_some_iff.1 hl
        have hpl : (p' ++ [y]).length = p'.length + 1 := by simp
        have hy : l[p'.length]? = some y := by rw [hp]; simp
        have hJ : (0 : Int) ≤ (p'.length : Int) ∧ (p'.length : Int) < l.length := ⟨by omega, by omega⟩
        have bj := a1 _ hJ
        have fj := a2 _ 0 0 hJ
        have lj := (a3 h (Ext.refl h)).1 p'.length (0 + 0) (.str y.1.name) hJ (by
          rw [tn_nat, show entsC l = l.flatMap epC from rfl, Nat.zero_add, fm_get epC_len hy (by omega)]; rfl)
        have cmp : abin .geq (.str y.1.name) (.str x.1.name) = some (.bool (!(Op.bytesLess y.1.name.toList x.1.name.toList))) := rfl
        have n2 : (((p' ++ [y]).length : Nat) : Int) - 1 = (p'.length : Int) := by rw [hpl]; omega
        clear ih w1 pe f2 a1 a2 a3 a4 hl hv hp ho hx hy
        rw [Option.map_some, entOk_s]
        simp only [Nat.add_zero] at fj lj
        generalize Op.bytesLess y.1.name.toList x.1.name.toList = B2 at *
        generalize nameA x.1.name = B1 at *
        generalize headA x.1 = B3 at *
        generalize contA x.1 = B4 at *
        generalize (p' ++ [y]).length = pl at *
        cases B1 with
        | false =>
          rw [Bool.false_and, if_neg (by decide)]
          simp (disch := omega) only [go_sem, abin_shl, abin_shr, Nat.reduceEqDiff, reduceIte, Nat.reduceAdd, Nat.reduceMul, Nat.reduceLT, Nat.reduceLeDiff, Int.reduceBEq, Int.reduceBNe, Int.reduceLT, Int.reduceLE, Int.reduceEq, qqC, AOp.loud, AOp.births, Int.reduceAdd, Int.reduceSub, Int.reduceMul, Int.reduceNeg, Int.reduceToNat, AP.f113L0, hb, b1, nl, f1, l0, k1, k2, k3, bj, fj, lj, cmp, n2]
        | true =>
          cases B2 with
          | false =>
            rw [Bool.false_and, Bool.and_false, if_neg (by decide)]
            simp (disch := omega) only [go_sem, abin_shl, abin_shr, Nat.reduceEqDiff, reduceIte, Nat.reduceAdd, Nat.reduceMul, Nat.reduceLT, Nat.reduceLeDiff, Int.reduceBEq, Int.reduceBNe, Int.reduceLT, Int.reduceLE, Int.reduceEq, qqC, AOp.loud, AOp.births, Int.reduceAdd, Int.reduceSub, Int.reduceMul, Int.reduceNeg, Int.reduceToNat, AP.f113L0, hb, b1, nl, f1, l0, k1, k2, k3, bj, fj, lj, cmp, n2]
          | true =>
            cases B3 with
            | false =>
              rw [Bool.false_and, Bool.and_false, Bool.and_false, if_neg (by decide)]
              simp (disch := omega) only [go_sem, abin_shl, abin_shr, Nat.reduceEqDiff, reduceIte, Nat.reduceAdd, Nat.reduceMul, Nat.reduceLT, Nat.reduceLeDiff, Int.reduceBEq, Int.reduceBNe, Int.reduceLT, Int.reduceLE, Int.reduceEq, qqC, AOp.loud, AOp.births, Int.reduceAdd, Int.reduceSub, Int.reduceMul, Int.reduceNeg, Int.reduceToNat, AP.f113L0, hb, b1, nl, f1, l0, k1, k2, k3, bj, fj, lj, cmp, n2]
            | true =>
              cases B4 with
              | false =>
                rw [Bool.and_false, Bool.and_false, Bool.and_false, if_neg (by decide)]
                simp (disch := omega) only [go_sem, abin_shl, abin_shr, Nat.reduceEqDiff, reduceIte, Nat.reduceAdd, Nat.reduceMul, Nat.reduceLT, Nat.reduceLeDiff, Int.reduceBEq, Int.reduceBNe, Int.reduceLT, Int.reduceLE, Int.reduceEq, qqC, AOp.loud, AOp.births, Int.reduceAdd, Int.reduceSub, Int.reduceMul, Int.reduceNeg, Int.reduceToNat, AP.f113L0, hb, b1, nl, f1, l0, k1, k2, k3, bj, fj, lj, cmp, n2]
              | true =>
                rw [Bool.and_self, Bool.and_self, Bool.and_self, if_pos rfl]
                simp (disch := omega) only [go_sem, abin_shl, abin_shr, Nat.reduceEqDiff, reduceIte, Nat.reduceAdd, Nat.reduceMul, Nat.reduceLT, Nat.reduceLeDiff, Int.reduceBEq, Int.reduceBNe, Int.reduceLT, Int.reduceLE, Int.reduceEq, qqC, AOp.loud, AOp.births, Int.reduceAdd, Int.reduceSub, Int.reduceMul, Int.reduceNeg, Int.reduceToNat, AP.f113L0, hb, b1, nl, f1, l0, k1, k2, k3, bj, fj, lj, cmp, n2]
    have hmay : mayL (p.getLast?.map (·.1)) ((x :: q).map (·.1)) = (entOk (p.getLast?.map (·.1)) x.1 && mayL (some x.1) (q.map (·.1))) := rfl
    rw [hmay]
    by_cases hok : entOk (p.getLast?.map (·.1)) x.1 = true
    · rw [if_pos hok] at step
      rw [hok, Bool.true_and]
      rcases ih with ⟨e', r1, r2, r3⟩ | ⟨e', r1, r2, r3⟩
      · exact .inl ⟨e', Lp_next step r1, r2, r3⟩
      · exact .inr ⟨e', Lp_next step r1, r2, r3⟩
    · have hok' : entOk (p.getLast?.map (·.1)) x.1 = false := by simpa using hok
      rw [if_neg hok] at step
      rw [hok', Bool.false_and]
      exact .inr ⟨_, Lp_ret step, rfl, rfl⟩
def mayF (l : List Ent) : Bool := mayL none l && decide (l.length ≤ 6)
theorem zmay_c (h : H) (v : AV) (l : List EntP) (hvs : v.sc = true) (hn : l.length < 1125899906842624) (rd : RdN 9 h v l.length (entsC l)) (hv : ∀ x ∈ l, EOk h x) : callW AP.A 113 [.agg [v]] h = some (.bool (mayF (l.map (·.1))), h) := by
  obtain ⟨h1, eh1⟩ : ∃ g, g = h.fence.alloc [v] := ⟨_, rfl⟩
  have hx : Ext h.fence h1 := by rw [eh1]; exact (Ext.refl _).alloc _
  have hx0 : Ext h h1 := fun i c q => hx i c q
  have hn0 : h.fence.next = h.next := rfl
  have g1 : h1.get h.next = some [v] := by rw [eh1]; exact get_hit rfl
  have rd1 := rd.mono fun i c q => hx0 i c q
  have ln := rd1.len
  have hb : ∀ ev : Env, look ev 0 = .agg [v] → birth ev (.box 1 (.t 0)) = some ([v], fun i => .pobj i 0) := by
    intro ev q
    simp only [birth, ev_t', q, cells_agg]
    rw [if_pos ⟨rfl, by simp [hvs]⟩]
  unfold mayF
  rcases zm_loop hn h1 h.next g1 rd1 (fun x hx => (hv x hx).mono hx0) l [] rfl with ⟨e', r1, r2, r3⟩ | ⟨e', r1, r2, r3⟩
  · have r1' : Lp AP.A [1, 7, 8] AP.f113L0 [(1, .pobj h.next 0), (7, .int .i64 l.length), (8, .int .i64 0)] h1 = some (.exit 0, e', h1) := r1
    clear r1
    have r3' : mayL none (l.map (·.1)) = true := r3
    rw [r3', Bool.true_and, List.length_map]
    refine pure_c (fn := AP.f113) (h2 := h1) (e := [(2, .bool (decide (l.length ≤ 6)))]) rfl rfl rfl ?_ rfl rfl
    clear rd rd1 hv hx hx0 r3 r3'
    simp only [params_c, params_n, AP.f113]
    rw [C_seq, C_reg, ops_u, op_birth_box, hb _ rfl]
    simp only [birthH_s, hn0, ← eh1]
    by_cases c : l.length ≤ 6
    · simp (disch := omega) only [go_sem, abin_shl, abin_shr, Nat.reduceEqDiff, reduceIte, Nat.reduceAdd, Nat.reduceMul, Nat.reduceLT, Nat.reduceLeDiff, Int.reduceBEq, Int.reduceBNe, Int.reduceLT, Int.reduceLE, Int.reduceEq, qqC, AOp.loud, AOp.births, Int.reduceAdd, Int.reduceSub, Int.reduceMul, Int.reduceNeg, Int.reduceToNat, g1, ln, evC_loop, r1', r2]
    · simp (disch := omega) only [go_sem, abin_shl, abin_shr, Nat.reduceEqDiff, reduceIte, Nat.reduceAdd, Nat.reduceMul, Nat.reduceLT, Nat.reduceLeDiff, Int.reduceBEq, Int.reduceBNe, Int.reduceLT, Int.reduceLE, Int.reduceEq, qqC, AOp.loud, AOp.births, Int.reduceAdd, Int.reduceSub, Int.reduceMul, Int.reduceNeg, Int.reduceToNat, g1, ln, evC_loop, r1', r2]
  · have r1' : Lp AP.A [1, 7, 8] AP.f113L0 [(1, .pobj h.next 0), (7, .int .i64 l.length), (8, .int .i64 0)] h1 = some (.ret, e', h1) := r1
    clear r1
    have r3' : mayL none (l.map (·.1)) = false := r3
    rw [r3', Bool.false_and]
    refine pure_c (fn := AP.f113) (h2 := h1) (e := e') (vs := [.bool false]) rfl rfl rfl ?_ (by simp only [AP.f113, resAll, resOf, r2]; rfl) rfl
    clear rd rd1 hv hx hx0 r3 r3'
    simp only [params_c, params_n, AP.f113]
    rw [C_seq, C_reg, ops_u, op_birth_box, hb _ rfl]
    simp only [birthH_s, hn0, ← eh1]
    simp (disch := omega) only [go_sem, abin_shl, abin_shr, Nat.reduceEqDiff, reduceIte, Nat.reduceAdd, Nat.reduceMul, Nat.reduceLT, Nat.reduceLeDiff, Int.reduceBEq, Int.reduceBNe, Int.reduceLT, Int.reduceLE, Int.reduceEq, qqC, AOp.loud, AOp.births, Int.reduceAdd, Int.reduceSub, Int.reduceMul, Int.reduceNeg, Int.reduceToNat, g1, ln, evC_loop, r1']
end Ab
set_option linter.unusedSimpArgs false
set_option linter.unusedVariables false
set_option maxRecDepth 100000
namespace Ab
open Go
def unpackA (method : Int) (s : ByteArray) (size : Int) : Option ByteArray :=
  if size < 0 ∨ 300 < size then none
  else if method = 0 then (if (s.size : Int) = size then some s else none)
  else if method = 8 then (match inflateA s size with
    | .ok (o, took) => if (o.length : Int) = size ∧ took = s.size then some (bytesOf o) else none
    | .error _ => none)
  else none
theorem unpackA_size {m : Int} {s : ByteArray} {z : Int} {t : ByteArray} (h : unpackA m s z = some t) : (t.size : Int) = z ∧ 0 ≤ z ∧ z ≤ 300 := by
  unfold unpackA at h
  split at h
  · cases h
  · rename_i q
    split at h
    · split at h
      · rename_i q2; obtain rfl := Option.some.inj h; omega
      · cases h
    · split at h
      · split at h
        · split at h
          · rename_i q2
            obtain rfl := Option.some.inj h
            rw [bytesOf_size]; omega
          · cases h
        · cases h
      · cases h
def unpV : Option ByteArray → AV
  | some t => .tup [.str t, .int .i64 0]
  | none => .tup [.str ⟨#[]⟩, .int .i64 900]
theorem unpack_c (h : H) (hf : h.floor ≤ h.next) (m : Int) (s : ByteArray) (z : Int) (hs : s.size < 1125899906842624) : callW AP.A 114 [.int .i64 m, .str s, .int .i64 z] h = some (unpV (unpackA m s z), h) := by
  unfold unpackA
  by_cases c1 : z < 0
  · rw [if_pos (.inl c1)]
    refine pure_c (fn := AP.f114) (h2 := h.fence) (e := [(6, .str ⟨#[]⟩), (7, .int .i64 900)]) rfl rfl rfl ?_ rfl rfl
    simp (disch := omega) only [go_sem, abin_shl, abin_shr, Nat.reduceEqDiff, reduceIte, Nat.reduceAdd, Nat.reduceMul, Nat.reduceLT, Nat.reduceLeDiff, Int.reduceBEq, Int.reduceBNe, Int.reduceLT, Int.reduceLE, Int.reduceEq, qqC, AOp.loud, AOp.births, Int.reduceAdd, Int.reduceSub, Int.reduceMul, Int.reduceNeg, Int.reduceToNat, AP.f114]
  by_cases c2 : 300 < z
  · rw [if_pos (.inr c2)]
    refine pure_c (fn := AP.f114) (h2 := h.fence) (e := [(6, .str ⟨#[]⟩), (7, .int .i64 900)]) rfl rfl rfl ?_ rfl rfl
    simp (disch := omega) only [go_sem, abin_shl, abin_shr, Nat.reduceEqDiff, reduceIte, Nat.reduceAdd, Nat.reduceMul, Nat.reduceLT, Nat.reduceLeDiff, Int.reduceBEq, Int.reduceBNe, Int.reduceLT, Int.reduceLE, Int.reduceEq, qqC, AOp.loud, AOp.births, Int.reduceAdd, Int.reduceSub, Int.reduceMul, Int.reduceNeg, Int.reduceToNat, AP.f114]
  rw [if_neg (by omega)]
  by_cases c3 : m = 0
  · rw [if_pos c3]
    by_cases c4 : (s.size : Int) = z
    · rw [if_pos c4]
      refine pure_c (fn := AP.f114) (h2 := h.fence) (e := [(6, .str s), (7, .int .i64 0)]) rfl rfl rfl ?_ rfl rfl
      simp (disch := omega) only [go_sem, abin_shl, abin_shr, Nat.reduceEqDiff, reduceIte, Nat.reduceAdd, Nat.reduceMul, Nat.reduceLT, Nat.reduceLeDiff, Int.reduceBEq, Int.reduceBNe, Int.reduceLT, Int.reduceLE, Int.reduceEq, qqC, AOp.loud, AOp.births, Int.reduceAdd, Int.reduceSub, Int.reduceMul, Int.reduceNeg, Int.reduceToNat, AP.f114]
    · rw [if_neg c4]
      refine pure_c (fn := AP.f114) (h2 := h.fence) (e := [(6, .str ⟨#[]⟩), (7, .int .i64 900)]) rfl rfl rfl ?_ rfl rfl
      simp (disch := omega) only [go_sem, abin_shl, abin_shr, Nat.reduceEqDiff, reduceIte, Nat.reduceAdd, Nat.reduceMul, Nat.reduceLT, Nat.reduceLeDiff, Int.reduceBEq, Int.reduceBNe, Int.reduceLT, Int.reduceLE, Int.reduceEq, qqC, AOp.loud, AOp.births, Int.reduceAdd, Int.reduceSub, Int.reduceMul, Int.reduceNeg, Int.reduceToNat, AP.f114]
  rw [if_neg c3]
  by_cases c5 : m = 8
  · rw [if_pos c5]
    have k1 := inflate_c h.fence (by simp) s z hs
    simp only [I] at k1
    cases hi : inflateA s z with
    | error k =>
      rw [hi] at k1
      simp only [infV, I] at k1
      have hk := inflateA_err hi
      have hk' : ¬ k = 0 := by rcases hk with rfl | rfl <;> decide
      clear hk
      refine pure_c (fn := AP.f114) (h2 := h.fence) (e := [(6, .str ⟨#[]⟩), (7, .int .i64 900)]) rfl rfl rfl ?_ rfl rfl
      simp (disch := omega) only [go_sem, abin_shl, abin_shr, Nat.reduceEqDiff, reduceIte, Nat.reduceAdd, Nat.reduceMul, Nat.reduceLT, Nat.reduceLeDiff, Int.reduceBEq, Int.reduceBNe, Int.reduceLT, Int.reduceLE, Int.reduceEq, qqC, AOp.loud, AOp.births, Int.reduceAdd, Int.reduceSub, Int.reduceMul, Int.reduceNeg, Int.reduceToNat, AP.f114, k1]
    | ok r =>
      obtain ⟨o, took⟩ := r
      rw [hi] at k1
      simp only [infV, I] at k1
      dsimp only
      have sz := bytesOf_size o
      by_cases c6 : (o.length : Int) = z
      · by_cases c7 : took = s.size
        · rw [if_pos ⟨c6, c7⟩]
          refine pure_c (fn := AP.f114) (h2 := h.fence) (e := [(6, .str (bytesOf o)), (7, .int .i64 0)]) rfl rfl rfl ?_ rfl rfl
          simp (disch := omega) only [go_sem, abin_shl, abin_shr, Nat.reduceEqDiff, reduceIte, Nat.reduceAdd, Nat.reduceMul, Nat.reduceLT, Nat.reduceLeDiff, Int.reduceBEq, Int.reduceBNe, Int.reduceLT, Int.reduceLE, Int.reduceEq, qqC, AOp.loud, AOp.births, Int.reduceAdd, Int.reduceSub, Int.reduceMul, Int.reduceNeg, Int.reduceToNat, AP.f114, k1, sz]
        · rw [if_neg (fun q => c7 q.2)]
          refine pure_c (fn := AP.f114) (h2 := h.fence) (e := [(6, .str ⟨#[]⟩), (7, .int .i64 900)]) rfl rfl rfl ?_ rfl rfl
          simp (disch := omega) only [go_sem, abin_shl, abin_shr, Nat.reduceEqDiff, reduceIte, Nat.reduceAdd, Nat.reduceMul, Nat.reduceLT, Nat.reduceLeDiff, Int.reduceBEq, Int.reduceBNe, Int.reduceLT, Int.reduceLE, Int.reduceEq, qqC, AOp.loud, AOp.births, Int.reduceAdd, Int.reduceSub, Int.reduceMul, Int.reduceNeg, Int.reduceToNat, AP.f114, k1, sz]
      · rw [if_neg (fun q => c6 q.1)]
        refine pure_c (fn := AP.f114) (h2 := h.fence) (e := [(6, .str ⟨#[]⟩), (7, .int .i64 900)]) rfl rfl rfl ?_ rfl rfl
        simp (disch := omega) only [go_sem, abin_shl, abin_shr, Nat.reduceEqDiff, reduceIte, Nat.reduceAdd, Nat.reduceMul, Nat.reduceLT, Nat.reduceLeDiff, Int.reduceBEq, Int.reduceBNe, Int.reduceLT, Int.reduceLE, Int.reduceEq, qqC, AOp.loud, AOp.births, Int.reduceAdd, Int.reduceSub, Int.reduceMul, Int.reduceNeg, Int.reduceToNat, AP.f114, k1, sz]
  · rw [if_neg c5]
    refine pure_c (fn := AP.f114) (h2 := h.fence) (e := [(6, .str ⟨#[]⟩), (7, .int .i64 900)]) rfl rfl rfl ?_ rfl rfl
    simp (disch := omega) only [go_sem, abin_shl, abin_shr, Nat.reduceEqDiff, reduceIte, Nat.reduceAdd, Nat.reduceMul, Nat.reduceLT, Nat.reduceLeDiff, Int.reduceBEq, Int.reduceBNe, Int.reduceLT, Int.reduceLE, Int.reduceEq, qqC, AOp.loud, AOp.births, Int.reduceAdd, Int.reduceSub, Int.reduceMul, Int.reduceNeg, Int.reduceToNat, AP.f114]
theorem unpack2_c (h : H) (m : Int) (s : ByteArray) (z : Int) (hs : s.size < 1125899906842624) : callW AP.A 164 [.int .i64 m, .str s, .int .i64 z] h = some (unpV (unpackA m s z), h) := by
  unfold unpackA
  by_cases c1 : z < 0
  · rw [if_pos (.inl c1)]
    refine pure_c (fn := AP.f164) (h2 := h.fence) (e := [(6, .str ⟨#[]⟩), (7, .int .i64 900)]) rfl rfl rfl ?_ rfl rfl
    simp (disch := omega) only [go_sem, abin_shl, abin_shr, Nat.reduceEqDiff, reduceIte, Nat.reduceAdd, Nat.reduceMul, Nat.reduceLT, Nat.reduceLeDiff, Int.reduceBEq, Int.reduceBNe, Int.reduceLT, Int.reduceLE, Int.reduceEq, qqC, AOp.loud, AOp.births, Int.reduceAdd, Int.reduceSub, Int.reduceMul, Int.reduceNeg, Int.reduceToNat, AP.f164]
  by_cases c2 : 300 < z
  · rw [if_pos (.inr c2)]
    refine pure_c (fn := AP.f164) (h2 := h.fence) (e := [(6, .str ⟨#[]⟩), (7, .int .i64 900)]) rfl rfl rfl ?_ rfl rfl
    simp (disch := omega) only [go_sem, abin_shl, abin_shr, Nat.reduceEqDiff, reduceIte, Nat.reduceAdd, Nat.reduceMul, Nat.reduceLT, Nat.reduceLeDiff, Int.reduceBEq, Int.reduceBNe, Int.reduceLT, Int.reduceLE, Int.reduceEq, qqC, AOp.loud, AOp.births, Int.reduceAdd, Int.reduceSub, Int.reduceMul, Int.reduceNeg, Int.reduceToNat, AP.f164]
  rw [if_neg (by omega)]
  by_cases c3 : m = 0
  · rw [if_pos c3]
    by_cases c4 : (s.size : Int) = z
    · rw [if_pos c4]
      refine pure_c (fn := AP.f164) (h2 := h.fence) (e := [(6, .str s), (7, .int .i64 0)]) rfl rfl rfl ?_ rfl rfl
      simp (disch := omega) only [go_sem, abin_shl, abin_shr, Nat.reduceEqDiff, reduceIte, Nat.reduceAdd, Nat.reduceMul, Nat.reduceLT, Nat.reduceLeDiff, Int.reduceBEq, Int.reduceBNe, Int.reduceLT, Int.reduceLE, Int.reduceEq, qqC, AOp.loud, AOp.births, Int.reduceAdd, Int.reduceSub, Int.reduceMul, Int.reduceNeg, Int.reduceToNat, AP.f164]
    · rw [if_neg c4]
      refine pure_c (fn := AP.f164) (h2 := h.fence) (e := [(6, .str ⟨#[]⟩), (7, .int .i64 900)]) rfl rfl rfl ?_ rfl rfl
      simp (disch := omega) only [go_sem, abin_shl, abin_shr, Nat.reduceEqDiff, reduceIte, Nat.reduceAdd, Nat.reduceMul, Nat.reduceLT, Nat.reduceLeDiff, Int.reduceBEq, Int.reduceBNe, Int.reduceLT, Int.reduceLE, Int.reduceEq, qqC, AOp.loud, AOp.births, Int.reduceAdd, Int.reduceSub, Int.reduceMul, Int.reduceNeg, Int.reduceToNat, AP.f164]
  rw [if_neg c3]
  by_cases c5 : m = 8
  · rw [if_pos c5]
    have k1 := finflate_c h.fence s z hs
    simp only [I] at k1
    cases hi : inflateA s z with
    | error k =>
      rw [hi] at k1
      simp only [infV, I] at k1
      have hk := inflateA_err hi
      have hk' : ¬ k = 0 := by rcases hk with rfl | rfl <;> decide
      clear hk
      refine pure_c (fn := AP.f164) (h2 := h.fence) (e := [(6, .str ⟨#[]⟩), (7, .int .i64 900)]) rfl rfl rfl ?_ rfl rfl
      simp (disch := omega) only [go_sem, abin_shl, abin_shr, Nat.reduceEqDiff, reduceIte, Nat.reduceAdd, Nat.reduceMul, Nat.reduceLT, Nat.reduceLeDiff, Int.reduceBEq, Int.reduceBNe, Int.reduceLT, Int.reduceLE, Int.reduceEq, qqC, AOp.loud, AOp.births, Int.reduceAdd, Int.reduceSub, Int.reduceMul, Int.reduceNeg, Int.reduceToNat, AP.f164, k1]
    | ok r =>
      obtain ⟨o, took⟩ := r
      rw [hi] at k1
      simp only [infV, I] at k1
      dsimp only
      have sz := bytesOf_size o
      by_cases c6 : (o.length : Int) = z
      · by_cases c7 : took = s.size
        · rw [if_pos ⟨c6, c7⟩]
          refine pure_c (fn := AP.f164) (h2 := h.fence) (e := [(6, .str (bytesOf o)), (7, .int .i64 0)]) rfl rfl rfl ?_ rfl rfl
          simp (disch := omega) only [go_sem, abin_shl, abin_shr, Nat.reduceEqDiff, reduceIte, Nat.reduceAdd, Nat.reduceMul, Nat.reduceLT, Nat.reduceLeDiff, Int.reduceBEq, Int.reduceBNe, Int.reduceLT, Int.reduceLE, Int.reduceEq, qqC, AOp.loud, AOp.births, Int.reduceAdd, Int.reduceSub, Int.reduceMul, Int.reduceNeg, Int.reduceToNat, AP.f164, k1, sz]
        · rw [if_neg (fun q => c7 q.2)]
          refine pure_c (fn := AP.f164) (h2 := h.fence) (e := [(6, .str ⟨#[]⟩), (7, .int .i64 900)]) rfl rfl rfl ?_ rfl rfl
          simp (disch := omega) only [go_sem, abin_shl, abin_shr, Nat.reduceEqDiff, reduceIte, Nat.reduceAdd, Nat.reduceMul, Nat.reduceLT, Nat.reduceLeDiff, Int.reduceBEq, Int.reduceBNe, Int.reduceLT, Int.reduceLE, Int.reduceEq, qqC, AOp.loud, AOp.births, Int.reduceAdd, Int.reduceSub, Int.reduceMul, Int.reduceNeg, Int.reduceToNat, AP.f164, k1, sz]
      · rw [if_neg (fun q => c6 q.1)]
        refine pure_c (fn := AP.f164) (h2 := h.fence) (e := [(6, .str ⟨#[]⟩), (7, .int .i64 900)]) rfl rfl rfl ?_ rfl rfl
        simp (disch := omega) only [go_sem, abin_shl, abin_shr, Nat.reduceEqDiff, reduceIte, Nat.reduceAdd, Nat.reduceMul, Nat.reduceLT, Nat.reduceLeDiff, Int.reduceBEq, Int.reduceBNe, Int.reduceLT, Int.reduceLE, Int.reduceEq, qqC, AOp.loud, AOp.births, Int.reduceAdd, Int.reduceSub, Int.reduceMul, Int.reduceNeg, Int.reduceToNat, AP.f164, k1, sz]
  · rw [if_neg c5]
    refine pure_c (fn := AP.f164) (h2 := h.fence) (e := [(6, .str ⟨#[]⟩), (7, .int .i64 900)]) rfl rfl rfl ?_ rfl rfl
    simp (disch := omega) only [go_sem, abin_shl, abin_shr, Nat.reduceEqDiff, reduceIte, Nat.reduceAdd, Nat.reduceMul, Nat.reduceLT, Nat.reduceLeDiff, Int.reduceBEq, Int.reduceBNe, Int.reduceLT, Int.reduceLE, Int.reduceEq, qqC, AOp.loud, AOp.births, Int.reduceAdd, Int.reduceSub, Int.reduceMul, Int.reduceNeg, Int.reduceToNat, AP.f164]
def entText (e : Ent) : Option ByteArray :=
  if mayF [e] = false then none
  else if e.gone then some ⟨#[]⟩
  else match unpackA e.method e.packed e.size with
    | some t => if (crcA t : Int) = e.crc then some t else none
    | none => none
theorem text_c (h : H) (hf : h.floor ≤ h.next) (e : Ent) (v : AV) (hv : v.sc = true) (ok : EOk h (e, v)) : ∃ t, callW AP.A 107 [.agg (entC e v)] h = some (.tup [.str t, .bool (entText e).isSome], h) ∧ (∀ u, entText e = some u → t = u) := by
  obtain ⟨h1, eh1⟩ : ∃ g, g = h.fence.alloc (entC e v) := ⟨_, rfl⟩
  obtain ⟨h2, eh2⟩ : ∃ g, g = h1.alloc (entC e v) := ⟨_, rfl⟩
  have hx1 : Ext h h1 := fun i c q => by rw [eh1]; exact ((Ext.refl h.fence).alloc _) i c q
  have hx2 : Ext h h2 := by rw [eh2]; exact hx1.alloc _
  have hn0 : h.fence.next = h.next := rfl
  have hn1 : h1.next = h.next + 1 := by rw [eh1]; simp
  have g1 : h2.get h.next = some (entC e v) := by rw [eh2, get_miss (by omega), eh1, get_hit (by simp)]
  have g0 : h1.get h.next = some (entC e v) := by rw [eh1, get_hit (by simp)]
  have o : RdN 9 h2 (.sobj (h.next + 1) 0 1 9) 1 (entsC [(e, v)]) := by
    refine ⟨?_, rfl, fun _ => by simp⟩
    simp only [srcCells, if_true]
    rw [eh2, get_hit (by omega)]
    rfl
  have k1 := zmay_c h2 (.sobj (h.next + 1) 0 1 9) [(e, v)] rfl (by simp) o (fun x hx => by
    obtain rfl : x = (e, v) := by simpa using hx
    exact ok.mono hx2)
  have k1' : callW AP.A 113 [.agg [.sobj (h.next + 1) 0 1 9]] h2 = some (.bool (mayF [e]), h2) := k1
  have hf2 : h2.floor ≤ h2.next := by rw [eh2, eh1]; simp; omega
  have k2 := unpack_c h2 hf2 e.method e.packed e.size ok.pl
  have rdA : rdc true 9 (entC e v) 0 = some (.agg (entC e v)) := rfl
  have cr : ∀ t : ByteArray, t.size < 1125899906842624 → callW AP.A 115 [.str t] h2 = some (.int .i64 (crcA t : Nat), h2) := fun t ht => of_crc_c h2 t ht
  clear k1 o hx1 hx2
  unfold entText
  simp only [entC] at *
  cases hm : mayF [e] with
  | false =>
    rw [hm] at k1'
    refine ⟨⟨#[]⟩, ?_, fun u q => by simp at q⟩
    rw [if_pos rfl]
    refine pure_c (fn := AP.f107) (h2 := h2) (e := [(2, .str ⟨#[]⟩), (3, .bool false)]) rfl rfl rfl ?_ rfl rfl
    simp (disch := omega) only [go_sem, abin_shl, abin_shr, Nat.reduceEqDiff, reduceIte, Nat.reduceAdd, Nat.reduceMul, Nat.reduceLT, Nat.reduceLeDiff, Int.reduceBEq, Int.reduceBNe, Int.reduceLT, Int.reduceLE, Int.reduceEq, qqC, AOp.loud, AOp.births, Int.reduceAdd, Int.reduceSub, Int.reduceMul, Int.reduceNeg, Int.reduceToNat, AP.f107, hv, hn0, ← eh1, g0, rdA, hn1, ← eh2, k1']
  | true =>
    rw [hm] at k1'
    rw [if_neg (by decide)]
    cases hg : e.gone with
    | true =>
      rw [hg] at g1 g0 eh1 eh2 rdA
      refine ⟨⟨#[]⟩, ?_, fun u q => by simpa using q⟩
      refine pure_c (fn := AP.f107) (h2 := h2) (e := [(2, .str ⟨#[]⟩), (3, .bool true)]) rfl rfl rfl ?_ rfl rfl
      simp (disch := omega) only [go_sem, abin_shl, abin_shr, Nat.reduceEqDiff, reduceIte, Nat.reduceAdd, Nat.reduceMul, Nat.reduceLT, Nat.reduceLeDiff, Int.reduceBEq, Int.reduceBNe, Int.reduceLT, Int.reduceLE, Int.reduceEq, qqC, AOp.loud, AOp.births, Int.reduceAdd, Int.reduceSub, Int.reduceMul, Int.reduceNeg, Int.reduceToNat, AP.f107, hv, hn0, ← eh1, g0, g1, rdA, hn1, ← eh2, k1']
    | false =>
      rw [hg] at g1 g0 eh1 eh2 rdA
      rw [if_neg (by decide)]
      cases hu : unpackA e.method e.packed e.size with
      | none =>
        rw [hu] at k2
        simp only [unpV] at k2
        refine ⟨⟨#[]⟩, ?_, fun u q => by simp at q⟩
        refine pure_c (fn := AP.f107) (h2 := h2) (e := [(2, .str ⟨#[]⟩), (3, .bool false)]) rfl rfl rfl ?_ rfl rfl
        simp (disch := omega) only [go_sem, abin_shl, abin_shr, Nat.reduceEqDiff, reduceIte, Nat.reduceAdd, Nat.reduceMul, Nat.reduceLT, Nat.reduceLeDiff, Int.reduceBEq, Int.reduceBNe, Int.reduceLT, Int.reduceLE, Int.reduceEq, qqC, AOp.loud, AOp.births, Int.reduceAdd, Int.reduceSub, Int.reduceMul, Int.reduceNeg, Int.reduceToNat, AP.f107, hv, hn0, ← eh1, g0, g1, rdA, hn1, ← eh2, k1', k2]
      | some t =>
        rw [hu] at k2
        simp only [unpV] at k2
        have kc := cr t (by have := unpackA_size hu; omega)
        dsimp only
        by_cases c : (crcA t : Int) = e.crc
        · rw [if_pos c]
          refine ⟨t, ?_, fun u q => Option.some.inj q⟩
          refine pure_c (fn := AP.f107) (h2 := h2) (e := [(2, .str t), (3, .bool true)]) rfl rfl rfl ?_ rfl rfl
          simp (disch := omega) only [go_sem, abin_shl, abin_shr, Nat.reduceEqDiff, reduceIte, Nat.reduceAdd, Nat.reduceMul, Nat.reduceLT, Nat.reduceLeDiff, Int.reduceBEq, Int.reduceBNe, Int.reduceLT, Int.reduceLE, Int.reduceEq, qqC, AOp.loud, AOp.births, Int.reduceAdd, Int.reduceSub, Int.reduceMul, Int.reduceNeg, Int.reduceToNat, AP.f107, hv, hn0, ← eh1, g0, g1, rdA, hn1, ← eh2, k1', k2, kc]
        · rw [if_neg c]
          refine ⟨t, ?_, fun u q => by simp at q⟩
          refine pure_c (fn := AP.f107) (h2 := h2) (e := [(2, .str t), (3, .bool false)]) rfl rfl rfl ?_ rfl rfl
          simp (disch := omega) only [go_sem, abin_shl, abin_shr, Nat.reduceEqDiff, reduceIte, Nat.reduceAdd, Nat.reduceMul, Nat.reduceLT, Nat.reduceLeDiff, Int.reduceBEq, Int.reduceBNe, Int.reduceLT, Int.reduceLE, Int.reduceEq, qqC, AOp.loud, AOp.births, Int.reduceAdd, Int.reduceSub, Int.reduceMul, Int.reduceNeg, Int.reduceToNat, AP.f107, hv, hn0, ← eh1, g0, g1, rdA, hn1, ← eh2, k1', k2, kc]
def mayE (e : Ent) : Bool := (entText e).isSome
theorem emay_c (h : H) (hf : h.floor ≤ h.next) (e : Ent) (v : AV) (hv : v.sc = true) (ok : EOk h (e, v)) : callW AP.A 96 [.agg (entC e v)] h = some (.bool (mayE e), h) := by
  obtain ⟨h1, eh1⟩ : ∃ g, g = h.fence.alloc (entC e v) := ⟨_, rfl⟩
  have hx1 : Ext h h1 := fun i c q => by rw [eh1]; exact ((Ext.refl h.fence).alloc _) i c q
  have hn0 : h.fence.next = h.next := rfl
  have g0 : h1.get h.next = some (entC e v) := by rw [eh1, get_hit (by simp)]
  obtain ⟨t, k1, _⟩ := text_c h1 (by rw [eh1]; simp) e v hv (ok.mono hx1)
  have rdA : rdc true 9 (entC e v) 0 = some (.agg (entC e v)) := rfl
  refine pure_c (fn := AP.f96) (h2 := h1) (e := [(2, .bool (mayE e))]) rfl rfl rfl ?_ rfl rfl
  clear hx1
  unfold mayE
  simp only [entC] at *
  simp (disch := omega) only [go_sem, abin_shl, abin_shr, Nat.reduceEqDiff, reduceIte, Nat.reduceAdd, Nat.reduceMul, Nat.reduceLT, Nat.reduceLeDiff, Int.reduceBEq, Int.reduceBNe, Int.reduceLT, Int.reduceLE, Int.reduceEq, qqC, AOp.loud, AOp.births, Int.reduceAdd, Int.reduceSub, Int.reduceMul, Int.reduceNeg, Int.reduceToNat, AP.f96, hv, hn0, ← eh1, g0, rdA, k1]
theorem mayF1 (e : Ent) : mayF [e] = (nameA e.name && (headA e && contA e)) := by
  unfold mayF mayL
  rw [entOk_n]
  simp [mayL]
theorem held_c (h : H) (e : Ent) (v : AV) (hv : v.sc = true) (ok : EOk h (e, v)) : callW AP.A 167 [.agg (entC e v)] h = some (.bool (mayF [e]), h) := by
  obtain ⟨h1, eh1⟩ : ∃ g, g = h.fence.alloc (entC e v) := ⟨_, rfl⟩
  have hx1 : Ext h h1 := fun i c q => by rw [eh1]; exact ((Ext.refl h.fence).alloc _) i c q
  have hn0 : h.fence.next = h.next := rfl
  have g0 : h1.get h.next = some (entC e v) := by rw [eh1, get_hit (by simp)]
  have k1 := name2_c h1 e.name ok.nl
  have k2 := head2_c h1 v e (ok.mono hx1).vec hv ok.vl
  have e1 : abin .eql (.str e.packed) (.str ⟨#[]⟩) = some (.bool (isEmp e.packed)) := str_eql _ _
  have rdA : rdc true 9 (entC e v) 0 = some (.agg (entC e v)) := rfl
  rw [mayF1]
  refine pure_c (fn := AP.f167) (h2 := h1) (e := [(2, .bool (nameA e.name && (headA e && contA e)))]) rfl rfl rfl ?_ rfl rfl
  clear hx1 ok
  unfold contA isA
  generalize nameA e.name = B1 at *
  generalize headA e = B2 at *
  generalize isEmp e.packed = B3 at *
  simp only [entC] at *
  cases B1 with
  | false => simp (disch := omega) only [go_sem, abin_shl, abin_shr, Nat.reduceEqDiff, reduceIte, Nat.reduceAdd, Nat.reduceMul, Nat.reduceLT, Nat.reduceLeDiff, Int.reduceBEq, Int.reduceBNe, Int.reduceLT, Int.reduceLE, Int.reduceEq, qqC, AOp.loud, AOp.births, Int.reduceAdd, Int.reduceSub, Int.reduceMul, Int.reduceNeg, Int.reduceToNat, AP.f167, hv, hn0, ← eh1, g0, rdA, k1, k2]
  | true =>
    cases B2 with
    | false => simp (disch := omega) only [go_sem, abin_shl, abin_shr, Nat.reduceEqDiff, reduceIte, Nat.reduceAdd, Nat.reduceMul, Nat.reduceLT, Nat.reduceLeDiff, Int.reduceBEq, Int.reduceBNe, Int.reduceLT, Int.reduceLE, Int.reduceEq, qqC, AOp.loud, AOp.births, Int.reduceAdd, Int.reduceSub, Int.reduceMul, Int.reduceNeg, Int.reduceToNat, AP.f167, hv, hn0, ← eh1, g0, rdA, k1, k2]
    | true =>
      cases hg : e.gone with
      | true =>
        rw [hg] at g0 eh1 rdA k2
        rw [if_pos rfl]
        by_cases c1 : e.method = 0
        · cases B3 with
          | false => simp (disch := omega) only [go_sem, abin_shl, abin_shr, Nat.reduceEqDiff, reduceIte, Nat.reduceAdd, Nat.reduceMul, Nat.reduceLT, Nat.reduceLeDiff, Int.reduceBEq, Int.reduceBNe, Int.reduceLT, Int.reduceLE, Int.reduceEq, qqC, AOp.loud, AOp.births, Int.reduceAdd, Int.reduceSub, Int.reduceMul, Int.reduceNeg, Int.reduceToNat, AP.f167, hv, hn0, ← eh1, g0, rdA, k1, k2, e1]
          | true =>
            by_cases c2 : e.size = 0
            · by_cases c3 : e.crc = 0 <;> simp (disch := omega) only [go_sem, abin_shl, abin_shr, Nat.reduceEqDiff, reduceIte, Nat.reduceAdd, Nat.reduceMul, Nat.reduceLT, Nat.reduceLeDiff, Int.reduceBEq, Int.reduceBNe, Int.reduceLT, Int.reduceLE, Int.reduceEq, qqC, AOp.loud, AOp.births, Int.reduceAdd, Int.reduceSub, Int.reduceMul, Int.reduceNeg, Int.reduceToNat, AP.f167, hv, hn0, ← eh1, g0, rdA, k1, k2, e1]
            · simp (disch := omega) only [go_sem, abin_shl, abin_shr, Nat.reduceEqDiff, reduceIte, Nat.reduceAdd, Nat.reduceMul, Nat.reduceLT, Nat.reduceLeDiff, Int.reduceBEq, Int.reduceBNe, Int.reduceLT, Int.reduceLE, Int.reduceEq, qqC, AOp.loud, AOp.births, Int.reduceAdd, Int.reduceSub, Int.reduceMul, Int.reduceNeg, Int.reduceToNat, AP.f167, hv, hn0, ← eh1, g0, rdA, k1, k2, e1]
        · simp (disch := omega) only [go_sem, abin_shl, abin_shr, Nat.reduceEqDiff, reduceIte, Nat.reduceAdd, Nat.reduceMul, Nat.reduceLT, Nat.reduceLeDiff, Int.reduceBEq, Int.reduceBNe, Int.reduceLT, Int.reduceLE, Int.reduceEq, qqC, AOp.loud, AOp.births, Int.reduceAdd, Int.reduceSub, Int.reduceMul, Int.reduceNeg, Int.reduceToNat, AP.f167, hv, hn0, ← eh1, g0, rdA, k1, k2, e1]
      | false =>
        rw [hg] at g0 eh1 rdA k2
        rw [if_neg (by decide)]
        by_cases c1 : 0 ≤ e.size
        · by_cases c2 : e.size ≤ 300
          · by_cases c3 : 0 ≤ e.crc
            · by_cases c4 : e.crc ≤ 4294967295
              · by_cases c5 : e.method = 0
                · have c5' : ¬ e.method = 8 := by omega
                  by_cases c6 : (e.packed.size : Int) = e.size <;> simp (disch := omega) only [go_sem, abin_shl, abin_shr, Nat.reduceEqDiff, reduceIte, Nat.reduceAdd, Nat.reduceMul, Nat.reduceLT, Nat.reduceLeDiff, Int.reduceBEq, Int.reduceBNe, Int.reduceLT, Int.reduceLE, Int.reduceEq, qqC, AOp.loud, AOp.births, Int.reduceAdd, Int.reduceSub, Int.reduceMul, Int.reduceNeg, Int.reduceToNat, AP.f167, hv, hn0, ← eh1, g0, rdA, k1, k2, e1]
                · by_cases c7 : e.method = 8
                  · by_cases c8 : e.packed.size ≤ 300 <;> simp (disch := omega) only [go_sem, abin_shl, abin_shr, Nat.reduceEqDiff, reduceIte, Nat.reduceAdd, Nat.reduceMul, Nat.reduceLT, Nat.reduceLeDiff, Int.reduceBEq, Int.reduceBNe, Int.reduceLT, Int.reduceLE, Int.reduceEq, qqC, AOp.loud, AOp.births, Int.reduceAdd, Int.reduceSub, Int.reduceMul, Int.reduceNeg, Int.reduceToNat, AP.f167, hv, hn0, ← eh1, g0, rdA, k1, k2, e1]
                  · simp (disch := omega) only [go_sem, abin_shl, abin_shr, Nat.reduceEqDiff, reduceIte, Nat.reduceAdd, Nat.reduceMul, Nat.reduceLT, Nat.reduceLeDiff, Int.reduceBEq, Int.reduceBNe, Int.reduceLT, Int.reduceLE, Int.reduceEq, qqC, AOp.loud, AOp.births, Int.reduceAdd, Int.reduceSub, Int.reduceMul, Int.reduceNeg, Int.reduceToNat, AP.f167, hv, hn0, ← eh1, g0, rdA, k1, k2, e1]
              · have c4' : ¬ (0 ≤ e.crc ∧ e.crc ≤ 4294967295) := by omega
                simp (disch := omega) only [go_sem, abin_shl, abin_shr, Nat.reduceEqDiff, reduceIte, Nat.reduceAdd, Nat.reduceMul, Nat.reduceLT, Nat.reduceLeDiff, Int.reduceBEq, Int.reduceBNe, Int.reduceLT, Int.reduceLE, Int.reduceEq, qqC, AOp.loud, AOp.births, Int.reduceAdd, Int.reduceSub, Int.reduceMul, Int.reduceNeg, Int.reduceToNat, AP.f167, hv, hn0, ← eh1, g0, rdA, k1, k2, e1]
            · have c4' : ¬ (0 ≤ e.crc ∧ e.crc ≤ 4294967295) := by omega
              simp (disch := omega) only [go_sem, abin_shl, abin_shr, Nat.reduceEqDiff, reduceIte, Nat.reduceAdd, Nat.reduceMul, Nat.reduceLT, Nat.reduceLeDiff, Int.reduceBEq, Int.reduceBNe, Int.reduceLT, Int.reduceLE, Int.reduceEq, qqC, AOp.loud, AOp.births, Int.reduceAdd, Int.reduceSub, Int.reduceMul, Int.reduceNeg, Int.reduceToNat, AP.f167, hv, hn0, ← eh1, g0, rdA, k1, k2, e1]
          · simp (disch := omega) only [go_sem, abin_shl, abin_shr, Nat.reduceEqDiff, reduceIte, Nat.reduceAdd, Nat.reduceMul, Nat.reduceLT, Nat.reduceLeDiff, Int.reduceBEq, Int.reduceBNe, Int.reduceLT, Int.reduceLE, Int.reduceEq, qqC, AOp.loud, AOp.births, Int.reduceAdd, Int.reduceSub, Int.reduceMul, Int.reduceNeg, Int.reduceToNat, AP.f167, hv, hn0, ← eh1, g0, rdA, k1, k2, e1]
        · simp (disch := omega) only [go_sem, abin_shl, abin_shr, Nat.reduceEqDiff, reduceIte, Nat.reduceAdd, Nat.reduceMul, Nat.reduceLT, Nat.reduceLeDiff, Int.reduceBEq, Int.reduceBNe, Int.reduceLT, Int.reduceLE, Int.reduceEq, qqC, AOp.loud, AOp.births, Int.reduceAdd, Int.reduceSub, Int.reduceMul, Int.reduceNeg, Int.reduceToNat, AP.f167, hv, hn0, ← eh1, g0, rdA, k1, k2, e1]
theorem emay2_c (h : H) (e : Ent) (v : AV) (hv : v.sc = true) (ok : EOk h (e, v)) : callW AP.A 157 [.agg (entC e v)] h = some (.bool (mayE e), h) := by
  obtain ⟨h1, eh1⟩ : ∃ g, g = h.fence.alloc (entC e v) := ⟨_, rfl⟩
  have hx1 : Ext h h1 := fun i c q => by rw [eh1]; exact ((Ext.refl h.fence).alloc _) i c q
  have hn0 : h.fence.next = h.next := rfl
  have g0 : h1.get h.next = some (entC e v) := by rw [eh1, get_hit (by simp)]
  have k1 := held_c h1 e v hv (ok.mono hx1)
  have k2 := unpack2_c h1 e.method e.packed e.size ok.pl
  have rdA : rdc true 9 (entC e v) 0 = some (.agg (entC e v)) := rfl
  have cr : ∀ t : ByteArray, t.size < 1125899906842624 → callW AP.A 101 [.str t] h1 = some (.int .i64 (crcA t : Nat), h1) := fun t ht => crc2_c h1 t ht
  unfold mayE entText
  clear hx1 ok
  cases hm : mayF [e] with
  | false =>
    rw [hm] at k1
    rw [if_pos rfl]
    refine pure_c (fn := AP.f157) (h2 := h1) (e := [(2, .bool false)]) rfl rfl rfl ?_ rfl rfl
    simp only [entC] at *
    simp (disch := omega) only [go_sem, abin_shl, abin_shr, Nat.reduceEqDiff, reduceIte, Nat.reduceAdd, Nat.reduceMul, Nat.reduceLT, Nat.reduceLeDiff, Int.reduceBEq, Int.reduceBNe, Int.reduceLT, Int.reduceLE, Int.reduceEq, qqC, AOp.loud, AOp.births, Int.reduceAdd, Int.reduceSub, Int.reduceMul, Int.reduceNeg, Int.reduceToNat, AP.f157, hv, hn0, ← eh1, g0, rdA, k1]
  | true =>
    rw [hm] at k1
    rw [if_neg (by decide)]
    cases hg : e.gone with
    | true =>
      refine pure_c (fn := AP.f157) (h2 := h1) (e := [(2, .bool true)]) rfl rfl rfl ?_ rfl rfl
      simp only [entC, hg] at *
      simp (disch := omega) only [go_sem, abin_shl, abin_shr, Nat.reduceEqDiff, reduceIte, Nat.reduceAdd, Nat.reduceMul, Nat.reduceLT, Nat.reduceLeDiff, Int.reduceBEq, Int.reduceBNe, Int.reduceLT, Int.reduceLE, Int.reduceEq, qqC, AOp.loud, AOp.births, Int.reduceAdd, Int.reduceSub, Int.reduceMul, Int.reduceNeg, Int.reduceToNat, AP.f157, hv, hn0, ← eh1, g0, rdA, k1]
    | false =>
      rw [if_neg (by decide)]
      cases hu : unpackA e.method e.packed e.size with
      | none =>
        rw [hu] at k2
        simp only [unpV] at k2
        refine pure_c (fn := AP.f157) (h2 := h1) (e := [(2, .bool false)]) rfl rfl rfl ?_ rfl rfl
        simp only [entC, hg] at *
        simp (disch := omega) only [go_sem, abin_shl, abin_shr, Nat.reduceEqDiff, reduceIte, Nat.reduceAdd, Nat.reduceMul, Nat.reduceLT, Nat.reduceLeDiff, Int.reduceBEq, Int.reduceBNe, Int.reduceLT, Int.reduceLE, Int.reduceEq, qqC, AOp.loud, AOp.births, Int.reduceAdd, Int.reduceSub, Int.reduceMul, Int.reduceNeg, Int.reduceToNat, AP.f157, hv, hn0, ← eh1, g0, rdA, k1, k2]
      | some t =>
        rw [hu] at k2
        simp only [unpV] at k2
        have kc := cr t (by have := unpackA_size hu; omega)
        dsimp only
        by_cases c : (crcA t : Int) = e.crc
        · rw [if_pos c]
          refine pure_c (fn := AP.f157) (h2 := h1) (e := [(2, .bool true)]) rfl rfl rfl ?_ rfl rfl
          simp only [entC, hg] at *
          simp (disch := omega) only [go_sem, abin_shl, abin_shr, Nat.reduceEqDiff, reduceIte, Nat.reduceAdd, Nat.reduceMul, Nat.reduceLT, Nat.reduceLeDiff, Int.reduceBEq, Int.reduceBNe, Int.reduceLT, Int.reduceLE, Int.reduceEq, qqC, AOp.loud, AOp.births, Int.reduceAdd, Int.reduceSub, Int.reduceMul, Int.reduceNeg, Int.reduceToNat, AP.f157, hv, hn0, ← eh1, g0, rdA, k1, k2, kc]
        · rw [if_neg c]
          refine pure_c (fn := AP.f157) (h2 := h1) (e := [(2, .bool false)]) rfl rfl rfl ?_ rfl rfl
          simp only [entC, hg] at *
          simp (disch := omega) only [go_sem, abin_shl, abin_shr, Nat.reduceEqDiff, reduceIte, Nat.reduceAdd, Nat.reduceMul, Nat.reduceLT, Nat.reduceLeDiff, Int.reduceBEq, Int.reduceBNe, Int.reduceLT, Int.reduceLE, Int.reduceEq, qqC, AOp.loud, AOp.births, Int.reduceAdd, Int.reduceSub, Int.reduceMul, Int.reduceNeg, Int.reduceToNat, AP.f157, hv, hn0, ← eh1, g0, rdA, k1, k2, kc]
end Ab
set_option linter.unusedSimpArgs false
set_option linter.unusedVariables false
set_option maxRecDepth 100000
namespace Ab
open Go
theorem app_empty {n : Nat} {h : H} {v : AV} {k : Nat} {cs : List AV} (r : RdN n h v k cs) (hfn : h.floor ≤ h.next) (hn : 0 < n) (hk : 0 < k) {z : Nat} (hr : roomy z k = true) (hc : AV.allsc cs = true) :
    aapp (h.alloc []) n z (.sobj h.next 0 0 n) v = some (.sobj (h.next + 1) 0 k n, ((h.alloc []).del h.next).alloc cs) := by
  have r2 : RdN n (h.alloc []) v k cs := r.mono fun i c q => by rw [H.get_alloc, if_neg (by have := h.lt _ _ q; omega)]; exact q
  unfold aapp
  rw [r2.1, Option.bind_some]
  have hkn : 0 < k * n := Nat.mul_pos hk hn
  unfold aappc
  rw [if_neg (by omega), if_neg (by simp [hc]; omega)]
  simp only [H.floor_alloc, hfn, and_self, if_true]
  rw [get_hit rfl, Option.bind_some, if_neg (by simp; omega), if_pos ⟨by simp, by simpa using hr⟩]
  simp
theorem app_empty0 {n : Nat} {h : H} {v : AV} {cs : List AV} (r : RdN n h v 0 cs) {z : Nat} : aapp (h.alloc []) n z (.sobj h.next 0 0 n) v = some (.sobj h.next 0 0 n, h.alloc []) := by
  have r2 : RdN n (h.alloc []) v 0 cs := r.mono fun i c q => by rw [H.get_alloc, if_neg (by have := h.lt _ _ q; omega)]; exact q
  unfold aapp
  rw [r2.1, Option.bind_some]
  rfl
theorem ints_allsc : ∀ l : List Int, AV.allsc (ints l) = true
  | [] => rfl
  | n :: l => by
    have := ints_allsc l
    show AV.allsc (I n :: ints l) = true
    rw [allsc_cons, this]; rfl
def ent0 : Ent := ⟨⟨#[]⟩, false, [], 0, 0, 0, ⟨#[]⟩, 0, 0⟩
abbrev Z9 : List AV := [.str ⟨#[]⟩, .bool false, .nils, .int .i64 0, .int .i64 0, .int .i64 0, .str ⟨#[]⟩, .int .i64 0, .int .i64 0]
end Ab
set_option linter.unusedSimpArgs false
set_option linter.unusedVariables false
set_option maxRecDepth 100000
namespace Ab
open Go
def smallE (name : ByteArray) (node : Nat) (stamp : Int) (text : ByteArray) : Ent := ⟨name, false, [0, 0, 0, 0].set node stamp, stamp, node, 0, text, text.size, crcA text⟩
theorem copyE_c (h : H) (hf : h.floor ≤ h.next) (e : Ent) (v : AV) (hv : v.sc = true) (ok : EOk h (e, v)) (hb : e.vec.length < 20000000000000) :
    ∃ h' v', callW AP.A 92 [.agg (entC e v)] h = some (.agg (entC e v'), h') ∧ v' = (if e.vec = [] then .sobj (h.next + 2) 0 0 1 else .sobj (h.next + 3) 0 e.vec.length 1) ∧ Rd h' v' (ints e.vec) ∧ h'.floor = h.floor ∧ h.next + 3 ≤ h'.next ∧ Ext h h' ∧ (0 < e.vec.length → h'.get (h.next + 3) = some (ints e.vec)) := by
  obtain ⟨h1, eh1⟩ : ∃ g, g = h.alloc (entC e v) := ⟨_, rfl⟩
  obtain ⟨h2, eh2⟩ : ∃ g, g = h1.alloc (entC ent0 .nils) := ⟨_, rfl⟩
  have n1 : h1.next = h.next + 1 := by rw [eh1]; simp
  have n2 : h2.next = h.next + 2 := by rw [eh2]; simp [n1]
  have f2 : h2.floor = h.floor := by rw [eh2, eh1]; simp
  have x2 : Ext h h2 := by rw [eh2, eh1]; exact ((Ext.refl h).alloc _).alloc _
  have ga2 : h2.get h.next = some (entC e v) := by rw [eh2, get_miss (by omega), eh1, get_hit rfl]
  have gz2 : h2.get (h.next + 1) = some (entC ent0 .nils) := by rw [eh2, get_hit (by omega)]
  have r2 := (ok.vec.mono fun i c q => x2 i c q).rdN
  rw [ints_length] at r2
  obtain ⟨v', h3, ap, hv', hcl, hsc, hrd, g3, f3, n3, hget, x3⟩ : ∃ v' h3, aapp (h2.alloc []) 1 8 (.sobj h2.next 0 0 1) v = some (v', h3) ∧ v' = (if e.vec = [] then .sobj (h.next + 2) 0 0 1 else .sobj (h.next + 3) 0 e.vec.length 1) ∧ v'.cells = [v'] ∧ v'.sc = true ∧ Rd h3 v' (ints e.vec) ∧
      (∀ i, i < h.next + 2 → h3.get i = h2.get i) ∧ h3.floor = h.floor ∧ h.next + 3 ≤ h3.next ∧ (0 < e.vec.length → h3.get (h.next + 3) = some (ints e.vec)) ∧ Ext h h3 := by
    by_cases c : e.vec = []
    · rw [c] at r2
      have := app_empty0 (z := 8) r2
      refine ⟨_, _, this, by rw [if_pos c, n2], rfl, rfl, ?_, fun i hi => ?_, by simp [f2], by simp [n2], fun q => by rw [c] at q; simp at q, x2.alloc _⟩
      · rw [c]
        refine ⟨?_, fun _ => by simp⟩
        simp only [srcCells, if_true]
        rw [get_hit (by omega)]; rfl
      · rw [get_miss (by omega)]
    · have hp : 0 < e.vec.length := List.length_pos_iff.2 c
      have := app_empty r2 (by omega) (by omega) hp (z := 8) (by simp [roomy]; omega) (ints_allsc e.vec)
      refine ⟨_, _, this, by rw [if_neg c, n2], rfl, rfl, ?_, fun i hi => ?_, by simp [f2], by simp [n2], fun _ => ?_, fun i d q => ?_⟩
      · refine ⟨?_, fun _ => by simp⟩
        simp only [srcCells, if_true]
        rw [get_hit (by simp), Option.bind_some, if_pos (by simp), List.drop_zero, List.take_of_length_le (by simp), ints_length]
      · rw [get_miss (by simp; omega), H.get_del, if_neg (by omega), get_miss (by omega)]
      · rw [get_hit (by simp [n2])]
      · have := h.lt _ _ q
        rw [get_miss (by simp; omega), H.get_del, if_neg (by omega), get_miss (by omega)]; exact x2 i d q
  obtain ⟨h4, eh4⟩ : ∃ g, g = h3.set h.next (entC e v') := ⟨_, rfl⟩
  obtain ⟨h5, eh5⟩ : ∃ g, g = h4.set (h.next + 1) (entC e v') := ⟨_, rfl⟩
  have ga3 : h3.get h.next = some (entC e v) := by rw [g3 _ (by omega), ga2]
  have gz3 : h3.get (h.next + 1) = some (entC ent0 .nils) := by rw [g3 _ (by omega), gz2]
  have ga4 : h4.get h.next = some (entC e v') := by rw [eh4, set_hit rfl, ga3]; rfl
  have gz4 : h4.get (h.next + 1) = some (entC ent0 .nils) := by rw [eh4, set_miss (by omega), gz3]
  have gz5 : h5.get (h.next + 1) = some (entC e v') := by rw [eh5, set_hit rfl, gz4]; rfl
  have st4 : stO h3 h.next 2 1 [v'] (some (entC e v)) = some h4 := by rw [stO_1 (by omega) (by show 2 < 9; omega) hsc, eh4]; rfl
  have st5 : stO h4 (h.next + 1) 0 9 (entC e v') (some (entC ent0 .nils)) = some h5 := by
    rw [eh5]; exact stO_all (by rw [eh4]; simp; omega) rfl rfl (by simp [entC, hsc])
  have e1 : h.alloc (entC e v) = h1 := eh1.symm
  have e2 : h1.alloc [.str ⟨#[]⟩, .bool false, .nils, .int .i64 0, .int .i64 0, .int .i64 0, .str ⟨#[]⟩, .int .i64 0, .int .i64 0] = h2 := eh2.symm
  have rr : rdc true 9 (entC e v') 0 = some (.agg (entC e v')) := rfl
  have lE : (entC e v).length = 9 := rfl
  have sE : AV.allsc (entC e v) = true := by simp [entC, hv]
  have c2 : (entC e v)[2]? = some v := rfl
  have hg : ∀ i, i ≠ h.next → i ≠ h.next + 1 → h5.get i = h3.get i := fun i q1 q2 => by rw [eh5, set_miss q2, eh4, set_miss q1]
  have x5 : Ext h3 h5 → True := fun _ => trivial
  refine ⟨h5, v', plain_c (fn := AP.f92) (h2 := h5) (e := [(2, .pobj (h.next + 1) 0)]) (vs := [.agg (entC e v')]) rfl rfl rfl ?_ ?_, hv', ?_, by rw [eh5, eh4]; simp [f3], by rw [eh5, eh4]; simpa using n3, ?_, fun q => by rw [hg _ (by omega) (by omega)]; exact hget q⟩
  · clear x5 hg x2 x3 g3 hrd hget r2 ok
    generalize entC e v = A at *
    generalize entC e v' = B at *
    simp (disch := omega) only [go_sem, abin_shl, abin_shr, Nat.reduceEqDiff, reduceIte, Nat.reduceAdd, Nat.reduceMul, Nat.reduceLT, Nat.reduceLeDiff, Int.reduceBEq, Int.reduceBNe, Int.reduceLT, Int.reduceLE, Int.reduceEq, qqC, AOp.loud, AOp.births, Int.reduceAdd, Int.reduceSub, Int.reduceMul, Int.reduceNeg, Int.reduceToNat, AP.f92, lE, sE, e1, n1, e2, ga2, get_miss, c2, ap, ga3, hcl, st4, ga4, rr, gz4, st5]
  · simp only [AP.f92, resAll, resOf, look_hit, load_o, gz5, rdO_s]; rfl
  · obtain ⟨q1, q2⟩ := hrd
    refine ⟨?_, q2⟩
    rw [← q1]
    rw [hv']
    by_cases c : e.vec = []
    · rw [if_pos c]; simp only [srcCells, if_true]; rw [hg _ (by omega) (by omega)]
    · rw [if_neg c]; simp only [srcCells, if_true]; rw [hg _ (by omega) (by omega)]
  · intro i d q
    have := h.lt _ _ q
    rw [hg _ (by omega) (by omega)]; exact x3 i d q
theorem si_loop {v w : AV} {a b : List Int} (hab : a.length = b.length) (hl : a.length < 1125899906842624) (h : H) (ra : Rd h v (ints a)) (rb : Rd h w (ints b)) : ∀ (p q r : List Int) (p' : List Int), a = p ++ q → b = p' ++ r → p.length = p'.length →
    (∃ e', Lp AP.A [0, 1, 5] AP.f106L0 [(0, v), (1, w), (5, .int .i64 p.length)] h = some (.exit 0, e', h) ∧ decide (q = r) = true) ∨
    (∃ e', Lp AP.A [0, 1, 5] AP.f106L0 [(0, v), (1, w), (5, .int .i64 p.length)] h = some (.ret, e', h) ∧ look e' 4 = .bool false ∧ decide (q = r) = false)
  | p, [], r, p', hp, hq, hpp => by
    have hr : r = [] := List.eq_nil_of_length_eq_zero (by rw [hp, hq] at hab; simp at hab; omega)
    left
    have ln := ra.len
    rw [ints_length] at ln
    simp only [I] at ln
    rw [List.append_nil] at hp
    refine ⟨[(0, v), (1, w), (5, .int .i64 p.length), (14, .bool false)], Lp_exit ?_, by rw [hr]; rfl⟩
    rw [hp] at ln
    clear hab hl ra rb
    simp (disch := omega) only [go_sem, abin_shl, abin_shr, Nat.reduceEqDiff, reduceIte, Nat.reduceAdd, Nat.reduceMul, Nat.reduceLT, Nat.reduceLeDiff, Int.reduceBEq, Int.reduceBNe, Int.reduceLT, Int.reduceLE, Int.reduceEq, qqC, AOp.loud, AOp.births, Int.reduceAdd, Int.reduceSub, Int.reduceMul, Int.reduceNeg, Int.reduceToNat, AP.f106L0, ln]
  | p, x :: q, [], p', hp, hq, hpp => by
    exfalso
    rw [hp, hq] at hab; simp at hab; omega
  | p, x :: q, y :: r, p', hp, hq, hpp => by
    have ln := ra.len
    rw [ints_length] at ln
    simp only [I] at ln
    have hlen : a.length = p.length + (q.length + 1) := by rw [hp]; simp
    have hx : a[p.length]? = some x := by rw [hp]; simp
    have hy : b[p.length]? = some y := by rw [hpp, hq]; simp
    obtain ⟨ad, a1, a2⟩ := ra.ints_at
    obtain ⟨bd, b1, b2⟩ := rb.ints_at
    have i1 := a1 p.length ⟨by omega, by omega⟩
    have i2 := b1 p.length ⟨by omega, by omega⟩
    have l1 := a2 h (Ext.refl h) _ _ hx
    have l2 := b2 h (Ext.refl h) _ _ hy
    have w1 : (((p ++ [x]).length : Nat) : Int) = (p.length : Int) + 1 := by simp
    have ih := si_loop hab hl h ra rb (p ++ [x]) q r (p' ++ [y]) (by rw [hp]; simp) (by rw [hq]; simp) (by simp; omega)
    rw [w1] at ih
    clear a1 a2 b1 b2 ra rb w1
    by_cases c : x = y
    · have step : evC (callW AP.A) loopW AP.f106L0 (restr [(0, v), (1, w), (5, .int .i64 p.length)] [0, 1, 5]) h = some (.normal, [(0, v), (1, w), (5, .int .i64 ((p.length : Int) + 1))], h) := by
        clear ih hp hq
        simp (disch := omega) only [go_sem, abin_shl, abin_shr, Nat.reduceEqDiff, reduceIte, Nat.reduceAdd, Nat.reduceMul, Nat.reduceLT, Nat.reduceLeDiff, Int.reduceBEq, Int.reduceBNe, Int.reduceLT, Int.reduceLE, Int.reduceEq, qqC, AOp.loud, AOp.births, Int.reduceAdd, Int.reduceSub, Int.reduceMul, Int.reduceNeg, Int.reduceToNat, AP.f106L0, ln, i1, i2, l1, l2]
      have e : decide (x :: q = y :: r) = decide (q = r) := by simp [c]
      rw [e]
      rcases ih with ⟨e', r1, r2⟩ | ⟨e', r1, r2, r3⟩
      · exact .inl ⟨e', Lp_next step r1, r2⟩
      · exact .inr ⟨e', Lp_next step r1, r2, r3⟩
    · right
      refine ⟨[(4, .bool false)], Lp_ret ?_, rfl, by simp [c]⟩
      clear ih hp hq
      simp (disch := omega) only [go_sem, abin_shl, abin_shr, Nat.reduceEqDiff, reduceIte, Nat.reduceAdd, Nat.reduceMul, Nat.reduceLT, Nat.reduceLeDiff, Int.reduceBEq, Int.reduceBNe, Int.reduceLT, Int.reduceLE, Int.reduceEq, qqC, AOp.loud, AOp.births, Int.reduceAdd, Int.reduceSub, Int.reduceMul, Int.reduceNeg, Int.reduceToNat, AP.f106L0, ln, i1, i2, l1, l2]
theorem sameI_c (h : H) (v w : AV) (a b : List Int) (ra : Rd h v (ints a)) (rb : Rd h w (ints b)) (hl : a.length < 1125899906842624) : callW AP.A 106 [v, w] h = some (.bool (decide (a = b)), h) := by
  have ra' := ra.mono (get_fence_mono h)
  have rb' := rb.mono (get_fence_mono h)
  have la := ra'.len
  have lb := rb'.len
  rw [ints_length] at la lb
  simp only [I] at la lb
  by_cases c : a.length = b.length
  · rcases si_loop c hl h.fence ra' rb' [] a b [] rfl rfl rfl with ⟨e', r1, r2⟩ | ⟨e', r1, r2, r3⟩
    · have r1' : Lp AP.A [0, 1, 5] AP.f106L0 [(0, v), (1, w), (5, .int .i64 0)] h.fence = some (.exit 0, e', h.fence) := r1
      clear r1
      rw [r2]
      refine pure_c (fn := AP.f106) (h2 := h.fence) (e := [(4, .bool true)]) rfl rfl rfl ?_ rfl rfl
      simp (disch := omega) only [go_sem, abin_shl, abin_shr, Nat.reduceEqDiff, reduceIte, Nat.reduceAdd, Nat.reduceMul, Nat.reduceLT, Nat.reduceLeDiff, Int.reduceBEq, Int.reduceBNe, Int.reduceLT, Int.reduceLE, Int.reduceEq, qqC, AOp.loud, AOp.births, Int.reduceAdd, Int.reduceSub, Int.reduceMul, Int.reduceNeg, Int.reduceToNat, AP.f106, la, lb, evC_loop, r1']
    · have r1' : Lp AP.A [0, 1, 5] AP.f106L0 [(0, v), (1, w), (5, .int .i64 0)] h.fence = some (.ret, e', h.fence) := r1
      clear r1
      rw [r3]
      refine pure_c (fn := AP.f106) (h2 := h.fence) (e := e') (vs := [.bool false]) rfl rfl rfl ?_ (by simp only [AP.f106, resAll, resOf, r2]; rfl) rfl
      simp (disch := omega) only [go_sem, abin_shl, abin_shr, Nat.reduceEqDiff, reduceIte, Nat.reduceAdd, Nat.reduceMul, Nat.reduceLT, Nat.reduceLeDiff, Int.reduceBEq, Int.reduceBNe, Int.reduceLT, Int.reduceLE, Int.reduceEq, qqC, AOp.loud, AOp.births, Int.reduceAdd, Int.reduceSub, Int.reduceMul, Int.reduceNeg, Int.reduceToNat, AP.f106, la, lb, evC_loop, r1']
  · have e : decide (a = b) = false := by rw [decide_eq_false_iff_not]; intro q; exact c (by rw [q])
    rw [e]
    refine pure_c (fn := AP.f106) (h2 := h.fence) (e := [(4, .bool false)]) rfl rfl rfl ?_ rfl rfl
    simp (disch := omega) only [go_sem, abin_shl, abin_shr, Nat.reduceEqDiff, reduceIte, Nat.reduceAdd, Nat.reduceMul, Nat.reduceLT, Nat.reduceLeDiff, Int.reduceBEq, Int.reduceBNe, Int.reduceLT, Int.reduceLE, Int.reduceEq, qqC, AOp.loud, AOp.births, Int.reduceAdd, Int.reduceSub, Int.reduceMul, Int.reduceNeg, Int.reduceToNat, AP.f106, la, lb]
def sameEB (a b : Ent) : Bool := (a.name.data.toList == b.name.data.toList) && ((a.gone == b.gone) && (decide (a.vec = b.vec) && (decide (a.stamp = b.stamp) && (decide (a.node = b.node) && (decide (a.method = b.method) && ((a.packed.data.toList == b.packed.data.toList) && (decide (a.size = b.size) && decide (a.crc = b.crc))))))))
theorem sameEB_iff (a b : Ent) : sameEB a b = true ↔ a = b := by
  have q : ∀ x y : ByteArray, (x.data.toList == y.data.toList) = true ↔ x = y := fun x y => by
    constructor
    · intro e; exact ByteArray.ext (Array.toList_inj.1 (eq_of_beq e))
    · rintro rfl; exact str_same _
  obtain ⟨a1, a2, a3, a4, a5, a6, a7, a8, a9⟩ := a
  obtain ⟨b1, b2, b3, b4, b5, b6, b7, b8, b9⟩ := b
  simp only [sameEB, Bool.and_eq_true, decide_eq_true_eq, q, beq_iff_eq, Ent.mk.injEq]
theorem sameE_c (h : H) (a b : Ent) (v w : AV) (sa : v.sc = true) (sb : w.sc = true) (ra : EOk h (a, v)) (rb : EOk h (b, w)) : callW AP.A 98 [.agg (entC a v), .agg (entC b w)] h = some (.bool (sameEB a b), h) := by
  obtain ⟨h1, eh1⟩ : ∃ g, g = h.fence.alloc (entC a v) := ⟨_, rfl⟩
  obtain ⟨h2, eh2⟩ : ∃ g, g = h1.alloc (entC b w) := ⟨_, rfl⟩
  have x1 : Ext h h1 := fun i c q => by rw [eh1]; exact ((Ext.refl h.fence).alloc _) i c q
  have x2 : Ext h h2 := by rw [eh2]; exact x1.alloc _
  have n0 : h.fence.next = h.next := rfl
  have n1 : h1.next = h.next + 1 := by rw [eh1]; simp
  have ga : h2.get h.next = some (entC a v) := by rw [eh2, get_miss (by omega), eh1, get_hit (by simp)]
  have gb : h2.get (h.next + 1) = some (entC b w) := by rw [eh2, get_hit (by omega)]
  have k1 := sameI_c h2 v w a.vec b.vec (ra.mono x2).vec (rb.mono x2).vec ra.vl
  have s1 : abin .eql (.str a.name) (.str b.name) = some (.bool (a.name.data.toList == b.name.data.toList)) := str_eql _ _
  have s2 : abin .eql (.str a.packed) (.str b.packed) = some (.bool (a.packed.data.toList == b.packed.data.toList)) := str_eql _ _
  have e1 : h.fence.alloc (entC a v) = h1 := eh1.symm
  have e2 : h1.alloc (entC b w) = h2 := eh2.symm
  refine pure_c (fn := AP.f98) (h2 := h2) (e := [(4, .bool (sameEB a b))]) rfl rfl rfl ?_ rfl rfl
  unfold sameEB
  clear x1 x2 ra rb eh1 eh2
  generalize (a.name.data.toList == b.name.data.toList) = B1 at *
  generalize (a.packed.data.toList == b.packed.data.toList) = B2 at *
  obtain ⟨B3, hB3⟩ : ∃ B, (a.gone == b.gone) = B := ⟨_, rfl⟩
  rw [hB3]
  generalize decide (a.vec = b.vec) = B4 at *
  simp only [entC] at *
  cases B1 with
  | false => simp (disch := omega) only [go_sem, abin_shl, abin_shr, Nat.reduceEqDiff, reduceIte, Nat.reduceAdd, Nat.reduceMul, Nat.reduceLT, Nat.reduceLeDiff, Int.reduceBEq, Int.reduceBNe, Int.reduceLT, Int.reduceLE, Int.reduceEq, qqC, AOp.loud, AOp.births, Int.reduceAdd, Int.reduceSub, Int.reduceMul, Int.reduceNeg, Int.reduceToNat, AP.f98, sa, sb, n0, e1, n1, e2, ga, gb, s1, s2, hB3, k1]
  | true =>
    cases B3 with
    | false => simp (disch := omega) only [go_sem, abin_shl, abin_shr, Nat.reduceEqDiff, reduceIte, Nat.reduceAdd, Nat.reduceMul, Nat.reduceLT, Nat.reduceLeDiff, Int.reduceBEq, Int.reduceBNe, Int.reduceLT, Int.reduceLE, Int.reduceEq, qqC, AOp.loud, AOp.births, Int.reduceAdd, Int.reduceSub, Int.reduceMul, Int.reduceNeg, Int.reduceToNat, AP.f98, sa, sb, n0, e1, n1, e2, ga, gb, s1, s2, hB3, k1]
    | true =>
      cases B4 with
      | false => simp (disch := omega) only [go_sem, abin_shl, abin_shr, Nat.reduceEqDiff, reduceIte, Nat.reduceAdd, Nat.reduceMul, Nat.reduceLT, Nat.reduceLeDiff, Int.reduceBEq, Int.reduceBNe, Int.reduceLT, Int.reduceLE, Int.reduceEq, qqC, AOp.loud, AOp.births, Int.reduceAdd, Int.reduceSub, Int.reduceMul, Int.reduceNeg, Int.reduceToNat, AP.f98, sa, sb, n0, e1, n1, e2, ga, gb, s1, s2, hB3, k1]
      | true =>
        by_cases c3 : a.stamp = b.stamp
        · by_cases c4 : a.node = b.node
          · by_cases c5 : a.method = b.method
            · cases B2 with
              | false => simp (disch := omega) only [go_sem, abin_shl, abin_shr, Nat.reduceEqDiff, reduceIte, Nat.reduceAdd, Nat.reduceMul, Nat.reduceLT, Nat.reduceLeDiff, Int.reduceBEq, Int.reduceBNe, Int.reduceLT, Int.reduceLE, Int.reduceEq, qqC, AOp.loud, AOp.births, Int.reduceAdd, Int.reduceSub, Int.reduceMul, Int.reduceNeg, Int.reduceToNat, AP.f98, sa, sb, n0, e1, n1, e2, ga, gb, s1, s2, hB3, k1]
              | true =>
                by_cases c7 : a.size = b.size
                · by_cases c8 : a.crc = b.crc
                  · simp (disch := omega) only [go_sem, abin_shl, abin_shr, Nat.reduceEqDiff, reduceIte, Nat.reduceAdd, Nat.reduceMul, Nat.reduceLT, Nat.reduceLeDiff, Int.reduceBEq, Int.reduceBNe, Int.reduceLT, Int.reduceLE, Int.reduceEq, qqC, AOp.loud, AOp.births, Int.reduceAdd, Int.reduceSub, Int.reduceMul, Int.reduceNeg, Int.reduceToNat, AP.f98, sa, sb, n0, e1, n1, e2, ga, gb, s1, s2, hB3, k1]
                  · simp (disch := omega) only [go_sem, abin_shl, abin_shr, Nat.reduceEqDiff, reduceIte, Nat.reduceAdd, Nat.reduceMul, Nat.reduceLT, Nat.reduceLeDiff, Int.reduceBEq, Int.reduceBNe, Int.reduceLT, Int.reduceLE, Int.reduceEq, qqC, AOp.loud, AOp.births, Int.reduceAdd, Int.reduceSub, Int.reduceMul, Int.reduceNeg, Int.reduceToNat, AP.f98, sa, sb, n0, e1, n1, e2, ga, gb, s1, s2, hB3, k1]
                · simp (disch := omega) only [go_sem, abin_shl, abin_shr, Nat.reduceEqDiff, reduceIte, Nat.reduceAdd, Nat.reduceMul, Nat.reduceLT, Nat.reduceLeDiff, Int.reduceBEq, Int.reduceBNe, Int.reduceLT, Int.reduceLE, Int.reduceEq, qqC, AOp.loud, AOp.births, Int.reduceAdd, Int.reduceSub, Int.reduceMul, Int.reduceNeg, Int.reduceToNat, AP.f98, sa, sb, n0, e1, n1, e2, ga, gb, s1, s2, hB3, k1]
            · simp (disch := omega) only [go_sem, abin_shl, abin_shr, Nat.reduceEqDiff, reduceIte, Nat.reduceAdd, Nat.reduceMul, Nat.reduceLT, Nat.reduceLeDiff, Int.reduceBEq, Int.reduceBNe, Int.reduceLT, Int.reduceLE, Int.reduceEq, qqC, AOp.loud, AOp.births, Int.reduceAdd, Int.reduceSub, Int.reduceMul, Int.reduceNeg, Int.reduceToNat, AP.f98, sa, sb, n0, e1, n1, e2, ga, gb, s1, s2, hB3, k1]
          · simp (disch := omega) only [go_sem, abin_shl, abin_shr, Nat.reduceEqDiff, reduceIte, Nat.reduceAdd, Nat.reduceMul, Nat.reduceLT, Nat.reduceLeDiff, Int.reduceBEq, Int.reduceBNe, Int.reduceLT, Int.reduceLE, Int.reduceEq, qqC, AOp.loud, AOp.births, Int.reduceAdd, Int.reduceSub, Int.reduceMul, Int.reduceNeg, Int.reduceToNat, AP.f98, sa, sb, n0, e1, n1, e2, ga, gb, s1, s2, hB3, k1]
        · simp (disch := omega) only [go_sem, abin_shl, abin_shr, Nat.reduceEqDiff, reduceIte, Nat.reduceAdd, Nat.reduceMul, Nat.reduceLT, Nat.reduceLeDiff, Int.reduceBEq, Int.reduceBNe, Int.reduceLT, Int.reduceLE, Int.reduceEq, qqC, AOp.loud, AOp.births, Int.reduceAdd, Int.reduceSub, Int.reduceMul, Int.reduceNeg, Int.reduceToNat, AP.f98, sa, sb, n0, e1, n1, e2, ga, gb, s1, s2, hB3, k1]
end Ab
set_option linter.unusedSimpArgs false
set_option linter.unusedVariables false
set_option maxRecDepth 100000
namespace Ab
open Go
def nA : ByteArray := ⟨#[97]⟩
def tHi : ByteArray := ⟨#[104, 105]⟩
theorem Rd.obj {h : H} {p n : Nat} {l : List Int} (hp : h.get p = some (ints l)) (hl : l.length = n) : Rd h (.sobj p 0 n 1) (ints l) :=
  ⟨by subst hl; simp only [srcCells, if_true, hp, Option.bind_some]; rw [if_pos (by simp), List.drop_zero, List.take_of_length_le (by simp), ints_length], fun s e => by cases e⟩
theorem EOk.obj {h : H} {e : Ent} {p n : Nat} {l : List Int} (hp : h.get p = some (ints l)) (hl : l.length = n) (he : e.vec = l := by rfl) (nl : e.name.size < 1125899906842624) (pl : e.packed.size < 1125899906842624) (hn : n < 1000000 := by decide) : EOk h (e, .sobj p 0 n 1) :=
  ⟨by show Rd h _ (ints e.vec); rw [he]; exact Rd.obj hp hl, by show e.vec.length < _; rw [he]; omega, by show e.name.size < _; omega, by show e.packed.size < _; omega⟩
theorem ent_sc {e : Ent} {v : AV} (h : v.sc = true) : AV.allsc (entC e v) = true := by simp [entC, h]
end Ab
set_option linter.unusedVariables false
namespace Ab
open Go
def intT : Ty := .int .i64
def intsT : Ty := .sl intT 1 8
def entT : Ty := .st [.str, .bool, intsT, intT, intT, intT, .str, intT, intT]
theorem sh_int {B : Nat} {as : List AV} (h : Sh B intT as) : ∃ n, as = [.int .i64 n] ∧ (-9223372036854775808 ≤ n ∧ n < 9223372036854775808) := by
  cases h with
  | int h => exact ⟨_, rfl, int_rng h⟩
theorem sh_bool {B : Nat} {as : List AV} (h : Sh B .bool as) : ∃ b, as = [.bool b] := by
  cases h with
  | bool b => exact ⟨b, rfl⟩
theorem sh_str {as : List AV} (h : Sh reachBytes .str as) : ∃ s : ByteArray, as = [.str s] ∧ s.size < 140737488355328 := by
  cases h with
  | str h => exact ⟨_, rfl, str_sz h⟩
theorem sh_list {B : Nat} {as : List AV} {ess : List (List AV)} (h : ∀ es, es ∈ ess → Sh B intT es) : ∃ l : List Int, l.length = ess.length ∧ ess.flatten = ints l := by
  induction ess with
  | nil => exact ⟨[], rfl, rfl⟩
  | cons x ess ih =>
    obtain ⟨n, rfl, _⟩ := sh_int (h x (by simp))
    obtain ⟨l, h1, h2⟩ := ih fun es q => h es (by simp [q])
    exact ⟨n :: l, by simp [h1], by rw [List.flatten_cons, h2]; rfl⟩
theorem sh_ints {as : List AV} (h : Sh reachBytes intsT as) : ∃ (v : AV) (l : List Int), as = [v] ∧ v.sc = true ∧ (∀ g, Rd g v (ints l)) ∧ l.length < 20000000000000 := by
  cases h with
  | nils => exact ⟨.nils, [], rfl, rfl, fun g => ⟨rfl, fun s e => by cases e⟩, by simp⟩
  | simm ess h hz hb =>
    obtain ⟨l, h1, h2⟩ := sh_list (as := []) h
    rw [h2, ← h1]
    refine ⟨_, l, rfl, rfl, fun g => ?_, ?_⟩
    · have := rd_imm g l
      unfold immI at this; exact this
    · rw [h1]; unfold reachBytes at hb; omega
theorem shA_cons {B : Nat} {f : Ty} {fs : List Ty} {as : List AV} (h : ShAll B (f :: fs) as) : ∃ a r, as = a ++ r ∧ Sh B f a ∧ ShAll B fs r := by
  cases h with
  | cons h hr => exact ⟨_, _, rfl, h, hr⟩
theorem shA_nil {B : Nat} {as : List AV} (h : ShAll B [] as) : as = [] := by
  cases h; rfl
theorem sh_st {B : Nat} {fs : List Ty} {as : List AV} (h : Sh B (.st fs) as) : ShAll B fs as := by
  cases h with
  | st h => exact h
theorem sh_ent {as : List AV} (h : Sh reachBytes entT as) : ∃ (e : Ent) (v : AV), as = entC e v ∧ v.sc = true ∧ (∀ g, EOk g (e, v)) ∧ e.vec.length < 20000000000000 := by
  obtain ⟨a1, r1, rfl, s1, h1⟩ := shA_cons (sh_st h)
  obtain ⟨a2, r2, rfl, s2, h2⟩ := shA_cons h1
  obtain ⟨a3, r3, rfl, s3, h3⟩ := shA_cons h2
  obtain ⟨a4, r4, rfl, s4, h4⟩ := shA_cons h3
  obtain ⟨a5, r5, rfl, s5, h5⟩ := shA_cons h4
  obtain ⟨a6, r6, rfl, s6, h6⟩ := shA_cons h5
  obtain ⟨a7, r7, rfl, s7, h7⟩ := shA_cons h6
  obtain ⟨a8, r8, rfl, s8, h8⟩ := shA_cons h7
  obtain ⟨a9, r9, rfl, s9, h9⟩ := shA_cons h8
  obtain rfl := shA_nil h9
  obtain ⟨n, rfl, z1⟩ := sh_str s1
  obtain ⟨g, rfl⟩ := sh_bool s2
  obtain ⟨v, l, rfl, hv, rd, z3⟩ := sh_ints s3
  obtain ⟨st, rfl, _⟩ := sh_int s4
  obtain ⟨no, rfl, _⟩ := sh_int s5
  obtain ⟨me, rfl, _⟩ := sh_int s6
  obtain ⟨pa, rfl, z7⟩ := sh_str s7
  obtain ⟨si, rfl, _⟩ := sh_int s8
  obtain ⟨cr, rfl, _⟩ := sh_int s9
  exact ⟨⟨n, g, l, st, no, me, pa, si, cr⟩, v, rfl, hv, fun g => ⟨rd g, by show l.length < _; omega, by show n.size < _; omega, by show pa.size < _; omega⟩, z3⟩
theorem row2 {P : Ty × List AV → Prop} {a b : Ty} {r : List (Ty × List AV)} (h : r.map (·.1) = [a, b]) (hp : ∀ x ∈ r, P x) : ∃ x y, r = [(a, x), (b, y)] ∧ P (a, x) ∧ P (b, y) := by
  match r, h with
  | [(a', x), (b', y)], h => simp at h; obtain ⟨rfl, rfl⟩ := h; exact ⟨x, y, rfl, hp _ (by simp), hp _ (by simp)⟩
end Ab
set_option linter.unusedSimpArgs false
set_option linter.unusedVariables false
set_option maxRecDepth 100000
namespace Ab
open Go
def toL (s : ByteArray) : List Nat := s.data.toList.map (·.toNat)
theorem toL_len (s : ByteArray) : (toL s).length = s.size := by unfold toL; rw [List.length_map, Array.length_toList]; rfl
theorem toL_app (a b : ByteArray) : toL (a ++ b) = toL a ++ toL b := by simp [toL]
theorem toL_lt (s : ByteArray) : ∀ b ∈ toL s, b < 256 := by
  intro b hb
  obtain ⟨x, _, rfl⟩ := List.mem_map.1 hb
  exact x.toNat_lt
theorem bytesOf_toL (s : ByteArray) : bytesOf (toL s) = s := by
  unfold toL bytesOf; rw [List.map_map]; apply ByteArray.ext; simp [Function.comp_def]
theorem toL_bytesOf {l : List Nat} (h : ∀ b ∈ l, b < 256) : toL (bytesOf l) = l := by
  simp only [toL, bytesOf, List.map_map]
  conv => rhs; rw [← List.map_id l]
  exact List.map_congr_left fun b hb => by simp [Function.comp, UInt8.toNat_ofNat_of_lt' (h b hb)]
theorem bytesOf_app (a b : List Nat) : bytesOf a ++ bytesOf b = bytesOf (a ++ b) := by
  apply ByteArray.ext; simp [bytesOf]
theorem lowL_lt (x k : Nat) : ∀ b ∈ lowL x k, b < 256 := by
  intro b hb
  obtain ⟨i, _, rfl⟩ := List.mem_map.1 hb
  exact Nat.mod_lt _ (by omega)
theorem str_add {a b : ByteArray} (h : a.size + b.size ≤ 9223372036854775807) : abin .add (.str a) (.str b) = some (.str (a ++ b)) := abin_strAdd h
theorem bytes_add {a b : List Nat} (h : a.length + b.length ≤ 9223372036854775807) : abin .add (.str (bytesOf a)) (.str (bytesOf b)) = some (.str (bytesOf (a ++ b))) := by
  rw [str_add (by rw [bytesOf_size, bytesOf_size]; exact h), bytesOf_app]
def crcL (c : Nat) (l : List Nat) : Nat := l.foldl crcByte c
theorem byN_toL {s : ByteArray} {i : Nat} {p q : List Nat} {b : Nat} (h : toL s = p ++ b :: q) (hi : p.length = i) : byN s i = b := by
  have : (toL s)[i]? = some b := by rw [h, ← hi]; simp
  unfold byN
  unfold toL at this
  rw [List.getElem?_map] at this
  have e : s[i]? = s.data.toList[i]? := by
    show s.data[i]? = _
    simp
  rw [e]
  cases hq : s.data.toList[i]? with
  | none => rw [hq] at this; cases this
  | some x => rw [hq] at this; simpa using this
theorem crcRun_eq (s : ByteArray) : ∀ (q p : List Nat) (c : Nat), toL s = p ++ q → crcRun s q.length p.length c = crcL c q
  | [], p, c, h => rfl
  | b :: q, p, c, h => by
    show crcRun s q.length (p.length + 1) (crcByte c (byN s p.length)) = _
    have := crcRun_eq s q (p ++ [b]) (crcByte c b) (by rw [h]; simp)
    rw [byN_toL h rfl]
    rw [List.length_append] at this
    exact this
theorem joinA_L (a : Nat) (s : ByteArray) : joinA a s = 4294967295 - crcL (4294967295 - a) (toL s) := by
  unfold joinA
  have := crcRun_eq s (toL s) [] (4294967295 - a) rfl
  rw [toL_len] at this
  rw [← this]; rfl
theorem crcL_lt : ∀ (l : List Nat) {c : Nat}, c < 4294967296 → (∀ b ∈ l, b < 256) → crcL c l < 4294967296
  | [], _, h, _ => h
  | b :: l, _, h, hb => crcL_lt l (crcByte_lt h (hb b (by simp))) (fun x hx => hb x (by simp [hx]))
theorem joinA_app {a : Nat} (s t : ByteArray) : joinA (joinA a s) t = joinA a (s ++ t) := by
  rw [joinA_L, joinA_L a, joinA_L a, toL_app]
  have := crcL_lt (toL s) (c := 4294967295 - a) (by omega) (toL_lt s)
  rw [show 4294967295 - (4294967295 - crcL (4294967295 - a) (toL s)) = crcL (4294967295 - a) (toL s) by omega]
  simp [crcL]
def sumL' (l : List Nat) : Nat := 4294967295 - crcL 4294967295 l
theorem crcA_L (s : ByteArray) : crcA s = sumL' (toL s) := joinA_L 0 s
theorem crcA_bytes {l : List Nat} (h : ∀ b ∈ l, b < 256) : crcA (bytesOf l) = sumL' l := by rw [crcA_L, toL_bytesOf h]
def vecL (l : List Int) : List Nat := l.flatMap fun n => lowL n.toNat 4
def putL (e : Ent) : List Nat := lowL 20592 2 ++ lowL 22 2 ++ vecL e.vec ++ lowL e.stamp.toNat 4 ++ lowL e.node.toNat 1 ++ lowL (if e.gone then 1 else 0) 1
theorem vecL_len (l : List Int) : (vecL l).length = 4 * l.length := by
  induction l with
  | nil => rfl
  | cons n l ih => unfold vecL at *; rw [List.flatMap_cons, List.length_append, lowL_len, ih, List.length_cons]; omega
theorem vecL_lt (l : List Int) : ∀ b ∈ vecL l, b < 256 := by
  intro b hb
  obtain ⟨n, _, hn⟩ := List.mem_flatMap.1 hb
  exact lowL_lt _ _ b hn
theorem putL_lt (e : Ent) : ∀ b ∈ putL e, b < 256 := by
  intro b hb
  unfold putL at hb
  simp only [List.mem_append] at hb
  rcases hb with ((((hb | hb) | hb) | hb) | hb) | hb
  · exact lowL_lt _ _ b hb
  · exact lowL_lt _ _ b hb
  · exact vecL_lt _ b hb
  · exact lowL_lt _ _ b hb
  · exact lowL_lt _ _ b hb
  · exact lowL_lt _ _ b hb
def putV (e : Ent) : AV := if headA e = true then .tup [.str (bytesOf (putL e)), .int .i64 0] else .tup [.str ⟨#[]⟩, .int .i64 1200]
theorem headA_facts {e : Ent} (h : headA e = true) : e.vec.length = 4 ∧ (∀ n ∈ e.vec, 0 ≤ n ∧ n ≤ 1048576) ∧ (1 ≤ e.stamp ∧ e.stamp ≤ 1048576) ∧ (0 ≤ e.node ∧ e.node < 4) := by
  simp only [headA, vecA, countA, nodeA, Bool.and_eq_true, decide_eq_true_eq, List.all_eq_true] at h
  exact ⟨h.1.1, h.1.2, ⟨h.2.1, h.2.2.1.2⟩, h.2.2.2⟩
theorem put_loop {v P : AV} {l : List Int} (hl : l.length < 1000000) (hn : ∀ n ∈ l, 0 ≤ n ∧ n ≤ 1048576) (h : H) (rd : Rd h v (ints l)) : ∀ (q p : List Int) (acc : List Nat), l = p ++ q → acc.length + 4 * q.length < 100000000 →
    ∃ e', Lp AP.A [1, 4, 14, 15, 16] AP.f102L0 [(1, P), (4, .str (bytesOf acc)), (14, v), (15, .int .i64 l.length), (16, .int .i64 p.length)] h = some (.exit 0, e', h) ∧ look e' 1 = P ∧ look e' 4 = .str (bytesOf (acc ++ vecL q))
  | [], p, acc, hp, ha => by
    refine ⟨[(1, P), (4, .str (bytesOf acc)), (14, v), (15, .int .i64 l.length), (16, .int .i64 p.length), (17, .bool false)], Lp_exit ?_, rfl, by simp [vecL, look]⟩
    have e : l.length = p.length := by rw [hp]; simp
    rw [e]
    simp (disch := first | omega | (simp only [qqH, List.length_cons, List.length_nil, Nat.zero_add, Nat.reduceAdd]; first | done | omega | fail) | (simp (disch := first | omega | (simp only [qqH, List.length_cons, List.length_nil, Nat.zero_add, Nat.reduceAdd]; first | done | omega | fail) | fail) only [qqH, qqG, Option.map_some, List.length_cons, List.length_nil, Nat.zero_add, Nat.reduceAdd]; done) | fail) only [go_sem, abin_shl, abin_shr, Nat.reduceEqDiff, reduceIte, Nat.reduceAdd, Nat.reduceMul, Nat.reduceLT, Nat.reduceLeDiff, Int.reduceBEq, Int.reduceBNe, Int.reduceLT, Int.reduceLE, Int.reduceEq, qqC, qqD, AOp.loud, AOp.births, Int.reduceAdd, Int.reduceSub, Int.reduceMul, Int.reduceNeg, Int.reduceToNat, AP.f102L0]
  | n :: q, p, acc, hp, ha => by
    rw [List.length_cons] at ha
    obtain ⟨e', r1, r2, r3⟩ := put_loop (P := P) hl hn h rd q (p ++ [n]) (acc ++ lowL n.toNat 4) (by rw [hp]; simp) (by rw [List.length_append, lowL_len]; omega)
    obtain ⟨ad, a1, a2⟩ := rd.ints_at
    have hlen : l.length = p.length + (q.length + 1) := by rw [hp]; simp
    have i1 := a1 (p.length : Int) ⟨by omega, by omega⟩
    have i2 := a2 h (Ext.refl h) p.length n (by rw [hp]; simp)
    have bn := hn n (by rw [hp]; simp)
    have k1 := fun g => low_c g n.toNat 4 (by omega) (by omega)
    rw [show ((n.toNat : Nat) : Int) = n by omega] at k1
    have s1 : abin .add (.str (bytesOf acc)) (.str (lowA n.toNat 4)) = some (.str (bytesOf (acc ++ lowL n.toNat 4))) := bytes_add (by rw [lowL_len]; omega)
    have n1 : ((p.length + 1 : Nat) : Int) = (p.length : Int) + 1 := by omega
    rw [List.length_append, show [n].length = 1 from rfl, n1] at r1
    refine ⟨e', Lp_next ?_ r1, r2, by rw [r3]; simp [vecL]⟩
    have k1' : ∀ g : H, callW AP.A 104 [.int .i64 n, .int .i64 4] g = some (.str (lowA n.toNat 4), g) := k1
    simp (disch := first | omega | (simp only [qqH, List.length_cons, List.length_nil, Nat.zero_add, Nat.reduceAdd]; first | done | omega | fail) | (simp (disch := first | omega | (simp only [qqH, List.length_cons, List.length_nil, Nat.zero_add, Nat.reduceAdd]; first | done | omega | fail) | fail) only [qqH, qqG, Option.map_some, List.length_cons, List.length_nil, Nat.zero_add, Nat.reduceAdd]; done) | fail) only [go_sem, abin_shl, abin_shr, Nat.reduceEqDiff, reduceIte, Nat.reduceAdd, Nat.reduceMul, Nat.reduceLT, Nat.reduceLeDiff, Int.reduceBEq, Int.reduceBNe, Int.reduceLT, Int.reduceLE, Int.reduceEq, qqC, qqD, AOp.loud, AOp.births, Int.reduceAdd, Int.reduceSub, Int.reduceMul, Int.reduceNeg, Int.reduceToNat, AP.f102L0, i1, i2, k1', s1]
theorem PE.obj {h : H} {id : Nat} {cs : List AV} (hg : h.get id = some cs) : PE h (.pobj id 0) cs :=
  ⟨fun g => rfl, fun k => .pobj id (0 + k), fun k => rfl, fun g hx k c hc => by
    show aload false 1 (.pobj id (0 + k)) g = _
    rw [Nat.zero_add]
    simp only [aload, hx _ _ hg, Option.bind_some, rdc, hc]; rfl⟩
theorem eput_c (h : H) (hf : h.floor ≤ h.next) (e : Ent) (v : AV) (hv : v.sc = true) (ok : EOk h (e, v)) : callW AP.A 102 [.agg (entC e v)] h = some (putV e, h) := by
  obtain ⟨A, hA⟩ : ∃ x, x = entC e v := ⟨_, rfl⟩
  have lA : A.length = 9 := by rw [hA]; rfl
  have cA : AV.allsc A = true := by rw [hA]; exact ent_sc hv
  have g2 : A[2]? = some v := by rw [hA]; rfl
  have g1 : A[1]? = some (.bool e.gone) := by rw [hA]; rfl
  have g3 : A[3]? = some (.int .i64 e.stamp) := by rw [hA]; rfl
  have g4 : A[4]? = some (.int .i64 e.node) := by rw [hA]; rfl
  have x1 : Ext h (h.fence.alloc A) := fun i c q => ((Ext.refl h.fence).alloc _) i c q
  have o1 := ok.mono x1
  have q1 : callW AP.A 112 [.pobj h.next 0] (h.fence.alloc A) = some (.bool (headA e), h.fence.alloc A) := by
    refine head_c (h.fence.alloc A) (.pobj h.next 0) v e ?_ o1.vec o1.vl
    rw [← hA]; exact PE.obj (get_hit (by simp))
  unfold putV
  cases hh : headA e with
  | false =>
    rw [hh] at q1
    rw [if_neg (by decide)]
    refine pure_c (fn := AP.f102) (h2 := h.fence.alloc A) (e := [(2, .str ⟨#[]⟩), (3, .int .i64 1200)]) rfl rfl rfl ?_ rfl rfl
    rw [← hA]
    simp (disch := first | omega | (simp only [qqH, List.length_cons, List.length_nil, Nat.zero_add, Nat.reduceAdd]; first | done | omega | fail) | (simp (disch := first | omega | (simp only [qqH, List.length_cons, List.length_nil, Nat.zero_add, Nat.reduceAdd]; first | done | omega | fail) | fail) only [qqH, qqG, Option.map_some, List.length_cons, List.length_nil, Nat.zero_add, Nat.reduceAdd]; done) | fail) only [go_sem, abin_shl, abin_shr, Nat.reduceEqDiff, reduceIte, Nat.reduceAdd, Nat.reduceMul, Nat.reduceLT, Nat.reduceLeDiff, Int.reduceBEq, Int.reduceBNe, Int.reduceLT, Int.reduceLE, Int.reduceEq, qqC, qqD, AOp.loud, AOp.births, Int.reduceAdd, Int.reduceSub, Int.reduceMul, Int.reduceNeg, Int.reduceToNat, AP.f102, lA, cA, q1]
  | true =>
    rw [hh] at q1
    rw [if_pos rfl]
    obtain ⟨f1, f2, f3, f4⟩ := headA_facts hh
    have k1 : ∀ g, callW AP.A 104 [.int .i64 20592, .int .i64 2] g = some (.str (bytesOf (lowL 20592 2)), g) := fun g => low_c g 20592 2 (by omega) (by omega)
    have k2 : ∀ g, callW AP.A 104 [.int .i64 22, .int .i64 2] g = some (.str (bytesOf (lowL 22 2)), g) := fun g => low_c g 22 2 (by omega) (by omega)
    have k3 : ∀ g, callW AP.A 104 [.int .i64 e.stamp, .int .i64 4] g = some (.str (bytesOf (lowL e.stamp.toNat 4)), g) := fun g => by
      have := low_c g e.stamp.toNat 4 (by omega) (by omega)
      rw [show ((e.stamp.toNat : Nat) : Int) = e.stamp by omega] at this; exact this
    have k4 : ∀ g, callW AP.A 104 [.int .i64 e.node, .int .i64 1] g = some (.str (bytesOf (lowL e.node.toNat 1)), g) := fun g => by
      have := low_c g e.node.toNat 1 (by omega) (by omega)
      rw [show ((e.node.toNat : Nat) : Int) = e.node by omega] at this; exact this
    have k5 : ∀ g, callW AP.A 104 [.int .i64 0, .int .i64 1] g = some (.str (bytesOf (lowL 0 1)), g) := fun g => low_c g 0 1 (by omega) (by omega)
    have k6 : ∀ g, callW AP.A 104 [.int .i64 1, .int .i64 1] g = some (.str (bytesOf (lowL 1 1)), g) := fun g => low_c g 1 1 (by omega) (by omega)
    have ln := o1.vec.len
    rw [ints_length] at ln
    simp only [I] at ln
    obtain ⟨e', r1, r2, r3⟩ := put_loop (P := .pobj h.next 0) (by omega) f2 (h.fence.alloc A) o1.vec e.vec [] (lowL 20592 2 ++ lowL 22 2) rfl (by rw [List.length_append, lowL_len, lowL_len]; omega)
    have r1' : Lp AP.A [1, 4, 14, 15, 16] AP.f102L0 [(1, .pobj h.next 0), (4, .str (bytesOf (lowL 20592 2 ++ lowL 22 2))), (14, v), (15, .int .i64 e.vec.length), (16, .int .i64 0)] (h.fence.alloc A) = some (.exit 0, e', h.fence.alloc A) := r1
    clear r1
    have vl := vecL_len e.vec
    have s1 : abin .add (.str (bytesOf (lowL 20592 2))) (.str (bytesOf (lowL 22 2))) = some (.str (bytesOf (lowL 20592 2 ++ lowL 22 2))) := bytes_add (by rw [lowL_len, lowL_len]; omega)
    obtain ⟨L1, hL1⟩ : ∃ x, x = lowL 20592 2 ++ lowL 22 2 ++ vecL e.vec := ⟨_, rfl⟩
    have l1 : L1.length = 20 := by rw [hL1, List.length_append, List.length_append, lowL_len, lowL_len, vl, f1]
    obtain ⟨S1, h1⟩ : ∃ x, x = bytesOf L1 := ⟨_, rfl⟩
    obtain ⟨S2, h2⟩ : ∃ x, x = bytesOf (L1 ++ lowL e.stamp.toNat 4) := ⟨_, rfl⟩
    obtain ⟨S3, h3⟩ : ∃ x, x = bytesOf (L1 ++ lowL e.stamp.toNat 4 ++ lowL e.node.toNat 1) := ⟨_, rfl⟩
    obtain ⟨S4, h4⟩ : ∃ x, x = bytesOf (L1 ++ lowL e.stamp.toNat 4 ++ lowL e.node.toNat 1 ++ lowL (if e.gone then 1 else 0) 1) := ⟨_, rfl⟩
    have s2 : abin .add (.str S1) (.str (bytesOf (lowL e.stamp.toNat 4))) = some (.str S2) := by rw [h1, h2]; exact bytes_add (by rw [lowL_len]; omega)
    have s3 : abin .add (.str S2) (.str (bytesOf (lowL e.node.toNat 1))) = some (.str S3) := by rw [h2, h3]; exact bytes_add (by rw [List.length_append, lowL_len, lowL_len]; omega)
    have s4 : abin .add (.str S3) (.str (bytesOf (lowL (if e.gone then 1 else 0) 1))) = some (.str S4) := by rw [h3, h4]; exact bytes_add (by rw [List.length_append, List.length_append, lowL_len, lowL_len, lowL_len]; omega)
    rw [show lowL 20592 2 ++ lowL 22 2 ++ vecL e.vec = L1 from hL1.symm, ← h1] at r3
    unfold putL
    rw [← hL1, ← hA, ← h4]
    clear hL1 o1 x1 ok h1 h2 h3 h4
    refine pure_c (fn := AP.f102) (h2 := h.fence.alloc A) (e := [(2, .str S4), (3, .int .i64 0)]) rfl rfl rfl ?_ rfl rfl
    cases hg : e.gone with
    | true =>
      rw [hg] at g1 s4
      rw [if_pos rfl] at s4
      simp (disch := first | omega | (simp only [qqH, List.length_cons, List.length_nil, Nat.zero_add, Nat.reduceAdd]; first | done | omega | fail) | (simp (disch := first | omega | (simp only [qqH, List.length_cons, List.length_nil, Nat.zero_add, Nat.reduceAdd]; first | done | omega | fail) | fail) only [qqH, qqG, Option.map_some, List.length_cons, List.length_nil, Nat.zero_add, Nat.reduceAdd]; done) | fail) only [go_sem, abin_shl, abin_shr, Nat.reduceEqDiff, reduceIte, Nat.reduceAdd, Nat.reduceMul, Nat.reduceLT, Nat.reduceLeDiff, Int.reduceBEq, Int.reduceBNe, Int.reduceLT, Int.reduceLE, Int.reduceEq, qqC, qqD, AOp.loud, AOp.births, Int.reduceAdd, Int.reduceSub, Int.reduceMul, Int.reduceNeg, Int.reduceToNat, AP.f102, lA, cA, q1, k1, k2, k3, k4, k5, k6, s1, s2, s3, s4, g1, g2, g3, g4, ln, evC_loop, r1', r2, r3]
    | false =>
      rw [hg] at g1 s4
      rw [if_neg (by decide)] at s4
      simp (disch := first | omega | (simp only [qqH, List.length_cons, List.length_nil, Nat.zero_add, Nat.reduceAdd]; first | done | omega | fail) | (simp (disch := first | omega | (simp only [qqH, List.length_cons, List.length_nil, Nat.zero_add, Nat.reduceAdd]; first | done | omega | fail) | fail) only [qqH, qqG, Option.map_some, List.length_cons, List.length_nil, Nat.zero_add, Nat.reduceAdd]; done) | fail) only [go_sem, abin_shl, abin_shr, Nat.reduceEqDiff, reduceIte, Nat.reduceAdd, Nat.reduceMul, Nat.reduceLT, Nat.reduceLeDiff, Int.reduceBEq, Int.reduceBNe, Int.reduceLT, Int.reduceLE, Int.reduceEq, qqC, qqD, AOp.loud, AOp.births, Int.reduceAdd, Int.reduceSub, Int.reduceMul, Int.reduceNeg, Int.reduceToNat, AP.f102, lA, cA, q1, k1, k2, k3, k4, k5, k6, s1, s2, s3, s4, g1, g2, g3, g4, ln, evC_loop, r1', r2, r3]
theorem put2_loop {v : AV} {b : Nat} {A : List AV} {l : List Int} (hl : l.length < 1000000) (hn : ∀ n ∈ l, 0 ≤ n ∧ n ≤ 1048576) (h : H) (rd : Rd h v (ints l)) (hg : h.get b = some A) (hA : A[2]? = some v) : ∀ (q p : List Int) (acc : List Nat), l = p ++ q → acc.length + 4 * q.length < 100000000 →
    ∃ e', Lp AP.A [1, 4, 5] AP.f160L0 [(1, .pobj b 0), (4, .str (bytesOf acc)), (5, .int .i64 p.length)] h = some (.exit 0, e', h) ∧ look e' 1 = .pobj b 0 ∧ look e' 4 = .str (bytesOf (acc ++ vecL q))
  | [], p, acc, hp, ha => by
    have ln := rd.len
    rw [ints_length] at ln
    simp only [I] at ln
    have e : l.length = p.length := by rw [hp]; simp
    rw [e] at ln
    refine ⟨[(1, .pobj b 0), (4, .str (bytesOf acc)), (5, .int .i64 p.length), (17, .bool false)], Lp_exit ?_, rfl, by simp [vecL, look]⟩
    simp (disch := first | omega | (simp only [qqH, List.length_cons, List.length_nil, Nat.zero_add, Nat.reduceAdd]; first | done | omega | fail) | (simp (disch := first | omega | (simp only [qqH, List.length_cons, List.length_nil, Nat.zero_add, Nat.reduceAdd]; first | done | omega | fail) | fail) only [qqH, qqG, Option.map_some, List.length_cons, List.length_nil, Nat.zero_add, Nat.reduceAdd]; done) | fail) only [go_sem, abin_shl, abin_shr, Nat.reduceEqDiff, reduceIte, Nat.reduceAdd, Nat.reduceMul, Nat.reduceLT, Nat.reduceLeDiff, Int.reduceBEq, Int.reduceBNe, Int.reduceLT, Int.reduceLE, Int.reduceEq, qqC, qqD, AOp.loud, AOp.births, Int.reduceAdd, Int.reduceSub, Int.reduceMul, Int.reduceNeg, Int.reduceToNat, AP.f160L0, ln, hg, hA]
  | n :: q, p, acc, hp, ha => by
    rw [List.length_cons] at ha
    obtain ⟨e', r1, r2, r3⟩ := put2_loop hl hn h rd hg hA q (p ++ [n]) (acc ++ lowL n.toNat 4) (by rw [hp]; simp) (by rw [List.length_append, lowL_len]; omega)
    obtain ⟨ad, a1, a2⟩ := rd.ints_at
    have hlen : l.length = p.length + (q.length + 1) := by rw [hp]; simp
    have ln := rd.len
    rw [ints_length] at ln
    simp only [I] at ln
    have i1 := a1 (p.length : Int) ⟨by omega, by omega⟩
    have i2 := a2 h (Ext.refl h) p.length n (by rw [hp]; simp)
    have bn := hn n (by rw [hp]; simp)
    have k1 : ∀ g : H, callW AP.A 161 [.int .i64 n, .int .i64 4] g = some (.str (lowA n.toNat 4), g) := fun g => by
      have := bytes_c g n.toNat 4 (by omega)
      rw [show ((n.toNat : Nat) : Int) = n by omega] at this; exact this
    have s1 : abin .add (.str (bytesOf acc)) (.str (lowA n.toNat 4)) = some (.str (bytesOf (acc ++ lowL n.toNat 4))) := bytes_add (by rw [lowL_len]; omega)
    have n1 : ((p.length + 1 : Nat) : Int) = (p.length : Int) + 1 := by omega
    rw [List.length_append, show [n].length = 1 from rfl, n1] at r1
    refine ⟨e', Lp_next ?_ r1, r2, by rw [r3]; simp [vecL]⟩
    simp (disch := first | omega | (simp only [qqH, List.length_cons, List.length_nil, Nat.zero_add, Nat.reduceAdd]; first | done | omega | fail) | (simp (disch := first | omega | (simp only [qqH, List.length_cons, List.length_nil, Nat.zero_add, Nat.reduceAdd]; first | done | omega | fail) | fail) only [qqH, qqG, Option.map_some, List.length_cons, List.length_nil, Nat.zero_add, Nat.reduceAdd]; done) | fail) only [go_sem, abin_shl, abin_shr, Nat.reduceEqDiff, reduceIte, Nat.reduceAdd, Nat.reduceMul, Nat.reduceLT, Nat.reduceLeDiff, Int.reduceBEq, Int.reduceBNe, Int.reduceLT, Int.reduceLE, Int.reduceEq, qqC, qqD, AOp.loud, AOp.births, Int.reduceAdd, Int.reduceSub, Int.reduceMul, Int.reduceNeg, Int.reduceToNat, AP.f160L0, ln, hg, hA, i1, i2, k1, s1]
theorem eput2_c (h : H) (e : Ent) (v : AV) (hv : v.sc = true) (ok : EOk h (e, v)) : callW AP.A 160 [.agg (entC e v)] h = some (putV e, h) := by
  obtain ⟨A, hA⟩ : ∃ x, x = entC e v := ⟨_, rfl⟩
  have lA : A.length = 9 := by rw [hA]; rfl
  have cA : AV.allsc A = true := by rw [hA]; exact ent_sc hv
  have tA : List.take 9 A = A := by rw [hA]; rfl
  have g2 : A[2]? = some v := by rw [hA]; rfl
  have g1 : A[1]? = some (.bool e.gone) := by rw [hA]; rfl
  have g3 : A[3]? = some (.int .i64 e.stamp) := by rw [hA]; rfl
  have g4 : A[4]? = some (.int .i64 e.node) := by rw [hA]; rfl
  have x1 : Ext h (h.fence.alloc A) := fun i c q => ((Ext.refl h.fence).alloc _) i c q
  have o1 := ok.mono x1
  have q1 : callW AP.A 169 [.agg A] (h.fence.alloc A) = some (.bool (headA e), h.fence.alloc A) := by
    have := head2_c (h.fence.alloc A) v e o1.vec hv o1.vl
    rw [← hA] at this; exact this
  unfold putV
  cases hh : headA e with
  | false =>
    rw [hh] at q1
    rw [if_neg (by decide)]
    refine pure_c (fn := AP.f160) (h2 := h.fence.alloc A) (e := [(2, .str ⟨#[]⟩), (3, .int .i64 1200)]) rfl rfl rfl ?_ rfl rfl
    rw [← hA]
    simp (disch := first | omega | (simp only [qqH, List.length_cons, List.length_nil, Nat.zero_add, Nat.reduceAdd]; first | done | omega | fail) | (simp (disch := first | omega | (simp only [qqH, List.length_cons, List.length_nil, Nat.zero_add, Nat.reduceAdd]; first | done | omega | fail) | fail) only [qqH, qqG, Option.map_some, List.length_cons, List.length_nil, Nat.zero_add, Nat.reduceAdd]; done) | fail) only [go_sem, abin_shl, abin_shr, Nat.reduceEqDiff, reduceIte, Nat.reduceAdd, Nat.reduceMul, Nat.reduceLT, Nat.reduceLeDiff, Int.reduceBEq, Int.reduceBNe, Int.reduceLT, Int.reduceLE, Int.reduceEq, qqC, qqD, AOp.loud, AOp.births, Int.reduceAdd, Int.reduceSub, Int.reduceMul, Int.reduceNeg, Int.reduceToNat, AP.f160, lA, cA, tA, q1]
  | true =>
    rw [hh] at q1
    rw [if_pos rfl]
    obtain ⟨f1, f2, f3, f4⟩ := headA_facts hh
    have kk : ∀ (g : H) (x k : Nat), k ≤ 8 → callW AP.A 161 [.int .i64 x, .int .i64 k] g = some (.str (bytesOf (lowL x k)), g) := fun g x k hk => bytes_c g x k hk
    have k1 : ∀ g, callW AP.A 161 [.int .i64 20592, .int .i64 2] g = some (.str (bytesOf (lowL 20592 2)), g) := fun g => kk g 20592 2 (by omega)
    have k2 : ∀ g, callW AP.A 161 [.int .i64 22, .int .i64 2] g = some (.str (bytesOf (lowL 22 2)), g) := fun g => kk g 22 2 (by omega)
    have k3 : ∀ g, callW AP.A 161 [.int .i64 e.stamp, .int .i64 4] g = some (.str (bytesOf (lowL e.stamp.toNat 4)), g) := fun g => by
      have := kk g e.stamp.toNat 4 (by omega)
      rw [show ((e.stamp.toNat : Nat) : Int) = e.stamp by omega] at this; exact this
    have k4 : ∀ g, callW AP.A 161 [.int .i64 e.node, .int .i64 1] g = some (.str (bytesOf (lowL e.node.toNat 1)), g) := fun g => by
      have := kk g e.node.toNat 1 (by omega)
      rw [show ((e.node.toNat : Nat) : Int) = e.node by omega] at this; exact this
    have k5 : ∀ g, callW AP.A 161 [.int .i64 0, .int .i64 1] g = some (.str (bytesOf (lowL 0 1)), g) := fun g => kk g 0 1 (by omega)
    have k6 : ∀ g, callW AP.A 161 [.int .i64 1, .int .i64 1] g = some (.str (bytesOf (lowL 1 1)), g) := fun g => kk g 1 1 (by omega)
    clear kk
    obtain ⟨e', r1, r2, r3⟩ := put2_loop (b := h.next) (by omega) f2 (h.fence.alloc A) o1.vec (get_hit (by simp)) g2 e.vec [] (lowL 20592 2 ++ lowL 22 2) rfl (by rw [List.length_append, lowL_len, lowL_len]; omega)
    have r1' : Lp AP.A [1, 4, 5] AP.f160L0 [(1, .pobj h.next 0), (4, .str (bytesOf (lowL 20592 2 ++ lowL 22 2))), (5, .int .i64 0)] (h.fence.alloc A) = some (.exit 0, e', h.fence.alloc A) := r1
    clear r1
    have vl := vecL_len e.vec
    have s1 : abin .add (.str (bytesOf (lowL 20592 2))) (.str (bytesOf (lowL 22 2))) = some (.str (bytesOf (lowL 20592 2 ++ lowL 22 2))) := bytes_add (by rw [lowL_len, lowL_len]; omega)
    obtain ⟨L1, hL1⟩ : ∃ x, x = lowL 20592 2 ++ lowL 22 2 ++ vecL e.vec := ⟨_, rfl⟩
    have l1 : L1.length = 20 := by rw [hL1, List.length_append, List.length_append, lowL_len, lowL_len, vl, f1]
    obtain ⟨S1, h1⟩ : ∃ x, x = bytesOf L1 := ⟨_, rfl⟩
    obtain ⟨S2, h2⟩ : ∃ x, x = bytesOf (L1 ++ lowL e.stamp.toNat 4) := ⟨_, rfl⟩
    obtain ⟨S3, h3⟩ : ∃ x, x = bytesOf (L1 ++ lowL e.stamp.toNat 4 ++ lowL e.node.toNat 1) := ⟨_, rfl⟩
    obtain ⟨S4, h4⟩ : ∃ x, x = bytesOf (L1 ++ lowL e.stamp.toNat 4 ++ lowL e.node.toNat 1 ++ lowL (if e.gone then 1 else 0) 1) := ⟨_, rfl⟩
    have s2 : abin .add (.str S1) (.str (bytesOf (lowL e.stamp.toNat 4))) = some (.str S2) := by rw [h1, h2]; exact bytes_add (by rw [lowL_len]; omega)
    have s3 : abin .add (.str S2) (.str (bytesOf (lowL e.node.toNat 1))) = some (.str S3) := by rw [h2, h3]; exact bytes_add (by rw [List.length_append, lowL_len, lowL_len]; omega)
    have s4 : abin .add (.str S3) (.str (bytesOf (lowL (if e.gone then 1 else 0) 1))) = some (.str S4) := by rw [h3, h4]; exact bytes_add (by rw [List.length_append, List.length_append, lowL_len, lowL_len, lowL_len]; omega)
    rw [show lowL 20592 2 ++ lowL 22 2 ++ vecL e.vec = L1 from hL1.symm, ← h1] at r3
    unfold putL
    rw [← hL1, ← hA, ← h4]
    clear hL1 o1 x1 ok h1 h2 h3 h4
    refine pure_c (fn := AP.f160) (h2 := h.fence.alloc A) (e := [(2, .str S4), (3, .int .i64 0)]) rfl rfl rfl ?_ rfl rfl
    cases hg : e.gone with
    | true =>
      rw [hg] at g1 s4
      rw [if_pos rfl] at s4
      simp (disch := first | omega | (simp only [qqH, List.length_cons, List.length_nil, Nat.zero_add, Nat.reduceAdd]; first | done | omega | fail) | (simp (disch := first | omega | (simp only [qqH, List.length_cons, List.length_nil, Nat.zero_add, Nat.reduceAdd]; first | done | omega | fail) | fail) only [qqH, qqG, Option.map_some, List.length_cons, List.length_nil, Nat.zero_add, Nat.reduceAdd]; done) | fail) only [go_sem, abin_shl, abin_shr, Nat.reduceEqDiff, reduceIte, Nat.reduceAdd, Nat.reduceMul, Nat.reduceLT, Nat.reduceLeDiff, Int.reduceBEq, Int.reduceBNe, Int.reduceLT, Int.reduceLE, Int.reduceEq, qqC, qqD, AOp.loud, AOp.births, Int.reduceAdd, Int.reduceSub, Int.reduceMul, Int.reduceNeg, Int.reduceToNat, AP.f160, lA, cA, tA, q1, k1, k2, k3, k4, k5, k6, s1, s2, s3, s4, g1, g2, g3, g4, evC_loop, r1', r2, r3]
    | false =>
      rw [hg] at g1 s4
      rw [if_neg (by decide)] at s4
      simp (disch := first | omega | (simp only [qqH, List.length_cons, List.length_nil, Nat.zero_add, Nat.reduceAdd]; first | done | omega | fail) | (simp (disch := first | omega | (simp only [qqH, List.length_cons, List.length_nil, Nat.zero_add, Nat.reduceAdd]; first | done | omega | fail) | fail) only [qqH, qqG, Option.map_some, List.length_cons, List.length_nil, Nat.zero_add, Nat.reduceAdd]; done) | fail) only [go_sem, abin_shl, abin_shr, Nat.reduceEqDiff, reduceIte, Nat.reduceAdd, Nat.reduceMul, Nat.reduceLT, Nat.reduceLeDiff, Int.reduceBEq, Int.reduceBNe, Int.reduceLT, Int.reduceLE, Int.reduceEq, qqC, qqD, AOp.loud, AOp.births, Int.reduceAdd, Int.reduceSub, Int.reduceMul, Int.reduceNeg, Int.reduceToNat, AP.f160, lA, cA, tA, q1, k1, k2, k3, k4, k5, k6, s1, s2, s3, s4, g1, g2, g3, g4, evC_loop, r1', r2, r3]
def digL (e : Ent) : List Nat := lowL e.name.size 1 ++ toL e.name ++ putL e ++ lowL e.crc.toNat 4
def digA (e : Ent) : Option Nat := if mayE e = true then some (sumL' (digL e)) else none
def sumV : Option Nat → AV
  | some n => .tup [.int .i64 n, .int .i64 0]
  | none => .tup [.int .i64 0, .int .i64 1500]
theorem dg_loop (p : Nat) (ss : List ByteArray) (h : H) (hg : h.get p = some (ss.map AV.str)) (hs : ∀ s ∈ ss, s.size < 1125899906842624) (hl : ss.length < 1000000) : ∀ (q pr : List ByteArray) (a : Nat), ss = pr ++ q → a < 4294967296 →
    ∃ e', Lp AP.A [6, 7, 28, 29, 30] AP.f91L0 [(6, .fn 103 [] []), (7, .int .i64 a), (28, .sobj p 0 ss.length 1), (29, .int .i64 ss.length), (30, .int .i64 pr.length)] h = some (.exit 0, e', h) ∧ look e' 7 = .int .i64 (q.foldl joinA a : Nat)
  | [], pr, a, hp, ha => by
    have e : ss.length = pr.length := by rw [hp]; simp
    refine ⟨[(6, .fn 103 [] []), (7, .int .i64 a), (28, .sobj p 0 ss.length 1), (29, .int .i64 ss.length), (30, .int .i64 pr.length), (31, .bool false)], Lp_exit ?_, rfl⟩
    rw [e]
    simp (disch := first | omega | (simp only [qqH, List.length_cons, List.length_nil, Nat.zero_add, Nat.reduceAdd]; first | done | omega | fail) | (simp (disch := first | omega | (simp only [qqH, List.length_cons, List.length_nil, Nat.zero_add, Nat.reduceAdd]; first | done | omega | fail) | fail) only [qqH, qqG, Option.map_some, List.length_cons, List.length_nil, Nat.zero_add, Nat.reduceAdd]; done) | fail) only [go_sem, abin_shl, abin_shr, Nat.reduceEqDiff, reduceIte, Nat.reduceAdd, Nat.reduceMul, Nat.reduceLT, Nat.reduceLeDiff, Int.reduceBEq, Int.reduceBNe, Int.reduceLT, Int.reduceLE, Int.reduceEq, qqC, qqD, AOp.loud, AOp.births, Int.reduceAdd, Int.reduceSub, Int.reduceMul, Int.reduceNeg, Int.reduceToNat, AP.f91L0]
  | s :: q, pr, a, hp, ha => by
    obtain ⟨e', r1, r2⟩ := dg_loop p ss h hg hs hl q (pr ++ [s]) (joinA a s) (by rw [hp]; simp) (joinA_lt a s)
    have hlen : ss.length = pr.length + (q.length + 1) := by rw [hp]; simp
    have k1 := join_c h s a ha (hs s (by rw [hp]; simp))
    have g1 : (ss.map AV.str)[pr.length]? = some (.str s) := by rw [hp]; simp
    have n1 : ((pr.length + 1 : Nat) : Int) = (pr.length : Int) + 1 := by omega
    rw [List.length_append, show [s].length = 1 from rfl, n1] at r1
    refine ⟨e', Lp_next ?_ r1, r2⟩
    simp (disch := first | omega | (simp only [qqH, List.length_cons, List.length_nil, Nat.zero_add, Nat.reduceAdd]; first | done | omega | fail) | (simp (disch := first | omega | (simp only [qqH, List.length_cons, List.length_nil, Nat.zero_add, Nat.reduceAdd]; first | done | omega | fail) | fail) only [qqH, qqG, Option.map_some, List.length_cons, List.length_nil, Nat.zero_add, Nat.reduceAdd]; done) | fail) only [go_sem, abin_shl, abin_shr, Nat.reduceEqDiff, reduceIte, Nat.reduceAdd, Nat.reduceMul, Nat.reduceLT, Nat.reduceLeDiff, Int.reduceBEq, Int.reduceBNe, Int.reduceLT, Int.reduceLE, Int.reduceEq, qqC, qqD, AOp.loud, AOp.births, Int.reduceAdd, Int.reduceSub, Int.reduceMul, Int.reduceNeg, Int.reduceToNat, AP.f91L0, hg, k1, g1]
theorem joins4 (a b c d : ByteArray) : [a, b, c, d].foldl joinA 0 = crcA (a ++ b ++ c ++ d) := by
  show joinA (joinA (joinA (joinA 0 a) b) c) d = joinA 0 _
  rw [joinA_app, joinA_app, joinA_app]
  congr 1
  simp only [ByteArray.append_assoc]
theorem mayE_head {e : Ent} (h : mayE e = true) : headA e = true ∧ (1 ≤ e.name.size ∧ e.name.size ≤ 8) ∧ 0 ≤ e.crc ∧ e.crc ≤ 4294967295 := by
  unfold mayE entText at h
  split at h
  · cases h
  · rename_i hm
    have hm : mayF [e] = true := by cases q : mayF [e] with | true => rfl | false => exact absurd q hm
    simp only [mayF, mayL, entOk_n, Bool.and_eq_true, Bool.and_true] at hm
    obtain ⟨⟨h1, h2, h3⟩, _⟩ := hm
    refine ⟨h2, ?_, ?_⟩
    · simp only [nameA, Bool.and_eq_true, decide_eq_true_eq] at h1
      exact ⟨h1.1, h1.2.1⟩
    · unfold contA at h3
      split at h3
      · simp only [Bool.and_eq_true, decide_eq_true_eq] at h3; omega
      · simp only [Bool.and_eq_true, decide_eq_true_eq, isA] at h3; omega
theorem digL_lt (e : Ent) : ∀ b ∈ digL e, b < 256 := by
  intro b hb
  unfold digL at hb
  simp only [List.mem_append] at hb
  rcases hb with ((hb | hb) | hb) | hb
  · exact lowL_lt _ _ b hb
  · exact toL_lt _ b hb
  · exact putL_lt _ b hb
  · exact lowL_lt _ _ b hb
theorem dig_str (e : Ent) : bytesOf (lowL e.name.size 1) ++ e.name ++ bytesOf (putL e) ++ bytesOf (lowL e.crc.toNat 4) = bytesOf (digL e) := by
  unfold digL
  rw [← bytesOf_app, ← bytesOf_app, ← bytesOf_app, bytesOf_toL]
theorem putL_len {e : Ent} (h : headA e = true) : (putL e).length = 26 := by
  obtain ⟨f1, _⟩ := headA_facts h
  unfold putL
  simp only [List.length_append, lowL_len, vecL_len, f1]
set_option maxHeartbeats 1000000 in
theorem digest_c (h : H) (hf : h.floor ≤ h.next) (e : Ent) (v : AV) (hv : v.sc = true) (ok : EOk h (e, v)) : callW AP.A 91 [.agg (entC e v)] h = some (sumV (digA e), h) := by
  obtain ⟨A, hA⟩ : ∃ x, x = entC e v := ⟨_, rfl⟩
  have lA : A.length = 9 := by rw [hA]; rfl
  have cA : AV.allsc A = true := by rw [hA]; exact ent_sc hv
  have tA : List.take 9 A = A := by rw [hA]; rfl
  have g0 : A[0]? = some (.str e.name) := by rw [hA]; rfl
  have g8 : A[8]? = some (.int .i64 e.crc) := by rw [hA]; rfl
  have x1 : Ext h (h.fence.alloc A) := fun i c q => ((Ext.refl h.fence).alloc _) i c q
  have o1 := ok.mono x1
  have f1 : (h.fence.alloc A).floor ≤ (h.fence.alloc A).next := by simp
  have q1 : callW AP.A 96 [.agg A] (h.fence.alloc A) = some (.bool (mayE e), h.fence.alloc A) := by
    have := emay_c (h.fence.alloc A) f1 e v hv o1
    rw [← hA] at this; exact this
  unfold digA
  cases hm : mayE e with
  | false =>
    rw [hm] at q1
    rw [if_neg (by decide)]
    refine pure_c (fn := AP.f91) (h2 := h.fence.alloc A) (e := [(2, .int .i64 0), (3, .int .i64 1500)]) rfl rfl rfl ?_ rfl rfl
    rw [← hA]
    simp (disch := first | omega | (simp only [qqH, List.length_cons, List.length_nil, Nat.zero_add, Nat.reduceAdd]; first | done | omega | fail) | (simp (disch := first | omega | (simp only [qqH, List.length_cons, List.length_nil, Nat.zero_add, Nat.reduceAdd]; first | done | omega | fail) | fail) only [qqH, qqG, Option.map_some, List.length_cons, List.length_nil, Nat.zero_add, Nat.reduceAdd]; done) | fail) only [go_sem, abin_shl, abin_shr, Nat.reduceEqDiff, reduceIte, Nat.reduceAdd, Nat.reduceMul, Nat.reduceLT, Nat.reduceLeDiff, Int.reduceBEq, Int.reduceBNe, Int.reduceLT, Int.reduceLE, Int.reduceEq, qqC, qqD, AOp.loud, AOp.births, Int.reduceAdd, Int.reduceSub, Int.reduceMul, Int.reduceNeg, Int.reduceToNat, AP.f91, lA, cA, tA, q1]
  | true =>
    rw [hm] at q1
    rw [if_pos rfl]
    obtain ⟨m1, m2, m3⟩ := mayE_head hm
    have q2 : callW AP.A 102 [.agg A] (h.fence.alloc A) = some (.tup [.str (bytesOf (putL e)), .int .i64 0], h.fence.alloc A) := by
      have := eput_c (h.fence.alloc A) f1 e v hv o1
      unfold putV at this
      rw [if_pos m1, ← hA] at this; exact this
    have q3 : ∀ g, callW AP.A 104 [.int .i64 e.name.size, .int .i64 1] g = some (.str (bytesOf (lowL e.name.size 1)), g) := fun g => low_c g e.name.size 1 (by omega) (by omega)
    have q4 : ∀ g, callW AP.A 104 [.int .i64 e.crc, .int .i64 4] g = some (.str (bytesOf (lowL e.crc.toNat 4)), g) := fun g => by
      have := low_c g e.crc.toNat 4 (by omega) (by omega)
      rw [show ((e.crc.toNat : Nat) : Int) = e.crc by omega] at this; exact this
    have pl := putL_len m1
    obtain ⟨T1, e1⟩ : ∃ x, x = bytesOf (lowL e.name.size 1) := ⟨_, rfl⟩
    obtain ⟨T3, e3⟩ : ∃ x, x = bytesOf (putL e) := ⟨_, rfl⟩
    obtain ⟨T4, e4⟩ : ∃ x, x = bytesOf (lowL e.crc.toNat 4) := ⟨_, rfl⟩
    have ds := dig_str e
    rw [← e1, ← e3, ← e4] at ds
    rw [← e3] at q2
    rw [← e1] at q3
    rw [← e4] at q4
    have t1 : T1.size = 1 := by rw [e1, bytesOf_size, lowL_len]
    have t3 : T3.size = 26 := by rw [e3, bytesOf_size, pl]
    have t4 : T4.size = 4 := by rw [e4, bytesOf_size, lowL_len]
    obtain ⟨e', r1, r2⟩ := dg_loop (h.next + 1) [T1, e.name, T3, T4] ((h.fence.alloc A).alloc [.str T1, .str e.name, .str T3, .str T4]) (get_hit (by simp)) (by
      intro s hs
      simp only [List.mem_cons, List.mem_nil_iff, or_false] at hs
      rcases hs with rfl | rfl | rfl | rfl <;> omega) (by simp) [T1, e.name, T3, T4] [] 0 rfl (by omega)
    rw [joins4, ds, crcA_bytes (digL_lt e)] at r2
    have r1' : Lp AP.A [6, 7, 28, 29, 30] AP.f91L0 [(6, .fn 103 [] []), (7, .int .i64 0), (28, .sobj (h.next + 1) 0 4 1), (29, .int .i64 4), (30, .int .i64 0)] ((h.fence.alloc A).alloc [.str T1, .str e.name, .str T3, .str T4]) = some (.exit 0, e', (h.fence.alloc A).alloc [.str T1, .str e.name, .str T3, .str T4]) := r1
    clear r1
    refine pure_c (fn := AP.f91) (h2 := (h.fence.alloc A).alloc [.str T1, .str e.name, .str T3, .str T4]) (e := [(2, .int .i64 (sumL' (digL e))), (3, .int .i64 0)]) rfl rfl rfl ?_ rfl rfl
    rw [← hA]
    clear ds e1 e3 e4 o1 x1 ok
    simp (disch := first | omega | (simp only [qqH, List.length_cons, List.length_nil, Nat.zero_add, Nat.reduceAdd]; first | done | omega | fail) | (simp (disch := first | omega | (simp only [qqH, List.length_cons, List.length_nil, Nat.zero_add, Nat.reduceAdd]; first | done | omega | fail) | fail) only [qqH, qqG, Option.map_some, List.length_cons, List.length_nil, Nat.zero_add, Nat.reduceAdd]; done) | fail) only [go_sem, abin_shl, abin_shr, Nat.reduceEqDiff, reduceIte, Nat.reduceAdd, Nat.reduceMul, Nat.reduceLT, Nat.reduceLeDiff, Int.reduceBEq, Int.reduceBNe, Int.reduceLT, Int.reduceLE, Int.reduceEq, qqC, qqD, AOp.loud, AOp.births, Int.reduceAdd, Int.reduceSub, Int.reduceMul, Int.reduceNeg, Int.reduceToNat, AP.f91, lA, cA, tA, q1, q2, q3, q4, g0, g8, evC_loop, r1', r2]
theorem digest2_c (h : H) (e : Ent) (v : AV) (hv : v.sc = true) (ok : EOk h (e, v)) : callW AP.A 151 [.agg (entC e v)] h = some (sumV (digA e), h) := by
  obtain ⟨A, hA⟩ : ∃ x, x = entC e v := ⟨_, rfl⟩
  have lA : A.length = 9 := by rw [hA]; rfl
  have cA : AV.allsc A = true := by rw [hA]; exact ent_sc hv
  have tA : List.take 9 A = A := by rw [hA]; rfl
  have g0 : A[0]? = some (.str e.name) := by rw [hA]; rfl
  have g8 : A[8]? = some (.int .i64 e.crc) := by rw [hA]; rfl
  have x1 : Ext h (h.fence.alloc A) := fun i c q => ((Ext.refl h.fence).alloc _) i c q
  have o1 := ok.mono x1
  have q1 : callW AP.A 157 [.agg A] (h.fence.alloc A) = some (.bool (mayE e), h.fence.alloc A) := by
    have := emay2_c (h.fence.alloc A) e v hv o1
    rw [← hA] at this; exact this
  unfold digA
  cases hm : mayE e with
  | false =>
    rw [hm] at q1
    rw [if_neg (by decide)]
    refine pure_c (fn := AP.f151) (h2 := h.fence.alloc A) (e := [(2, .int .i64 0), (3, .int .i64 1500)]) rfl rfl rfl ?_ rfl rfl
    rw [← hA]
    simp (disch := first | omega | (simp only [qqH, List.length_cons, List.length_nil, Nat.zero_add, Nat.reduceAdd]; first | done | omega | fail) | (simp (disch := first | omega | (simp only [qqH, List.length_cons, List.length_nil, Nat.zero_add, Nat.reduceAdd]; first | done | omega | fail) | fail) only [qqH, qqG, Option.map_some, List.length_cons, List.length_nil, Nat.zero_add, Nat.reduceAdd]; done) | fail) only [go_sem, abin_shl, abin_shr, Nat.reduceEqDiff, reduceIte, Nat.reduceAdd, Nat.reduceMul, Nat.reduceLT, Nat.reduceLeDiff, Int.reduceBEq, Int.reduceBNe, Int.reduceLT, Int.reduceLE, Int.reduceEq, qqC, qqD, AOp.loud, AOp.births, Int.reduceAdd, Int.reduceSub, Int.reduceMul, Int.reduceNeg, Int.reduceToNat, AP.f151, lA, cA, tA, q1]
  | true =>
    rw [hm] at q1
    rw [if_pos rfl]
    obtain ⟨m1, m2, m3⟩ := mayE_head hm
    have q2 : callW AP.A 160 [.agg A] (h.fence.alloc A) = some (.tup [.str (bytesOf (putL e)), .int .i64 0], h.fence.alloc A) := by
      have := eput2_c (h.fence.alloc A) e v hv o1
      unfold putV at this
      rw [if_pos m1, ← hA] at this; exact this
    have q3 : ∀ g, callW AP.A 161 [.int .i64 e.name.size, .int .i64 1] g = some (.str (bytesOf (lowL e.name.size 1)), g) := fun g => bytes_c g e.name.size 1 (by omega)
    have q4 : ∀ g, callW AP.A 161 [.int .i64 e.crc, .int .i64 4] g = some (.str (bytesOf (lowL e.crc.toNat 4)), g) := fun g => by
      have := bytes_c g e.crc.toNat 4 (by omega)
      rw [show ((e.crc.toNat : Nat) : Int) = e.crc by omega] at this; exact this
    have pl := putL_len m1
    obtain ⟨T1, e1⟩ : ∃ x, x = bytesOf (lowL e.name.size 1) := ⟨_, rfl⟩
    obtain ⟨T3, e3⟩ : ∃ x, x = bytesOf (putL e) := ⟨_, rfl⟩
    obtain ⟨T4, e4⟩ : ∃ x, x = bytesOf (lowL e.crc.toNat 4) := ⟨_, rfl⟩
    have ds := dig_str e
    rw [← e1, ← e3, ← e4] at ds
    rw [← e3] at q2
    rw [← e1] at q3
    rw [← e4] at q4
    have t1 : T1.size = 1 := by rw [e1, bytesOf_size, lowL_len]
    have t3 : T3.size = 26 := by rw [e3, bytesOf_size, pl]
    have t4 : T4.size = 4 := by rw [e4, bytesOf_size, lowL_len]
    have s1 : abin .add (.str T1) (.str e.name) = some (.str (T1 ++ e.name)) := str_add (by omega)
    have s2 : abin .add (.str (T1 ++ e.name)) (.str T3) = some (.str (T1 ++ e.name ++ T3)) := str_add (by rw [ByteArray.size_append]; omega)
    have s3 : abin .add (.str (T1 ++ e.name ++ T3)) (.str T4) = some (.str (bytesOf (digL e))) := by rw [← ds]; exact str_add (by rw [ByteArray.size_append, ByteArray.size_append]; omega)
    have zz : (bytesOf (digL e)).size < 1125899906842624 := by rw [← ds, ByteArray.size_append, ByteArray.size_append, ByteArray.size_append]; omega
    have k1 : ∀ g, callW AP.A 101 [.str (bytesOf (digL e))] g = some (.int .i64 (sumL' (digL e)), g) := fun g => by rw [crc2_c g _ zz, crcA_bytes (digL_lt e)]
    refine pure_c (fn := AP.f151) (h2 := h.fence.alloc A) (e := [(2, .int .i64 (sumL' (digL e))), (3, .int .i64 0)]) rfl rfl rfl ?_ rfl rfl
    rw [← hA]
    clear ds e1 e3 e4 o1 x1 ok zz
    generalize T1 ++ e.name ++ T3 = T6 at *
    generalize T1 ++ e.name = T5 at *
    simp (disch := first | omega | (simp only [qqH, List.length_cons, List.length_nil, Nat.zero_add, Nat.reduceAdd]; first | done | omega | fail) | (simp (disch := first | omega | (simp only [qqH, List.length_cons, List.length_nil, Nat.zero_add, Nat.reduceAdd]; first | done | omega | fail) | fail) only [qqH, qqG, Option.map_some, List.length_cons, List.length_nil, Nat.zero_add, Nat.reduceAdd]; done) | fail) only [go_sem, abin_shl, abin_shr, Nat.reduceEqDiff, reduceIte, Nat.reduceAdd, Nat.reduceMul, Nat.reduceLT, Nat.reduceLeDiff, Int.reduceBEq, Int.reduceBNe, Int.reduceLT, Int.reduceLE, Int.reduceEq, qqC, qqD, AOp.loud, AOp.births, Int.reduceAdd, Int.reduceSub, Int.reduceMul, Int.reduceNeg, Int.reduceToNat, AP.f151, lA, cA, tA, q1, q2, q3, q4, g0, g8, s1, s2, s3, k1]
def manyL (l : List Int) : List Nat := l.flatMap fun n => lowL n.toNat 4
def manyA (l : List Int) : Option Nat := if l.all isA = true then some (sumL' (manyL l)) else none
theorem manyL_lt (l : List Int) : ∀ b ∈ manyL l, b < 256 := vecL_lt l
theorem many_loop {v : AV} {l : List Int} (hl : l.length < 1125899906842624) (h : H) (rd : Rd h v (ints l)) : ∀ (q p : List Int) (a : Nat), l = p ++ q → a < 4294967296 →
    (q.all isA = true ∧ ∃ e', Lp AP.A [4, 7, 8, 9] AP.f93L0 [(4, .int .i64 a), (7, v), (8, .int .i64 l.length), (9, .int .i64 p.length)] h = some (.exit 0, e', h) ∧ look e' 4 = .int .i64 (joinA a (bytesOf (manyL q)) : Nat)) ∨
    (q.all isA = false ∧ ∃ e', Lp AP.A [4, 7, 8, 9] AP.f93L0 [(4, .int .i64 a), (7, v), (8, .int .i64 l.length), (9, .int .i64 p.length)] h = some (.ret, e', h) ∧ look e' 2 = .int .i64 0 ∧ look e' 3 = .int .i64 1500)
  | [], p, a, hp, ha => by
    left
    have e : l.length = p.length := by rw [hp]; simp
    refine ⟨rfl, [(4, .int .i64 a), (7, v), (8, .int .i64 l.length), (9, .int .i64 p.length), (10, .bool false)], Lp_exit ?_, ?_⟩
    · rw [e]
      simp (disch := first | omega | (simp only [qqH, List.length_cons, List.length_nil, Nat.zero_add, Nat.reduceAdd]; first | done | omega | fail) | (simp (disch := first | omega | (simp only [qqH, List.length_cons, List.length_nil, Nat.zero_add, Nat.reduceAdd]; first | done | omega | fail) | fail) only [qqH, qqG, Option.map_some, List.length_cons, List.length_nil, Nat.zero_add, Nat.reduceAdd]; done) | fail) only [go_sem, abin_shl, abin_shr, Nat.reduceEqDiff, reduceIte, Nat.reduceAdd, Nat.reduceMul, Nat.reduceLT, Nat.reduceLeDiff, Int.reduceBEq, Int.reduceBNe, Int.reduceLT, Int.reduceLE, Int.reduceEq, qqC, qqD, AOp.loud, AOp.births, Int.reduceAdd, Int.reduceSub, Int.reduceMul, Int.reduceNeg, Int.reduceToNat, AP.f93L0]
    · show AV.int .i64 (a : Int) = .int .i64 ((joinA a (bytesOf []) : Nat) : Int)
      rw [joinA_L]
      have : crcL (4294967295 - a) (toL (bytesOf [])) = 4294967295 - a := rfl
      rw [this]; congr 1; omega
  | n :: q, p, a, hp, ha => by
    obtain ⟨ad, a1, a2⟩ := rd.ints_at
    have hlen : l.length = p.length + (q.length + 1) := by rw [hp]; simp
    have i1 := a1 (p.length : Int) ⟨by omega, by omega⟩
    have i2 := a2 h (Ext.refl h) p.length n (by rw [hp]; simp)
    have k1 := is_c h n
    rw [List.all_cons]
    cases hn : isA n with
    | false =>
      rw [hn] at k1
      right
      refine ⟨rfl, [(2, .int .i64 0), (3, .int .i64 1500)], Lp_ret ?_, rfl, rfl⟩
      simp (disch := first | omega | (simp only [qqH, List.length_cons, List.length_nil, Nat.zero_add, Nat.reduceAdd]; first | done | omega | fail) | (simp (disch := first | omega | (simp only [qqH, List.length_cons, List.length_nil, Nat.zero_add, Nat.reduceAdd]; first | done | omega | fail) | fail) only [qqH, qqG, Option.map_some, List.length_cons, List.length_nil, Nat.zero_add, Nat.reduceAdd]; done) | fail) only [go_sem, abin_shl, abin_shr, Nat.reduceEqDiff, reduceIte, Nat.reduceAdd, Nat.reduceMul, Nat.reduceLT, Nat.reduceLeDiff, Int.reduceBEq, Int.reduceBNe, Int.reduceLT, Int.reduceLE, Int.reduceEq, qqC, qqD, AOp.loud, AOp.births, Int.reduceAdd, Int.reduceSub, Int.reduceMul, Int.reduceNeg, Int.reduceToNat, AP.f93L0, i1, i2, k1]
    | true =>
      rw [hn] at k1
      rw [Bool.true_and]
      simp only [isA, decide_eq_true_eq] at hn
      have k2 : ∀ g, callW AP.A 104 [.int .i64 n, .int .i64 4] g = some (.str (bytesOf (lowL n.toNat 4)), g) := fun g => by
        have := low_c g n.toNat 4 (by omega) (by omega)
        rw [show ((n.toNat : Nat) : Int) = n by omega] at this; exact this
      have k3 := join_c h (bytesOf (lowL n.toNat 4)) a ha (by rw [bytesOf_size, lowL_len]; omega)
      have n1 : ((p.length + 1 : Nat) : Int) = (p.length : Int) + 1 := by omega
      have ih := many_loop hl h rd q (p ++ [n]) (joinA a (bytesOf (lowL n.toNat 4))) (by rw [hp]; simp) (joinA_lt _ _)
      rw [List.length_append, show [n].length = 1 from rfl, n1, joinA_app, bytesOf_app] at ih
      rcases ih with ⟨g1, e', r1, r2⟩ | ⟨g1, e', r1, r2⟩
      · left
        refine ⟨g1, e', Lp_next ?_ r1, r2⟩
        simp (disch := first | omega | (simp only [qqH, List.length_cons, List.length_nil, Nat.zero_add, Nat.reduceAdd]; first | done | omega | fail) | (simp (disch := first | omega | (simp only [qqH, List.length_cons, List.length_nil, Nat.zero_add, Nat.reduceAdd]; first | done | omega | fail) | fail) only [qqH, qqG, Option.map_some, List.length_cons, List.length_nil, Nat.zero_add, Nat.reduceAdd]; done) | fail) only [go_sem, abin_shl, abin_shr, Nat.reduceEqDiff, reduceIte, Nat.reduceAdd, Nat.reduceMul, Nat.reduceLT, Nat.reduceLeDiff, Int.reduceBEq, Int.reduceBNe, Int.reduceLT, Int.reduceLE, Int.reduceEq, qqC, qqD, AOp.loud, AOp.births, Int.reduceAdd, Int.reduceSub, Int.reduceMul, Int.reduceNeg, Int.reduceToNat, AP.f93L0, i1, i2, k1, k2, k3]
      · right
        refine ⟨g1, e', Lp_next ?_ r1, r2⟩
        simp (disch := first | omega | (simp only [qqH, List.length_cons, List.length_nil, Nat.zero_add, Nat.reduceAdd]; first | done | omega | fail) | (simp (disch := first | omega | (simp only [qqH, List.length_cons, List.length_nil, Nat.zero_add, Nat.reduceAdd]; first | done | omega | fail) | fail) only [qqH, qqG, Option.map_some, List.length_cons, List.length_nil, Nat.zero_add, Nat.reduceAdd]; done) | fail) only [go_sem, abin_shl, abin_shr, Nat.reduceEqDiff, reduceIte, Nat.reduceAdd, Nat.reduceMul, Nat.reduceLT, Nat.reduceLeDiff, Int.reduceBEq, Int.reduceBNe, Int.reduceLT, Int.reduceLE, Int.reduceEq, qqC, qqD, AOp.loud, AOp.births, Int.reduceAdd, Int.reduceSub, Int.reduceMul, Int.reduceNeg, Int.reduceToNat, AP.f93L0, i1, i2, k1, k2, k3]
theorem many_c (h : H) (v : AV) (l : List Int) (rd : Rd h v (ints l)) (hl : l.length < 1125899906842624) : callW AP.A 93 [v] h = some (sumV (manyA l), h) := by
  have rd' := rd.mono (get_fence_mono h)
  have ln := rd'.len
  rw [ints_length] at ln
  simp only [I] at ln
  unfold manyA
  rcases many_loop hl h.fence rd' l [] 0 rfl (by omega) with ⟨g1, e', r1, r2⟩ | ⟨g1, e', r1, r2, r3⟩
  · rw [if_pos g1]
    have r1' : Lp AP.A [4, 7, 8, 9] AP.f93L0 [(4, .int .i64 0), (7, v), (8, .int .i64 l.length), (9, .int .i64 0)] h.fence = some (.exit 0, e', h.fence) := r1
    have r2' : look e' 4 = .int .i64 (sumL' (manyL l)) := by rw [r2, ← crcA_bytes (manyL_lt l)]; rfl
    refine pure_c (fn := AP.f93) (h2 := h.fence) (e := [(2, .int .i64 (sumL' (manyL l))), (3, .int .i64 0)]) rfl rfl rfl ?_ rfl rfl
    simp (disch := first | omega | (simp only [qqH, List.length_cons, List.length_nil, Nat.zero_add, Nat.reduceAdd]; first | done | omega | fail) | (simp (disch := first | omega | (simp only [qqH, List.length_cons, List.length_nil, Nat.zero_add, Nat.reduceAdd]; first | done | omega | fail) | fail) only [qqH, qqG, Option.map_some, List.length_cons, List.length_nil, Nat.zero_add, Nat.reduceAdd]; done) | fail) only [go_sem, abin_shl, abin_shr, Nat.reduceEqDiff, reduceIte, Nat.reduceAdd, Nat.reduceMul, Nat.reduceLT, Nat.reduceLeDiff, Int.reduceBEq, Int.reduceBNe, Int.reduceLT, Int.reduceLE, Int.reduceEq, qqC, qqD, AOp.loud, AOp.births, Int.reduceAdd, Int.reduceSub, Int.reduceMul, Int.reduceNeg, Int.reduceToNat, AP.f93, ln, evC_loop, r1', r2']
  · rw [if_neg (by rw [g1]; decide)]
    have r1' : Lp AP.A [4, 7, 8, 9] AP.f93L0 [(4, .int .i64 0), (7, v), (8, .int .i64 l.length), (9, .int .i64 0)] h.fence = some (.ret, e', h.fence) := r1
    refine pure_c (fn := AP.f93) (h2 := h.fence) (e := e') rfl rfl rfl ?_ (by simp only [AP.f93, resAll, resOf, r2, r3]; rfl) rfl
    simp (disch := first | omega | (simp only [qqH, List.length_cons, List.length_nil, Nat.zero_add, Nat.reduceAdd]; first | done | omega | fail) | (simp (disch := first | omega | (simp only [qqH, List.length_cons, List.length_nil, Nat.zero_add, Nat.reduceAdd]; first | done | omega | fail) | fail) only [qqH, qqG, Option.map_some, List.length_cons, List.length_nil, Nat.zero_add, Nat.reduceAdd]; done) | fail) only [go_sem, abin_shl, abin_shr, Nat.reduceEqDiff, reduceIte, Nat.reduceAdd, Nat.reduceMul, Nat.reduceLT, Nat.reduceLeDiff, Int.reduceBEq, Int.reduceBNe, Int.reduceLT, Int.reduceLE, Int.reduceEq, qqC, qqD, AOp.loud, AOp.births, Int.reduceAdd, Int.reduceSub, Int.reduceMul, Int.reduceNeg, Int.reduceToNat, AP.f93, ln, evC_loop, r1']
theorem sum_c (h : H) (x : Int) : callW AP.A 162 [.int .i64 x] h = some (.bool (isA x), h) := by
  refine pure_c (fn := AP.f162) (h2 := h.fence) (e := [(2, .bool (isA x))]) rfl rfl rfl ?_ rfl rfl
  unfold isA
  by_cases c1 : 0 ≤ x
  · by_cases c2 : x ≤ 4294967295
    · simp (disch := first | omega | (simp only [qqH, List.length_cons, List.length_nil, Nat.zero_add, Nat.reduceAdd]; first | done | omega | fail) | (simp (disch := first | omega | (simp only [qqH, List.length_cons, List.length_nil, Nat.zero_add, Nat.reduceAdd]; first | done | omega | fail) | fail) only [qqH, qqG, Option.map_some, List.length_cons, List.length_nil, Nat.zero_add, Nat.reduceAdd]; done) | fail) only [go_sem, abin_shl, abin_shr, Nat.reduceEqDiff, reduceIte, Nat.reduceAdd, Nat.reduceMul, Nat.reduceLT, Nat.reduceLeDiff, Int.reduceBEq, Int.reduceBNe, Int.reduceLT, Int.reduceLE, Int.reduceEq, qqC, qqD, AOp.loud, AOp.births, Int.reduceAdd, Int.reduceSub, Int.reduceMul, Int.reduceNeg, Int.reduceToNat, AP.f162]
    · simp (disch := first | omega | (simp only [qqH, List.length_cons, List.length_nil, Nat.zero_add, Nat.reduceAdd]; first | done | omega | fail) | (simp (disch := first | omega | (simp only [qqH, List.length_cons, List.length_nil, Nat.zero_add, Nat.reduceAdd]; first | done | omega | fail) | fail) only [qqH, qqG, Option.map_some, List.length_cons, List.length_nil, Nat.zero_add, Nat.reduceAdd]; done) | fail) only [go_sem, abin_shl, abin_shr, Nat.reduceEqDiff, reduceIte, Nat.reduceAdd, Nat.reduceMul, Nat.reduceLT, Nat.reduceLeDiff, Int.reduceBEq, Int.reduceBNe, Int.reduceLT, Int.reduceLE, Int.reduceEq, qqC, qqD, AOp.loud, AOp.births, Int.reduceAdd, Int.reduceSub, Int.reduceMul, Int.reduceNeg, Int.reduceToNat, AP.f162]
  · simp (disch := first | omega | (simp only [qqH, List.length_cons, List.length_nil, Nat.zero_add, Nat.reduceAdd]; first | done | omega | fail) | (simp (disch := first | omega | (simp only [qqH, List.length_cons, List.length_nil, Nat.zero_add, Nat.reduceAdd]; first | done | omega | fail) | fail) only [qqH, qqG, Option.map_some, List.length_cons, List.length_nil, Nat.zero_add, Nat.reduceAdd]; done) | fail) only [go_sem, abin_shl, abin_shr, Nat.reduceEqDiff, reduceIte, Nat.reduceAdd, Nat.reduceMul, Nat.reduceLT, Nat.reduceLeDiff, Int.reduceBEq, Int.reduceBNe, Int.reduceLT, Int.reduceLE, Int.reduceEq, qqC, qqD, AOp.loud, AOp.births, Int.reduceAdd, Int.reduceSub, Int.reduceMul, Int.reduceNeg, Int.reduceToNat, AP.f162]
theorem many2_loop {v : AV} {l : List Int} (hl : l.length < 281474976710656) (h : H) (rd : Rd h v (ints l)) : ∀ (q p : List Int) (acc : List Nat), l = p ++ q → acc.length + 4 * q.length < 1125899906842624 →
    (q.all isA = true ∧ ∃ e', Lp AP.A [0, 4, 5] AP.f152L0 [(0, v), (4, .str (bytesOf acc)), (5, .int .i64 p.length)] h = some (.exit 0, e', h) ∧ look e' 4 = .str (bytesOf (acc ++ manyL q))) ∨
    (q.all isA = false ∧ ∃ e', Lp AP.A [0, 4, 5] AP.f152L0 [(0, v), (4, .str (bytesOf acc)), (5, .int .i64 p.length)] h = some (.ret, e', h) ∧ look e' 2 = .int .i64 0 ∧ look e' 3 = .int .i64 1500)
  | [], p, acc, hp, ha => by
    left
    have e : l.length = p.length := by rw [hp]; simp
    have ln := rd.len
    rw [ints_length] at ln
    simp only [I] at ln
    refine ⟨rfl, [(0, v), (4, .str (bytesOf acc)), (5, .int .i64 p.length), (9, .bool false)], Lp_exit ?_, by simp [manyL, look]⟩
    rw [e] at ln
    simp (disch := first | omega | (simp only [qqH, List.length_cons, List.length_nil, Nat.zero_add, Nat.reduceAdd]; first | done | omega | fail) | (simp (disch := first | omega | (simp only [qqH, List.length_cons, List.length_nil, Nat.zero_add, Nat.reduceAdd]; first | done | omega | fail) | fail) only [qqH, qqG, Option.map_some, List.length_cons, List.length_nil, Nat.zero_add, Nat.reduceAdd]; done) | fail) only [go_sem, abin_shl, abin_shr, Nat.reduceEqDiff, reduceIte, Nat.reduceAdd, Nat.reduceMul, Nat.reduceLT, Nat.reduceLeDiff, Int.reduceBEq, Int.reduceBNe, Int.reduceLT, Int.reduceLE, Int.reduceEq, qqC, qqD, AOp.loud, AOp.births, Int.reduceAdd, Int.reduceSub, Int.reduceMul, Int.reduceNeg, Int.reduceToNat, AP.f152L0, ln]
  | n :: q, p, acc, hp, ha => by
    rw [List.length_cons] at ha
    have ln := rd.len
    rw [ints_length] at ln
    simp only [I] at ln
    obtain ⟨ad, a1, a2⟩ := rd.ints_at
    have hlen : l.length = p.length + (q.length + 1) := by rw [hp]; simp
    have i1 := a1 (p.length : Int) ⟨by omega, by omega⟩
    have i2 := a2 h (Ext.refl h) p.length n (by rw [hp]; simp)
    have k1 := sum_c h n
    rw [List.all_cons]
    cases hn : isA n with
    | false =>
      rw [hn] at k1
      right
      refine ⟨rfl, [(2, .int .i64 0), (3, .int .i64 1500)], Lp_ret ?_, rfl, rfl⟩
      simp (disch := first | omega | (simp only [qqH, List.length_cons, List.length_nil, Nat.zero_add, Nat.reduceAdd]; first | done | omega | fail) | (simp (disch := first | omega | (simp only [qqH, List.length_cons, List.length_nil, Nat.zero_add, Nat.reduceAdd]; first | done | omega | fail) | fail) only [qqH, qqG, Option.map_some, List.length_cons, List.length_nil, Nat.zero_add, Nat.reduceAdd]; done) | fail) only [go_sem, abin_shl, abin_shr, Nat.reduceEqDiff, reduceIte, Nat.reduceAdd, Nat.reduceMul, Nat.reduceLT, Nat.reduceLeDiff, Int.reduceBEq, Int.reduceBNe, Int.reduceLT, Int.reduceLE, Int.reduceEq, qqC, qqD, AOp.loud, AOp.births, Int.reduceAdd, Int.reduceSub, Int.reduceMul, Int.reduceNeg, Int.reduceToNat, AP.f152L0, ln, i1, i2, k1]
    | true =>
      rw [hn] at k1
      rw [Bool.true_and]
      simp only [isA, decide_eq_true_eq] at hn
      have k2 : ∀ g, callW AP.A 161 [.int .i64 n, .int .i64 4] g = some (.str (bytesOf (lowL n.toNat 4)), g) := fun g => by
        have := bytes_c g n.toNat 4 (by omega)
        rw [show ((n.toNat : Nat) : Int) = n by omega] at this; exact this
      have s1 : abin .add (.str (bytesOf acc)) (.str (bytesOf (lowL n.toNat 4))) = some (.str (bytesOf (acc ++ lowL n.toNat 4))) := bytes_add (by rw [lowL_len]; omega)
      have n1 : ((p.length + 1 : Nat) : Int) = (p.length : Int) + 1 := by omega
      have ih := many2_loop hl h rd q (p ++ [n]) (acc ++ lowL n.toNat 4) (by rw [hp]; simp) (by rw [List.length_append, lowL_len]; omega)
      rw [List.length_append, show [n].length = 1 from rfl, n1] at ih
      rcases ih with ⟨g1, e', r1, r2⟩ | ⟨g1, e', r1, r2⟩
      · left
        refine ⟨g1, e', Lp_next ?_ r1, by rw [r2]; simp [manyL]⟩
        simp (disch := first | omega | (simp only [qqH, List.length_cons, List.length_nil, Nat.zero_add, Nat.reduceAdd]; first | done | omega | fail) | (simp (disch := first | omega | (simp only [qqH, List.length_cons, List.length_nil, Nat.zero_add, Nat.reduceAdd]; first | done | omega | fail) | fail) only [qqH, qqG, Option.map_some, List.length_cons, List.length_nil, Nat.zero_add, Nat.reduceAdd]; done) | fail) only [go_sem, abin_shl, abin_shr, Nat.reduceEqDiff, reduceIte, Nat.reduceAdd, Nat.reduceMul, Nat.reduceLT, Nat.reduceLeDiff, Int.reduceBEq, Int.reduceBNe, Int.reduceLT, Int.reduceLE, Int.reduceEq, qqC, qqD, AOp.loud, AOp.births, Int.reduceAdd, Int.reduceSub, Int.reduceMul, Int.reduceNeg, Int.reduceToNat, AP.f152L0, ln, i1, i2, k1, k2, s1]
      · right
        refine ⟨g1, e', Lp_next ?_ r1, r2⟩
        simp (disch := first | omega | (simp only [qqH, List.length_cons, List.length_nil, Nat.zero_add, Nat.reduceAdd]; first | done | omega | fail) | (simp (disch := first | omega | (simp only [qqH, List.length_cons, List.length_nil, Nat.zero_add, Nat.reduceAdd]; first | done | omega | fail) | fail) only [qqH, qqG, Option.map_some, List.length_cons, List.length_nil, Nat.zero_add, Nat.reduceAdd]; done) | fail) only [go_sem, abin_shl, abin_shr, Nat.reduceEqDiff, reduceIte, Nat.reduceAdd, Nat.reduceMul, Nat.reduceLT, Nat.reduceLeDiff, Int.reduceBEq, Int.reduceBNe, Int.reduceLT, Int.reduceLE, Int.reduceEq, qqC, qqD, AOp.loud, AOp.births, Int.reduceAdd, Int.reduceSub, Int.reduceMul, Int.reduceNeg, Int.reduceToNat, AP.f152L0, ln, i1, i2, k1, k2, s1]
theorem many2_c (h : H) (v : AV) (l : List Int) (rd : Rd h v (ints l)) (hl : l.length < 140737488355328) : callW AP.A 152 [v] h = some (sumV (manyA l), h) := by
  have rd' := rd.mono (get_fence_mono h)
  unfold manyA
  rcases many2_loop (by omega) h.fence rd' l [] [] rfl (by rw [List.length_nil]; omega) with ⟨g1, e', r1, r2⟩ | ⟨g1, e', r1, r2, r3⟩
  · rw [if_pos g1]
    have r1' : Lp AP.A [0, 4, 5] AP.f152L0 [(0, v), (4, .str ⟨#[]⟩), (5, .int .i64 0)] h.fence = some (.exit 0, e', h.fence) := r1
    have zz : (bytesOf (manyL l)).size < 1125899906842624 := by
      rw [bytesOf_size]; have := vecL_len l; unfold vecL at this; unfold manyL; rw [this]; omega
    have k1 : ∀ g, callW AP.A 101 [.str (bytesOf (manyL l))] g = some (.int .i64 (sumL' (manyL l)), g) := fun g => by rw [crc2_c g _ zz, crcA_bytes (manyL_lt l)]
    rw [List.nil_append] at r2
    refine pure_c (fn := AP.f152) (h2 := h.fence) (e := [(2, .int .i64 (sumL' (manyL l))), (3, .int .i64 0)]) rfl rfl rfl ?_ rfl rfl
    simp (disch := first | omega | (simp only [qqH, List.length_cons, List.length_nil, Nat.zero_add, Nat.reduceAdd]; first | done | omega | fail) | (simp (disch := first | omega | (simp only [qqH, List.length_cons, List.length_nil, Nat.zero_add, Nat.reduceAdd]; first | done | omega | fail) | fail) only [qqH, qqG, Option.map_some, List.length_cons, List.length_nil, Nat.zero_add, Nat.reduceAdd]; done) | fail) only [go_sem, abin_shl, abin_shr, Nat.reduceEqDiff, reduceIte, Nat.reduceAdd, Nat.reduceMul, Nat.reduceLT, Nat.reduceLeDiff, Int.reduceBEq, Int.reduceBNe, Int.reduceLT, Int.reduceLE, Int.reduceEq, qqC, qqD, AOp.loud, AOp.births, Int.reduceAdd, Int.reduceSub, Int.reduceMul, Int.reduceNeg, Int.reduceToNat, AP.f152, evC_loop, r1', r2, k1]
  · rw [if_neg (by rw [g1]; decide)]
    have r1' : Lp AP.A [0, 4, 5] AP.f152L0 [(0, v), (4, .str ⟨#[]⟩), (5, .int .i64 0)] h.fence = some (.ret, e', h.fence) := r1
    refine pure_c (fn := AP.f152) (h2 := h.fence) (e := e') rfl rfl rfl ?_ (by simp only [AP.f152, resAll, resOf, r2, r3]; rfl) rfl
    simp (disch := first | omega | (simp only [qqH, List.length_cons, List.length_nil, Nat.zero_add, Nat.reduceAdd]; first | done | omega | fail) | (simp (disch := first | omega | (simp only [qqH, List.length_cons, List.length_nil, Nat.zero_add, Nat.reduceAdd]; first | done | omega | fail) | fail) only [qqH, qqG, Option.map_some, List.length_cons, List.length_nil, Nat.zero_add, Nat.reduceAdd]; done) | fail) only [go_sem, abin_shl, abin_shr, Nat.reduceEqDiff, reduceIte, Nat.reduceAdd, Nat.reduceMul, Nat.reduceLT, Nat.reduceLeDiff, Int.reduceBEq, Int.reduceBNe, Int.reduceLT, Int.reduceLE, Int.reduceEq, qqC, qqD, AOp.loud, AOp.births, Int.reduceAdd, Int.reduceSub, Int.reduceMul, Int.reduceNeg, Int.reduceToNat, AP.f152, evC_loop, r1']
end Ab
set_option linter.unusedSimpArgs false
set_option linter.unusedVariables false
set_option maxRecDepth 100000
namespace Ab
open Go
theorem small94_c (h : H) (hf : h.floor ≤ h.next) (name text : ByteArray) (node : Nat) (stamp : Int) (hn : node < 4) (ht : text.size < 1125899906842624) :
    callW AP.A 94 [.str name, .int .i64 node, .int .i64 stamp, .str text] h = some (.agg (entC (smallE name node stamp text) (.sobj (h.next + 1) 0 4 1)),
      (((h.alloc Z9).alloc (ints [0, 0, 0, 0])).set (h.next + 1) (ints ([0, 0, 0, 0].set node stamp))).set h.next (entC (smallE name node stamp text) (.sobj (h.next + 1) 0 4 1))) := by
  have kc := fun g => crc2_c g text ht
  refine plain_c (fn := AP.f94) (e := [(8, .pobj h.next 0)]) (vs := [.agg (entC (smallE name node stamp text) (.sobj (h.next + 1) 0 4 1))]) rfl rfl rfl ?_ ?_
  · match node, hn with
    | 0, _ => simp only [entC, smallE, ints, I, List.map, List.set]; simp (disch := first | omega | (simp only [qqH, List.length_cons, List.length_nil, Nat.zero_add, Nat.reduceAdd]; first | done | omega | fail) | (simp (disch := first | omega | (simp only [qqH, List.length_cons, List.length_nil, Nat.zero_add, Nat.reduceAdd]; first | done | omega | fail) | fail) only [qqH, qqG, Option.map_some, List.length_cons, List.length_nil, Nat.zero_add, Nat.reduceAdd]; done) | fail) only [go_sem, abin_shl, abin_shr, Nat.reduceEqDiff, reduceIte, Nat.reduceAdd, Nat.reduceMul, Nat.reduceLT, Nat.reduceLeDiff, Int.reduceBEq, Int.reduceBNe, Int.reduceLT, Int.reduceLE, Int.reduceEq, qqC, qqD, AOp.loud, AOp.births, Int.reduceAdd, Int.reduceSub, Int.reduceMul, Int.reduceNeg, Int.reduceToNat, AP.f94, kc, replM, repl]
    | 1, _ => simp only [entC, smallE, ints, I, List.map, List.set]; simp (disch := first | omega | (simp only [qqH, List.length_cons, List.length_nil, Nat.zero_add, Nat.reduceAdd]; first | done | omega | fail) | (simp (disch := first | omega | (simp only [qqH, List.length_cons, List.length_nil, Nat.zero_add, Nat.reduceAdd]; first | done | omega | fail) | fail) only [qqH, qqG, Option.map_some, List.length_cons, List.length_nil, Nat.zero_add, Nat.reduceAdd]; done) | fail) only [go_sem, abin_shl, abin_shr, Nat.reduceEqDiff, reduceIte, Nat.reduceAdd, Nat.reduceMul, Nat.reduceLT, Nat.reduceLeDiff, Int.reduceBEq, Int.reduceBNe, Int.reduceLT, Int.reduceLE, Int.reduceEq, qqC, qqD, AOp.loud, AOp.births, Int.reduceAdd, Int.reduceSub, Int.reduceMul, Int.reduceNeg, Int.reduceToNat, AP.f94, kc, replM, repl]
    | 2, _ => simp only [entC, smallE, ints, I, List.map, List.set]; simp (disch := first | omega | (simp only [qqH, List.length_cons, List.length_nil, Nat.zero_add, Nat.reduceAdd]; first | done | omega | fail) | (simp (disch := first | omega | (simp only [qqH, List.length_cons, List.length_nil, Nat.zero_add, Nat.reduceAdd]; first | done | omega | fail) | fail) only [qqH, qqG, Option.map_some, List.length_cons, List.length_nil, Nat.zero_add, Nat.reduceAdd]; done) | fail) only [go_sem, abin_shl, abin_shr, Nat.reduceEqDiff, reduceIte, Nat.reduceAdd, Nat.reduceMul, Nat.reduceLT, Nat.reduceLeDiff, Int.reduceBEq, Int.reduceBNe, Int.reduceLT, Int.reduceLE, Int.reduceEq, qqC, qqD, AOp.loud, AOp.births, Int.reduceAdd, Int.reduceSub, Int.reduceMul, Int.reduceNeg, Int.reduceToNat, AP.f94, kc, replM, repl]
    | 3, _ => simp only [entC, smallE, ints, I, List.map, List.set]; simp (disch := first | omega | (simp only [qqH, List.length_cons, List.length_nil, Nat.zero_add, Nat.reduceAdd]; first | done | omega | fail) | (simp (disch := first | omega | (simp only [qqH, List.length_cons, List.length_nil, Nat.zero_add, Nat.reduceAdd]; first | done | omega | fail) | fail) only [qqH, qqG, Option.map_some, List.length_cons, List.length_nil, Nat.zero_add, Nat.reduceAdd]; done) | fail) only [go_sem, abin_shl, abin_shr, Nat.reduceEqDiff, reduceIte, Nat.reduceAdd, Nat.reduceMul, Nat.reduceLT, Nat.reduceLeDiff, Int.reduceBEq, Int.reduceBNe, Int.reduceLT, Int.reduceLE, Int.reduceEq, qqC, qqD, AOp.loud, AOp.births, Int.reduceAdd, Int.reduceSub, Int.reduceMul, Int.reduceNeg, Int.reduceToNat, AP.f94, kc, replM, repl]
  · simp only [AP.f94, resAll, resOf, look_hit, load_o]
    rw [set_hit rfl, set_miss (by omega), get_miss (by simp), get_hit rfl]; rfl
theorem digest_o {g : H} {p : Nat} (hg : g.floor ≤ g.next) (e : Ent) (hp : g.get p = some (ints e.vec)) (hl : e.vec.length = 4) (nl : e.name.size < 1125899906842624) (pl : e.packed.size < 1125899906842624) : callW AP.A 91 [.agg (entC e (.sobj p 0 4 1))] g = some (sumV (digA e), g) :=
  digest_c g hg e (.sobj p 0 4 1) rfl (EOk.obj hp hl rfl nl pl (by omega))
def eS1 : Ent := smallE nA 0 1 tHi
def eS2 : Ent := smallE nA 0 2 tHi
theorem dS : digA eS1 = some (sumL' (digL eS1)) ∧ digA eS2 = some (sumL' (digL eS2)) ∧ sumL' (digL eS1) ≠ sumL' (digL eS2) ∧ digA ent0 = none ∧ manyA [] = some 0 ∧ manyA [258] = some (crcA ⟨#[2, 1, 0, 0]⟩) := by decide +kernel
theorem awake19_c (h : H) : callW AP.A 90 [] h = some (.bool true, h) := by
  obtain ⟨d1, d2, d3, d4, d5, d6⟩ := dS
  obtain ⟨K1, hK1⟩ : ∃ K, K = ((sumL' (digL eS1) : Nat) : Int) := ⟨_, rfl⟩
  obtain ⟨K2, hK2⟩ : ∃ K, K = ((sumL' (digL eS2) : Nat) : Int) := ⟨_, rfl⟩
  have ne : (K1 != K2) = true := by rw [bne_iff_ne, hK1, hK2]; omega
  obtain ⟨C, hC⟩ : ∃ K, K = ((crcA tHi : Nat) : Int) := ⟨_, rfl⟩
  obtain ⟨D, hD⟩ : ∃ K, K = ((crcA ⟨#[2, 1, 0, 0]⟩ : Nat) : Int) := ⟨_, rfl⟩
  have k1 : ∀ g : H, callW AP.A 93 [.nils] g = some (.tup [.int .i64 0, .int .i64 0], g) := fun g => by
    have := many_c g .nils [] ⟨rfl, fun s e => by cases e⟩ (by decide)
    rw [d5] at this; exact this
  have k2 : ∀ (g : H) (p : Nat), g.get p = some [.int .i64 258] → callW AP.A 93 [.sobj p 0 1 1] g = some (.tup [.int .i64 D, .int .i64 0], g) := fun g p hp => by
    have := many_c g (.sobj p 0 1 1) [258] (Rd.obj (l := [258]) hp rfl) (by decide)
    rw [d6] at this
    rw [hD]; exact this
  have k3 : ∀ (g : H), callW AP.A 101 [.str ⟨#[2, 1, 0, 0]⟩] g = some (.int .i64 D, g) := fun g => by rw [hD]; exact crc2_c g _ (by decide)
  have k4 : ∀ (g : H) (p : Nat), g.get p = some [.int .i64 (-1)] → callW AP.A 93 [.sobj p 0 1 1] g = some (.tup [.int .i64 0, .int .i64 1500], g) := fun g p hp => many_c g (.sobj p 0 1 1) [-1] (Rd.obj (l := [-1]) hp rfl) (by decide)
  have k5 : ∀ (g : H) (p : Nat), g.floor ≤ g.next → g.get p = some [.int .i64 1, .int .i64 0, .int .i64 0, .int .i64 0] → callW AP.A 91 [.agg [.str ⟨#[97]⟩, .bool false, .sobj p 0 4 1, .int .i64 1, .int .i64 0, .int .i64 0, .str ⟨#[104, 105]⟩, .int .i64 2, .int .i64 C]] g = some (.tup [.int .i64 K1, .int .i64 0], g) := fun g p hg hp => by
    have := digest_o hg eS1 hp rfl (by decide) (by decide)
    rw [d1] at this
    rw [hC, hK1]; exact this
  have k6 : ∀ (g : H) (p : Nat), g.floor ≤ g.next → g.get p = some [.int .i64 2, .int .i64 0, .int .i64 0, .int .i64 0] → callW AP.A 91 [.agg [.str ⟨#[97]⟩, .bool false, .sobj p 0 4 1, .int .i64 2, .int .i64 0, .int .i64 0, .str ⟨#[104, 105]⟩, .int .i64 2, .int .i64 C]] g = some (.tup [.int .i64 K2, .int .i64 0], g) := fun g p hg hp => by
    have := digest_o hg eS2 hp rfl (by decide) (by decide)
    rw [d2] at this
    rw [hC, hK2]; exact this
  have k7 : ∀ (g : H), g.floor ≤ g.next → callW AP.A 91 [.agg Z9] g = some (.tup [.int .i64 0, .int .i64 1500], g) := fun g hg => by
    have := digest_c g hg ent0 .nils rfl ⟨⟨rfl, fun s e => by cases e⟩, by decide, by decide, by decide⟩
    rw [d4] at this; exact this
  have k8 : ∀ (g : H) (stamp : Int), g.floor ≤ g.next → callW AP.A 94 [.str ⟨#[97]⟩, .int .i64 0, .int .i64 stamp, .str ⟨#[104, 105]⟩] g = some (.agg [.str ⟨#[97]⟩, .bool false, .sobj (g.next + 1) 0 4 1, .int .i64 stamp, .int .i64 0, .int .i64 0, .str ⟨#[104, 105]⟩, .int .i64 2, .int .i64 C],
      (((g.alloc Z9).alloc [.int .i64 0, .int .i64 0, .int .i64 0, .int .i64 0]).set (g.next + 1) [.int .i64 stamp, .int .i64 0, .int .i64 0, .int .i64 0]).set g.next [.str ⟨#[97]⟩, .bool false, .sobj (g.next + 1) 0 4 1, .int .i64 stamp, .int .i64 0, .int .i64 0, .str ⟨#[104, 105]⟩, .int .i64 2, .int .i64 C]) := fun g stamp hg => by
    rw [hC]; exact small94_c g hg nA tHi 0 stamp (by omega) (by decide)
  have k9 := fun (g : H) n => num_c g n
  simp only [I] at k9
  obtain ⟨h2, hh⟩ : ∃ h2, evC (callW AP.A) loopW AP.f90.body (params 0 []) h.fence = some (.ret, [(0, .bool true)], h2) := by
    refine ⟨?_, ?_⟩
    rotate_left
    simp (disch := first | omega | (simp only [qqH, List.length_cons, List.length_nil, Nat.zero_add, Nat.reduceAdd]; first | done | omega | fail) | (simp (disch := first | omega | (simp only [qqH, List.length_cons, List.length_nil, Nat.zero_add, Nat.reduceAdd]; first | done | omega | fail) | fail) only [qqH, qqG, Option.map_some, List.length_cons, List.length_nil, Nat.zero_add, Nat.reduceAdd]; done) | fail) only [go_sem, abin_shl, abin_shr, Nat.reduceEqDiff, reduceIte, Nat.reduceAdd, Nat.reduceMul, Nat.reduceLT, Nat.reduceLeDiff, Int.reduceBEq, Int.reduceBNe, Int.reduceLT, Int.reduceLE, Int.reduceEq, qqC, qqD, AOp.loud, AOp.births, Int.reduceAdd, Int.reduceSub, Int.reduceMul, Int.reduceNeg, Int.reduceToNat, AP.f90, k1, k2, k3, k4, k5, k6, k7, k8, k9, ne]
    rfl
  exact pure_c (fn := AP.f90) (h2 := h2) (e := [(0, .bool true)]) rfl rfl rfl hh rfl rfl
def lentC (l : List Int) : List AV := ints l ++ [.int .i64 (-7777), .int .i64 (-8888)]
theorem lentC_len (l : List Int) : (lentC l).length = l.length + 2 := by simp [lentC]
theorem lend_c (h : H) (hf : h.floor ≤ h.next) (v : AV) (l : List Int) (rd : Rd h v (ints l)) (hl : l.length < 20000000000000) :
    ∃ h' q, callW AP.A 150 [v] h = some (.sobj q 0 l.length 1, h') ∧ h'.get q = some (lentC l) ∧ h'.floor = h.floor ∧ q < h'.next ∧ h.next ≤ q ∧ ∀ i, i < h.next → h'.get i = h.get i := by
  have ln := rd.len
  rw [ints_length] at ln
  simp only [I] at ln
  have al := ints_allsc l
  have ll := ints_length l
  have lc := lentC_len l
  by_cases c : l = []
  · subst c
    have sr : ∀ g : H, Ext h g → srcCells g 1 v = some (0, []) := fun g x => (rd.mono (fun i c q => x i c q)).1
    have x1 : Ext h (h.alloc []) := (Ext.refl h).alloc _
    have s1 := sr _ x1
    have k1 : callW AP.A 159 [v] h = some (.sobj h.next 0 0 1, h.alloc []) := by
      refine plain_c (fn := AP.f159) (e := [(2, .sobj h.next 0 0 1)]) (vs := [.sobj h.next 0 0 1]) rfl rfl rfl ?_ rfl
      simp (disch := first | omega | (simp only [qqH, List.length_cons, List.length_nil, Nat.zero_add, Nat.reduceAdd]; first | done | omega | fail) | (simp (disch := first | omega | (simp only [qqH, List.length_cons, List.length_nil, Nat.zero_add, Nat.reduceAdd]; first | done | omega | fail) | fail) only [qqH, qqG, Option.map_some, List.length_cons, List.length_nil, Nat.zero_add, Nat.reduceAdd]; done) | fail) only [go_sem, abin_shl, abin_shr, Nat.reduceEqDiff, reduceIte, Nat.reduceAdd, Nat.reduceMul, Nat.reduceLT, Nat.reduceLeDiff, Int.reduceBEq, Int.reduceBNe, Int.reduceLT, Int.reduceLE, Int.reduceEq, qqC, qqD, AOp.loud, AOp.births, Int.reduceAdd, Int.reduceSub, Int.reduceMul, Int.reduceNeg, Int.reduceToNat, AP.f159, s1]
    refine ⟨(((h.alloc []).alloc [.int .i64 (-7777), .int .i64 (-8888)]).del h.next).alloc [.int .i64 (-7777), .int .i64 (-8888)], h.next + 1 + 1, ?_, ?_, by simp, by simp, by omega, fun i hi => ?_⟩
    · have hg : ((((h.alloc []).alloc [.int .i64 (-7777), .int .i64 (-8888)]).del h.next).alloc [.int .i64 (-7777), .int .i64 (-8888)]).get (h.next + 1 + 1) = some [.int .i64 (-7777), .int .i64 (-8888)] := get_hit (by simp)
      have sh := sl_hi (n := 1) (o := 0) (k := 2) (m := 0) hg (by omega) (by simp) (by simp)
      refine plain_c (fn := AP.f150) (e := [(2, .sobj (h.next + 1 + 1) 0 0 1)]) (vs := [.sobj (h.next + 1 + 1) 0 0 1]) rfl rfl rfl ?_ rfl
      have ln' : alen false v = some (.int .i64 0) := ln
      simp (disch := first | omega | (simp only [qqH, List.length_cons, List.length_nil, Nat.zero_add, Nat.reduceAdd]; first | done | omega | fail) | (simp (disch := first | omega | (simp only [qqH, List.length_cons, List.length_nil, Nat.zero_add, Nat.reduceAdd]; first | done | omega | fail) | fail) only [qqH, qqG, Option.map_some, List.length_cons, List.length_nil, Nat.zero_add, Nat.reduceAdd]; done) | fail) only [go_sem, abin_shl, abin_shr, Nat.reduceEqDiff, reduceIte, Nat.reduceAdd, Nat.reduceMul, Nat.reduceLT, Nat.reduceLeDiff, Int.reduceBEq, Int.reduceBNe, Int.reduceLT, Int.reduceLE, Int.reduceEq, qqC, qqD, AOp.loud, AOp.births, Int.reduceAdd, Int.reduceSub, Int.reduceMul, Int.reduceNeg, Int.reduceToNat, AP.f150, k1, ln', sh]
    · exact get_hit (by simp)
    · rw [get_miss (by simp; omega), del_miss (by omega), get_miss (by simp; omega), get_miss (by omega)]
  · have hp : 0 < l.length := List.length_pos_iff.2 c
    have x1 : Ext h (h.alloc []) := (Ext.refl h).alloc _
    have s1 : srcCells (h.alloc []) 1 v = some (l.length, ints l) := by have := (rd.mono (fun i c q => x1 i c q)).1; rw [ll] at this; exact this
    have k1 : callW AP.A 159 [v] h = some (.sobj (h.next + 1) 0 l.length 1, ((h.alloc []).del h.next).alloc (ints l)) := by
      refine plain_c (fn := AP.f159) (e := [(2, .sobj (h.next + 1) 0 l.length 1)]) (vs := [.sobj (h.next + 1) 0 l.length 1]) rfl rfl rfl ?_ rfl
      simp (disch := first | omega | (simp only [qqH, List.length_cons, List.length_nil, Nat.zero_add, Nat.reduceAdd]; first | done | omega | fail) | (simp (disch := first | omega | (simp only [qqH, List.length_cons, List.length_nil, Nat.zero_add, Nat.reduceAdd]; first | done | omega | fail) | fail) only [qqH, qqG, Option.map_some, List.length_cons, List.length_nil, Nat.zero_add, Nat.reduceAdd]; done) | fail) only [go_sem, abin_shl, abin_shr, Nat.reduceEqDiff, reduceIte, Nat.reduceAdd, Nat.reduceMul, Nat.reduceLT, Nat.reduceLeDiff, Int.reduceBEq, Int.reduceBNe, Int.reduceLT, Int.reduceLE, Int.reduceEq, qqC, qqD, AOp.loud, AOp.births, Int.reduceAdd, Int.reduceSub, Int.reduceMul, Int.reduceNeg, Int.reduceToNat, AP.f159, s1, al, ll]
    refine ⟨(((((h.alloc []).del h.next).alloc (ints l)).alloc [.int .i64 (-7777), .int .i64 (-8888)]).del (h.next + 1)).alloc (lentC l), h.next + 1 + 1 + 1, ?_, ?_, by simp, by simp, by omega, fun i hi => ?_⟩
    · have hg : ((((((h.alloc []).del h.next).alloc (ints l)).alloc [.int .i64 (-7777), .int .i64 (-8888)]).del (h.next + 1)).alloc (lentC l)).get (h.next + 1 + 1 + 1) = some (lentC l) := get_hit (by simp)
      have sh := sl_hi (n := 1) (o := 0) (k := l.length + 2) (m := (l.length : Int)) hg (by omega) (by rw [lc]; omega) (by rw [lc]; simp)
      have hc : lentC l = ints l ++ [.int .i64 (-7777), .int .i64 (-8888)] := rfl
      rw [Int.toNat_natCast] at sh
      refine plain_c (fn := AP.f150) (e := [(2, .sobj (h.next + 1 + 1 + 1) 0 l.length 1)]) (vs := [.sobj (h.next + 1 + 1 + 1) 0 l.length 1]) rfl rfl rfl ?_ rfl
      simp (disch := first | omega | (simp only [qqH, List.length_cons, List.length_nil, Nat.zero_add, Nat.reduceAdd]; first | done | omega | fail) | (simp (disch := first | omega | (simp only [qqH, List.length_cons, List.length_nil, Nat.zero_add, Nat.reduceAdd]; first | done | omega | fail) | fail) only [qqH, qqG, Option.map_some, List.length_cons, List.length_nil, Nat.zero_add, Nat.reduceAdd]; done) | fail) only [go_sem, abin_shl, abin_shr, Nat.reduceEqDiff, reduceIte, Nat.reduceAdd, Nat.reduceMul, Nat.reduceLT, Nat.reduceLeDiff, Int.reduceBEq, Int.reduceBNe, Int.reduceLT, Int.reduceLE, Int.reduceEq, qqC, qqD, AOp.loud, AOp.births, Int.reduceAdd, Int.reduceSub, Int.reduceMul, Int.reduceNeg, Int.reduceToNat, AP.f150, k1, ln, al, ll, ← hc, sh]
    · exact get_hit (by simp)
    · rw [get_miss (by simp; omega), del_miss (by omega), get_miss (by simp; omega), get_miss (by simp; omega), del_miss (by omega), get_miss (by omega)]
theorem kept_c (h : H) (q : Nat) (w : AV) (l : List Int) (hq : h.get q = some (lentC l)) (rd : Rd h w (ints l)) (hl : l.length < 20000000000000) : callW AP.A 153 [.sobj q 0 l.length 1, w] h = some (.bool true, h) := by
  have ln := rd.len
  rw [ints_length] at ln
  simp only [I] at ln
  have lc := lentC_len l
  have rq : Rd h (.sobj q 0 l.length 1) (ints l) := by
    refine ⟨?_, fun s e => by cases e⟩
    simp only [srcCells, if_true, hq, Option.bind_some]
    rw [if_pos (by rw [lc]; omega), List.drop_zero, Nat.mul_one, ints_length]
    have : List.take l.length (lentC l) = ints l := by
      unfold lentC; rw [List.take_append_of_le_length (by simp), List.take_of_length_le (by simp)]
    rw [this]
  have k1 := sameI_c h _ w l l rq rd (by omega)
  rw [show decide (l = l) = true by simp] at k1
  have sh := sl_hi (n := 1) (o := 0) (k := l.length) (m := (l.length : Int) + 2) hq (by omega) (by rw [lc]; omega) (by rw [lc]; simp; omega)
  rw [show ((l.length : Int) + 2).toNat = l.length + 2 by omega] at sh
  have g1 : (lentC l)[l.length]? = some (.int .i64 (-7777)) := by unfold lentC; rw [List.getElem?_append_right (by simp)]; simp
  have g2 : (lentC l)[l.length + 1]? = some (.int .i64 (-8888)) := by unfold lentC; rw [List.getElem?_append_right (by simp)]; simp
  have tn1 : ((l.length : Int) + 1).toNat = l.length + 1 := by omega
  have tn2 : ((l.length : Int)).toNat = l.length := by omega
  refine plain_c (fn := AP.f153) (e := [(4, .bool true)]) (vs := [.bool true]) rfl rfl rfl ?_ rfl
  simp (disch := first | omega | (simp only [qqH, List.length_cons, List.length_nil, Nat.zero_add, Nat.reduceAdd]; first | done | omega | fail) | (simp (disch := first | omega | (simp only [qqH, List.length_cons, List.length_nil, Nat.zero_add, Nat.reduceAdd]; first | done | omega | fail) | fail) only [qqH, qqG, Option.map_some, List.length_cons, List.length_nil, Nat.zero_add, Nat.reduceAdd]; done) | fail) only [go_sem, abin_shl, abin_shr, Nat.reduceEqDiff, reduceIte, Nat.reduceAdd, Nat.reduceMul, Nat.reduceLT, Nat.reduceLeDiff, Int.reduceBEq, Int.reduceBNe, Int.reduceLT, Int.reduceLE, Int.reduceEq, qqC, qqD, AOp.loud, AOp.births, Int.reduceAdd, Int.reduceSub, Int.reduceMul, Int.reduceNeg, Int.reduceToNat, AP.f153, ln, k1, sh, hq, g1, g2, tn1, tn2]
end Ab
set_option linter.unusedSimpArgs false
set_option linter.unusedVariables false
set_option maxRecDepth 100000
namespace Ab
open Go
theorem digests_c (h : H) (e : Ent) (v w : AV) (l : List Int) (hv : v.sc = true) (ok : EOk h (e, v)) (hb : e.vec.length < 20000000000000) (rd : Rd h w (ints l)) (hl : l.length < 20000000000000) : callW AP.A 145 [.agg (entC e v), w] h = some (.bool true, h) := by
  have x1 : Ext h (h.fence.alloc (entC e v)) := fun i c q => ((Ext.refl h.fence).alloc _) i c q
  have o1 := ok.mono x1
  obtain ⟨h1, v', c1, c2, c3, c4, c5, c6, -⟩ := copyE_c (h.fence.alloc (entC e v)) (by simp) e v hv o1 hb
  simp only [H.next_alloc, H.next_fence, H.floor_alloc, H.floor_fence] at c4 c5
  have g1 : h1.get h.next = some (entC e v) := c6 _ _ (get_hit (by simp))
  have x2 : Ext h h1 := x1.trans c6
  obtain ⟨h2, q, d1, d2, d3, d4, d5, d6⟩ := lend_c h1 (by omega) w l (rd.mono fun i c q => x2 i c q) hl
  have x3 : Ext h1 h2 := fun i c q => by rw [d6 i (h1.lt _ _ q)]; exact q
  have g2 : h2.get h.next = some (entC e v) := x3 _ _ g1
  have sv : v'.sc = true := by rw [c2]; split <;> rfl
  obtain ⟨A, hA⟩ : ∃ x, x = entC e v := ⟨_, rfl⟩
  obtain ⟨B, hB⟩ : ∃ x, x = entC e v' := ⟨_, rfl⟩
  have lA : A.length = 9 := by rw [hA]; rfl
  have cA : AV.allsc A = true := by rw [hA]; exact ent_sc hv
  have tA : List.take 9 A = A := by rw [hA]; rfl
  have lB : B.length = 9 := by rw [hB]; rfl
  have cB : AV.allsc B = true := by rw [hB]; exact ent_sc sv
  have tB : List.take 9 B = B := by rw [hB]; rfl
  have fB : setFrom Z9 0 B = B := by rw [hB]; rfl
  obtain ⟨h3, e3⟩ : ∃ g, g = (h2.alloc Z9).set h2.next B := ⟨_, rfl⟩
  have x4 : Ext h2 h3 := by rw [e3]; exact ((Ext.refl h2).alloc _).set (Nat.le_refl _) _
  have g3 : h3.get h.next = some (entC e v) := x4 _ _ g2
  have gB : h3.get h2.next = some B := by rw [e3, set_hit rfl, get_hit rfl]; rfl
  have f3 : h3.floor ≤ h3.next := by rw [e3]; simp; omega
  have o2 : EOk h3 (e, v') := ⟨(c3.mono fun i c q => x3 i c q).mono fun i c q => x4 i c q, ok.vl, ok.nl, ok.pl⟩
  have o3 : EOk h3 (e, v) := ((ok.mono x2).mono x3).mono x4
  have k1 := digest_c h3 f3 e v' sv o2
  have k2 := digest2_c h3 e v hv o3
  have gq : h3.get q = some (lentC l) := x4 _ _ d2
  have lc := lentC_len l
  have rq : Rd h3 (.sobj q 0 l.length 1) (ints l) := by
    refine ⟨?_, fun s e => by cases e⟩
    simp only [srcCells, if_true, gq, Option.bind_some]
    rw [if_pos (by rw [lc]; omega), List.drop_zero, Nat.mul_one, ints_length]
    have : List.take l.length (lentC l) = ints l := by
      unfold lentC; rw [List.take_append_of_le_length (by simp), List.take_of_length_le (by simp)]
    rw [this]
  have rw3 : Rd h3 w (ints l) := ((rd.mono fun i c q => x2 i c q).mono fun i c q => x3 i c q).mono fun i c q => x4 i c q
  have k3 := many_c h3 _ l rq (by omega)
  have k4 := many2_c h3 w l rw3 (by omega)
  have k5 := sameE_c h3 e e v' v sv hv o2 o3
  rw [(sameEB_iff e e).2 rfl] at k5
  have k6 := kept_c h3 q w l gq rw3 hl
  have k7 := awake19_c h3
  have k9 := fun (g : H) n => num_c g n
  simp only [I] at k9
  rw [← hA] at c1 g3 g2 k2 k5 ⊢
  rw [← hB] at c1 k1 k5
  obtain ⟨a1, a2, hd⟩ : ∃ a1 a2, sumV (digA e) = .tup [.int .i64 a1, .int .i64 a2] := by cases digA e <;> exact ⟨_, _, rfl⟩
  obtain ⟨b1, b2, hm⟩ : ∃ a1 a2, sumV (manyA l) = .tup [.int .i64 a1, .int .i64 a2] := by cases manyA l <;> exact ⟨_, _, rfl⟩
  rw [hd] at k1 k2
  rw [hm] at k3 k4
  have e3' := e3.symm
  have c1' : callW AP.A 92 [.agg A] (h.fence.alloc A) = some (.agg B, h1) := c1
  have f2 : h2.floor ≤ h2.next := by omega
  refine pure_c (fn := AP.f145) (h2 := h3) (e := [(4, .bool true)]) rfl rfl rfl ?_ rfl rfl
  clear o1 o2 o3 x1 x2 x3 x4 c1 c2 c3 c6 d6 e3 hA hB hd hm rq rw3 rd ok
  simp (disch := first | omega | (simp only [qqH, List.length_cons, List.length_nil, Nat.zero_add, Nat.reduceAdd]; first | done | omega | fail) | (simp (disch := first | omega | (simp only [qqH, List.length_cons, List.length_nil, Nat.zero_add, Nat.reduceAdd]; first | done | omega | fail) | fail) only [qqH, qqG, Option.map_some, List.length_cons, List.length_nil, Nat.zero_add, Nat.reduceAdd]; done) | fail) only [go_sem, abin_shl, abin_shr, Nat.reduceEqDiff, reduceIte, Nat.reduceAdd, Nat.reduceMul, Nat.reduceLT, Nat.reduceLeDiff, Int.reduceBEq, Int.reduceBNe, Int.reduceLT, Int.reduceLE, Int.reduceEq, qqC, qqD, AOp.loud, AOp.births, Int.reduceAdd, Int.reduceSub, Int.reduceMul, Int.reduceNeg, Int.reduceToNat, AP.f145, lA, cA, tA, lB, cB, tB, fB, c1', d1, f2, e3', g3, gB, k1, k2, k3, k4, k5, k6, k7, k9]
end Ab
set_option linter.unusedSimpArgs false
set_option linter.unusedVariables false
namespace Ab
open Go
end Ab
set_option linter.unusedSimpArgs false
set_option linter.unusedVariables false
set_option maxRecDepth 100000
namespace Ab
open Go
end Ab
namespace Ab
open Go
theorem law_digests (r : List (Ty × List AV)) (h : r.map (·.1) = [entT, intsT]) (hp : ∀ x ∈ r, Sh reachBytes x.1 x.2) : callW AP.A 145 (r.map avOf) H.empty = some (.bool true, H.empty) := by
  obtain ⟨x, y, rfl, h1, h2⟩ := row2 h hp
  obtain ⟨e, v, rfl, hv, ok, hb⟩ := sh_ent h1
  obtain ⟨w, l, rfl, _, rd, hl⟩ := sh_ints h2
  exact digests_c H.empty e v w l hv (ok _) hb (rd _) hl
end Ab
