/- Part C2. -/
import Derived.Test.YtbihdlhgfnoejaaGreatDoorC1
set_option linter.unusedSimpArgs false
set_option linter.unusedVariables false
namespace Ab
open Go
theorem Mv (h : H) : aS AP.A 32 [] h = some (y8 wK, h) := by
 have b : aX [] (.cZ 1 19 [.int .i64 0] [(0, (.c (.int .i64 16))), (1, (.c (.int .i64 17))), (2, (.c (.int .i64 18))), (3, (.c (.int .i64 0))), (4, (.c (.int .i64 8))), (5, (.c (.int .i64 7))), (6, (.c (.int .i64 9))), (7, (.c (.int .i64 6))), (8, (.c (.int .i64 10))), (9, (.c (.int .i64 5))), (10, (.c (.int .i64 11))), (11, (.c (.int .i64 4))), (12, (.c (.int .i64 12))), (13, (.c (.int .i64 3))), (14, (.c (.int .i64 13))), (15, (.c (.int .i64 2))), (16, (.c (.int .i64 14))), (17, (.c (.int .i64 1))), (18, (.c (.int .i64 15)))]) = some (ints wK, fun i => .aF i 0 19 1) := rfl
 refine u7 (fn := AP.f32) (h2 := h.ez.alloc (ints wK)) (e := [(0, .aF h.next 0 19 1)]) (vs := [.aF h.next 0 19 1]) rfl rfl rfl ?_ rfl ?_
 · have hn : h.ez.next = h.next := rfl
   simp only [AP.f32, go_sem, b, hn]
 · show snap (h.ez.alloc (ints wK)).get h.next 16 true (.aF h.next 0 19 1) = _
   unfold snap
   rw [if_neg (by omega), H.aW, if_pos (show h.next = h.ez.next from rfl), vO, if_pos (by decide)]
   rw [show ((ints wK).drop 0).take (19 * 1) = ints wK from rfl, yV]; rfl
theorem yC {h : H} {v : AV} {l : List Int} {fl : Nat} (o : oy h v (ints l)) (hf : fl ≤ h.floor) (hl : l ≠ []) : snap h.get fl 16 true v = some (y8 l) := by
 rcases o with ⟨_, q⟩ | ⟨id, rfl, q, h2, _⟩
 · exact absurd (List.map_eq_nil_iff.1 q) hl
 · unfold snap
   rw [if_neg (by omega), q, vO, if_pos (by omega)]
   rw [Wc, Nat.mul_one, List.take_length, yV]
   simp [y8]
def fixF (i : Nat) : Int := if 144 ≤ i ∧ i < 256 then 9 else if 256 ≤ i ∧ i < 280 then 7 else 8
theorem DJ : ∀ (m i : Nat) (h : H) (v : AV), i + m = 288 → oy h v (ints ((List.range i).map fixF)) → h.floor ≤ h.next →
 ∃ e' h' v', Lp AP.A [1, 2] AP.f22L0 [(1, v), (2, I i)] h = some (.exit 0, e', h') ∧ look e' 1 = v' ∧ oy h' v' (ints ((List.range 288).map fixF)) ∧ h'.floor = h.floor
 | 0, i, h, v, hm, o, hf => by
   obtain rfl : i = 288 := by omega
   refine ⟨[(1, v), (2, I 288), (5, .bool false)], h, v, ux ?_, rfl, o, rfl⟩
   have c1 : ¬ (((288 : Nat) : Int) < 288) := by omega
   simp only [I] at *
   simp only [AP.f22L0, go_sem, VJ c1]
   rfl
 | m + 1, i, h, v, hm, o, hf => by
   have c1 : (i : Int) < 288 := by omega
   have w1 : IntKind.wrap .i64 ((i : Int) + 1) = ((i + 1 : Nat) : Int) := wA (n := i + 1) (by omega)
   obtain ⟨g, hg⟩ : ∃ g, g = h.alloc [I (fixF i)] := ⟨_, rfl⟩
   have og : oy g v (ints ((List.range i).map fixF)) := o.mono (by rw [hg]; simp) fun j hj => by have := o.lt hj; rw [hg, H.aW, if_neg (by omega)]
   have hgf : g.floor ≤ g.next := by rw [hg]; simp; omega
   obtain ⟨v', h2, r1, r2, r3, r4, r5, r6⟩ := og.app hgf (z := 8) (I (fixF i)) rfl (by simp [roomy]; omega)
   have src : aT g 1 (.aF h.next 0 1 1) = some (1, [I (fixF i)]) := by simp [aT, hg, H.aW]
   have ap : lL g 1 8 v (.aF h.next 0 1 1) = some (v', h2) := by unfold lL; rw [src, vO]; exact r1
   have bt : ∀ e : Env, look e 21 = .int .i64 (fixF i) → aX e (.cZ 1 1 [.int .i64 0] [(0, .t 21)]) = some ([.int .i64 (fixF i)], fun i => .aF i 0 1 1) := by
    intro e q; simp only [aX, VR, Wk, tu, q]; rfl
   have hr : ints ((List.range i).map fixF) ++ [I (fixF i)] = ints ((List.range (i + 1)).map fixF) := by
    rw [List.range_succ, List.map_append, qx]; rfl
   rw [hr] at r2
   have step : aM (aS AP.A) bG AP.f22L0 (ay [(1, v), (2, I i)] [1, 2]) h = some (.normal, [(1, v'), (2, I (i + 1 : Nat))], h2) := by
    clear hr
    by_cases q1 : 144 ≤ i
    · have d1 : (144 : Int) ≤ i := by omega
      by_cases q2 : i < 256
      · have d2 : (i : Int) < 256 := by omega
        have hx : fixF i = 9 := by rw [fixF, if_pos ⟨q1, q2⟩]
        rw [hx] at hg bt
        simp only [I] at *
        simp only [AP.f22L0, go_sem, VM c1, VM d1, VM d2]
        rw [bt _ rfl]
        simp only [go_sem, ← hg, ap, w1]
      · have d2 : ¬ (i : Int) < 256 := by omega
        have d3 : (256 : Int) ≤ i := by omega
        by_cases q3 : i < 280
        · have d4 : (i : Int) < 280 := by omega
          have hx : fixF i = 7 := by rw [fixF, if_neg (by omega), if_pos ⟨by omega, q3⟩]
          rw [hx] at hg bt
          simp only [I] at *
          simp only [AP.f22L0, go_sem, VM c1, VM d1, VJ d2, VM d3, VM d4]
          rw [bt _ rfl]
          simp only [go_sem, ← hg, ap, w1]
        · have d4 : ¬ (i : Int) < 280 := by omega
          have hx : fixF i = 8 := by rw [fixF, if_neg (by omega), if_neg (by omega)]
          rw [hx] at hg bt
          simp only [I] at *
          simp only [AP.f22L0, go_sem, VM c1, VM d1, VJ d2, VM d3, VJ d4]
          rw [bt _ rfl]
          simp only [go_sem, ← hg, ap, w1]
    · have d1 : ¬ (144 : Int) ≤ i := by omega
      have d3 : ¬ (256 : Int) ≤ i := by omega
      have hx : fixF i = 8 := by rw [fixF, if_neg (by omega), if_neg (by omega)]
      rw [hx] at hg bt
      simp only [I] at *
      simp only [AP.f22L0, go_sem, VM c1, VJ d1, VJ d3]
      rw [bt _ rfl]
      simp only [go_sem, ← hg, ap, w1]
   obtain ⟨e', h', v2, s1, s2, s3, s4⟩ := DJ m (i + 1) h2 v' (by omega) r2 (by rw [r3]; exact wk hgf r4)
   exact ⟨e', h', v2, uy step s1, s2, s3, by rw [s4, r3, hg]; simp⟩
theorem KQ : (List.range 288).map fixF = wY := by decide +kernel
theorem L6 (h : H) : aS AP.A 22 [] h = some (y8 wY, h) := by
 obtain ⟨e', h', v', s1, s2, s3, s4⟩ := DJ 288 0 h.ez .aQ rfl (.inl ⟨rfl, rfl⟩) (vR _)
 have s1' : Lp AP.A [1, 2] AP.f22L0 [(1, .aQ), (2, I 0)] h.ez = some (.exit 0, e', h') := s1
 clear s1
 rw [KQ] at s3
 refine u7 (fn := AP.f22) (h2 := h') (e := [(0, v')]) (vs := [v']) rfl rfl rfl ?_ rfl ?_
 · simp only [I] at *
   simp only [AP.f22, go_sem, th, s1', s2]
 · exact yC s3 (by rw [s4]; exact vR _) (by intro e; have := Wh List.length e; rw [B6] at this; simp at this)
theorem EC (id : Nat) : ∀ (m i : Nat) (h : H), i + m = 30 → h.get id = some (ints (List.replicate i 5 ++ List.replicate m 0)) → h.floor ≤ id →
 ∃ e' h', Lp AP.A [1, 2] AP.f23L0 [(1, .aF id 0 30 1), (2, I i)] h = some (.exit 0, e', h') ∧ look e' 1 = .aF id 0 30 1 ∧ h'.get id = some (ints (List.replicate 30 5)) ∧ h'.floor = h.floor
 | 0, i, h, hm, hg, hf => by
   obtain rfl : i = 30 := by omega
   refine ⟨[(1, .aF id 0 30 1), (2, I 30), (5, .bool false)], h, ux ?_, rfl, hg, rfl⟩
   have c1 : ¬ (((30 : Nat) : Int) < 30) := by omega
   simp only [I] at *
   simp only [AP.f23L0, go_sem, VJ c1]
   rfl
 | m + 1, i, h, hm, hg, hf => by
   have c1 : (i : Int) < 30 := by omega
   have w1 : IntKind.wrap .i64 ((i : Int) + 1) = ((i + 1 : Nat) : Int) := wA (n := i + 1) (by omega)
   have ia : gG 1 (.aF id 0 30 1) (I i) = some (.aE id i) := by simp [gG, kX (show i < 30 by omega)]
   have hset : (ints (List.replicate i 5 ++ List.replicate (m + 1) 0)).set i (I 5) = ints (List.replicate (i + 1) 5 ++ List.replicate m 0) := by
    have h1 : (List.replicate i (5 : Int) ++ List.replicate (m + 1) 0).set i 5 = List.replicate (i + 1) 5 ++ List.replicate m 0 := by
     rw [List.set_append_right _ _ (by simp), VU, Nat.sub_self, List.replicate_succ, List.set_cons_zero, List.replicate_succ', VT]; rfl
    rw [← h1]; simp [ints, List.map_set]
   have hst : ve h id i 1 [I 5] (some (ints (List.replicate i 5 ++ List.replicate (m + 1) 0))) = some (h.set id (ints (List.replicate (i + 1) 5 ++ List.replicate m 0))) := by
    rw [vA hf (by rw [qy]; simp) rfl, hset]
   have step : aM (aS AP.A) bG AP.f23L0 (ay [(1, .aF id 0 30 1), (2, I i)] [1, 2]) h = some (.normal, [(1, .aF id 0 30 1), (2, I (i + 1 : Nat))], h.set id (ints (List.replicate (i + 1) 5 ++ List.replicate m 0))) := by
    clear hset
    generalize ints (List.replicate (i + 1) 5 ++ List.replicate m 0) = L1 at *
    generalize ints (List.replicate i 5 ++ List.replicate (m + 1) 0) = L0 at *
    simp only [I] at *
    simp only [AP.f23L0, go_sem, VM c1, ia, hg, hst, w1]
   obtain ⟨e', h', s1, s2, s3, s4⟩ := EC id m (i + 1) _ (by omega) (by rw [H.dQ, if_pos rfl, hg]; rfl) (by simpa using hf)
   exact ⟨e', h', uy step s1, s2, s3, by rw [s4]; simp⟩
theorem NG (h : H) : aS AP.A 23 [] h = some (y8 (List.replicate 30 5), h) := by
 obtain ⟨h1, hh1⟩ : ∃ g, g = h.ez.alloc (ints (List.replicate 30 0)) := ⟨_, rfl⟩
 have hg : h1.get h.next = some (ints (List.replicate 0 5 ++ List.replicate 30 0)) := by rw [hh1, H.aW, if_pos (show h.next = h.ez.next from rfl)]; rfl
 obtain ⟨e', h', s1, s2, s3, s4⟩ := EC h.next 30 0 h1 rfl hg (by rw [hh1]; simp)
 have s1' : Lp AP.A [1, 2] AP.f23L0 [(1, .aF h.next 0 30 1), (2, I 0)] h1 = some (.exit 0, e', h') := s1
 clear s1
 have bt : ∀ e : Env, aX e (.jo 1 8 [.int .i64 0] (.c (.int .i64 30)) (.c (.int .i64 30))) = some (ints (List.replicate 30 0), fun i => .aF i 0 30 1) := fun _ => rfl
 have hn : h.ez.next = h.next := rfl
 refine u7 (fn := AP.f23) (h2 := h') (e := [(0, .aF h.next 0 30 1)]) (vs := [.aF h.next 0 30 1]) rfl rfl rfl ?_ rfl ?_
 · simp only [I] at *
   simp only [AP.f23, go_sem, bt, ← hh1, hn, th, s1', s2]
 · exact yC (l := List.replicate 30 5) (.inr ⟨h.next, rfl, s3, by rw [s4, hh1]; simp, by decide⟩) (by rw [s4, hh1]; simp) (by decide)
theorem Ge {x : AV} {l : List Int} (hl : l.length < 100000) (h : H) (rd : Rd h x (ints l)) : ∀ (q p : List Int), l = p ++ q →
 (∃ e', Lp AP.A [0, 3] AP.f67L0 [(0, x), (3, I p.length)] h = some (.exit 0, e', h) ∧ (ints q).any AQ = false) ∨ (∃ e', Lp AP.A [0, 3] AP.f67L0 [(0, x), (3, I p.length)] h = some (.ret, e', h) ∧ look e' 2 = .bool false ∧ (ints q).any AQ = true)
 | [], p, hp => by
   have ln := rd.len
   rw [qy] at ln
   left
   refine ⟨[(0, x), (3, I p.length), (15, .bool false)], ux ?_, rfl⟩
   have c1 : ¬ (p.length : Int) < (l.length : Int) := by rw [hp]; simp
   simp only [I] at *
   simp only [AP.f67L0, go_sem, ln, VJ c1]
 | y :: q, p, hp => by
   have ln := rd.len
   rw [qy] at ln
   have hlen : l.length = p.length + (q.length + 1) := by rw [hp]; simp
   have c1 : (p.length : Int) < (l.length : Int) := by omega
   have hv : (ints l)[p.length]? = some (I y) := tU (by rw [hp]; simp)
   obtain ⟨ad, p1, p2⟩ := rd.elem hv
   have p3 := p2 h (fun _ _ q => q)
   have w1 : IntKind.wrap .i64 ((p.length : Int) + 1) = (((p ++ [y]).length : Nat) : Int) := by
    rw [wo]; exact wA (n := p.length + 1) (by omega)
   have hany : (ints (y :: q)).any AQ = (AQ (I y) || (ints q).any AQ) := rfl
   rw [hany]
   by_cases d1 : y < 0
   · right
     refine ⟨[(2, .bool false)], uT ?_, rfl, by simp [AQ, I, d1]⟩
     simp only [I] at *
     simp only [AP.f67L0, go_sem, ln, VM c1, p1, p3, VM d1]
   by_cases d2 : 15 < y
   · right
     refine ⟨[(2, .bool false)], uT ?_, rfl, by simp [AQ, I, d2]⟩
     simp only [I] at *
     simp only [AP.f67L0, go_sem, ln, VM c1, p1, p3, VJ d1, VM d2]
   have hb : AQ (I y) = false := by simp [AQ, I]; omega
   have step : aM (aS AP.A) bG AP.f67L0 (ay [(0, x), (3, I p.length)] [0, 3]) h = some (.normal, [(0, x), (3, I (p ++ [y]).length)], h) := by
    clear hany hb
    generalize (p ++ [y]).length = B at *
    simp only [I] at *
    simp only [AP.f67L0, go_sem, ln, VM c1, p1, p3, VJ d1, VJ d2, w1]
   rw [hb, Bool.false_or]
   rcases Ge hl h rd q (p ++ [y]) (by rw [hp]; simp) with ⟨e', r1, r2⟩ | ⟨e', r1, r2, r3⟩
   · exact .inl ⟨e', uy step r1, r2⟩
   · exact .inr ⟨e', uy step r1, r2, r3⟩
theorem QV (h : H) (x : AV) (l : List Int) (hl : l.length < 100000) (rd : Rd h x (ints l)) : aS AP.A 67 [x] h = some (.bool (Cm l), h) := by
 have rd' := rd.mono (wG h)
 have ln := rd.len
 rw [qy] at ln
 unfold Cm
 by_cases c1 : l.length < 1
 · refine u7 (fn := AP.f67) (h2 := h.ez) (e := [(2, .bool false)]) rfl rfl rfl ?_ rfl (by rw [VJ (show ¬ 1 ≤ l.length by omega)]; rfl)
   have c1' : (l.length : Int) < 1 := by omega
   simp only [I] at *
   simp only [AP.f67, go_sem, ln, VM c1']
 have c1' : ¬ (l.length : Int) < 1 := by omega
 by_cases c2 : 288 < l.length
 · refine u7 (fn := AP.f67) (h2 := h.ez) (e := [(2, .bool false)]) rfl rfl rfl ?_ rfl (by rw [VJ (show ¬ l.length ≤ 288 by omega), VW]; rfl)
   have c2' : (288 : Int) < (l.length : Int) := by omega
   simp only [I] at *
   simp only [AP.f67, go_sem, ln, VJ c1', VM c2']
 have c2' : ¬ (288 : Int) < (l.length : Int) := by omega
 rw [VM (show 1 ≤ l.length by omega), VM (show l.length ≤ 288 by omega)]
 rcases Ge hl h.ez rd' l [] rfl with ⟨e', r1, r2⟩ | ⟨e', r1, r2, r3⟩
 · have r1' : Lp AP.A [0, 3] AP.f67L0 [(0, x), (3, I 0)] h.ez = some (.exit 0, e', h.ez) := r1
   clear r1
   rw [r2]
   refine u7 (fn := AP.f67) (h2 := h.ez) (e := [(2, .bool true)]) rfl rfl rfl ?_ rfl rfl
   simp only [I] at *
   simp only [AP.f67, go_sem, ln, VJ c1', VJ c2', th, r1']
 · have r1' : Lp AP.A [0, 3] AP.f67L0 [(0, x), (3, I 0)] h.ez = some (.ret, e', h.ez) := r1
   clear r1
   rw [r3]
   refine u7 (fn := AP.f67) (h2 := h.ez) (e := e') (vs := [.bool false]) rfl rfl rfl ?_ (by simp only [AP.f67, cO, od, r2]; rfl) rfl
   simp only [I] at *
   simp only [AP.f67, go_sem, ln, VJ c1', VJ c2', th, r1']
theorem Cc (p : List Int) (x : Int) : ∀ n : Nat, wL (p ++ [x]) n = wL p n - (if 1 ≤ x ∧ x ≤ n then 2 ^ (n - x.toNat) else 0)
 | 0 => by
   rw [if_neg (by omega)]; simp [wL]
 | n + 1 => by
   have e1 : wL (p ++ [x]) (n + 1) = wL (p ++ [x]) n * 2 - yL (p ++ [x]) (n + 1) := rfl
   have e2 : wL p (n + 1) = wL p n * 2 - yL p (n + 1) := rfl
   rw [e1, e2, Cc p x n, CJ]
   by_cases h1 : x = ((n + 1 : Nat) : Int)
   · rw [if_neg (by omega), if_pos ⟨by omega, h1⟩, if_pos (by omega)]
     rw [show n + 1 - x.toNat = 0 by omega]; simp; omega
   · rw [if_neg (show ¬ (n + 1 ≠ 0 ∧ x = ((n + 1 : Nat) : Int)) from fun q => h1 q.2)]
     by_cases h2 : 1 ≤ x ∧ x ≤ (n : Int)
     · rw [if_pos h2, if_pos (by omega), show n + 1 - x.toNat = (n - x.toNat) + 1 by omega, Int.pow_succ]; omega
     · rw [if_neg h2, if_neg (by omega)]; omega
theorem Gq {x : AV} {l : List Int} (hl : l.length < 100000) (hr : z8 l) (h : H) (rd : Rd h x (ints l)) : ∀ (q p : List Int), l = p ++ q →
 ∃ e', Lp AP.A [0, 3, 4] AP.f68L0 [(0, x), (3, I (32768 - wL p 15)), (4, I p.length)] h = some (.exit 0, e', h) ∧ look e' 3 = I (32768 - wL l 15)
 | [], p, hp => by
   rw [V4] at hp; subst hp
   have ln := rd.len
   rw [qy] at ln
   refine ⟨[(0, x), (3, I (32768 - wL l 15)), (4, I l.length), (8, .bool false)], ux ?_, rfl⟩
   have c1 : ¬ (l.length : Int) < (l.length : Int) := by omega
   simp only [I] at *
   simp only [AP.f68L0, go_sem, ln, VJ c1]
 | y :: q, p, hp => by
   have ln := rd.len
   rw [qy] at ln
   have hlen : l.length = p.length + (q.length + 1) := by rw [hp]; simp
   have c1 : (p.length : Int) < (l.length : Int) := by omega
   have hv : (ints l)[p.length]? = some (I y) := tU (by rw [hp]; simp)
   have hy := hr y (by rw [hp]; simp)
   obtain ⟨ad, p1, p2⟩ := rd.elem hv
   have p3 := p2 h (fun _ _ q => q)
   have w1 : IntKind.wrap .i64 ((p.length : Int) + 1) = (((p ++ [y]).length : Nat) : Int) := by
    rw [wo]; exact wA (n := p.length + 1) (by omega)
   have hsn := Cc p y 15
   have hbd := Ie (show p.length < 100000 by omega) 15
   have step : aM (aS AP.A) bG AP.f68L0 (ay [(0, x), (3, I (32768 - wL p 15)), (4, I p.length)] [0, 3, 4]) h = some (.normal, [(0, x), (3, I (32768 - wL (p ++ [y]) 15)), (4, I (p ++ [y]).length)], h) := by
    by_cases d1 : 0 < y
    · obtain ⟨yn, hyn⟩ : ∃ n : Nat, y = n := VP hy.1
      subst hyn
      rw [if_pos (by omega), Wm] at hsn
      have w2 : IntKind.wrap .i64 (15 - (yn : Int)) = ((15 - yn : Nat) : Int) := by rw [show 15 - (yn : Int) = ((15 - yn : Nat) : Int) by omega]; exact wA (by omega)
      have hp15 : 2 ^ (15 - yn) ≤ 2 ^ 15 := VS (by omega) (by omega)
      have s1 : qe .shl .i64 1 ((15 - yn : Nat) : Int) = some (.int .i64 ((2 ^ (15 - yn) : Nat) : Int)) := by
       have := zC (a := 1) (s := 15 - yn) (by omega) (by omega)
       rw [Nat.one_mul] at this; exact this
      have hpc : ((2 ^ (15 - yn) : Nat) : Int) = 2 ^ (15 - yn) := by simp
      have hpos : (0 : Int) ≤ 2 ^ (15 - yn) := Int.pow_nonneg (by omega)
      have w3 : IntKind.wrap .i64 (32768 - wL p 15 + ((2 ^ (15 - yn) : Nat) : Int)) = 32768 - wL (p ++ [(yn : Int)]) 15 := by
       rw [show 32768 - wL p 15 + ((2 ^ (15 - yn) : Nat) : Int) = 32768 - wL (p ++ [(yn : Int)]) 15 by rw [hsn, hpc]; omega]
       refine uQ ?_ ?_
       · rw [hsn]; rw [← hpc]; omega
       · rw [hsn]; rw [← hpc]; omega
      clear hsn hpc hbd hp15
      generalize (p ++ [(yn : Int)]).length = B at *
      generalize wL (p ++ [(yn : Int)]) 15 = L2 at *
      generalize wL p 15 = L1 at *
      generalize 2 ^ (15 - yn) = PW at *
      simp only [I] at *
      simp only [AP.f68L0, go_sem, ln, VM c1, p1, p3, VM d1, w2, s1, w3, w1]
    · rw [if_neg (by omega), Int.sub_zero] at hsn
      rw [hsn]
      clear hsn hbd
      generalize (p ++ [y]).length = B at *
      simp only [I] at *
      simp only [AP.f68L0, go_sem, ln, VM c1, p1, p3, VJ d1, w1]
   obtain ⟨e', r1, r2⟩ := Gq hl hr h rd q (p ++ [y]) (by rw [hp]; simp)
   exact ⟨e', uy step r1, r2⟩
theorem Q1 (h : H) (x : AV) (l : List Int) (hl : l.length < 100000) (hr : z8 l) (rd : Rd h x (ints l)) : aS AP.A 68 [x] h = some (I (32768 - wL l 15), h) := by
 obtain ⟨e', r1, r2⟩ := Gq hl hr h.ez (rd.mono (wG h)) l [] rfl
 have r1' : Lp AP.A [0, 3, 4] AP.f68L0 [(0, x), (3, I 0), (4, I 0)] h.ez = some (.exit 0, e', h.ez) := r1
 clear r1
 refine u7 (fn := AP.f68) (h2 := h.ez) (e := [(2, I (32768 - wL l 15))]) rfl rfl rfl ?_ rfl rfl
 simp only [I] at *
 simp only [AP.f68, go_sem, th, r1', r2]
theorem LK (h : H) (x : AV) (l : List Int) (hl : l.length < 100000) (rd : Rd h x (ints l)) : aS AP.A 52 [x] h = some (I (wS l), h) := by
 have rd' := rd.mono (wG h)
 have k1 := QV h.ez x l hl rd'
 unfold wS
 by_cases hm : Cm l = true
 · have k2 := Q1 h.ez x l hl (Dn hm) rd'
   rw [hm] at k1 ⊢
   rw [if_neg (by decide)]
   by_cases c1 : wL l 15 < 0
   · rw [if_pos c1]
     have d1 : 32768 < 32768 - wL l 15 := by omega
     refine u7 (fn := AP.f52) (h2 := h.ez) (e := [(2, I 301)]) rfl rfl rfl ?_ rfl rfl
     simp only [I] at *
     simp only [AP.f52, go_sem, k1, k2, VM d1]
   · rw [if_neg c1]
     have d1 : ¬ 32768 < 32768 - wL l 15 := by omega
     by_cases c2 : 0 < wL l 15
     · rw [if_pos c2]
       have d2 : 32768 - wL l 15 < 32768 := by omega
       refine u7 (fn := AP.f52) (h2 := h.ez) (e := [(2, I 302)]) rfl rfl rfl ?_ rfl rfl
       simp only [I] at *
       simp only [AP.f52, go_sem, k1, k2, VJ d1, VM d2]
     · rw [if_neg c2]
       have d2 : ¬ 32768 - wL l 15 < 32768 := by omega
       refine u7 (fn := AP.f52) (h2 := h.ez) (e := [(2, I 0)]) rfl rfl rfl ?_ rfl rfl
       simp only [I] at *
       simp only [AP.f52, go_sem, k1, k2, VJ d1, VJ d2]
 · have hm' : Cm l = false := by simpa using hm
   rw [hm'] at k1 ⊢
   rw [if_pos rfl]
   refine u7 (fn := AP.f52) (h2 := h.ez) (e := [(2, I 300)]) rfl rfl rfl ?_ rfl rfl
   simp only [I] at *
   simp only [AP.f52, go_sem, k1]
abbrev E7 (k : Int) : Prop := k = 700 ∨ k = 701
theorem Fh {t : ByteArray} {most k : Int} : ∀ {n p : Nat} {out : List Nat}, xu t most n p out = .error k → E7 k
 | 0, p, out, h => by cases h
 | n + 1, p, out, h => by
   unfold xu at h
   split at h
   · split at h
     · cases h; exact .inr rfl
     · exact Fh h
   · cases h; exact .inl rfl
theorem IP {t : ByteArray} {most k : Int} {p : Nat} {out : List Nat} (h : xN t most p out = .error k) : E7 k := by
 unfold xN at h
 dsimp only at h
 split at h
 · split at h
   · exact Fh h
   · cases h; exact .inl rfl
 · cases h; exact .inl rfl
theorem FQ {most k : Int} {d : Nat} : ∀ {n : Nat} {out : List Nat}, yG most d n out = .error k → E7 k
 | 0, out, h => by cases h
 | n + 1, out, h => by
   unfold yG at h
   split at h
   · cases h; exact .inr rfl
   · exact FQ h
theorem KJ {t : ByteArray} {most k : Int} {dl : List Int} {y p : Nat} {out : List Nat} (h : yF t most dl y p out = .error k) : E7 k := by
 unfold yF at h
 split at h
 · cases h; exact .inl rfl
 · split at h
   · split at h
     · cases h; exact .inl rfl
     · split at h
       · cases h; exact .inl rfl
       · split at h
         · split at h
           · cases h
           · rename_i q; cases h; exact FQ q
         · cases h; exact .inl rfl
   · cases h; exact .inl rfl
theorem AF {t : ByteArray} {most k : Int} {ll dl : List Int} : ∀ {n p : Nat} {out : List Nat}, xh t most ll dl n p out = .error k → E7 k
 | 0, p, out, h => by cases h; exact .inl rfl
 | n + 1, p, out, h => by
   unfold xh at h
   split at h
   · cases h; exact .inl rfl
   · split at h
     · split at h
       · cases h; exact .inr rfl
       · exact AF h
     · split at h
       · cases h
       · split at h
         · exact AF h
         · rename_i q; cases h; exact KJ q
theorem LU {t : ByteArray} {most k : Int} {p : Nat} {out : List Nat} (h : AW t most p out = .error k) : E7 k := by
 unfold AW at h
 dsimp only at h
 split at h
 · split at h
   · cases h; exact .inl rfl
   · split at h
     · cases h; exact .inl rfl
     · split at h
       · cases h; exact .inl rfl
       · exact AF h
 · cases h; exact .inl rfl
theorem Jk {t : ByteArray} {most k : Int} {p : Nat} {out : List Nat} (h : xp t most p out = .error k) : E7 k := by
 unfold xp at h
 dsimp only at h
 split at h
 · split at h
   · cases h
   · rename_i q
     cases h
     split at q
     · exact IP q
     · split at q
       · exact AF q
       · split at q
         · exact LU q
         · cases q; exact .inl rfl
 · cases h; exact .inl rfl
theorem DL {t : ByteArray} {most k : Int} : ∀ {n p : Nat} {out : List Nat}, xe t most n p out = .error k → E7 k
 | 0, p, out, h => by
   unfold xe at h
   cases h; exact .inl rfl
 | n + 1, p, out, h => by
   unfold xe at h
   split at h
   · rename_i q; cases h; exact Jk q
   · split at h
     · cases h
     · exact DL h
theorem G4 {t : ByteArray} {most k : Int} (h : wU t most = .error k) : E7 k := by
 unfold wU at h
 split at h
 · cases h; exact .inl rfl
 · split at h
   · cases h
   · rename_i q; cases h; exact DL q
theorem dt {p : Prop} [Decidable p] (h : p) : decide p = true := VM h
theorem df {p : Prop} [Decidable p] (h : ¬ p) : decide p = false := VJ h
theorem Vb {a b : Int} (h : a = b) : (a == b) = true := by simp [h]
theorem UT {a b : Int} (h : ¬ a = b) : (a == b) = false := by simp [h]
theorem Vg {a b : Int} (h : ¬ a = b) : (a != b) = true := by simp [h]
theorem Vf {a b : Int} (h : a = b) : (a != b) = false := by simp [h]
theorem wi {n : Int} (h : -9223372036854775808 ≤ n ∧ n < 9223372036854775808) : IntKind.wrap .i64 n = n := uQ h.1 (by omega)
theorem wb {n : Int} (h : 0 ≤ n ∧ n < 256) : IntKind.wrap .u8 n = n := by
 simp [IntKind.wrap, IntKind.bits, IntKind.signed]; omega
theorem Rl {i : Int} {n : Nat} (h : 0 ≤ i ∧ i < n) : dq (.int .i64 i) n = some i.toNat := by
 simp [dq, oJ, h]
def at_ : Nat → aH → aH
 | 0, .seq a _ => a
 | 0, c => c
 | n + 1, .seq _ b => at_ n b
 | _ + 1, c => c
def Nf : Nat → aH → aH
 | 0, c => c
 | n + 1, .seq _ b => Nf n b
 | _ + 1, c => c
theorem yd (a b : aH) : at_ 0 (.seq a b) = a := rfl
theorem yh (n : Nat) (a b : aH) : at_ (n + 1) (.seq a b) = at_ n b := rfl
theorem N5 (c : aH) : Nf 0 c = c := rfl
theorem N4 (n : Nat) (a b : aH) : Nf (n + 1) (.seq a b) = Nf n b := rfl
theorem A1 {h : H} {id i : Nat} (e : ¬ i = id) : (h.del id).get i = h.get i := by rw [H.eI, if_neg e]
theorem CZ (h : H) : h.ez.next = h.next := vL rfl rfl
theorem CQ (h : H) : h.ez.floor = h.next := vL rfl rfl
theorem CT (h : H) (i : Nat) : h.ez.get i = h.get i := vL rfl rfl
theorem Hb (h : H) (i : Nat) : (h.del i).next = h.next := vL rfl rfl
theorem GW (h : H) (i : Nat) : (h.del i).floor = h.floor := vL rfl rfl
theorem wM {h : H} {cs : List AV} {i : Nat} (e : i = h.next) : (h.alloc cs).get i = some cs := by rw [H.aW, if_pos e]
theorem wR {h : H} {cs : List AV} {i : Nat} (e : ¬ i = h.next) : (h.alloc cs).get i = h.get i := by rw [H.aW, if_neg e]
theorem wQ {h : H} {cs : List AV} {id i : Nat} (e : i = id) : (h.set id cs).get i = (h.get i).map fun _ => cs := by rw [H.dQ, if_pos e, e]
theorem wJ {h : H} {cs : List AV} {id i : Nat} (e : ¬ i = id) : (h.set id cs).get i = h.get i := by rw [H.dQ, if_neg e]
def yE {α : Type} (b : Bool) (x : α) : Option α := if b then some x else none
theorem JU {α : Type} (x : α) : yE true x = some x := rfl
theorem Kk (h : H) (id off n : Nat) (v cs : List AV) : ve h id off n v (some cs) = yE (decide (h.floor ≤ id) && (decide (v.length = n) && (decide (off + n ≤ cs.length) && AV.aC v))) (h.set id (setFrom cs off v)) := by
 simp only [ve, vO, yE]
 by_cases c : h.floor ≤ id ∧ v.length = n ∧ off + n ≤ cs.length ∧ AV.aC v = true
 · rw [if_pos c]; obtain ⟨c1, c2, c3, c4⟩ := c; simp [c1, c2, c3, c4]
 · rw [if_neg c, if_neg]; simpa using c
theorem Vh (n : Nat) (cs : List AV) (off : Nat) : iG true n cs off = yE (decide (off + n ≤ cs.length)) (.agg ((cs.drop off).take n)) := by
 simp only [iG, yE, if_true, Wo]
theorem LZ (z : List AV) : eE z [] = some z := rfl
def H3 (r : List (Nat × Nat × AV)) (p : Option (List AV)) : Option (List AV) := p.bind fun z => eE z r
theorem J1 (r : List (Nat × Nat × AV)) (z : List AV) : H3 r (some z) = eE z r := rfl
theorem LY (z : List AV) (o n : Nat) (v : AV) (r : List (Nat × Nat × AV)) : eE z ((o, n, v) :: r) = H3 r (yE (decide (v.cells.length = n) && (decide (o + n ≤ z.length) && AV.aC v.cells)) (setFrom z o v.cells)) := by
 simp only [eE, yE]
 by_cases c : v.cells.length = n ∧ o + n ≤ z.length ∧ AV.aC v.cells = true
 · rw [if_pos c]; obtain ⟨c1, c2, c3⟩ := c; simp [c1, c2, c3, H3]
 · rw [if_neg c, if_neg]; · rfl
   simpa using c
def HK (p : Option (List AV)) (f : Nat → AV) : Option (List AV × (Nat → AV)) := p.bind fun cs => some (cs, f)
theorem LG (cs : List AV) (f : Nat → AV) : HK (some cs) f = some (cs, f) := rfl
theorem FK (e : Env) (z : List AV) : aX e (.alloc z) = HK (yE (AV.aC z) z) (fun i => .aE i 0) := by
 simp only [aX, yE]; split <;> rfl
theorem JR (e : Env) (n : Nat) (x : X) : aX e (.box n x) = HK (yE (decide ((x.ev e).cells.length = n) && AV.aC (x.ev e).cells) (x.ev e).cells) (fun i => .aE i 0) := by
 simp only [aX, yE]
 by_cases c : (x.ev e).cells.length = n ∧ AV.aC (x.ev e).cells = true
 · rw [if_pos c]; simp [c, HK]
 · rw [if_neg c, if_neg]; · rfl
   simpa using c
theorem Eg (e : Env) (sz len : Nat) (z : List AV) (ps : List (Nat × X)) : aX e (.cZ sz len z ps) = HK (H3 (ps.map fun p => (p.1 * sz, sz, p.2.ev e)) (yE (decide (z.length = sz) && (decide (0 < sz) && AV.aC z)) (eh len z))) (fun i => .aF i 0 len sz) := by
 simp only [aX, yE]
 by_cases c : z.length = sz ∧ 0 < sz ∧ AV.aC z = true
 · rw [if_pos c]; simp [c, HK, H3]
 · rw [if_neg c, if_neg]; · rfl
   simpa using c
theorem MD (z : List AV) : eh 0 z = [] := rfl
theorem MC (n : Nat) (z : List AV) : eh (n + 1) z = z ++ eh n z := rfl
def QO (yg : List Nat) (e : Env) (h : H) (b : Bool) : dY := if b then some (.normal, ay e yg, h) else none
theorem Md (yg : List Nat) (e : Env) (h : H) : QO yg e h true = some (.normal, ay e yg, h) := rfl
def Vd (c : ah) (ops : List ak) (fl : List (Nat × List Nat)) (yg : List Nat) (p : Option (Env × H × List H)) : dY := p.bind fun q => QO yg q.1 q.2.1 (aY c ops q.1 q.2.2 fl)
theorem Om (c : ah) (ops : List ak) (fl : List (Nat × List Nat)) (yg : List Nat) (e : Env) (h : H) (gs : List H) : Vd c ops fl yg (some (e, h, gs)) = QO yg e h (aY c ops e gs fl) := rfl
theorem JO (c : ah) (l : bP) (ord : List Nat) (ops : List ak) (x : Nat × List Nat) (fl : List (Nat × List Nat)) (yg : List Nat) (e : Env) (h : H) : aM c l (.jm ord ops (x :: fl) yg) e h = Vd c ops (x :: fl) yg (aO c ops e h) := by
 rw [aM]; rfl
theorem OS (c : ah) (ops : List ak) (e : Env) (gs : List H) : aY c ops e gs [] = true := rfl
def Up (c : ah) (ops : List ak) (e : Env) (gs : List H) (i : Nat) (ks : List Nat) : Bool := ks.all (bN c ops e gs i)
theorem OQ (c : ah) (ops : List ak) (e : Env) (gs : List H) (i : Nat) (ks : List Nat) (r : List (Nat × List Nat)) : aY c ops e gs ((i, ks) :: r) = (Up c ops e gs i ks && aY c ops e gs r) := rfl
theorem ON (c : ah) (ops : List ak) (e : Env) (gs : List H) (i : Nat) : Up c ops e gs i [] = true := rfl
def N2 (c : ah) (e : Env) (o : Option ak) (g : Option H) : Bool := match o, g with
 | some o, some g =>
   if o.op.aJ then
    match o.dst.map (look e) with
    | some (.bU []) => true
    | some v => (match v.id?, aX e o.op with
      | some id, some b => (match g.get id with | some cs => AV.gJ cs b.1 | none => false)
      | _, _ => false)
    | none => false
   else match o.dst.map (look e) with
    | some v => (match aj c o e g with | some (u, _) => AV.beq u v | none => false)
    | none => false
 | _, _ => false
theorem OM (c : ah) (ops : List ak) (e : Env) (gs : List H) (i k : Nat) (r : List Nat) : Up c ops e gs i (k :: r) = (N2 c e (ops[i]?) (gs[k]?) && Up c ops e gs i r) := by
 unfold Up
 rw [List.all_cons]
 congr 1
def U7 (v : AV) (p : Option (AV × H)) : Bool := match p with | some (u, _) => AV.beq u v | none => false
theorem OP (v u : AV) (h : H) : U7 v (some (u, h)) = AV.beq u v := rfl
def Ri (b : Bool) (x y : Bool) : Bool := if b then x else y
theorem OJ (x y : Bool) : Ri false x y = y := rfl
def FB (c : ah) (e : Env) (o : Option ak) (g : Option H) : Bool := N2 c e o g
theorem OI (c : ah) (e : Env) (d : Nat) (op : cf) (g : H) : N2 c e (some ⟨some d, op, none⟩) (some g) = Ri op.aJ (FB c e (some ⟨some d, op, none⟩) (some g)) (U7 (look e d) (ai c e g op)) := by
 unfold FB N2 Ri
 dsimp only
 cases op.aJ <;> rfl
theorem OH (c : ah) (e : Env) (d : Nat) (op : cf) (k : Nat) (w : Bool) (g : H) : N2 c e (some ⟨some d, op, some (k, w)⟩) (some g) = Ri op.aJ (FB c e (some ⟨some d, op, some (k, w)⟩) (some g)) (U7 (look e d) (mw w c e g op (look e k))) := by
 unfold FB N2 Ri
 dsimp only
 cases op.aJ with
 | true => rfl
 | false => rw [nN]; rfl
mutual
theorem beq_refl : ∀ a : AV, AV.beq a a = true
 | .bot => rfl
 | .bool b => by simp [AV.beq]
 | .int k n => by simp [AV.beq]
 | .str s => D3 s
 | .cH => rfl
 | .aE i o => by simp [AV.beq]
 | .aL c o => by simp [AV.beq, yy c]
 | .aQ => rfl
 | .aF i o l z => by simp [AV.beq]
 | .aV t c o l z => by simp [AV.beq, yy c]
 | .fn f a b => by simp [AV.beq, yy a, yy b]
 | .fq => rfl
 | .iface t v => by simp [AV.beq, beq_refl v]
 | .ft => rfl
 | .agg c => by simp [AV.beq, yy c]
 | .bU c => by simp [AV.beq, yy c]
theorem yy : ∀ l : List AV, AV.gJ l l = true
 | [] => rfl
 | a :: l => by simp [AV.gJ, beq_refl a, yy l]
end
theorem OK (x y : Bool) : Ri true x y = x := rfl
def Rw (c : Option (List AV)) (d : List AV) : Bool := match c with | some cs => AV.gJ cs d | none => false
theorem Oe (c d : List AV) : Rw (some c) d = AV.gJ c d := rfl
def Ht (v : AV) (b : Option (List AV × (Nat → AV))) (g : H) : Bool := match v with
 | .bU [] => true
 | v => match v.id?, b with
   | some id, some b => Rw (g.get id) b.1
   | _, _ => false
theorem MM (b : Option (List AV × (Nat → AV))) (g : H) : Ht (.bU []) b g = true := rfl
theorem ML (i o : Nat) (cs : List AV) (f : Nat → AV) (g : H) : Ht (.aE i o) (some (cs, f)) g = Rw (g.get i) cs := rfl
theorem MK (i o l z : Nat) (cs : List AV) (f : Nat → AV) (g : H) : Ht (.aF i o l z) (some (cs, f)) g = Rw (g.get i) cs := rfl
theorem D7 {c : ah} {e : Env} {d : Nat} {op : cf} {gd : Option (Nat × Bool)} {g : H} (hb : op.aJ = true) : FB c e (some ⟨some d, op, gd⟩) (some g) = Ht (look e d) (aX e op) g := by
 unfold FB N2
 dsimp only
 rw [hb, if_pos rfl]
 show (match some (look e d) with
  | some (.bU []) => true
  | some v => (match v.id?, aX e op with
    | some id, some b => (match g.get id with | some cs => AV.gJ cs b.1 | none => false)
    | _, _ => false)
  | none => false) = _
 generalize look e d = v
 unfold Ht Rw
 cases v with
 | bU vs => cases vs <;> rfl
 | _ => cases aX e op <;> rfl
theorem Fg (c : ah) (e : Env) (d : Nat) (z : List AV) (gd : Option (Nat × Bool)) (g : H) : FB c e (some ⟨some d, .alloc z, gd⟩) (some g) = Ht (look e d) (aX e (.alloc z)) g := D7 rfl
theorem IM (c : ah) (e : Env) (d n : Nat) (x : X) (gd : Option (Nat × Bool)) (g : H) : FB c e (some ⟨some d, .box n x, gd⟩) (some g) = Ht (look e d) (aX e (.box n x)) g := D7 rfl
theorem DU (c : ah) (e : Env) (d n m : Nat) (z : List AV) (ps : List (Nat × X)) (gd : Option (Nat × Bool)) (g : H) : FB c e (some ⟨some d, .cZ n m z ps, gd⟩) (some g) = Ht (look e d) (aX e (.cZ n m z ps)) g := D7 rfl
theorem Gv (c : ah) (e : Env) (d n m : Nat) (z : List AV) (x y : X) (gd : Option (Nat × Bool)) (g : H) : FB c e (some ⟨some d, .jo n m z x y, gd⟩) (some g) = Ht (look e d) (aX e (.jo n m z x y)) g := D7 rfl
theorem HG (b : Bool) : AV.beq (.bool b) (.bool b) = true := by simp [AV.beq]
theorem HJ : AV.beq (.bU []) (.bU []) = true := rfl
theorem HH : AV.beq .aQ .aQ = true := rfl
theorem FJ : AV.beq .cH .cH = true := rfl
theorem Mh (sz id off len : Nat) (i : AV) : gG sz (.aF id off len sz) i = vr id off sz (dq i len) := by simp [gG, vr]
theorem Mf (t : Bool) (cells : List AV) (sz off len : Nat) (i : AV) : gG sz (.aV t cells off len sz) i = vt cells off sz (dq i len) := by simp [gG, vt]
def zm (n : Nat) (z : List AV) : List AV := eh n z
def Ov (sz bytes : Nat) (zero : List AV) (l c : AV) : Option (List AV × (Nat → AV)) :=
 match l, c with
 | .int .i64 l, .int .i64 c => HK (yE (decide (0 ≤ l) && (decide (l ≤ c) && (decide (c ≤ 9223372036854775807) && (decide ((bytes : Int) * c ≤ 281474976710656) && (decide (zero.length = sz) && (decide (0 < sz) && AV.aC zero)))))) (zm c.toNat zero)) (fun i => .aF i 0 l.toNat sz)
 | _, _ => none
theorem Ha (sz bytes : Nat) (zero : List AV) (l c : Int) : Ov sz bytes zero (.int .i64 l) (.int .i64 c) = HK (yE (decide (0 ≤ l) && (decide (l ≤ c) && (decide (c ≤ 9223372036854775807) && (decide ((bytes : Int) * c ≤ 281474976710656) && (decide (zero.length = sz) && (decide (0 < sz) && AV.aC zero)))))) (zm c.toNat zero)) (fun i => .aF i 0 l.toNat sz) := rfl
theorem HL (e : Env) (sz bytes : Nat) (zero : List AV) (l c : X) : aX e (.jo sz bytes zero l c) = Ov sz bytes zero (l.ev e) (c.ev e) := by
 simp only [aX]
 cases l.ev e with
 | int k l => cases k <;> cases c.ev e with
   | int k2 c => cases k2 <;> first
     | rfl
     | (simp only [Ha, yE]
        by_cases q : 0 ≤ l ∧ l ≤ c ∧ c ≤ 9223372036854775807 ∧ (bytes : Int) * c ≤ 281474976710656 ∧ zero.length = sz ∧ 0 < sz ∧ AV.aC zero = true
        · rw [if_pos q]; obtain ⟨q1, q2, q3, q4, q5, q6, q7⟩ := q
          rw [if_pos]
          · rfl
          · simp [q1, q2, q3, q4, q5, q6, q7]
        · rw [if_neg q, if_neg]
          · rfl
          · simpa using q)
   | _ => rfl
 | _ => cases c.ev e <;> rfl
theorem Ly (i o l z : Nat) : jy false (.aF i o l z) = some (.int .i64 l) := rfl
theorem Lx : jy false .aQ = some (.int .i64 0) := rfl
theorem Lv (t : Bool) (c : List AV) (o l z : Nat) : jy false (.aV t c o l z) = some (.int .i64 l) := rfl
theorem Cy (s : ByteArray) : jy true (.str s) = some (.int .i64 s.size) := rfl
theorem MW (a b : Nat) : ((a : Int) + (b : Int)).toNat = a + b := by omega
theorem Fp (a : Nat) : ((a : Int)).toNat = a := by omega
def yR (s : ByteArray) (i : Nat) : Nat := ((s[i]?).map (·.toNat)).getD 0
theorem zZ (s : ByteArray) (i : Nat) : yR s i < 256 := by
 unfold yR
 cases s[i]? with
 | none => simp
 | some b => simp; exact b.toNat_lt
theorem G3 {s : ByteArray} {i : Int} (h : 0 ≤ i ∧ i < s.size) : ni (.str s) (.int .i64 i) = some (.int .u8 (yR s i.toNat : Nat)) := by
 have hi : i.toNat < s.size := by omega
 simp [ni, Rl h, yR, hi]
def Dr {α : Type} (b : Bool) (x y : Option α) : Option α := if b then x else y
theorem MF {α : Type} (x y : Option α) : Dr true x y = x := rfl
theorem ME {α : Type} (x y : Option α) : Dr false x y = y := rfl
def Q5 (n o k : Nat) (p : Option (List AV)) : Option (Nat × List AV) := p.bind fun cs => yE (decide (o + k * n ≤ cs.length)) (k, (cs.drop o).take (k * n))
theorem MJ (n o k : Nat) (cs : List AV) : Q5 n o k (some cs) = yE (decide (o + k * n ≤ cs.length)) (k, (cs.drop o).take (k * n)) := rfl
theorem OE (h : H) (n p o k : Nat) : aT h n (.aF p o k n) = Q5 n o k (h.get p) := by
 simp only [aT, if_true, Q5]
 cases h.get p with
 | none => rfl
 | some cs => simp only [vO, yE, Wo]
theorem OC (h : H) (t : Bool) (n o k : Nat) (cs : List AV) : aT h n (.aV t cs o k n) = yE (decide (o + k * n ≤ cs.length)) (k, (cs.drop o).take (k * n)) := by
 simp only [aT, if_true, yE, Wo]
theorem OD (h : H) (n : Nat) : aT h n .aQ = some (0, []) := vL rfl rfl
theorem OG (h : H) (s : ByteArray) : aT h 1 (.str s) = some (s.size, s.data.toList.map fun b => .int .u8 b.toNat) := vL rfl rfl
def Rn (h : H) (n z : Nat) (a : AV) (p : Option (Nat × List AV)) : Option (AV × H) := p.bind fun r => ep h n z a r.1 r.2
theorem LC (h : H) (n z : Nat) (a : AV) (m : Nat) (bs : List AV) : Rn h n z a (some (m, bs)) = ep h n z a m bs := rfl
theorem Oc (h : H) (n z : Nat) (a b : AV) : lL h n z a b = Rn h n z a (aT h n b) := vL rfl rfl
def Uu (h : H) (n z p o k m : Nat) (bs : List AV) (q : Option (List AV)) : Option (AV × H) := q.bind fun cs =>
 Dr (decide (o + (k + m) * n ≤ cs.length)) (some (.aF p o (k + m) n, h.set p (setFrom cs (o + k * n) bs))) (Dr (decide (o + k * n = cs.length) && roomy z (k + m)) (some (.aF h.next 0 (k + m) n, (h.del p).alloc (cs.drop o ++ bs))) none)
theorem N9 (h : H) (n z p o k m : Nat) (bs cs : List AV) : Uu h n z p o k m bs (some cs) = Dr (decide (o + (k + m) * n ≤ cs.length)) (some (.aF p o (k + m) n, h.set p (setFrom cs (o + k * n) bs))) (Dr (decide (o + k * n = cs.length) && roomy z (k + m)) (some (.aF h.next 0 (k + m) n, (h.del p).alloc (cs.drop o ++ bs))) none) := rfl
theorem Ob (h : H) (n z p o k m : Nat) (bs : List AV) : ep h n z (.aF p o k n) m bs = Dr (decide (m = 0)) (some (.aF p o k n, h)) (Dr (AV.aC bs && (decide (0 < n) && decide (h.floor ≤ p))) (Uu h n z p o k m bs (h.get p)) none) := by
 unfold ep Dr
 by_cases c : m = 0
 · simp [c]
 · rw [if_neg c]
   simp only [Wo, if_neg c]
   by_cases c1 : AV.aC bs = false ∨ n = 0
   · rw [if_pos c1, if_neg]
     rcases c1 with c1 | c1
     · simp [c1]
     · simp [c1]
   · rw [if_neg c1]
     have q1 : AV.aC bs = true := by cases q : AV.aC bs with | true => rfl | false => exact absurd (.inl q) c1
     by_cases c2 : h.floor ≤ p
     · have qq : (AV.aC bs && (decide (0 < n) && decide (h.floor ≤ p))) = true := by simp [q1, c2]; omega
       simp only [true_and, if_pos c2, qq, if_true, Uu, Dr]
       cases h.get p with
       | none => rfl
       | some cs => simp only [vO, Wo, vS]
     · have qq : (AV.aC bs && (decide (0 < n) && decide (h.floor ≤ p))) = false := by simp [c2]
       simp only [true_and, if_neg c2, qq]; rfl
theorem Oa (h : H) (n z m : Nat) (bs : List AV) : ep h n z .aQ m bs = Dr (decide (m = 0)) (some (.aQ, h)) (Dr (AV.aC bs && (decide (0 < n) && roomy z m)) (some (.aF h.next 0 m n, h.alloc bs)) none) := by
 unfold ep Dr
 by_cases c : m = 0
 · simp [c]
 · rw [if_neg c]
   simp only [Wo, if_neg c]
   by_cases c1 : AV.aC bs = false ∨ n = 0
   · rw [if_pos c1, if_neg]
     rcases c1 with c1 | c1
     · simp [c1]
     · simp [c1]
   · rw [if_neg c1]
     have q1 : AV.aC bs = true := by cases q : AV.aC bs with | true => rfl | false => exact absurd (.inl q) c1
     have q2 : 0 < n := by omega
     simp [q1, q2]
theorem yB {b n : Nat} (h : 1 ≤ b ∧ (n + n / 4 + 512) * b ≤ 281474976710656) : roomy b n = true := by simp only [roomy, h.1, h.2, and_self, decide_true]
theorem GX {α : Type} {C : α → List AV} {n : Nat} (hC : ∀ x, (C x).length = n) : ∀ {l : List α} {i f : Nat} {x : α}, l[i]? = some x → f < n → (l.flatMap C)[i * n + f]? = (C x)[f]?
 | [], i, f, x, h, _ => by simp at h
 | y :: l, 0, f, x, h, hf => by
   obtain rfl : y = x := by simpa using h
   rw [VQ, Nat.zero_mul, vW, Wa (by rw [hC]; exact hf)]
 | y :: l, i + 1, f, x, h, hf => by
   rw [VQ, V3 (by rw [hC, wh]; omega), hC]
   rw [show (i + 1) * n + f - n = i * n + f by rw [wh]; omega]
   exact GX hC (by simpa using h) hf
theorem Dk {α : Type} {C : α → List AV} {n : Nat} (hC : ∀ x, (C x).length = n) : ∀ l : List α, (l.flatMap C).length = l.length * n
 | [] => by simp
 | y :: l => by rw [VQ, wo, hC, Dk hC l, VK, wh]; omega
theorem GY {α : Type} {C : α → List AV} {n : Nat} (hC : ∀ x, (C x).length = n) : ∀ {l : List α} {i : Nat} {x : α}, l[i]? = some x → ((l.flatMap C).drop (i * n)).take n = C x
 | [], i, x, h => by simp at h
 | y :: l, 0, x, h => by
   obtain rfl : y = x := by simpa using h
   rw [VQ, Nat.zero_mul, Wc, List.take_append_of_le_length (by rw [hC]; omega), VY (by rw [hC]; omega)]
 | y :: l, i + 1, x, h => by
   rw [VQ, List.drop_append, List.drop_of_length_le (by rw [hC, wh]; omega), List.nil_append, hC, show (i + 1) * n - n = i * n by rw [wh]; omega]
   exact GY hC (by simpa using h)
def zU (n : Nat) (h : H) (v : AV) (k : Nat) (cs : List AV) : Prop := aT h n v = some (k, cs) ∧ cs.length = k * n ∧ ∀ s, v ≠ .str s
theorem Rd.U5 {h : H} {v : AV} {cs : List AV} (r : Rd h v cs) : zU 1 h v cs.length cs := ⟨r.1, by omega, r.2⟩
theorem zU.len {n : Nat} {h : H} {v : AV} {k : Nat} {cs : List AV} (r : zU n h v k cs) : jy false v = some (.int .i64 k) := by
 obtain ⟨r, _, hs⟩ := r
 unfold aT at r
 split at r
 · obtain ⟨h1, h2⟩ := vJ (vG r); subst h1; rfl
 · exact absurd rfl (hs _)
 · split at r
   · simp only [vH] at r
     obtain ⟨c, _, r⟩ := r
     split at r
     · obtain ⟨h1, h2⟩ := vJ (vG r); simp [jy, h1]
     · cases r
   · cases r
 · split at r
   · split at r
     · obtain ⟨h1, h2⟩ := vJ (vG r); simp [jy, h1]
     · cases r
   · cases r
 · cases r
theorem zU.mono {n : Nat} {h g : H} {v : AV} {k : Nat} {cs : List AV} (r : zU n h v k cs) (hg : ∀ id c, h.get id = some c → g.get id = some c) : zU n g v k cs := by
 obtain ⟨r, hl, hs⟩ := r
 refine ⟨?_, hl, hs⟩
 unfold aT at r ⊢
 split at r
 · exact r
 · exact r
 · split at r
   · rename_i q; simp only [if_pos q, vH] at r ⊢
     obtain ⟨c, h1, r⟩ := r
     exact ⟨c, hg _ _ h1, r⟩
   · cases r
 · exact r
 · cases r
theorem zU.at_ {n : Nat} {h : H} {v : AV} {k : Nat} {cs : List AV} (r : zU n h v k cs) : ∃ ad : Int → Nat → AV,
 (∀ i : Int, 0 ≤ i ∧ i < k → gG n v (.int .i64 i) = some (ad i 0)) ∧
 (∀ (i : Int) (f g : Nat), 0 ≤ i ∧ i < k → fJ g (ad i f) = some (ad i (f + g))) ∧
 (∀ (i : Int) (f : Nat) (g : H), 0 ≤ i ∧ i < k → jS g (ad i f) = some (ad i f, g)) ∧
 (∀ g : H, (∀ id c, h.get id = some c → g.get id = some c) → (∀ (i : Int) (f : Nat) (c : AV), 0 ≤ i ∧ i < k → cs[i.toNat * n + f]? = some c → cJ false 1 (ad i f) g = some c) ∧
   ∀ i : Int, 0 ≤ i ∧ i < k → cJ true n (ad i 0) g = some (.agg ((cs.drop (i.toNat * n)).take n))) := by
 obtain ⟨r, hl, hs⟩ := r
 unfold aT at r
 split at r
 · obtain ⟨h1, h2⟩ := vJ (vG r); subst h1
   exact ⟨fun _ _ => .bot, fun i hi => by omega, fun i f g hi => by omega, fun i f g hi => by omega, fun g _ => ⟨fun i f c hi => by omega, fun i hi => by omega⟩⟩
 · exact absurd rfl (hs _)
 · rename_i id off len s
   split at r
   · rename_i q
     subst q
     simp only [vH] at r
     obtain ⟨d, hd, r⟩ := r
     split at r
     · rename_i hle
       obtain ⟨h1, h2⟩ := vJ (vG r)
       subst h1
       have bnd : ∀ i : Int, 0 ≤ i ∧ i < len → i.toNat * s + s ≤ len * s := fun i hi => by
        have := vU s (show i.toNat + 1 ≤ len by omega); rw [wh] at this; omega
       refine ⟨fun i f => .aE id (off + i.toNat * s + f), fun i hi => by simp [gG, Rl hi], fun i f g _ => by simp [fJ]; omega, fun i f g _ => rfl, fun g hg => ⟨fun i f c hi hc => ?_, fun i hi => ?_⟩⟩
       · simp only [cJ, hg _ _ hd, vO, iG, vP, wq]
         rw [← h2, wm] at hc
         split at hc
         · rw [v9] at hc; rw [vQ]; exact hc
         · cases hc
       · have := bnd i hi
         simp only [cJ, hg _ _ hd, vO, iG, if_true, Nat.add_zero]
         rw [if_pos (by omega), ← h2, List.drop_take, List.take_take, List.drop_drop, Nat.min_eq_left (by omega)]
     · cases r
   · cases r
 · rename_i t cells off len s
   split at r
   · rename_i q
     subst q
     split at r
     · rename_i hle
       obtain ⟨h1, h2⟩ := vJ (vG r)
       subst h1
       have bnd : ∀ i : Int, 0 ≤ i ∧ i < len → i.toNat * s + s ≤ len * s := fun i hi => by
        have := vU s (show i.toNat + 1 ≤ len by omega); rw [wh] at this; omega
       refine ⟨fun i f => .aL cells (off + i.toNat * s + f), fun i hi => by simp [gG, Rl hi], fun i f g _ => by simp [fJ]; omega, fun i f g _ => rfl, fun g hg => ⟨fun i f c hi hc => ?_, fun i hi => ?_⟩⟩
       · simp only [cJ, iG, vP, wq]
         rw [← h2, wm] at hc
         split at hc
         · rw [v9] at hc; rw [vQ]; exact hc
         · cases hc
       · have := bnd i hi
         simp only [cJ, iG, if_true, Nat.add_zero]
         rw [if_pos (by omega), ← h2, List.drop_take, List.take_take, List.drop_drop, Nat.min_eq_left (by omega)]
     · cases r
   · cases r
 · cases r
def wW (n : Nat) (h : H) (v : AV) (k : Nat) (cs : List AV) : Prop := cs.length = k * n ∧ ((v = .aQ ∧ k = 0) ∨ ∃ id, v = .aF id 0 k n ∧ h.get id = some cs ∧ h.floor ≤ id ∧ 0 < k)
theorem wW.nil {n : Nat} {h : H} : wW n h .aQ 0 [] := ⟨by simp, .inl ⟨rfl, rfl⟩⟩
theorem wW.mono {n : Nat} {h g : H} {v : AV} {k : Nat} {cs : List AV} (o : wW n h v k cs) (hf : g.floor = h.floor) (hg : ∀ i, v.id? = some i → g.get i = h.get i) : wW n g v k cs := by
 obtain ⟨l, o⟩ := o
 refine ⟨l, ?_⟩
 rcases o with o | ⟨id, rfl, h1, h2, h3⟩
 · exact .inl o
 · exact .inr ⟨id, rfl, by rw [hg id rfl]; exact h1, by rw [hf]; exact h2, h3⟩
theorem wW.sc {n : Nat} {h : H} {v : AV} {k : Nat} {cs : List AV} (o : wW n h v k cs) : v.sc = true := by
 rcases o.2 with ⟨rfl, _⟩ | ⟨id, rfl, _⟩ <;> rfl
theorem wW.lt {n : Nat} {h : H} {v : AV} {k : Nat} {cs : List AV} (o : wW n h v k cs) {i : Nat} (hi : v.id? = some i) : h.floor ≤ i ∧ i < h.next := by
 rcases o.2 with ⟨rfl, _⟩ | ⟨id, rfl, h1, h2⟩
 · cases hi
 · obtain rfl := vG hi; exact ⟨h2.1, h.lt _ _ h1⟩
theorem wW.rd {n : Nat} {h : H} {v : AV} {k : Nat} {cs : List AV} (o : wW n h v k cs) : zU n h v k cs := by
 obtain ⟨l, o⟩ := o
 rcases o with ⟨rfl, rfl⟩ | ⟨id, rfl, h1, h2⟩
 · have : cs = [] := List.eq_nil_of_length_eq_zero (by omega)
   subst this
   exact ⟨rfl, by simp, fun _ => by simp⟩
 · refine ⟨?_, l, fun _ => by simp⟩
   simp only [aT, if_true, h1, vO, vW]
   rw [if_pos (by omega), Wc, VY (by omega)]
theorem wW.app {n : Nat} {h : H} {v : AV} {k : Nat} {cs : List AV} (o : wW n h v k cs) (hfn : h.floor ≤ h.next) {z m : Nat} (hm : 0 < m) (hn : 0 < n) (bs : List AV) (hb : bs.length = m * n) (hc : AV.aC bs = true) (hr : roomy z (k + m) = true) :
 ∃ v' h', ep h n z v m bs = some (v', h') ∧ wW n h' v' (k + m) (cs ++ bs) ∧ h'.floor = h.floor ∧ h.next ≤ h'.next ∧ (∀ i, v.id? ≠ some i → i ≠ h.next → h'.get i = h.get i) ∧ v'.id? = some h.next := by
 obtain ⟨hl, o⟩ := o
 have hll : (cs ++ bs).length = (k + m) * n := by rw [wo, hl, hb, wh]
 rcases o with ⟨rfl, rfl⟩ | ⟨id, rfl, hg, hf, _⟩
 · have : cs = [] := List.eq_nil_of_length_eq_zero (by omega)
   subst this
   refine ⟨.aF h.next 0 m n, h.alloc bs, ?_, ⟨hll, .inr ⟨h.next, by simp, by simp [H.aW], by simp; omega, by omega⟩⟩, by simp, by simp, fun i _ hi => by rw [H.aW, if_neg hi], rfl⟩
   unfold ep
   rw [if_neg (by omega), if_neg (by simp [hc]; omega)]
   rw [vW] at hr
   simp only [hr, if_true]
 · have hmn : 0 < m * n := Nat.mul_pos hm hn
   have hnot : ¬ 0 + (k + m) * n ≤ cs.length := by rw [hl, wh]; omega
   refine ⟨.aF h.next 0 (k + m) n, (h.del id).alloc (cs ++ bs), ?_, ⟨hll, .inr ⟨h.next, by simp, by simp [H.aW], ?_, by omega⟩⟩, by simp, by simp, fun i h1 h2 => ?_, rfl⟩
   · unfold ep
     rw [if_neg (by omega), if_neg (by simp [hc]; omega)]
     simp only [hf, and_self, if_true, hg, vO]
     rw [if_neg hnot, if_pos ⟨by omega, hr⟩]
     simp
   · have := h.lt id cs hg; simp; omega
   · rw [H.aW, H.jQ, if_neg h2, H.eI, if_neg]
     intro e; subst e; exact h1 rfl
theorem wW.push {n : Nat} {h : H} {v : AV} {k : Nat} {cs : List AV} (o : wW n h v k cs) (hfn : h.floor ≤ h.next) {z m : Nat} (hm : 0 < m) (hn : 0 < n) (bs : List AV) (hb : bs.length = m * n) (hc : AV.aC bs = true) (hr : roomy z (k + m) = true) :
 ∃ v' h', lL (h.alloc bs) n z v (.aF h.next 0 m n) = some (v', h') ∧ wW n h' v' (k + m) (cs ++ bs) ∧ h'.floor = h.floor ∧ h.next + 1 ≤ h'.next ∧ (∀ i, v.id? ≠ some i → i < h.next → h'.get i = h.get i) ∧ v'.id? = some (h.next + 1) := by
 have o1 : wW n (h.alloc bs) v k cs := o.mono (by simp) fun i q => by rw [H.aW, if_neg]; have := o.lt q; omega
 obtain ⟨v', h', p1, p2, p3, p4, p5, p6⟩ := o1.app (z := z) (by simp; omega) hm hn bs hb hc hr
 refine ⟨v', h', ?_, p2, by rw [p3]; simp, by simpa using p4, fun i q1 q2 => ?_, by simpa using p6⟩
 · have src : aT (h.alloc bs) n (.aF h.next 0 m n) = some (m, bs) := by
    simp only [aT, if_true, H.aW, vO, vW]
    rw [if_pos (by omega), Wc, VY (by omega)]
   unfold lL; rw [src, vO]; exact p1
 · rw [p5 i q1 (by simp; omega), H.aW, if_neg (by omega)]
def Aa (n k : Nat) (cs : List AV) : AV := if k = 0 then .aQ else .aV false cs 0 k n
theorem Hp {n k : Nat} {h : H} {cs : List AV} (hl : cs.length = k * n) : zU n h (Aa n k cs) k cs := by
 unfold Aa
 by_cases hk : k = 0
 · subst hk
   have : cs = [] := List.eq_nil_of_length_eq_zero (by omega)
   subst this
   exact ⟨rfl, by simp, fun _ => by simp⟩
 · rw [if_neg hk]
   refine ⟨?_, hl, fun _ => by simp⟩
   simp only [aT, if_true, vW]
   rw [if_pos (by omega), Wc, VY (by omega)]
theorem wW.yC {n : Nat} {h : H} {v : AV} {k : Nat} {l : List Int} {fl m : Nat} {t : Bool} (o : wW n h v k (ints l)) (hf : fl ≤ h.floor) : snap h.get fl (m + 2) t v = some (Aa n k (ints l)) := by
 obtain ⟨hl, o⟩ := o
 rw [qy] at hl
 rcases o with ⟨rfl, rfl⟩ | ⟨id, rfl, q, h2, hk⟩
 · rfl
 · unfold snap
   rw [if_neg (by omega), q, vO, if_pos (by rw [qy]; omega)]
   rw [Wc, VY (by rw [qy]; omega), yV]
   unfold Aa
   rw [if_neg (by omega)]; rfl
attribute [go_sem] List.map_cons List.map_nil Bool.and_true Bool.true_and Bool.and_self List.append_nil Option.map_some Option.map_none Bool.and_false Bool.false_and Bool.or_false Bool.or_true Bool.true_or Bool.false_or Bool.or_self cf.aP cf.aJ Int.reduceAdd Int.reduceSub Int.reduceMul Int.reduceNeg Int.reduceToNat List.take_succ_cons List.take_zero List.drop_zero List.drop_succ_cons Int.cast_ofNat_Int Int.natCast_one Int.natCast_zero List.length_set
theorem wH : type_of% @dt ∧ type_of% @df ∧ type_of% @Vb ∧ type_of% @UT ∧ type_of% @Vg ∧ type_of% @Vf ∧ type_of% @wi ∧ type_of% @wb ∧ type_of% @Cy ∧ type_of% @G3 ∧ type_of% @MW ∧ type_of% @Fp ∧ type_of% @Rl ∧ type_of% @wM ∧ type_of% @wR ∧ type_of% @wQ ∧ type_of% @wJ ∧ type_of% @H.jK ∧ type_of% @H.kM ∧ type_of% @H.mu ∧ type_of% @H.jR ∧ type_of% @Kk ∧ type_of% @JU ∧ type_of% @LZ ∧ type_of% @LY ∧ type_of% @J1 ∧ type_of% @Eg ∧ type_of% @FK ∧ type_of% @JR ∧ type_of% @LG ∧ type_of% @MC ∧ type_of% @MD ∧ type_of% @qF ∧ type_of% @qc ∧ type_of% @sI ∧ type_of% @qN ∧ type_of% @Mh ∧ type_of% @Mf ∧ type_of% @tS ∧ type_of% @tT ∧ type_of% @HL ∧ type_of% @Ha ∧ type_of% @Ly ∧ type_of% @Lx ∧ type_of% @Lv ∧ type_of% @JO ∧ type_of% @Om ∧ type_of% @Md ∧ type_of% @OS ∧ type_of% @OQ ∧ type_of% @ON ∧ type_of% @OM ∧ type_of% @OP ∧ type_of% @OJ ∧ type_of% @GM ∧ type_of% @HG ∧ type_of% @HJ ∧ type_of% @HH ∧ type_of% @FJ ∧ type_of% @D3 ∧ type_of% @Ee ∧ type_of% @HI ∧ type_of% @C3 ∧ type_of% @He ∧ type_of% @Mt ∧ type_of% @GZ ∧ type_of% @Hm ∧ type_of% @Hl ∧ type_of% @OI ∧ type_of% @OH ∧ type_of% @uX ∧ type_of% @beq_refl ∧ type_of% @yy ∧ type_of% @OK ∧ type_of% @Oe ∧ type_of% @MM ∧ type_of% @ML ∧ type_of% @MK ∧ type_of% @Fg ∧ type_of% @IM ∧ type_of% @DU ∧ type_of% @Gv := ⟨@dt, @df, @Vb, @UT, @Vg, @Vf, @wi, @wb, @Cy, @G3, @MW, @Fp, @Rl, @wM, @wR, @wQ, @wJ, @H.jK, @H.kM, @H.mu, @H.jR, @Kk, @JU, @LZ, @LY, @J1, @Eg, @FK, @JR, @LG, @MC, @MD, @qF, @qc, @sI, @qN, @Mh, @Mf, @tS, @tT, @HL, @Ha, @Ly, @Lx, @Lv, @JO, @Om, @Md, @OS, @OQ, @ON, @OM, @OP, @OJ, @GM, @HG, @HJ, @HH, @FJ, @D3, @Ee, @HI, @C3, @He, @Mt, @GZ, @Hm, @Hl, @OI, @OH, @uX, @beq_refl, @yy, @OK, @Oe, @MM, @ML, @MK, @Fg, @IM, @DU, @Gv⟩
theorem Hx : type_of% @CZ ∧ type_of% @CT ∧ type_of% @CQ ∧ type_of% @Hb ∧ type_of% @GW ∧ type_of% @A1 ∧ type_of% @Vh ∧ type_of% @MF ∧ type_of% @ME ∧ type_of% @MJ ∧ type_of% @OE ∧ type_of% @OC ∧ type_of% @OD ∧ type_of% @OG ∧ type_of% @LC ∧ type_of% @Oc ∧ type_of% @N9 ∧ type_of% @Ob ∧ type_of% @Oa ∧ type_of% @yB ∧ type_of% @yd ∧ type_of% @yh ∧ type_of% @N5 ∧ type_of% @N4 := ⟨@CZ, @CT, @CQ, @Hb, @GW, @A1, @Vh, @MF, @ME, @MJ, @OE, @OC, @OD, @OG, @LC, @Oc, @N9, @Ob, @Oa, @yB, @yd, @yh, @N5, @N4⟩
theorem y7 : type_of% @H.kM ∧ type_of% @H.jR ∧ type_of% @Hb ∧ type_of% @CZ ∧ type_of% @H.jK ∧ type_of% @H.mu ∧ type_of% @GW ∧ type_of% @CQ := ⟨@H.kM, @H.jR, @Hb, @CZ, @H.jK, @H.mu, @GW, @CQ⟩
theorem Gp : type_of% @wM ∧ type_of% @wR ∧ type_of% @wQ ∧ type_of% @wJ ∧ type_of% @A1 ∧ type_of% @CT := ⟨@wM, @wR, @wQ, @wJ, @A1, @CT⟩
end Ab
set_option maxRecDepth 100000
namespace Ab
open Go
theorem wrap_u32 {n : Nat} (h : n < 4294967296) : IntKind.wrap .u32 (n : Int) = n := by
 have e : IntKind.wrap .u32 (n : Int) = (n : Int) % 4294967296 := by simp [IntKind.wrap, IntKind.bits, IntKind.signed]
 rw [e]; omega
theorem Ll (n : Int) : IntKind.wrap .u32 n = n % 4294967296 := by simp [IntKind.wrap, IntKind.bits, IntKind.signed]
theorem wu {n : Int} (h : 0 ≤ n ∧ n < 4294967296) : IntKind.wrap .u32 n = n := by rw [Ll]; omega
theorem zT {a b : Nat} (ha : a < 4294967296) (hb : b < 4294967296) : a ^^^ b < 4294967296 := Nat.xor_lt_two_pow (n := 32) ha hb
theorem zH {a b : Nat} (ha : a < 4294967296) (hb : b < 4294967296) : bits .xor .u32 (a : Int) (b : Int) = ((a ^^^ b : Nat) : Int) := by
 have h3 := zT ha hb
 show IntKind.wrap .u32 (((BitVec.ofInt 32 (a : Int) ^^^ BitVec.ofInt 32 (b : Int)).toNat : Nat) : Int) = _
 rw [BitVec.toNat_xor, xX 32 a (by omega), xX 32 b (by omega)]
 exact wrap_u32 h3
theorem Eh {a : Nat} (ha : a < 4294967296) : bits .and .u32 (a : Int) 1 = ((a % 2 : Nat) : Int) := by
 show IntKind.wrap .u32 (((BitVec.ofInt 32 (a : Int) &&& BitVec.ofInt 32 ((1 : Nat) : Int)).toNat : Nat) : Int) = _
 rw [BitVec.toNat_and, xX 32 a (by omega), xX 32 1 (by omega), Nat.and_one_is_mod]
 exact wrap_u32 (by omega)
theorem Ki {a : Nat} (ha : a < 4294967296) : qe .shr .u32 (a : Int) 1 = some (.int .u32 ((a / 2 : Nat) : Int)) := by
 unfold qe
 rw [if_neg (by omega)]
 have e : (2 : Int) ^ min (Int.toNat 1) IntKind.u32.bits = 2 := by decide
 rw [e]
 show some (AV.int .u32 _) = _
 rw [Int.fdiv_eq_ediv_of_nonneg _ (by omega)]
 rfl
theorem G5 {h : H} {a : Nat} (ha : a < 4294967296) : tV h (.int .u32 (a : Int)) = some (.int .u32 ((4294967295 - a : Nat) : Int), h) := by
 rw [u0]
 have e : (if IntKind.u32.signed then -1 else IntKind.u32.max) = ((4294967295 : Nat) : Int) := by decide
 rw [e, zH (by omega) ha]
 have h2 : 4294967295 ^^^ a = 4294967295 - a := by
  have h1 : a < 2 ^ 32 := by simpa using ha
  have : 4294967295 - a = 2 ^ 32 - (a + 1) := by omega
  rw [this]
  apply Nat.eq_of_testBit_eq
  intro i
  rw [Nat.testBit_two_pow_sub_succ h1, Nat.testBit_xor, show 4294967295 = 2 ^ 32 - 1 from rfl, Nat.testBit_two_pow_sub_one]
  by_cases hi : i < 32
  · simp [hi]
  · have : a.testBit i = false := Nat.testBit_lt_two_pow (Nat.lt_of_lt_of_le h1 (VS (by omega) (by omega)))
    simp [hi, this]
 rw [h2]
def BX (c : Nat) : Nat := if c % 2 = 1 then (c / 2) ^^^ 3988292384 else c / 2
def CO : Nat → Nat → Nat
 | 0, c => c
 | n + 1, c => CO n (BX c)
def Bf (c b : Nat) : Nat := CO 8 (c ^^^ b)
def zJ (s : ByteArray) : Nat → Nat → Nat → Nat
 | 0, _, c => c
 | n + 1, i, c => zJ s n (i + 1) (Bf c (yR s i))
theorem Df {c : Nat} (h : c < 4294967296) : BX c < 4294967296 := by
 unfold BX; split
 · exact zT (by omega) (by omega)
 · omega
theorem Ep : ∀ (n : Nat) {c : Nat}, c < 4294967296 → CO n c < 4294967296
 | 0, _, h => h
 | n + 1, _, h => Ep n (Df h)
theorem B5 {c b : Nat} (hc : c < 4294967296) (hb : b < 256) : Bf c b < 4294967296 := Ep 8 (zT hc (by omega))
theorem Dh (s : ByteArray) : ∀ (n i : Nat) {c : Nat}, c < 4294967296 → zJ s n i c < 4294967296
 | 0, _, _, h => h
 | n + 1, i, _, h => Dh s n (i + 1) (B5 h (zZ s i))
theorem F5 (a b d : AV) (h : H) : ∀ (n c k : Nat), k + n = 8 → c < 4294967296 →
 ∃ e', Lp AP.A [1, 5, 12, 13, 22] AP.f103L0 [(1, a), (5, .int .u32 c), (12, b), (13, d), (22, .int .i64 k)] h = some (.exit 2, e', h) ∧ look e' 1 = a ∧ look e' 5 = .int .u32 (CO n c : Nat) ∧ look e' 12 = b ∧ look e' 13 = d
 | 0, c, k, hk, hc => by
   refine ⟨[(1, a), (5, .int .u32 c), (12, b), (13, d), (22, .int .i64 k), (23, .bool false)], ux ?_, rfl, rfl, rfl, rfl⟩
   simp (disch := omega) only [go_sem, wH, AP.f103L0]
 | n + 1, c, k, hk, hc => by
   obtain ⟨e', r1, r2, r3, r4, r5⟩ := F5 a b d h n (BX c) (k + 1) (by omega) (Df hc)
   have n1 : ((k + 1 : Nat) : Int) = (k : Int) + 1 := by omega
   have x1 := zH (a := c / 2) (b := 3988292384) (by omega) (by omega)
   have a1 := Eh hc
   have s1 := Ki hc
   refine ⟨e', uy ?_ r1, r2, r3, r4, r5⟩
   rw [n1]
   unfold BX
   by_cases p : c % 2 = 1
   · rw [if_pos p]
     rw [show ((3988292384 : Nat) : Int) = 3988292384 from rfl] at x1
     simp (disch := omega) only [go_sem, wH, AP.f103L0, a1, s1, x1]
   · rw [if_neg p]
     simp (disch := omega) only [go_sem, wH, AP.f103L0, a1, s1]
theorem F6 (s : ByteArray) (hs : s.size < 1125899906842624) (h : H) : ∀ (n i c : Nat), i + n = s.size → c < 4294967296 →
 ∃ e', Lp AP.A [1, 5, 12, 13] AP.f103L1 [(1, .str s), (5, .int .u32 c), (12, .int .i64 s.size), (13, .int .i64 i)] h = some (.exit 0, e', h) ∧ look e' 5 = .int .u32 (zJ s n i c : Nat)
 | 0, i, c, hi, hc => by
   refine ⟨[(1, .str s), (5, .int .u32 c), (12, .int .i64 s.size), (13, .int .i64 i), (14, .bool false)], ux ?_, rfl⟩
   simp (disch := omega) only [go_sem, wH, AP.f103L1]
 | n + 1, i, c, hi, hc => by
   have hb := zZ s i
   obtain ⟨e', r1, r2⟩ := F6 s hs h n (i + 1) (Bf c (yR s i)) (by omega) (B5 hc hb)
   obtain ⟨e1, q1, q2, q3, q4, q5⟩ := F5 (.str s) (.int .i64 s.size) (.int .i64 i) h 8 (c ^^^ yR s i) 0 rfl (zT hc (by omega))
   have q1' : Lp AP.A [1, 5, 12, 13, 22] AP.f103L0 [(1, .str s), (5, .int .u32 (c ^^^ yR s i : Nat)), (12, .int .i64 s.size), (13, .int .i64 i), (22, .int .i64 0)] h = some (.exit 2, e1, h) := q1
   clear q1
   have x1 := zH hc (show yR s i < 4294967296 by omega)
   have n1 : ((i + 1 : Nat) : Int) = (i : Int) + 1 := by omega
   refine ⟨e', uy ?_ r1, r2⟩
   rw [n1]
   unfold Bf
   simp (disch := omega) only [go_sem, wH, AP.f103L1, wu, x1, th, q1', q2, q3, q4, q5]
def EI (a : Nat) (s : ByteArray) : Nat := 4294967295 - zJ s s.size 0 (4294967295 - a)
theorem Ic (a : Nat) (s : ByteArray) : EI a s < 4294967296 := by unfold EI; omega
theorem QT (h : H) (s : ByteArray) (a : Nat) (ha : a < 4294967296) (hs : s.size < 1125899906842624) : aS AP.A 103 [.int .i64 a, .str s] h = some (.int .i64 (EI a s : Nat), h) := by
 obtain ⟨e', r1, r2⟩ := F6 s hs h.ez s.size 0 (4294967295 - a) (by omega) (by omega)
 have r1' : Lp AP.A [1, 5, 12, 13] AP.f103L1 [(1, .str s), (5, .int .u32 (4294967295 - a : Nat)), (12, .int .i64 s.size), (13, .int .i64 0)] h.ez = some (.exit 0, e', h.ez) := r1
 clear r1
 have lt := Dh s s.size 0 (c := 4294967295 - a) (by omega)
 have v1 : ∀ g : H, tV g (.int .u32 (a : Int)) = some (.int .u32 ((4294967295 - a : Nat) : Int), g) := fun g => G5 ha
 have v2 : ∀ g : H, tV g (.int .u32 (zJ s s.size 0 (4294967295 - a) : Nat)) = some (.int .u32 ((4294967295 - zJ s s.size 0 (4294967295 - a) : Nat) : Int), g) := fun g => G5 lt
 refine u7 (fn := AP.f103) (h2 := h.ez) (e := [(4, .int .i64 (EI a s : Nat))]) rfl rfl rfl ?_ rfl rfl
 unfold EI
 simp (disch := omega) only [go_sem, wH, AP.f103, wu, v1, v2, th, r1', r2]
def Oq (x : Int) : Bool := decide (0 ≤ x ∧ x ≤ 4294967295)
theorem UX (h : H) (x : Int) : aS AP.A 105 [.int .i64 x] h = some (.bool (Oq x), h) := by
 refine u7 (fn := AP.f105) (h2 := h.ez) (e := [(2, .bool (Oq x))]) rfl rfl rfl ?_ rfl rfl
 unfold Oq
 by_cases c1 : 0 ≤ x
 · by_cases c2 : x ≤ 4294967295
   · simp (disch := omega) only [go_sem, wH, AP.f105]
   · simp (disch := omega) only [go_sem, wH, AP.f105]
 · simp (disch := omega) only [go_sem, wH, AP.f105]
def zq (s : ByteArray) : Nat := EI 0 s
theorem Mn (h : H) (s : ByteArray) (hs : s.size < 1125899906842624) : aS AP.A 115 [.str s] h = some (.int .i64 (zq s : Nat), h) := by
 have k1 := QT h.ez s 0 (by omega) hs
 have k1' : aS AP.A 103 [.int .i64 0, .str s] h.ez = some (.int .i64 (zq s : Nat), h.ez) := k1
 refine u7 (fn := AP.f115) (h2 := h.ez) (e := [(2, .int .i64 (zq s : Nat))]) rfl rfl rfl ?_ rfl rfl
 simp (disch := omega) only [go_sem, wH, AP.f115, k1']
theorem GD (a d : AV) (h : H) : ∀ (n c k : Nat), k + n = 8 → c < 4294967296 →
 ∃ e', Lp AP.A [0, 1, 5, 6] AP.f111L0 [(0, .int .u32 c), (1, a), (5, d), (6, .int .i64 k)] h = some (.exit 2, e', h) ∧ look e' 1 = a ∧ look e' 0 = .int .u32 (CO n c : Nat) ∧ look e' 5 = d
 | 0, c, k, hk, hc => by
   refine ⟨[(0, .int .u32 c), (1, a), (5, d), (6, .int .i64 k), (20, .bool false)], ux ?_, rfl, rfl, rfl⟩
   simp (disch := omega) only [go_sem, wH, AP.f111L0]
 | n + 1, c, k, hk, hc => by
   obtain ⟨e', r1, r2, r3, r4⟩ := GD a d h n (BX c) (k + 1) (by omega) (Df hc)
   have n1 : ((k + 1 : Nat) : Int) = (k : Int) + 1 := by omega
   have x1 := zH (a := c / 2) (b := 3988292384) (by omega) (by omega)
   have a1 := Eh hc
   have s1 := Ki hc
   refine ⟨e', uy ?_ r1, r2, r3, r4⟩
   rw [n1]
   unfold BX
   by_cases p : c % 2 = 1
   · rw [if_pos p]
     rw [show ((3988292384 : Nat) : Int) = 3988292384 from rfl] at x1
     simp (disch := omega) only [go_sem, wH, AP.f111L0, a1, s1, x1]
   · rw [if_neg p]
     simp (disch := omega) only [go_sem, wH, AP.f111L0, a1, s1]
theorem GF (s : ByteArray) (hs : s.size < 1125899906842624) (h : H) : ∀ (n i c : Nat), i + n = s.size → c < 4294967296 →
 ∃ e', Lp AP.A [0, 1, 5] AP.f111L1 [(0, .int .u32 c), (1, .str s), (5, .int .i64 i)] h = some (.exit 0, e', h) ∧ look e' 0 = .int .u32 (zJ s n i c : Nat)
 | 0, i, c, hi, hc => by
   refine ⟨[(0, .int .u32 c), (1, .str s), (5, .int .i64 i), (10, .bool false)], ux ?_, rfl⟩
   simp (disch := omega) only [go_sem, wH, AP.f111L1]
 | n + 1, i, c, hi, hc => by
   have hb := zZ s i
   obtain ⟨e', r1, r2⟩ := GF s hs h n (i + 1) (Bf c (yR s i)) (by omega) (B5 hc hb)
   obtain ⟨e1, q1, q2, q3, q4⟩ := GD (.str s) (.int .i64 i) h 8 (c ^^^ yR s i) 0 rfl (zT hc (by omega))
   have q1' : Lp AP.A [0, 1, 5, 6] AP.f111L0 [(0, .int .u32 (c ^^^ yR s i : Nat)), (1, .str s), (5, .int .i64 i), (6, .int .i64 0)] h = some (.exit 2, e1, h) := q1
   clear q1
   have x1 := zH hc (show yR s i < 4294967296 by omega)
   have n1 : ((i + 1 : Nat) : Int) = (i : Int) + 1 := by omega
   refine ⟨e', uy ?_ r1, r2⟩
   rw [n1]
   unfold Bf
   simp (disch := omega) only [go_sem, wH, AP.f111L1, wu, x1, th, q1', q2, q3, q4]
theorem Ra (h : H) (s : ByteArray) (c : Nat) (hc : c < 4294967296) (hs : s.size < 1125899906842624) : aS AP.A 111 [.int .u32 c, .str s] h = some (.int .u32 (zJ s s.size 0 c : Nat), h) := by
 obtain ⟨e', r1, r2⟩ := GF s hs h.ez s.size 0 c (by omega) hc
 have r1' : Lp AP.A [0, 1, 5] AP.f111L1 [(0, .int .u32 c), (1, .str s), (5, .int .i64 0)] h.ez = some (.exit 0, e', h.ez) := r1
 clear r1
 refine u7 (fn := AP.f111) (h2 := h.ez) (e := [(4, .int .u32 (zJ s s.size 0 c : Nat))]) rfl rfl rfl ?_ rfl rfl
 simp (disch := omega) only [go_sem, wH, AP.f111, th, r1', r2]
theorem LO (h : H) (s : ByteArray) (hs : s.size < 1125899906842624) : aS AP.A 101 [.str s] h = some (.int .i64 (zq s : Nat), h) := by
 have k1 := Ra h.ez s 4294967295 (by omega) hs
 have k1' : aS AP.A 111 [.int .u32 4294967295, .str s] h.ez = some (.int .u32 (zJ s s.size 0 4294967295 : Nat), h.ez) := k1
 have lt := Dh s s.size 0 (c := 4294967295) (by omega)
 have v2 : ∀ g : H, tV g (.int .u32 (zJ s s.size 0 4294967295 : Nat)) = some (.int .u32 (zq s : Nat), g) := fun g => G5 lt
 have lt2 := Ic 0 s
 unfold zq at v2 ⊢
 refine u7 (fn := AP.f101) (h2 := h.ez) (e := [(2, .int .i64 (EI 0 s : Nat))]) rfl rfl rfl ?_ rfl rfl
 simp (disch := omega) only [go_sem, wH, AP.f101, k1', v2]
theorem IK {a s : Nat} (hs : s ≤ 64) : qe .shr .i64 (a : Int) (s : Int) = some (.int .i64 ((a / 2 ^ s : Nat) : Int)) := by
 unfold qe
 rw [if_neg (by omega)]
 simp only [IntKind.bits, Wm, Nat.min_eq_left hs]
 rw [Int.fdiv_eq_ediv_of_nonneg _ (Int.pow_nonneg (by omega))]
 simp
theorem HF {h : H} {v : AV} {k : Nat} {l : List Nat} (o : wW 1 h v k (zW l)) : uV h v (aT h 1 v) = some (.str (bytesOf l), h) := by
 rw [o.rd.1]
 simp only [uV, vO, GL]
 rcases o.2 with ⟨rfl, _⟩ | ⟨id, rfl, _⟩ <;> rfl
theorem Rm {k : IntKind} {i : Int} {n : Nat} (h : 0 ≤ i ∧ i < n) : dq (.int k i) n = some i.toNat := by simp [dq, oJ, h]
def okB (b : Nat) : Bool := decide (97 ≤ b ∧ b ≤ 122 ∨ 48 ≤ b ∧ b ≤ 57 ∨ b = 46 ∨ b = 45 ∨ b = 95)
def y9 (s : ByteArray) : Nat → Nat → Bool
 | 0, _ => false
 | n + 1, i => decide (i = yR s n) || y9 s n i
def NU : ByteArray := ⟨#[97, 98, 99, 100, 101, 102, 103, 104, 105, 106, 107, 108, 109, 110, 111, 112, 113, 114, 115, 116, 117, 118, 119, 120, 121, 122, 48, 49, 50, 51, 52, 53, 54, 55, 56, 57, 46, 45, 95]⟩
def bT (P : Nat → Bool) : List AV := oz 256 fun i => .bool (P i)
theorem BS (P : Nat → Bool) : (bT P).length = 256 := by simp [bT]
theorem OU (P : Nat → Bool) {i : Nat} (h : i < 256) : (bT P)[i]? = some (.bool (P i)) := gE h
theorem OX (s : ByteArray) (n : Nat) : (bT (y9 s n)).set (yR s n) (.bool true) = bT (y9 s (n + 1)) := by
 unfold bT
 rw [uP (zZ s n)]
 congr 1
 funext i
 have e : y9 s (n + 1) i = (decide (i = yR s n) || y9 s n i) := rfl
 rw [e]
 unfold vh
 by_cases h : i = yR s n
 · simp [h]
 · simp [h]
theorem Rq : bT (y9 NU 39) = bT okB := by
 unfold bT oz
 refine We fun i hi => ?_
 have hi' : i < 256 := Wp.1 hi
 have : ∀ i, i < 256 → y9 NU 39 i = okB i := by decide +kernel
 rw [this i hi']
theorem ES (g : Nat → Option (List AV)) (fl n : Nat) (t : Bool) : ∀ l : List Bool, fV (snap g fl (n + 1) t) (l.map .bool) = some (l.map .bool)
 | [] => rfl
 | b :: l => by
   have := ES g fl n t l
   simp only [VR, fV, this]; rfl
theorem NO (g : Nat → Option (List AV)) (fl n : Nat) (t : Bool) (P : Nat → Bool) : fV (snap g fl (n + 1) t) (bT P) = some (bT P) := by
 have e : bT P = ((List.range 256).map P).map .bool := by unfold bT oz; rw [List.map_map]; rfl
 rw [e]; exact ES g fl n t _
theorem LH (e : Env) : aX e (.alloc [.bool false, .bool false, .bool false, .bool false, .bool false, .bool false, .bool false, .bool false, .bool false, .bool false, .bool false, .bool false, .bool false, .bool false, .bool false, .bool false, .bool false, .bool false, .bool false, .bool false, .bool false, .bool false, .bool false, .bool false, .bool false, .bool false, .bool false, .bool false, .bool false, .bool false, .bool false, .bool false, .bool false, .bool false, .bool false, .bool false, .bool false, .bool false, .bool false, .bool false, .bool false, .bool false, .bool false, .bool false, .bool false, .bool false, .bool false, .bool false, .bool false, .bool false, .bool false, .bool false, .bool false, .bool false, .bool false, .bool false, .bool false, .bool false, .bool false, .bool false, .bool false, .bool false, .bool false, .bool false, .bool false, .bool false, .bool false, .bool false, .bool false, .bool false, .bool false, .bool false, .bool false, .bool false, .bool false, .bool false, .bool false, .bool false, .bool false, .bool false, .bool false, .bool false, .bool false, .bool false, .bool false, .bool false, .bool false, .bool false, .bool false, .bool false, .bool false, .bool false, .bool false, .bool false, .bool false, .bool false, .bool false, .bool false, .bool false, .bool false, .bool false, .bool false, .bool false, .bool false, .bool false, .bool false, .bool false, .bool false, .bool false, .bool false, .bool false, .bool false, .bool false, .bool false, .bool false, .bool false, .bool false, .bool false, .bool false, .bool false, .bool false, .bool false, .bool false, .bool false, .bool false, .bool false, .bool false, .bool false, .bool false, .bool false, .bool false, .bool false, .bool false, .bool false, .bool false, .bool false, .bool false, .bool false, .bool false, .bool false, .bool false, .bool false, .bool false, .bool false, .bool false, .bool false, .bool false, .bool false, .bool false, .bool false, .bool false, .bool false, .bool false, .bool false, .bool false, .bool false, .bool false, .bool false, .bool false, .bool false, .bool false, .bool false, .bool false, .bool false, .bool false, .bool false, .bool false, .bool false, .bool false, .bool false, .bool false, .bool false, .bool false, .bool false, .bool false, .bool false, .bool false, .bool false, .bool false, .bool false, .bool false, .bool false, .bool false, .bool false, .bool false, .bool false, .bool false, .bool false, .bool false, .bool false, .bool false, .bool false, .bool false, .bool false, .bool false, .bool false, .bool false, .bool false, .bool false, .bool false, .bool false, .bool false, .bool false, .bool false, .bool false, .bool false, .bool false, .bool false, .bool false, .bool false, .bool false, .bool false, .bool false, .bool false, .bool false, .bool false, .bool false, .bool false, .bool false, .bool false, .bool false, .bool false, .bool false, .bool false, .bool false, .bool false, .bool false, .bool false, .bool false, .bool false, .bool false, .bool false, .bool false, .bool false, .bool false, .bool false, .bool false, .bool false, .bool false, .bool false, .bool false, .bool false, .bool false, .bool false, .bool false, .bool false, .bool false, .bool false, .bool false, .bool false, .bool false, .bool false, .bool false, .bool false, .bool false, .bool false]) = some (bT fun _ => false, fun i => .aE i 0) := rfl
theorem Ka (s : ByteArray) (hs : s.size < 100000) (h7 : ∀ i, i < s.size → yR s i < 128) (id : Nat) : ∀ (m n : Nat) (h : H), n + m = s.size → h.get id = some (bT (y9 s n)) → h.floor ≤ id →
 ∃ e' h', Lp AP.A [0, 2, 4] AP.f127L0 [(0, .str s), (2, .aE id 0), (4, .int .i64 n)] h = some (.exit 0, e', h') ∧ look e' 2 = .aE id 0 ∧ h'.get id = some (bT (y9 s s.size)) ∧ h'.floor = h.floor
 | 0, n, h, hn, hg, hf => by
   obtain rfl : n = s.size := by omega
   refine ⟨[(0, .str s), (2, .aE id 0), (4, .int .i64 s.size), (9, .bool false)], h, ux ?_, rfl, hg, rfl⟩
   simp (disch := omega) only [go_sem, wH, AP.f127L0]
 | m + 1, n, h, hn, hg, hf => by
   have g2 : (h.set id (bT (y9 s (n + 1)))).get id = some (bT (y9 s (n + 1))) := by rw [wQ rfl, hg]; rfl
   obtain ⟨e', h', r1, r2, r3, r4⟩ := Ka s hs h7 id m (n + 1) _ (by omega) g2 (by simpa using hf)
   have n1 : ((n + 1 : Nat) : Int) = (n : Int) + 1 := by omega
   have hb := zZ s n
   have hb7 := h7 n (by omega)
   have ia : dq (.int .u8 (yR s n : Nat)) 256 = some (yR s n) := by rw [Rm (by omega)]; rfl
   have st : ve h id (yR s n) 1 [.bool true] (some (bT (y9 s n))) = some (h.set id (bT (y9 s (n + 1)))) := by rw [vA hf (by rw [BS]; exact hb) rfl, OX]
   refine ⟨e', h', uy ?_ r1, r2, r3, by rw [r4]; simp⟩
   rw [n1]
   generalize bT (y9 s n) = T at *
   generalize bT (y9 s (n + 1)) = T2 at *
   simp (disch := omega) only [go_sem, wH, AP.f127L0, ia, hg, st]
theorem Bx {h : H} {id n : Nat} {v cs : List AV} (hf : h.floor ≤ id) (hv : v.length = n) (hc : cs.length = n) (hs : AV.aC v = true) : ve h id 0 n v (some cs) = some (h.set id v) := by
 rw [Kk]
 have e : setFrom cs 0 v = v := by
  have := zo cs v [] [] (by omega)
  simpa using this
 simp [hf, hv, hc, hs, e, yE]
theorem Od (P : Nat → Bool) : AV.aC (bT P) = true := by
 have e : bT P = ((List.range 256).map P).map .bool := by unfold bT oz; rw [List.map_map]; rfl
 rw [e]
 generalize (List.range 256).map P = l
 induction l with
 | nil => rfl
 | cons b l ih => simp [ih]
theorem Q0 (P : Nat → Bool) : iG true 256 (bT P) 0 = some (.agg (bT P)) := by
 simp only [iG, if_true]
 rw [if_pos (by rw [BS]; omega), Wc, VY (by rw [BS]; omega)]
theorem NR (h : H) (s : ByteArray) (hs : s.size < 100000) (h7 : ∀ i, i < s.size → yR s i < 128) : aS AP.A 127 [.str s] h = some (.bU [.agg (bT (y9 s s.size)), .bool true], h) := by
 obtain ⟨h1, eh1⟩ : ∃ g, g = h.ez.alloc (bT fun _ => false) := ⟨_, rfl⟩
 have g1 : h1.get h.next = some (bT (y9 s 0)) := by rw [eh1, wM (by simp)]; rfl
 obtain ⟨e', h', r1, r2, r3, r4⟩ := Ka s hs h7 h.next s.size 0 h1 (by omega) g1 (by rw [eh1]; simp)
 have r1' : Lp AP.A [0, 2, 4] AP.f127L0 [(0, .str s), (2, .aE h.next 0), (4, .int .i64 0)] h1 = some (.exit 0, e', h') := r1
 clear r1
 obtain ⟨h2, eh2⟩ : ∃ g, g = h'.set h.next (bT (y9 s s.size)) := ⟨_, rfl⟩
 have st : ve h' h.next 0 256 (bT (y9 s s.size)) (some (bT (y9 s s.size))) = some h2 := by
  rw [Bx (by rw [r4, eh1]; simp) (BS _) (BS _) (Od _), eh2]
 have g2 : h2.get h.next = some (bT (y9 s s.size)) := by rw [eh2, wQ rfl, r3]; rfl
 have hn : h.ez.next = h.next := rfl
 have rd := Q0 (y9 s s.size)
 refine u7 (fn := AP.f127) (h2 := h2) (e := [(2, .aE h.next 0), (3, .bool true)]) (vs := [.agg (bT (y9 s s.size)), .bool true]) rfl rfl rfl ?_ ?_ ?_
 · generalize bT (y9 s s.size) = T at *
   simp (disch := omega) only [go_sem, AP.f127, LH, hn, ← eh1, th, r1', r2, r3, rd, st]
 · simp only [AP.f127, cO, od, nQ, rH, g2, uo, rd, mB, ne_eq, Nat.reduceEqDiff, not_false_eq_true]
   rfl
 · show (fV (snap h2.get h.next 15 true) [.agg (bT (y9 s s.size)), .bool true]).bind _ = _
   have m1 : snap h2.get h.next 15 true (.agg (bT (y9 s s.size))) = some (.agg (bT (y9 s s.size))) := by
    unfold snap; rw [NO]; rfl
   simp only [fV, m1]; rfl
theorem Oo (h : H) (id b : Nat) (P : Nat → Bool) (hg : h.get id = some (bT P)) (hb : b < 256) : aS AP.A 132 [.aE id 0, .int .u8 b] h = some (.bool (P b), h) := by
 have ia : dq (.int .u8 b) 256 = some b := by rw [Rm (by omega)]; congr 1
 have g := OU P hb
 refine uM (fn := AP.f132) (h2 := h) (e := [(4, .bool (P b))]) (vs := [.bool (P b)]) rfl rfl rfl ?_ rfl
 generalize bT P = T at *
 simp (disch := omega) only [go_sem, wH, AP.f132, ia, hg, g]
theorem HE {s : ByteArray} {n : Nat} (hn : n ≤ s.size) : oK (.str s) none (some (.int .i64 n)) = some (.str (s.extract 0 n)) := Nk hn
theorem Nl {s : ByteArray} {n : Nat} (hn : n ≤ s.size) : oK (.str s) (some (.int .i64 n)) none = some (.str (s.extract n s.size)) := by
 have : kQ (.int .i64 n) s.size = some n := II hn
 simp [oK, aB, this]
theorem D4 {s : ByteArray} {a b i : Nat} (hb : b ≤ s.size) (hi : a + i < b) : yR (s.extract a b) i = yR s (a + i) := by
 have e : (s.extract a b)[i]? = s[a + i]? := by
  show (s.extract a b).data[i]? = s.data[a + i]?
  rw [ByteArray.data_extract, Array.getElem?_extract]
  have : s.data.size = s.size := rfl
  rw [if_pos (by omega)]
 unfold yR; rw [e]
theorem Av {s : ByteArray} {a b : Nat} (hb : b ≤ s.size) : (s.extract a b).size = b - a := by simp [ByteArray.size_extract]; omega
theorem GV (s : ByteArray) : s.extract 0 s.size = s := by
 apply ByteArray.ext
 rw [ByteArray.data_extract]
 exact Array.extract_size
theorem ND (s : ByteArray) {n m : Nat} (hm : m ≤ n) : (s.extract 0 n).extract 0 m = s.extract 0 m := by
 apply ByteArray.ext
 rw [ByteArray.data_extract, ByteArray.data_extract, ByteArray.data_extract, Array.extract_extract]
 simp [hm]
theorem Fa (id : Nat) (P : Nat → Bool) (h : H) (hg : h.get id = some (bT P)) : ∀ (n : Nat) (s : ByteArray), s.size = n → n < 100000 →
 ∃ e' m, Lp AP.A [0, 1] AP.f129L0 [(0, .str s), (1, .aE id 0)] h = some (.exit 0, e', h) ∧ look e' 0 = .str (s.extract 0 m) ∧ m ≤ s.size ∧ (∀ i, m ≤ i → i < s.size → P (yR s i) = true) ∧ (0 < m → P (yR s (m - 1)) = false)
 | 0, s, hs, hn => by
   refine ⟨[(0, .str s), (1, .aE id 0), (7, .bool false)], 0, ux ?_, ?_, by omega, fun i h1 h2 => by omega, fun q => by omega⟩
   · simp (disch := omega) only [go_sem, wH, AP.f129L0]
   · show AV.str s = _
     congr 1
     have := GV s
     rw [hs] at this
     exact this.symm
 | n + 1, s, hs, hn => by
   have hb := zZ s n
   have k1 := Oo h id (yR s n) P hg hb
   have n1 : (s.size : Int) - 1 = (n : Int) := by omega
   have sl := HE (s := s) (n := n) (by omega)
   by_cases c : P (yR s n) = true
   · rw [c] at k1
     obtain ⟨e', m, r1, r2, r3, r4, r5⟩ := Fa id P h hg n (s.extract 0 n) (by rw [Av (by omega)]; omega) (by omega)
     rw [Av (by omega)] at r3 r4
     refine ⟨e', m, uy ?_ r1, ?_, by omega, fun i h1 h2 => ?_, fun q => ?_⟩
     · simp (disch := omega) only [go_sem, wH, AP.f129L0, n1, k1, sl]
     · rw [r2]; congr 1; exact ND s r3
     · by_cases hi : i = n
       · rw [hi]; exact c
       · have := r4 i h1 (by omega)
         rwa [D4 (by omega) (by omega), vW] at this
     · have := r5 q
       rwa [D4 (by omega) (by omega), vW] at this
   · have c' : P (yR s n) = false := by simpa using c
     rw [c'] at k1
     refine ⟨[(0, .str s), (1, .aE id 0), (15, .bool true)], s.size, ux ?_, ?_, vR _, fun i h1 h2 => by omega, fun q => by rw [hs]; exact c'⟩
     · simp (disch := omega) only [go_sem, wH, AP.f129L0, n1, k1]
     · show AV.str s = _
       congr 1
       exact (GV s).symm
theorem PV (s : ByteArray) {n : Nat} (h : s.size = n + 1) : (s.extract 1 s.size).size = n := by rw [Av (vR _)]; omega
theorem Gb (id : Nat) (P : Nat → Bool) (h : H) (hg : h.get id = some (bT P)) : ∀ (n : Nat) (s : ByteArray), s.size = n → n < 100000 → (0 < n → P (yR s (n - 1)) = false) →
 ∃ e' r, Lp AP.A [0, 1] AP.f128L0 [(0, .str s), (1, .aE id 0)] h = some (.exit 0, e', h) ∧ look e' 0 = .str r ∧ (r.size = 0 ↔ n = 0)
 | 0, s, hs, hn, hp => by
   refine ⟨[(0, .str s), (1, .aE id 0), (7, .bool false)], s, ux ?_, rfl, by omega⟩
   simp (disch := omega) only [go_sem, wH, AP.f128L0]
 | n + 1, s, hs, hn, hp => by
   have hb := zZ s 0
   have k1 := Oo h id (yR s 0) P hg hb
   have sl : oK (.str s) (some (.int .i64 1)) none = some (.str (s.extract 1 s.size)) := Nl (s := s) (n := 1) (by omega)
   have ix : ni (.str s) (.int .i64 0) = some (.int .u8 (yR s 0 : Nat)) := G3 (by omega)
   by_cases c : P (yR s 0) = true
   · rw [c] at k1
     have hn0 : n ≠ 0 := fun e => by subst e; have := hp (by omega); simp only [vW, Nat.sub_self] at this; rw [c] at this; cases this
     obtain ⟨e', r, r1, r2, r3⟩ := Gb id P h hg n (s.extract 1 s.size) (PV s hs) (by omega) (fun q => by
      rw [D4 (vR _) (by omega), show 1 + (n - 1) = n + 1 - 1 by omega]; exact hp (by omega))
     refine ⟨e', r, uy ?_ r1, r2, by omega⟩
     clear hp
     simp (disch := omega) only [go_sem, dt, df, Cy, AP.f128L0, k1, sl, ix, VO, Wg]
   · have c' : P (yR s 0) = false := by simpa using c
     rw [c'] at k1
     refine ⟨[(0, .str s), (1, .aE id 0), (12, .bool true)], s, ux ?_, rfl, by omega⟩
     clear hp
     simp (disch := omega) only [go_sem, dt, df, Cy, AP.f128L0, k1, sl, ix, VO, Wg]
def Eb (s : ByteArray) : Bool := (List.range s.size).all fun i => okB (yR s i)
theorem EW : NU.size = 39 := rfl
theorem OW : bT (y9 NU NU.size) = bT okB := Rq
theorem U8 (h : H) (s : ByteArray) (id : Nat) (P : Nat → Bool) (hg : h.get id = some (bT P)) (hs : s.size < 100000) (hp : 0 < s.size → P (yR s (s.size - 1)) = false) : ∃ r, aS AP.A 128 [.str s, .aE id 0] h = some (.str r, h) ∧ (r.size = 0 ↔ s.size = 0) := by
 obtain ⟨e', r, r1, r2, r3⟩ := Gb id P h hg s.size s rfl hs hp
 refine ⟨r, uM (fn := AP.f128) (h2 := h) (e := [(4, .str r)]) (vs := [.str r]) rfl rfl rfl ?_ rfl, r3⟩
 clear hp
 simp only [go_sem, AP.f128, th, r1, r2]
theorem U9 (h : H) (s : ByteArray) (id : Nat) (P : Nat → Bool) (hg : h.get id = some (bT P)) (hs : s.size < 100000) :
 ∃ m, aS AP.A 129 [.str s, .aE id 0] h = some (.str (s.extract 0 m), h) ∧ m ≤ s.size ∧ (∀ i, m ≤ i → i < s.size → P (yR s i) = true) ∧ (0 < m → P (yR s (m - 1)) = false) := by
 obtain ⟨e', m, r1, r2, r3, r4, r5⟩ := Fa id P h hg s.size s rfl hs
 refine ⟨m, uM (fn := AP.f129) (h2 := h) (e := [(4, .str (s.extract 0 m))]) (vs := [.str (s.extract 0 m)]) rfl rfl rfl ?_ rfl, r3, r4, r5⟩
 simp only [go_sem, AP.f129, th, r1, r2]
theorem JH {a b : ByteArray} (h : a ≠ b) : (a.data.toList == b.data.toList) = false := by
 rw [beq_eq_false_iff_ne]
 intro e
 apply h
 apply ByteArray.ext
 exact Array.toList_inj.1 e
theorem MO (a : ByteArray) : (a.data.toList == a.data.toList) = true := by simp
theorem Q9 (h : H) (s : ByteArray) (h0 : 0 < s.size) (hs : s.size < 100000) : ∃ r, aS AP.A 124 [.str s, .str NU] h = some (.str r, h) ∧ (r.size = 0 ↔ Eb s = true) := by
 have m1 := NR h.ez NU (by rw [EW]; omega) (by rw [EW]; decide +kernel)
 rw [OW] at m1
 obtain ⟨h1, eh1⟩ : ∃ g, g = h.ez.alloc (bT fun _ => false) := ⟨_, rfl⟩
 have hn : h.ez.next = h.next := rfl
 have g1 : h1.get h.next = some (bT fun _ => false) := by rw [eh1, wM (by simp)]
 obtain ⟨h2, eh2⟩ : ∃ g, g = h1.set h.next (bT okB) := ⟨_, rfl⟩
 have st : ve h1 h.next 0 256 (bT okB) (some (bT fun _ => false)) = some h2 := by
  rw [Bx (by rw [eh1]; simp) (BS _) (BS _) (Od _), eh2]
 have g2 : h2.get h.next = some (bT okB) := by rw [eh2, wQ rfl, g1]; rfl
 obtain ⟨m, a1, a2, a3, a4⟩ := U9 h2 s h.next okB g2 hs
 have sz := Av (s := s) (a := 0) (b := m) a2
 obtain ⟨r, b1, b2⟩ := U8 h2 (s.extract 0 m) h.next okB g2 (by omega) (fun q => by
  rw [sz, Nat.sub_zero, D4 a2 (by omega), vW]; exact a4 (by omega))
 refine ⟨r, ?_, ?_⟩
 · have e1 : bw .eql (.str s) (.str ⟨#[]⟩) = some (.bool false) := by
    rw [AL, JH]; intro e; rw [e] at h0; exact absurd h0 (by decide)
   have e2 : bw .eql (.str NU) (.str ⟨#[]⟩) = some (.bool false) := by
    rw [AL, JH]; intro e; have := EW; rw [e] at this; exact absurd this (by decide)
   have l2 : jy true (.str NU) = some (.int .i64 39) := rfl
   refine u7 (fn := AP.f124) (h2 := h2) (e := [(4, .str r)]) rfl rfl rfl ?_ rfl rfl
   clear a3 a4
   generalize bT okB = T at *
   generalize hT : (bT fun _ => false) = T0 at *
   have ba : ∀ e : Env, aX e (.alloc [.bool false, .bool false, .bool false, .bool false, .bool false, .bool false, .bool false, .bool false, .bool false, .bool false, .bool false, .bool false, .bool false, .bool false, .bool false, .bool false, .bool false, .bool false, .bool false, .bool false, .bool false, .bool false, .bool false, .bool false, .bool false, .bool false, .bool false, .bool false, .bool false, .bool false, .bool false, .bool false, .bool false, .bool false, .bool false, .bool false, .bool false, .bool false, .bool false, .bool false, .bool false, .bool false, .bool false, .bool false, .bool false, .bool false, .bool false, .bool false, .bool false, .bool false, .bool false, .bool false, .bool false, .bool false, .bool false, .bool false, .bool false, .bool false, .bool false, .bool false, .bool false, .bool false, .bool false, .bool false, .bool false, .bool false, .bool false, .bool false, .bool false, .bool false, .bool false, .bool false, .bool false, .bool false, .bool false, .bool false, .bool false, .bool false, .bool false, .bool false, .bool false, .bool false, .bool false, .bool false, .bool false, .bool false, .bool false, .bool false, .bool false, .bool false, .bool false, .bool false, .bool false, .bool false, .bool false, .bool false, .bool false, .bool false, .bool false, .bool false, .bool false, .bool false, .bool false, .bool false, .bool false, .bool false, .bool false, .bool false, .bool false, .bool false, .bool false, .bool false, .bool false, .bool false, .bool false, .bool false, .bool false, .bool false, .bool false, .bool false, .bool false, .bool false, .bool false, .bool false, .bool false, .bool false, .bool false, .bool false, .bool false, .bool false, .bool false, .bool false, .bool false, .bool false, .bool false, .bool false, .bool false, .bool false, .bool false, .bool false, .bool false, .bool false, .bool false, .bool false, .bool false, .bool false, .bool false, .bool false, .bool false, .bool false, .bool false, .bool false, .bool false, .bool false, .bool false, .bool false, .bool false, .bool false, .bool false, .bool false, .bool false, .bool false, .bool false, .bool false, .bool false, .bool false, .bool false, .bool false, .bool false, .bool false, .bool false, .bool false, .bool false, .bool false, .bool false, .bool false, .bool false, .bool false, .bool false, .bool false, .bool false, .bool false, .bool false, .bool false, .bool false, .bool false, .bool false, .bool false, .bool false, .bool false, .bool false, .bool false, .bool false, .bool false, .bool false, .bool false, .bool false, .bool false, .bool false, .bool false, .bool false, .bool false, .bool false, .bool false, .bool false, .bool false, .bool false, .bool false, .bool false, .bool false, .bool false, .bool false, .bool false, .bool false, .bool false, .bool false, .bool false, .bool false, .bool false, .bool false, .bool false, .bool false, .bool false, .bool false, .bool false, .bool false, .bool false, .bool false, .bool false, .bool false, .bool false, .bool false, .bool false, .bool false, .bool false, .bool false, .bool false, .bool false, .bool false, .bool false, .bool false, .bool false, .bool false, .bool false, .bool false, .bool false, .bool false, .bool false, .bool false, .bool false, .bool false, .bool false, .bool false, .bool false, .bool false, .bool false]) = some (T0, fun i => .aE i 0) := fun e => by rw [LH, hT]
   simp (disch := omega) only [go_sem, AP.f124, ba, hn, ← eh1, e1, e2, l2, UT, m1, g1, st, a1, b1]
 · rw [b2, sz]
   unfold Eb
   rw [List.all_eq_true]
   constructor
   · intro q i hi
     exact a3 i (by omega) (Wp.1 hi)
   · intro q
     by_cases hm : m = 0
     · omega
     · have := a4 (by omega)
       rw [q (m - 1) (Wp.2 (by omega))] at this
       cases this
def PR : ByteArray := ⟨#[46]⟩
def Ez : ByteArray := ⟨#[46, 46]⟩
def zu (s : ByteArray) : Bool := decide (1 ≤ s.size) && (decide (s.size ≤ 8) && (Eb s && (!(s.data.toList == PR.data.toList) && !(s.data.toList == Ez.data.toList))))
theorem QW (h : H) (s : ByteArray) (hs : s.size < 1125899906842624) : aS AP.A 121 [.str s] h = some (.bool (zu s), h) := by
 refine u7 (fn := AP.f121) (h2 := h.ez) (e := [(2, .bool (zu s))]) rfl rfl rfl ?_ rfl rfl
 unfold zu
 by_cases c1 : 1 ≤ s.size
 · by_cases c2 : s.size ≤ 8
   · obtain ⟨r, t1, t2⟩ := Q9 h.ez s (by omega) (by omega)
     have t1' : aS AP.A 124 [.str s, .str ⟨#[97, 98, 99, 100, 101, 102, 103, 104, 105, 106, 107, 108, 109, 110, 111, 112, 113, 114, 115, 116, 117, 118, 119, 120, 121, 122, 48, 49, 50, 51, 52, 53, 54, 55, 56, 57, 46, 45, 95]⟩] h.ez = some (.str r, h.ez) := t1
     have e1 : bw .eql (.str r) (.str ⟨#[]⟩) = some (.bool (Eb s)) := by
      rw [AL]
      by_cases q : Eb s = true
      · rw [q]
        have : r = ⟨#[]⟩ := by
         apply ByteArray.ext
         exact Array.size_eq_zero_iff.1 (t2.2 q)
        rw [this, MO]
      · have q' : Eb s = false := by simpa using q
        rw [q', JH]
        intro e
        rw [e] at t2
        exact q (t2.1 rfl)
     have e2 : bw .neq (.str s) (.str ⟨#[46]⟩) = some (.bool (!(s.data.toList == PR.data.toList))) := D8 _ _
     have e3 : bw .neq (.str s) (.str ⟨#[46, 46]⟩) = some (.bool (!(s.data.toList == Ez.data.toList))) := D8 _ _
     clear t1 t2
     generalize (!(s.data.toList == PR.data.toList)) = B2 at *
     generalize (!(s.data.toList == Ez.data.toList)) = B3 at *
     generalize Eb s = B1 at *
     cases B1 <;> cases B2 <;> cases B3 <;> simp (disch := omega) only [go_sem, wH, AP.f121, t1', e1, e2, e3]
   · simp (disch := omega) only [go_sem, wH, AP.f121]
 · simp (disch := omega) only [go_sem, wH, AP.f121]
def zO (s : ByteArray) (i j : Nat) : Nat → Nat → Nat
 | 0, k => k
 | f + 1, k => if k < 258 ∧ i + k < s.size ∧ yR s (i + k) = yR s (j + k) then zO s i j f (k + 1) else k
theorem Gt (s : ByteArray) (i j : Nat) (hs : s.size < 100000) (hj : j ≤ i) (hi : i ≤ s.size) (h : H) : ∀ (f k : Nat), k + f = 258 →
 ∃ e', Lp AP.A [0, 1, 2, 7] AP.f26L0 [(0, .str s), (1, .int .i64 i), (2, .int .i64 j), (7, .int .i64 k)] h = some (.exit 0, e', h) ∧ look e' 7 = .int .i64 (zO s i j f k : Nat)
 | 0, k, hk => by
   refine ⟨[(0, .str s), (1, .int .i64 i), (2, .int .i64 j), (7, .int .i64 k), (30, .bool false)], ux ?_, rfl⟩
   simp (disch := omega) only [go_sem, wH, AP.f26L0]
 | f + 1, k, hk => by
   have n1 : ((k : Int) + 1) = ((k + 1 : Nat) : Int) := by omega
   by_cases c1 : i + k < s.size
   · by_cases c2 : yR s (i + k) = yR s (j + k)
     · obtain ⟨e', r1, r2⟩ := Gt s i j hs hj hi h f (k + 1) (by omega)
       refine ⟨e', uy ?_ r1, ?_⟩
       · rw [← n1]
         simp (disch := omega) only [go_sem, wH, AP.f26L0]
       · rw [r2, zO, if_pos ⟨by omega, c1, c2⟩]
     · refine ⟨[(0, .str s), (1, .int .i64 i), (2, .int .i64 j), (7, .int .i64 k), (30, .bool false)], ux ?_, ?_⟩
       · simp (disch := omega) only [go_sem, wH, AP.f26L0]
       · rw [zO, if_neg (fun q => c2 q.2.2)]; rfl
   · refine ⟨[(0, .str s), (1, .int .i64 i), (2, .int .i64 j), (7, .int .i64 k), (30, .bool false)], ux ?_, ?_⟩
     · simp (disch := omega) only [go_sem, wH, AP.f26L0]
     · rw [zO, if_neg (fun q => c1 q.2.1)]; rfl
def same (s : ByteArray) (i j : Nat) : Nat := zO s i j 258 0
theorem Q2 (h : H) (s : ByteArray) (i j : Nat) (hs : s.size < 100000) (hj : j ≤ i) (hi : i ≤ s.size) : aS AP.A 26 [.str s, .int .i64 i, .int .i64 j] h = some (.int .i64 (same s i j : Nat), h) := by
 obtain ⟨e', r1, r2⟩ := Gt s i j hs hj hi h.ez 258 0 rfl
 have r1' : Lp AP.A [0, 1, 2, 7] AP.f26L0 [(0, .str s), (1, .int .i64 i), (2, .int .i64 j), (7, .int .i64 0)] h.ez = some (.exit 0, e', h.ez) := r1
 clear r1
 refine u7 (fn := AP.f26) (h2 := h.ez) (e := [(6, .int .i64 (same s i j : Nat))]) rfl rfl rfl ?_ rfl rfl
 simp (disch := omega) only [go_sem, wH, AP.f26, th, r1', r2, same]
def yk (s : ByteArray) (i : Nat) : Nat → Nat × Nat → Nat × Nat
 | 0, b => b
 | j + 1, b => yk s i j (if b.1 < same s i j then (same s i j, i - j) else b)
theorem IH (s : ByteArray) (i j : Nat) : ∀ f k, zO s i j f k ≤ k + f
 | 0, k => by simp [zO]
 | f + 1, k => by
   unfold zO
   split
   · have := IH s i j f (k + 1); omega
   · omega
theorem Kg (s : ByteArray) (i j : Nat) : same s i j ≤ 258 := by have := IH s i j 258 0; unfold same; omega
theorem Fc (s : ByteArray) (i j : Nat) (hi : i ≤ s.size) : ∀ f k, i + k ≤ s.size → i + zO s i j f k ≤ s.size
 | 0, k, h => by simpa [zO] using h
 | f + 1, k, h => by
   unfold zO
   split
   · rename_i q; exact Fc s i j hi f (k + 1) (by omega)
   · exact h
theorem Gu (s : ByteArray) (i j : Nat) (hi : i ≤ s.size) : i + same s i j ≤ s.size := Fc s i j hi 258 0 (by omega)
theorem BT (s : ByteArray) (i : Nat) (hi : i ≤ s.size) : ∀ (j : Nat) (b : Nat × Nat), i + b.1 ≤ s.size → i + (yk s i j b).1 ≤ s.size
 | 0, b, h => h
 | j + 1, b, h => by
   unfold yk
   refine BT s i hi j _ ?_
   split
   · exact Gu s i j hi
   · exact h
theorem Dc (s : ByteArray) (i : Nat) (hs : s.size < 100000) (hi : i < s.size) (v4 : AV) (h : H) : ∀ (n : Nat) (b : Nat × Nat) (j : Int), n ≤ i → j = (n : Int) - 1 →
 ∃ e', Lp AP.A [0, 4, 5, 6, 7, 8] AP.f12L0 [(0, .str s), (4, v4), (5, .int .i64 i), (6, .int .i64 b.1), (7, .int .i64 b.2), (8, .int .i64 j)] h = some (.exit 2, e', h) ∧
   look e' 0 = .str s ∧ look e' 4 = v4 ∧ look e' 5 = .int .i64 i ∧ look e' 6 = .int .i64 (yk s i n b).1 ∧ look e' 7 = .int .i64 (yk s i n b).2
 | 0, b, j, hn, hj => by
   refine ⟨[(0, .str s), (4, v4), (5, .int .i64 i), (6, .int .i64 b.1), (7, .int .i64 b.2), (8, .int .i64 j), (20, .bool false)], ux ?_, rfl, rfl, rfl, rfl, rfl⟩
   simp (disch := omega) only [go_sem, wH, AP.f12L0]
 | n + 1, b, j, hn, hj => by
   obtain rfl : j = (n : Int) := by omega
   have k1 := Q2 h s i n hs (by omega) (by omega)
   have k2 := Kg s i n
   have n1 : (i : Int) - (n : Int) = ((i - n : Nat) : Int) := by omega
   by_cases c : b.1 < same s i n
   · obtain ⟨e', r1, r2, r3, r4, r5, r6⟩ := Dc s i hs hi v4 h n (same s i n, i - n) ((n : Int) - 1) (by omega) rfl
     refine ⟨e', uy ?_ r1, r2, r3, r4, ?_, ?_⟩
     · simp (disch := omega) only [go_sem, wH, AP.f12L0, k1, n1]
     · rw [r5, yk, if_pos c]
     · rw [r6, yk, if_pos c]
   · obtain ⟨e', r1, r2, r3, r4, r5, r6⟩ := Dc s i hs hi v4 h n b ((n : Int) - 1) (by omega) rfl
     refine ⟨e', uy ?_ r1, r2, r3, r4, ?_, ?_⟩
     · simp (disch := omega) only [go_sem, wH, AP.f12L0, k1, n1]
     · rw [r5, yk, if_neg c]
     · rw [r6, yk, if_neg c]
structure Tok where
 lit : Int
 len : Int
 xa : Int
deriving DecidableEq
def N7 (t : Tok) : List Int := [t.lit, t.len, t.xa]
def JJ (t : Tok) : List AV := ints (N7 t)
def OT (ts : List Tok) : List Int := ts.flatMap N7
def xC (ts : List Tok) : List AV := ts.flatMap JJ
theorem Fq (t : Tok) : (JJ t).length = 3 := rfl
theorem Le (ts : List Tok) : (xC ts).length = ts.length * 3 := Dk Fq ts
theorem Cv : ∀ ts : List Tok, xC ts = ints (OT ts)
 | [] => rfl
 | t :: ts => by
   have := Cv ts
   unfold xC OT at *
   rw [VQ, VQ, qx, this]; rfl
theorem JK (ts : List Tok) (t : Tok) : xC (ts ++ [t]) = xC ts ++ JJ t := by simp [xC]
def xV (s : ByteArray) (i : Nat) : Tok × Nat :=
 if (yk s i i (0, 0)).1 < 3 then (⟨yR s i, 0, 0⟩, i + 1) else (⟨0, (yk s i i (0, 0)).1, (yk s i i (0, 0)).2⟩, i + (yk s i i (0, 0)).1)
def Cu (s : ByteArray) : Nat → Nat → List Tok
 | 0, _ => []
 | f + 1, i => if i < s.size then (xV s i).1 :: Cu s f (xV s i).2 else []
theorem I4 (s : ByteArray) (i : Nat) : i < (xV s i).2 := by
 unfold xV; split <;> simp <;> omega
theorem I3 (s : ByteArray) (i : Nat) (hi : i < s.size) : (xV s i).2 ≤ s.size := by
 unfold xV; split
 · exact hi
 · exact BT s i (by omega) i (0, 0) (by show i + 0 ≤ _; omega)
theorem I5 (s : ByteArray) (i : Nat) (hi : s.size ≤ i) (h : H) (ov : AV) : ∃ e', Lp AP.A [0, 4, 5] AP.f12L1 [(0, .str s), (4, ov), (5, .int .i64 i)] h = some (.exit 0, e', h) ∧ look e' 4 = ov := by
 refine ⟨[(0, .str s), (4, ov), (5, .int .i64 i), (16, .bool false)], ux ?_, rfl⟩
 simp (disch := omega) only [go_sem, wH, AP.f12L1]
theorem MX (s : ByteArray) (hs : s.size < 100000) : ∀ (f i : Nat) (h : H) (ov : AV) (ts : List Tok), s.size - i ≤ f → i ≤ s.size → ts.length ≤ i → wW 3 h ov ts.length (xC ts) → h.floor ≤ h.next →
 ∃ e' h' ov', Lp AP.A [0, 4, 5] AP.f12L1 [(0, .str s), (4, ov), (5, .int .i64 i)] h = some (.exit 0, e', h') ∧ look e' 4 = ov' ∧ wW 3 h' ov' (ts ++ Cu s f i).length (xC (ts ++ Cu s f i)) ∧ h'.floor = h.floor ∧ h.next ≤ h'.next := by
 intro f
 induction f with
 | zero =>
   intro i h ov ts hf hi hts o hfn
   obtain ⟨e', r1, r2⟩ := I5 s i (by omega) h ov
   exact ⟨e', h, ov, r1, r2, by simpa [Cu] using o, rfl, vR _⟩
 | succ f ih =>
   intro i h ov ts hf hi hts o hfn
   by_cases c0 : i < s.size
   · obtain ⟨e1, q1, q2, q3, q4, q5, q6⟩ := Dc s i hs c0 ov h i (0, 0) ((i : Int) - 1) (by omega) rfl
     have q1' : Lp AP.A [0, 4, 5, 6, 7, 8] AP.f12L0 [(0, .str s), (4, ov), (5, .int .i64 i), (6, .int .i64 0), (7, .int .i64 0), (8, .int .i64 ((i : Int) - 1))] h = some (.exit 2, e1, h) := q1
     clear q1
     have hb := zZ s i
     have hr := BT s i (by omega) i (0, 0) (by show i + 0 ≤ _; omega)
     have lt := I4 s i
     have le := I3 s i c0
     obtain ⟨t, i', et⟩ : ∃ t i', xV s i = (t, i') := ⟨_, _, rfl⟩
     have et0 := et
     rw [et] at lt le
     simp only at lt le
     obtain ⟨v', h', p1, p2, p3, p4, p5, p6⟩ := o.push hfn (z := 24) (m := 1) (by omega) (by omega) (JJ t) rfl rfl (by simp [roomy]; omega)
     have step : aM (aS AP.A) bG AP.f12L1 (ay [(0, .str s), (4, ov), (5, .int .i64 i)] [0, 4, 5]) h = some (.normal, [(0, .str s), (4, v'), (5, .int .i64 i')], h') := by
      unfold xV at et
      by_cases c1 : (yk s i i (0, 0)).1 < 3
      · rw [if_pos c1] at et
        obtain ⟨rfl, rfl⟩ := vJ et
        simp only [JJ, N7, ints, VR, Wk, I] at p1
        have n1 : ((i + 1 : Nat) : Int) = (i : Int) + 1 := by omega
        simp (disch := omega) only [go_sem, wH, AP.f12L1, th, q1', q2, q3, q4, q5, q6, p1, n1]
      · rw [if_neg c1] at et
        obtain ⟨rfl, rfl⟩ := vJ et
        simp only [JJ, N7, ints, VR, Wk, I] at p1
        have n1 : ((i + (yk s i i (0, 0)).1 : Nat) : Int) = (i : Int) + ((yk s i i (0, 0)).1 : Nat) := by omega
        simp (disch := omega) only [go_sem, wH, AP.f12L1, th, q1', q2, q3, q4, q5, q6, p1, n1]
     have o2 : wW 3 h' v' (ts ++ [t]).length (xC (ts ++ [t])) := by rw [JK, wo]; exact p2
     obtain ⟨e', h2, ov', r1, r2, r3, r4, r5⟩ := ih i' h' v' (ts ++ [t]) (by omega) le (by simp; omega) o2 (by omega)
     refine ⟨e', h2, ov', uy step r1, r2, ?_, by omega, by omega⟩
     rw [Cu, if_pos c0, et0]
     simpa using r3
   · obtain ⟨e', r1, r2⟩ := I5 s i (by omega) h ov
     exact ⟨e', h, ov, r1, r2, by simpa [Cu, c0] using o, rfl, vR _⟩
def GB (ts : List Tok) : AV := Aa 3 ts.length (xC ts)
def tokens (s : ByteArray) : List Tok := Cu s s.size 0
theorem MY (h : H) (s : ByteArray) (hs : s.size < 1125899906842624) : aS AP.A 12 [.str s] h = some (if 300 < s.size then .bU [.aQ, .int .i64 500] else .bU [GB (tokens s), .int .i64 0], h) := by
 by_cases c : 300 < s.size
 · rw [if_pos c]
   refine u7 (fn := AP.f12) (h2 := h.ez) (e := [(2, .aQ), (3, .int .i64 500)]) rfl rfl rfl ?_ rfl rfl
   simp (disch := omega) only [go_sem, wH, AP.f12]
 · rw [if_neg c]
   obtain ⟨e', h', ov', r1, r2, r3, r4, r5⟩ := MX s (by omega) s.size 0 h.ez .aQ [] (by omega) (by omega) (by simp) wW.nil (by simp)
   have r1' : Lp AP.A [0, 4, 5] AP.f12L1 [(0, .str s), (4, .aQ), (5, .int .i64 0)] h.ez = some (.exit 0, e', h') := r1
   clear r1
   rw [List.nil_append] at r3
   refine u7 (fn := AP.f12) (h2 := h') (e := [(2, ov'), (3, .int .i64 0)]) (vs := [ov', .int .i64 0]) rfl rfl rfl ?_ rfl ?_
   · simp (disch := omega) only [go_sem, wH, AP.f12, th, r1', r2]
   · have o' := r3
     rw [Cv] at o'
     have s1 := o'.yC (fl := h.next) (m := 13) (t := true) (by rw [r4]; simp)
     show (fV (snap h'.get h.next 15 true) [ov', .int .i64 0]).bind _ = _
     simp only [fV, s1, vO]
     rw [← Cv]; rfl
def Ext (h g : H) : Prop := ∀ id c, h.get id = some c → g.get id = some c
theorem Ext.refl (h : H) : Ext h h := fun _ _ q => q
theorem Ext.trans {a b c : H} (x : Ext a b) (y : Ext b c) : Ext a c := fun i d q => y i d (x i d q)
theorem Ext.alloc {a h : H} (x : Ext a h) (cs : List AV) : Ext a (h.alloc cs) := fun i d q => by
 have := h.lt _ _ (x i d q)
 rw [H.aW, if_neg (by omega)]; exact x i d q
theorem Ext.set {a h : H} (x : Ext a h) {id : Nat} (hid : a.next ≤ id) (cs : List AV) : Ext a (h.set id cs) := fun i d q => by
 have := a.lt _ _ q
 rw [H.dQ, if_neg (by omega)]; exact x i d q
theorem zU.Ld {h : H} {v : AV} {ts : List Tok} (r : zU 3 h v ts.length (xC ts)) : ∃ ad : Int → Nat → AV,
 (∀ i : Int, 0 ≤ i ∧ i < ts.length → gG 3 v (.int .i64 i) = some (ad i 0)) ∧
 (∀ (i : Int) (f g : Nat), 0 ≤ i ∧ i < ts.length → fJ g (ad i f) = some (ad i (f + g))) ∧
 ∀ g : H, Ext h g → ∀ (i : Nat) (t : Tok), ts[i]? = some t → cJ false 1 (ad i 0) g = some (.int .i64 t.lit) ∧ cJ false 1 (ad i 1) g = some (.int .i64 t.len) ∧ cJ false 1 (ad i 2) g = some (.int .i64 t.xa) ∧
   cJ true 3 (ad i 0) g = some (.agg [.int .i64 t.lit, .int .i64 t.len, .int .i64 t.xa]) := by
 obtain ⟨ad, a1, a2, _, a3⟩ := r.at_
 refine ⟨ad, a1, a2, fun g hg i t ht => ?_⟩
 obtain ⟨b1, b2⟩ := a3 g hg
 have hi : i < ts.length := (vN.1 ht).1
 have hI : (0 : Int) ≤ (i : Int) ∧ (i : Int) < ts.length := ⟨by omega, by omega⟩
 have ti : ((i : Int)).toNat = i := by omega
 have q : ∀ f, f < 3 → (xC ts)[((i : Int)).toNat * 3 + f]? = (JJ t)[f]? := fun f hf => by rw [ti]; exact GX Fq ht hf
 refine ⟨b1 i 0 _ hI (q 0 (by omega)), b1 i 1 _ hI (q 1 (by omega)), b1 i 2 _ hI (q 2 (by omega)), ?_⟩
 rw [b2 i hI, ti, xC, GY Fq ht]; rfl
def yc (size : Int) (t : Tok) : Option Int :=
 if t.len = 0 then (if t.lit < 0 ∨ 255 < t.lit ∨ t.xa ≠ 0 then none else some (size + 1))
 else if t.len < 3 ∨ 258 < t.len ∨ t.xa < 1 ∨ 32768 < t.xa ∨ size < t.xa ∨ t.lit ≠ 0 then none else some (size + t.len)
def w9 : Int → List Tok → Bool
 | _, [] => true
 | s, t :: r => match yc s t with
   | none => false
   | some s' => if 8192 < s' then false else w9 s' r
theorem MV {v a0 : AV} {n i : Nat} {s : Int} {t : Tok} {h h1 : H} (hi : i < n) (hfl : h.floor ≤ h.next) (ln : jy false v = some (.int .i64 n)) (b1 : gG 3 v (.int .i64 i) = some a0) (b2 : cJ true 3 a0 h = some (.agg [.int .i64 t.lit, .int .i64 t.len, .int .i64 t.xa]))
 (eh1 : h1 = (h.alloc [.int .i64 0, .int .i64 0, .int .i64 0]).set h.next [.int .i64 t.lit, .int .i64 t.len, .int .i64 t.xa]) (g1 : h1.get h.next = some [.int .i64 t.lit, .int .i64 t.len, .int .i64 t.xa]) (hb : yc s t = none) :
 aM (aS AP.A) bG AP.f69L0 (ay [(0, v), (3, .int .i64 s), (4, .int .i64 i)] [0, 3, 4]) h = some (.ret, [(2, .bool false)], h1) := by
 unfold yc at hb
 by_cases c0 : t.len = 0
 · rw [if_pos c0] at hb
   have hb' : t.lit < 0 ∨ 255 < t.lit ∨ t.xa ≠ 0 := by
    by_cases c : t.lit < 0 ∨ 255 < t.lit ∨ t.xa ≠ 0
    · exact c
    · rw [if_neg c] at hb; cases hb
   by_cases d1 : t.lit < 0
   · clear hb' hb; simp (disch := omega) only [go_sem, wH, AP.f69L0, ln, b1, b2, ← eh1, g1]
   by_cases d2 : 255 < t.lit
   · clear hb' hb; simp (disch := omega) only [go_sem, wH, AP.f69L0, ln, b1, b2, ← eh1, g1]
   have d3 : ¬ t.xa = 0 := by omega
   clear hb' hb
   simp (disch := omega) only [go_sem, wH, AP.f69L0, ln, b1, b2, ← eh1, g1]
 · rw [if_neg c0] at hb
   have hb' : t.len < 3 ∨ 258 < t.len ∨ t.xa < 1 ∨ 32768 < t.xa ∨ s < t.xa ∨ t.lit ≠ 0 := by
    by_cases c : t.len < 3 ∨ 258 < t.len ∨ t.xa < 1 ∨ 32768 < t.xa ∨ s < t.xa ∨ t.lit ≠ 0
    · exact c
    · rw [if_neg c] at hb; cases hb
   by_cases d1 : t.len < 3
   · clear hb' hb; simp (disch := omega) only [go_sem, wH, AP.f69L0, ln, b1, b2, ← eh1, g1]
   by_cases d2 : 258 < t.len
   · clear hb' hb; simp (disch := omega) only [go_sem, wH, AP.f69L0, ln, b1, b2, ← eh1, g1]
   by_cases d3 : t.xa < 1
   · clear hb' hb; simp (disch := omega) only [go_sem, wH, AP.f69L0, ln, b1, b2, ← eh1, g1]
   by_cases d4 : 32768 < t.xa
   · clear hb' hb; simp (disch := omega) only [go_sem, wH, AP.f69L0, ln, b1, b2, ← eh1, g1]
   by_cases d5 : s < t.xa
   · clear hb' hb; simp (disch := omega) only [go_sem, wH, AP.f69L0, ln, b1, b2, ← eh1, g1]
   have d6 : ¬ t.lit = 0 := by omega
   clear hb' hb
   simp (disch := omega) only [go_sem, wH, AP.f69L0, ln, b1, b2, ← eh1, g1]
theorem Lb {v a0 : AV} {n i : Nat} {s s' : Int} {t : Tok} {h h1 : H} (hi : i < n) (hn : n < 1000000000) (hs : 0 ≤ s ∧ s ≤ 8192) (hfl : h.floor ≤ h.next) (ln : jy false v = some (.int .i64 n)) (b1 : gG 3 v (.int .i64 i) = some a0) (b2 : cJ true 3 a0 h = some (.agg [.int .i64 t.lit, .int .i64 t.len, .int .i64 t.xa]))
 (eh1 : h1 = (h.alloc [.int .i64 0, .int .i64 0, .int .i64 0]).set h.next [.int .i64 t.lit, .int .i64 t.len, .int .i64 t.xa]) (g1 : h1.get h.next = some [.int .i64 t.lit, .int .i64 t.len, .int .i64 t.xa]) (hst : yc s t = some s') :
 aM (aS AP.A) bG AP.f69L0 (ay [(0, v), (3, .int .i64 s), (4, .int .i64 i)] [0, 3, 4]) h = if 8192 < s' then some (.ret, [(2, .bool false)], h1) else some (.normal, [(0, v), (3, .int .i64 s'), (4, .int .i64 ((i : Int) + 1))], h1) := by
 unfold yc at hst
 by_cases c0 : t.len = 0
 · rw [if_pos c0] at hst
   by_cases c : t.lit < 0 ∨ 255 < t.lit ∨ t.xa ≠ 0
   · rw [if_pos c] at hst; cases hst
   rw [if_neg c] at hst
   obtain rfl := vG hst
   have k1 : ¬ t.lit < 0 := by omega
   have k2 : ¬ 255 < t.lit := by omega
   have k3 : t.xa = 0 := by omega
   clear c
   by_cases k : 8192 < s + 1
   · rw [if_pos k]
     simp (disch := omega) only [go_sem, wH, AP.f69L0, ln, b1, b2, ← eh1, g1]
   · rw [if_neg k]
     simp (disch := omega) only [go_sem, wH, AP.f69L0, ln, b1, b2, ← eh1, g1]
 · rw [if_neg c0] at hst
   by_cases c : t.len < 3 ∨ 258 < t.len ∨ t.xa < 1 ∨ 32768 < t.xa ∨ s < t.xa ∨ t.lit ≠ 0
   · rw [if_pos c] at hst; cases hst
   rw [if_neg c] at hst
   obtain rfl := vG hst
   have k1 : ¬ t.len < 3 := by omega
   have k2 : ¬ 258 < t.len := by omega
   have k3 : ¬ t.xa < 1 := by omega
   have k4 : ¬ 32768 < t.xa := by omega
   have k5 : ¬ s < t.xa := by omega
   have k6 : t.lit = 0 := by omega
   clear c
   by_cases k : 8192 < s + t.len
   · rw [if_pos k]
     simp (disch := omega) only [go_sem, wH, AP.f69L0, ln, b1, b2, ← eh1, g1]
   · rw [if_neg k]
     simp (disch := omega) only [go_sem, wH, AP.f69L0, ln, b1, b2, ← eh1, g1]
theorem Gz {v : AV} {ts : List Tok} (hn : ts.length < 1000000000) (h0 : H) (rd : zU 3 h0 v ts.length (xC ts)) : ∀ (q p : List Tok) (s : Int) (h : H), ts = p ++ q → 0 ≤ s ∧ s ≤ 8192 → Ext h0 h → h0.next ≤ h.next → h.floor ≤ h.next →
 (∃ e' h', Lp AP.A [0, 3, 4] AP.f69L0 [(0, v), (3, .int .i64 s), (4, .int .i64 p.length)] h = some (.exit 0, e', h') ∧ w9 s q = true) ∨
 (∃ e' h', Lp AP.A [0, 3, 4] AP.f69L0 [(0, v), (3, .int .i64 s), (4, .int .i64 p.length)] h = some (.ret, e', h') ∧ look e' 2 = .bool false ∧ w9 s q = false)
 | [], p, s, h, hp, hs, hx, hnx, hfl => by
   left
   have ln := rd.len
   rw [V4] at hp; subst hp
   refine ⟨[(0, v), (3, .int .i64 s), (4, .int .i64 ts.length), (9, .bool false)], h, ux ?_, rfl⟩
   simp (disch := omega) only [go_sem, wH, AP.f69L0, ln]
 | t :: q, p, s, h, hp, hs, hx, hnx, hfl => by
   have ln := rd.len
   have hlen : ts.length = p.length + (q.length + 1) := by rw [hp]; simp
   have ht : ts[p.length]? = some t := by rw [hp]; simp
   obtain ⟨ad, a1, a2, a3⟩ := rd.Ld
   have hI : (0 : Int) ≤ (p.length : Int) ∧ (p.length : Int) < ts.length := ⟨by omega, by omega⟩
   have b1 := a1 _ hI
   obtain ⟨_, _, _, b2⟩ := a3 h hx _ _ ht
   obtain ⟨h1, eh1⟩ : ∃ g, g = (h.alloc [.int .i64 0, .int .i64 0, .int .i64 0]).set h.next [.int .i64 t.lit, .int .i64 t.len, .int .i64 t.xa] := ⟨_, rfl⟩
   have w1 : ((p.length : Int) + 1) = (((p ++ [t]).length : Nat) : Int) := by simp
   have b2' := b2
   have gA : (h.alloc [.int .i64 0, .int .i64 0, .int .i64 0]).get h.next = some [.int .i64 0, .int .i64 0, .int .i64 0] := wM rfl
   have ldA : cJ true 3 (ad p.length 0) (h.alloc [.int .i64 0, .int .i64 0, .int .i64 0]) = some (.agg [.int .i64 t.lit, .int .i64 t.len, .int .i64 t.xa]) := (a3 _ (hx.alloc _) _ _ ht).2.2.2
   have g1 : h1.get h.next = some [.int .i64 t.lit, .int .i64 t.len, .int .i64 t.xa] := by rw [eh1, wQ rfl, gA]; rfl
   have hx1 : Ext h0 h1 := by rw [eh1]; exact (hx.alloc _).set hnx _
   have hn1 : h0.next ≤ h1.next := by rw [eh1]; simp; omega
   have hf1 : h1.floor ≤ h1.next := by rw [eh1]; simp; omega
   cases hst : yc s t with
   | none =>
     right
     exact ⟨_, h1, uT (MV (by omega) hfl ln b1 b2 eh1 g1 hst), rfl, by simp [w9, hst]⟩
   | some s' =>
     have good := Lb (by omega) hn hs hfl ln b1 b2 eh1 g1 hst
     have hs' : 0 ≤ s' := by
      unfold yc at hst
      clear good
      by_cases c0 : t.len = 0
      · rw [if_pos c0] at hst
        split at hst
        · cases hst
        · obtain rfl := vG hst; omega
      · rw [if_neg c0] at hst
        split at hst
        · cases hst
        · obtain rfl := vG hst; omega
     by_cases k : 8192 < s'
     · right
       rw [if_pos k] at good
       exact ⟨_, h1, uT good, rfl, by simp [w9, hst, k]⟩
     · rw [if_neg k] at good
       have e : w9 s (t :: q) = w9 s' q := by simp [w9, hst, k]
       rw [e]
       rw [w1] at good
       rcases Gz hn h0 rd q (p ++ [t]) s' h1 (by rw [hp]; simp) ⟨hs', by omega⟩ hx1 hn1 hf1 with ⟨e', h', r1, r2⟩ | ⟨e', h', r1, r2, r3⟩
       · exact .inl ⟨e', h', uy good r1, r2⟩
       · exact .inr ⟨e', h', uy good r1, r2, r3⟩
def yu (n : Int) : Bool := decide (0 ≤ n) && decide (n ≤ 1048576)
theorem JW (h : H) (n : Int) : aS AP.A 119 [.int .i64 n] h = some (.bool (yu n), h) := by
 refine u7 (fn := AP.f119) (h2 := h.ez) (e := [(2, .bool (yu n))]) rfl rfl rfl ?_ rfl rfl
 unfold yu
 by_cases c1 : 0 ≤ n <;> by_cases c2 : n ≤ 1048576 <;> simp (disch := omega) only [go_sem, wH, AP.f119]
def Gi (n : Int) : Bool := decide (0 ≤ n) && decide (n < 4)
theorem QX (h : H) (n : Int) : aS AP.A 120 [.int .i64 n] h = some (.bool (Gi n), h) := by
 refine u7 (fn := AP.f120) (h2 := h.ez) (e := [(2, .bool (Gi n))]) rfl rfl rfl ?_ rfl rfl
 unfold Gi
 by_cases c1 : 0 ≤ n <;> by_cases c2 : n < 4 <;> simp (disch := omega) only [go_sem, wH, AP.f120]
def Kn (v : AV) : Bool := match v with | .int .i64 n => !yu n | _ => false
theorem Lh (h : H) (n : Int) : aS AP.A 123 [.int .i64 n] h = some (.bool (!yu n), h) := by
 have k1 := JW h.ez n
 refine u7 (fn := AP.f123) (h2 := h.ez) (e := [(2, .bool (!yu n))]) rfl rfl rfl ?_ rfl rfl
 simp (disch := omega) only [go_sem, wH, AP.f123, k1]
def C8 (l : List Int) : Bool := decide (l.length = 4) && l.all yu
theorem Dz : ∀ l : List Int, (ints l).any Kn = !l.all yu
 | [] => rfl
 | n :: l => by
   have := Dz l
   simp only [ints, VR, List.any_cons, List.all_cons, Bool.not_and] at *
   rw [this]; rfl
theorem M7 (h : H) (v : AV) (l : List Int) (rd : Rd h v (ints l)) (hl : l.length < 1125899906842624) : aS AP.A 117 [v] h = some (.bool (C8 l), h) := by
 have rd' := rd.mono (wG h)
 have ln := rd'.len
 rw [qy] at ln
 simp only [I] at ln
 refine u7 (fn := AP.f117) (h2 := h.ez) (e := [(2, .bool (C8 l))]) rfl rfl rfl ?_ rfl rfl
 unfold C8
 by_cases c : l.length = 4
 · have k1 := En (fv := .fn 123 [] []) Kn (fun x hx g => by
    obtain ⟨n, hn, rfl⟩ := V6.1 hx
    rw [oN]; exact Lh g n) (by simp; omega) h.ez rd'
   rw [Dz] at k1
   have c' : (l.length : Int) = 4 := by omega
   simp (disch := omega) only [go_sem, wH, AP.f117, ln, k1, Bool.not_not]
 · have c' : ¬ (l.length : Int) = 4 := by omega
   simp (disch := omega) only [go_sem, wH, AP.f117, ln]
theorem Rd.xY {h : H} {v : AV} {l : List Int} (r : Rd h v (ints l)) : ∃ ad : Int → AV, (∀ i : Int, 0 ≤ i ∧ i < l.length → gG 1 v (.int .i64 i) = some (ad i)) ∧
 ∀ g : H, Ext h g → ∀ (i : Nat) (n : Int), l[i]? = some n → cJ false 1 (ad i) g = some (.int .i64 n) := by
 have r2 := r.U5
 rw [qy] at r2
 obtain ⟨ad, a1, _, _, a3⟩ := r2.at_
 refine ⟨fun i => ad i 0, a1, fun g hg i n hn => ?_⟩
 have hi : i < l.length := (vN.1 hn).1
 refine (a3 g hg).1 i 0 _ ⟨by omega, by omega⟩ ?_
 rw [Fp, Nat.mul_one, Nat.add_zero]
 exact tU hn
structure zw where
 name : ByteArray
 gone : Bool
 vec : List Int
 wZ : Int
 node : Int
 method : Int
 packed : ByteArray
 size : Int
 I9 : Int
def wD (e : zw) (v : AV) : List AV := [.str e.name, .bool e.gone, v, .int .i64 e.wZ, .int .i64 e.node, .int .i64 e.method, .str e.packed, .int .i64 e.size, .int .i64 e.I9]
def yY (e : zw) : Bool := C8 e.vec && (decide (1 ≤ e.wZ) && (yu e.wZ && Gi e.node))
structure PE (h : H) (p : AV) (cs : List AV) : Prop where
 nil : ∀ g : H, jS g p = some (p, g)
 uF : ∃ q : Nat → AV, (∀ k, fJ k p = some (q k)) ∧ ∀ g : H, Ext h g → ∀ (k : Nat) (c : AV), cs[k]? = some c → cJ false 1 (q k) g = some c
theorem QQ (h : H) (p v : AV) (e : zw) (pe : PE h p (wD e v)) (rd : Rd h v (ints e.vec)) (hl : e.vec.length < 1125899906842624) : aS AP.A 112 [p] h = some (.bool (yY e), h) := by
 have nl := pe.nil
 obtain ⟨q, f1, f2⟩ := pe.uF
 have l2 := f2 h (Ext.refl h) 2 v rfl
 have l3 := f2 h (Ext.refl h) 3 _ rfl
 have l4 := f2 h (Ext.refl h) 4 _ rfl
 have k1 := M7 h v e.vec rd hl
 have k2 := JW h e.wZ
 have k3 := QX h e.node
 have c2 : yu e.wZ = true → 1 ≤ e.wZ → True := fun _ _ => trivial
 refine uM (fn := AP.f112) (h2 := h) (e := [(2, .bool (yY e))]) (vs := [.bool (yY e)]) rfl rfl rfl ?_ rfl
 unfold yY
 clear pe f2 rd c2
 generalize C8 e.vec = B1 at *
 generalize yu e.wZ = B2 at *
 generalize Gi e.node = B3 at *
 by_cases c1 : 1 ≤ e.wZ <;> cases B1 <;> cases B2 <;> cases B3 <;> simp (disch := omega) only [go_sem, wH, AP.f112, nl, f1, l2, l3, l4, k1, k2, k3]
def Mi (s : ByteArray) : Bool := s.data.toList == (⟨#[]⟩ : ByteArray).data.toList
def yS (e : zw) : Bool :=
 if e.gone then decide (e.method = 0) && (Mi e.packed && (decide (e.size = 0) && decide (e.I9 = 0)))
 else (decide (0 ≤ e.size) && (decide (e.size ≤ 300) && Oq e.I9)) && (decide (e.method = 0) && decide ((e.packed.size : Int) = e.size) || decide (e.method = 8) && decide (e.packed.size ≤ 300))
theorem KI (h : H) (p v : AV) (e : zw) (pe : PE h p (wD e v)) : aS AP.A 122 [p] h = some (.bool (yS e), h) := by
 have nl := pe.nil
 obtain ⟨q, f1, f2⟩ := pe.uF
 have l1 := f2 h (Ext.refl h) 1 _ rfl
 have l5 := f2 h (Ext.refl h) 5 _ rfl
 have l6 := f2 h (Ext.refl h) 6 _ rfl
 have l7 := f2 h (Ext.refl h) 7 _ rfl
 have l8 := f2 h (Ext.refl h) 8 _ rfl
 have k1 := UX h e.I9
 have e1 : bw .eql (.str e.packed) (.str ⟨#[]⟩) = some (.bool (Mi e.packed)) := AL _ _
 refine uM (fn := AP.f122) (h2 := h) (e := [(2, .bool (yS e))]) (vs := [.bool (yS e)]) rfl rfl rfl ?_ rfl
 unfold yS
 clear pe f2
 generalize Mi e.packed = B1 at *
 generalize Oq e.I9 = B2 at *
 cases hg : e.gone with
 | true =>
   rw [hg] at l1
   rw [if_pos rfl]
   by_cases c1 : e.method = 0
   · cases B1 with
     | false => simp (disch := omega) only [go_sem, wH, AP.f122, nl, f1, l1, l5, l6, l7, l8, e1]
     | true =>
       by_cases c2 : e.size = 0
       · by_cases c3 : e.I9 = 0 <;> simp (disch := omega) only [go_sem, wH, AP.f122, nl, f1, l1, l5, l6, l7, l8, e1]
       · simp (disch := omega) only [go_sem, wH, AP.f122, nl, f1, l1, l5, l6, l7, l8, e1]
   · simp (disch := omega) only [go_sem, wH, AP.f122, nl, f1, l1, l5, l6, l7, l8, e1]
 | false =>
   rw [hg] at l1
   rw [if_neg (by decide)]
   by_cases c1 : e.method = 0
   · have c1' : ¬ e.method = 8 := by omega
     by_cases c2 : (e.packed.size : Int) = e.size
     · by_cases c3 : 0 ≤ e.size
       · by_cases c4 : e.size ≤ 300
         · cases B2 <;> simp (disch := omega) only [go_sem, wH, AP.f122, nl, f1, l1, l5, l6, l7, l8, e1, k1]
         · simp (disch := omega) only [go_sem, wH, AP.f122, nl, f1, l1, l5, l6, l7, l8, e1, k1]
       · exfalso; omega
     · simp (disch := omega) only [go_sem, wH, AP.f122, nl, f1, l1, l5, l6, l7, l8, e1, k1]
   · by_cases c0 : e.method = 8
     · by_cases c2 : e.packed.size ≤ 300
       · by_cases c3 : 0 ≤ e.size
         · by_cases c4 : e.size ≤ 300
           · cases B2 <;> simp (disch := omega) only [go_sem, wH, AP.f122, nl, f1, l1, l5, l6, l7, l8, e1, k1]
           · simp (disch := omega) only [go_sem, wH, AP.f122, nl, f1, l1, l5, l6, l7, l8, e1, k1]
         · simp (disch := omega) only [go_sem, wH, AP.f122, nl, f1, l1, l5, l6, l7, l8, e1, k1]
       · simp (disch := omega) only [go_sem, wH, AP.f122, nl, f1, l1, l5, l6, l7, l8, e1, k1]
     · simp (disch := omega) only [go_sem, wH, AP.f122, nl, f1, l1, l5, l6, l7, l8, e1, k1]
def DG (prev : Option zw) (e : zw) : Bool := zu e.name && ((match prev with | none => true | some p => Op.bytesLess p.name.toList e.name.toList) && (yY e && yS e))
theorem GR (e : zw) : DG none e = (zu e.name && (yY e && yS e)) := by simp [DG]
theorem NC (p e : zw) : DG (some p) e = (zu e.name && (Op.bytesLess p.name.toList e.name.toList && (yY e && yS e))) := rfl
def EU : Option zw → List zw → Bool
 | _, [] => true
 | p, e :: r => DG p e && EU (some e) r
abbrev Hz := zw × AV
def Uq (x : Hz) : List AV := wD x.1 x.2
def HZ (l : List Hz) : List AV := l.flatMap Uq
theorem J0 (x : Hz) : (Uq x).length = 9 := rfl
structure BR (h : H) (x : Hz) : Prop where
 vec : Rd h x.2 (ints x.1.vec)
 vl : x.1.vec.length < 1125899906842624
 nl : x.1.name.size < 1125899906842624
 pl : x.1.packed.size < 1125899906842624
theorem BR.mono {h g : H} {x : Hz} (o : BR h x) (e : Ext h g) : BR g x := ⟨o.vec.mono fun i c q => e i c q, o.vl, o.nl, o.pl⟩
theorem Ks {v : AV} {l : List Hz} (hn : l.length < 1125899906842624) (h : H) (b : Nat) (hb : h.get b = some [v]) (rd : zU 9 h v l.length (HZ l)) (hv : ∀ x ∈ l, BR h x) : ∀ (q p : List Hz), l = p ++ q →
 (∃ e', Lp AP.A [1, 7, 8] AP.f113L0 [(1, .aE b 0), (7, .int .i64 l.length), (8, .int .i64 p.length)] h = some (.exit 0, e', h) ∧ look e' 1 = .aE b 0 ∧ EU (p.getLast?.map (·.1)) (q.map (·.1)) = true) ∨
 (∃ e', Lp AP.A [1, 7, 8] AP.f113L0 [(1, .aE b 0), (7, .int .i64 l.length), (8, .int .i64 p.length)] h = some (.ret, e', h) ∧ look e' 2 = .bool false ∧ EU (p.getLast?.map (·.1)) (q.map (·.1)) = false)
 | [], p, hp => by
   left
   rw [V4] at hp; subst hp
   refine ⟨[(1, .aE b 0), (7, .int .i64 l.length), (8, .int .i64 l.length), (9, .bool false)], ux ?_, rfl, rfl⟩
   simp (disch := omega) only [go_sem, wH, AP.f113L0]
 | x :: q, p, hp => by
   have hlen : l.length = p.length + (q.length + 1) := by rw [hp]; simp
   have hx : l[p.length]? = some x := by rw [hp]; simp
   have ho := hv x (by rw [hp]; simp)
   obtain ⟨ad, a1, a2, a4, a3⟩ := rd.at_
   have hI : (0 : Int) ≤ (p.length : Int) ∧ (p.length : Int) < l.length := ⟨by omega, by omega⟩
   have b1 := a1 _ hI
   have pe : PE h (ad p.length 0) (wD x.1 x.2) := by
    refine ⟨fun g => a4 _ 0 g hI, fun k => ad p.length (0 + k), fun k => a2 _ 0 k hI, fun g hg k c hc => ?_⟩
    have hk : k < 9 := (vN.1 hc).1
    refine (a3 g hg).1 _ _ _ hI ?_
    rw [Fp, vW, show HZ l = l.flatMap Uq from rfl, GX J0 hx hk]; exact hc
   have k1 := QW h x.1.name ho.nl
   have k2 := QQ h _ _ x.1 pe ho.vec ho.vl
   have k3 := KI h _ _ x.1 pe
   have nl := pe.nil
   obtain ⟨qq, f1, f2⟩ := pe.uF
   have l0 := f2 h (Ext.refl h) 0 _ rfl
   have ih := Ks hn h b hb rd hv q (p ++ [x]) (by rw [hp]; simp)
   have w1 : (((p ++ [x]).length : Nat) : Int) = (p.length : Int) + 1 := by simp
   rw [w1, List.getLast?_concat] at ih
   have step : aM (aS AP.A) bG AP.f113L0 (ay [(1, .aE b 0), (7, .int .i64 l.length), (8, .int .i64 p.length)] [1, 7, 8]) h = if DG (p.getLast?.map (·.1)) x.1 then some (.normal, [(1, .aE b 0), (7, .int .i64 l.length), (8, .int .i64 ((p.length : Int) + 1))], h) else some (.ret, [(2, .bool false)], h) := by
    cases hl : p.getLast? with
    | none =>
      have hp0 : p = [] := List.getLast?_eq_none_iff.1 hl
      have hp1 : p.length = 0 := by rw [hp0]; rfl
      clear ih w1 pe f2 a1 a2 a3 a4 hl hv hp ho hx
      rw [Wg, GR]
      generalize zu x.1.name = B1 at *
      generalize yY x.1 = B3 at *
      generalize yS x.1 = B4 at *
      cases B1 with
      | false =>
        rw [V1, if_neg (by decide)]
        simp (disch := omega) only [go_sem, wH, AP.f113L0, hb, b1, nl, f1, l0, k1, k2, k3]
      | true =>
        cases B3 with
        | false =>
          rw [V1, VW, if_neg (by decide)]
          simp (disch := omega) only [go_sem, wH, AP.f113L0, hb, b1, nl, f1, l0, k1, k2, k3]
        | true =>
          cases B4 with
          | false =>
            rw [VW, VW, if_neg (by decide)]
            simp (disch := omega) only [go_sem, wH, AP.f113L0, hb, b1, nl, f1, l0, k1, k2, k3]
          | true =>
            rw [Bool.and_self, Bool.and_self, if_pos rfl]
            simp (disch := omega) only [go_sem, wH, AP.f113L0, hb, b1, nl, f1, l0, k1, k2, k3]
    | some y =>
      obtain ⟨p', rfl⟩ : ∃ p', p = p' ++ [y] := List.getLast?_eq_some_iff.1 hl
      have hpl : (p' ++ [y]).length = p'.length + 1 := by simp
      have hy : l[p'.length]? = some y := by rw [hp]; simp
      have hJ : (0 : Int) ≤ (p'.length : Int) ∧ (p'.length : Int) < l.length := ⟨by omega, by omega⟩
      have bj := a1 _ hJ
      have fj := a2 _ 0 0 hJ
      have lj := (a3 h (Ext.refl h)).1 p'.length (0 + 0) (.str y.1.name) hJ (by
       rw [Fp, show HZ l = l.flatMap Uq from rfl, vW, GX J0 hy (by omega)]; rfl)
      have cmp : bw .geq (.str y.1.name) (.str x.1.name) = some (.bool (!(Op.bytesLess y.1.name.toList x.1.name.toList))) := rfl
      have n2 : (((p' ++ [y]).length : Nat) : Int) - 1 = (p'.length : Int) := by rw [hpl]; omega
      clear ih w1 pe f2 a1 a2 a3 a4 hl hv hp ho hx hy
      rw [VO, NC]
      simp only [Nat.add_zero] at fj lj
      generalize Op.bytesLess y.1.name.toList x.1.name.toList = B2 at *
      generalize zu x.1.name = B1 at *
      generalize yY x.1 = B3 at *
      generalize yS x.1 = B4 at *
      generalize (p' ++ [y]).length = pl at *
      cases B1 with
      | false =>
        rw [V1, if_neg (by decide)]
        simp (disch := omega) only [go_sem, wH, AP.f113L0, hb, b1, nl, f1, l0, k1, k2, k3, bj, fj, lj, cmp, n2]
      | true =>
        cases B2 with
        | false =>
          rw [V1, VW, if_neg (by decide)]
          simp (disch := omega) only [go_sem, wH, AP.f113L0, hb, b1, nl, f1, l0, k1, k2, k3, bj, fj, lj, cmp, n2]
        | true =>
          cases B3 with
          | false =>
            rw [V1, VW, VW, if_neg (by decide)]
            simp (disch := omega) only [go_sem, wH, AP.f113L0, hb, b1, nl, f1, l0, k1, k2, k3, bj, fj, lj, cmp, n2]
          | true =>
            cases B4 with
            | false =>
              rw [VW, VW, VW, if_neg (by decide)]
              simp (disch := omega) only [go_sem, wH, AP.f113L0, hb, b1, nl, f1, l0, k1, k2, k3, bj, fj, lj, cmp, n2]
            | true =>
              rw [Bool.and_self, Bool.and_self, Bool.and_self, if_pos rfl]
              simp (disch := omega) only [go_sem, wH, AP.f113L0, hb, b1, nl, f1, l0, k1, k2, k3, bj, fj, lj, cmp, n2]
   have hmay : EU (p.getLast?.map (·.1)) ((x :: q).map (·.1)) = (DG (p.getLast?.map (·.1)) x.1 && EU (some x.1) (q.map (·.1))) := rfl
   rw [hmay]
   by_cases hok : DG (p.getLast?.map (·.1)) x.1 = true
   · rw [if_pos hok] at step
     rw [hok, Bool.true_and]
     rcases ih with ⟨e', r1, r2, r3⟩ | ⟨e', r1, r2, r3⟩
     · exact .inl ⟨e', uy step r1, r2, r3⟩
     · exact .inr ⟨e', uy step r1, r2, r3⟩
   · have hok' : DG (p.getLast?.map (·.1)) x.1 = false := by simpa using hok
     rw [if_neg hok] at step
     rw [hok', V1]
     exact .inr ⟨_, uT step, rfl, rfl⟩
def ET (l : List zw) : Bool := EU none l && decide (l.length ≤ 6)
theorem Rh (h : H) (v : AV) (l : List Hz) (hvs : v.sc = true) (hn : l.length < 1125899906842624) (rd : zU 9 h v l.length (HZ l)) (hv : ∀ x ∈ l, BR h x) : aS AP.A 113 [.agg [v]] h = some (.bool (ET (l.map (·.1))), h) := by
 obtain ⟨h1, eh1⟩ : ∃ g, g = h.ez.alloc [v] := ⟨_, rfl⟩
 have hx : Ext h.ez h1 := by rw [eh1]; exact (Ext.refl _).alloc _
 have hx0 : Ext h h1 := fun i c q => hx i c q
 have hn0 : h.ez.next = h.next := rfl
 have g1 : h1.get h.next = some [v] := by rw [eh1]; exact wM rfl
 have E9 := rd.mono fun i c q => hx0 i c q
 have ln := E9.len
 have hb : ∀ ev : Env, look ev 0 = .agg [v] → aX ev (.box 1 (.t 0)) = some ([v], fun i => .aE i 0) := by
  intro ev q
  simp only [aX, tu, q, lZ]
  rw [if_pos ⟨rfl, by simp [hvs]⟩]
 unfold ET
 rcases Ks hn h1 h.next g1 E9 (fun x hx => (hv x hx).mono hx0) l [] rfl with ⟨e', r1, r2, r3⟩ | ⟨e', r1, r2, r3⟩
 · have r1' : Lp AP.A [1, 7, 8] AP.f113L0 [(1, .aE h.next 0), (7, .int .i64 l.length), (8, .int .i64 0)] h1 = some (.exit 0, e', h1) := r1
   clear r1
   have r3' : EU none (l.map (·.1)) = true := r3
   rw [r3', Bool.true_and, List.length_map]
   refine u7 (fn := AP.f113) (h2 := h1) (e := [(2, .bool (decide (l.length ≤ 6)))]) rfl rfl rfl ?_ rfl rfl
   clear rd E9 hv hx hx0 r3 r3'
   simp only [nZ, n8, AP.f113]
   rw [sS, sR, ui, jq, hb _ rfl]
   simp only [nz, hn0, ← eh1]
   by_cases c : l.length ≤ 6
   · simp (disch := omega) only [go_sem, wH, g1, ln, th, r1', r2]
   · simp (disch := omega) only [go_sem, wH, g1, ln, th, r1', r2]
 · have r1' : Lp AP.A [1, 7, 8] AP.f113L0 [(1, .aE h.next 0), (7, .int .i64 l.length), (8, .int .i64 0)] h1 = some (.ret, e', h1) := r1
   clear r1
   have r3' : EU none (l.map (·.1)) = false := r3
   rw [r3', V1]
   refine u7 (fn := AP.f113) (h2 := h1) (e := e') (vs := [.bool false]) rfl rfl rfl ?_ (by simp only [AP.f113, cO, od, r2]; rfl) rfl
   clear rd E9 hv hx hx0 r3 r3'
   simp only [nZ, n8, AP.f113]
   rw [sS, sR, ui, jq, hb _ rfl]
   simp only [nz, hn0, ← eh1]
   simp (disch := omega) only [go_sem, wH, g1, ln, th, r1']
def xn (method : Int) (s : ByteArray) (size : Int) : Option ByteArray :=
 if size < 0 ∨ 300 < size then none
 else if method = 0 then (if (s.size : Int) = size then some s else none)
 else if method = 8 then (match wU s size with
  | .ok (o, took) => if (o.length : Int) = size ∧ took = s.size then some (bytesOf o) else none
  | .error _ => none)
 else none
theorem Hv {m : Int} {s : ByteArray} {z : Int} {t : ByteArray} (h : xn m s z = some t) : (t.size : Int) = z ∧ 0 ≤ z ∧ z ≤ 300 := by
 unfold xn at h
 split at h
 · cases h
 · rename_i q
   split at h
   · split at h
     · rename_i q2; obtain rfl := vG h; omega
     · cases h
   · split at h
     · split at h
       · split at h
         · rename_i q2
           obtain rfl := vG h
           rw [xH]; omega
         · cases h
       · cases h
     · cases h
def Rb : Option ByteArray → AV
 | some t => .bU [.str t, .int .i64 0]
 | none => .bU [.str ⟨#[]⟩, .int .i64 900]
theorem M5 (h : H) (hf : h.floor ≤ h.next) (m : Int) (s : ByteArray) (z : Int) (hs : s.size < 1125899906842624) : aS AP.A 114 [.int .i64 m, .str s, .int .i64 z] h = some (Rb (xn m s z), h) := by
 unfold xn
 by_cases c1 : z < 0
 · rw [if_pos (.inl c1)]
   refine u7 (fn := AP.f114) (h2 := h.ez) (e := [(6, .str ⟨#[]⟩), (7, .int .i64 900)]) rfl rfl rfl ?_ rfl rfl
   simp (disch := omega) only [go_sem, wH, AP.f114]
 by_cases c2 : 300 < z
 · rw [if_pos (.inr c2)]
   refine u7 (fn := AP.f114) (h2 := h.ez) (e := [(6, .str ⟨#[]⟩), (7, .int .i64 900)]) rfl rfl rfl ?_ rfl rfl
   simp (disch := omega) only [go_sem, wH, AP.f114]
 rw [if_neg (by omega)]
 by_cases c3 : m = 0
 · rw [if_pos c3]
   by_cases c4 : (s.size : Int) = z
   · rw [if_pos c4]
     refine u7 (fn := AP.f114) (h2 := h.ez) (e := [(6, .str s), (7, .int .i64 0)]) rfl rfl rfl ?_ rfl rfl
     simp (disch := omega) only [go_sem, wH, AP.f114]
   · rw [if_neg c4]
     refine u7 (fn := AP.f114) (h2 := h.ez) (e := [(6, .str ⟨#[]⟩), (7, .int .i64 900)]) rfl rfl rfl ?_ rfl rfl
     simp (disch := omega) only [go_sem, wH, AP.f114]
 rw [if_neg c3]
 by_cases c5 : m = 8
 · rw [if_pos c5]
   have k1 := KS h.ez (by simp) s z hs
   simp only [I] at k1
   cases hi : wU s z with
   | error k =>
     rw [hi] at k1
     simp only [QS, I] at k1
     have hk := G4 hi
     have hk' : ¬ k = 0 := by rcases hk with rfl | rfl <;> decide
     clear hk
     refine u7 (fn := AP.f114) (h2 := h.ez) (e := [(6, .str ⟨#[]⟩), (7, .int .i64 900)]) rfl rfl rfl ?_ rfl rfl
     simp (disch := omega) only [go_sem, wH, AP.f114, k1]
   | ok r =>
     obtain ⟨o, took⟩ := r
     rw [hi] at k1
     simp only [QS, I] at k1
     dsimp only
     have sz := xH o
     by_cases c6 : (o.length : Int) = z
     · by_cases c7 : took = s.size
       · rw [if_pos ⟨c6, c7⟩]
         refine u7 (fn := AP.f114) (h2 := h.ez) (e := [(6, .str (bytesOf o)), (7, .int .i64 0)]) rfl rfl rfl ?_ rfl rfl
         simp (disch := omega) only [go_sem, wH, AP.f114, k1, sz]
       · rw [if_neg (fun q => c7 q.2)]
         refine u7 (fn := AP.f114) (h2 := h.ez) (e := [(6, .str ⟨#[]⟩), (7, .int .i64 900)]) rfl rfl rfl ?_ rfl rfl
         simp (disch := omega) only [go_sem, wH, AP.f114, k1, sz]
     · rw [if_neg (fun q => c6 q.1)]
       refine u7 (fn := AP.f114) (h2 := h.ez) (e := [(6, .str ⟨#[]⟩), (7, .int .i64 900)]) rfl rfl rfl ?_ rfl rfl
       simp (disch := omega) only [go_sem, wH, AP.f114, k1, sz]
 · rw [if_neg c5]
   refine u7 (fn := AP.f114) (h2 := h.ez) (e := [(6, .str ⟨#[]⟩), (7, .int .i64 900)]) rfl rfl rfl ?_ rfl rfl
   simp (disch := omega) only [go_sem, wH, AP.f114]
def yo (e : zw) : Option ByteArray :=
 if ET [e] = false then none
 else if e.gone then some ⟨#[]⟩
 else match xn e.method e.packed e.size with
  | some t => if (zq t : Int) = e.I9 then some t else none
  | none => none
theorem MU (h : H) (hf : h.floor ≤ h.next) (e : zw) (v : AV) (hv : v.sc = true) (ok : BR h (e, v)) : ∃ t, aS AP.A 107 [.agg (wD e v)] h = some (.bU [.str t, .bool (yo e).isSome], h) ∧ (∀ u, yo e = some u → t = u) := by
 obtain ⟨h1, eh1⟩ : ∃ g, g = h.ez.alloc (wD e v) := ⟨_, rfl⟩
 obtain ⟨h2, eh2⟩ : ∃ g, g = h1.alloc (wD e v) := ⟨_, rfl⟩
 have hx1 : Ext h h1 := fun i c q => by rw [eh1]; exact ((Ext.refl h.ez).alloc _) i c q
 have hx2 : Ext h h2 := by rw [eh2]; exact hx1.alloc _
 have hn0 : h.ez.next = h.next := rfl
 have hn1 : h1.next = h.next + 1 := by rw [eh1]; simp
 have g1 : h2.get h.next = some (wD e v) := by rw [eh2, wR (by omega), eh1, wM (by simp)]
 have g0 : h1.get h.next = some (wD e v) := by rw [eh1, wM (by simp)]
 have o : zU 9 h2 (.aF (h.next + 1) 0 1 9) 1 (HZ [(e, v)]) := by
  refine ⟨?_, rfl, fun _ => by simp⟩
  simp only [aT, if_true]
  rw [eh2, wM (by omega)]
  rfl
 have k1 := Rh h2 (.aF (h.next + 1) 0 1 9) [(e, v)] rfl (by simp) o (fun x hx => by
  obtain rfl : x = (e, v) := by simpa using hx
  exact ok.mono hx2)
 have k1' : aS AP.A 113 [.agg [.aF (h.next + 1) 0 1 9]] h2 = some (.bool (ET [e]), h2) := k1
 have hf2 : h2.floor ≤ h2.next := by rw [eh2, eh1]; simp; omega
 have k2 := M5 h2 hf2 e.method e.packed e.size ok.pl
 have rdA : iG true 9 (wD e v) 0 = some (.agg (wD e v)) := rfl
 have cr : ∀ t : ByteArray, t.size < 1125899906842624 → aS AP.A 115 [.str t] h2 = some (.int .i64 (zq t : Nat), h2) := fun t ht => Mn h2 t ht
 clear k1 o hx1 hx2
 unfold yo
 simp only [wD] at *
 cases hm : ET [e] with
 | false =>
   rw [hm] at k1'
   refine ⟨⟨#[]⟩, ?_, fun u q => by simp at q⟩
   rw [if_pos rfl]
   refine u7 (fn := AP.f107) (h2 := h2) (e := [(2, .str ⟨#[]⟩), (3, .bool false)]) rfl rfl rfl ?_ rfl rfl
   simp (disch := omega) only [go_sem, wH, AP.f107, hv, hn0, ← eh1, g0, rdA, hn1, ← eh2, k1']
 | true =>
   rw [hm] at k1'
   rw [if_neg (by decide)]
   cases hg : e.gone with
   | true =>
     rw [hg] at g1 g0 eh1 eh2 rdA
     refine ⟨⟨#[]⟩, ?_, fun u q => by simpa using q⟩
     refine u7 (fn := AP.f107) (h2 := h2) (e := [(2, .str ⟨#[]⟩), (3, .bool true)]) rfl rfl rfl ?_ rfl rfl
     simp (disch := omega) only [go_sem, wH, AP.f107, hv, hn0, ← eh1, g0, g1, rdA, hn1, ← eh2, k1']
   | false =>
     rw [hg] at g1 g0 eh1 eh2 rdA
     rw [if_neg (by decide)]
     cases hu : xn e.method e.packed e.size with
     | none =>
       rw [hu] at k2
       simp only [Rb] at k2
       refine ⟨⟨#[]⟩, ?_, fun u q => by simp at q⟩
       refine u7 (fn := AP.f107) (h2 := h2) (e := [(2, .str ⟨#[]⟩), (3, .bool false)]) rfl rfl rfl ?_ rfl rfl
       simp (disch := omega) only [go_sem, wH, AP.f107, hv, hn0, ← eh1, g0, g1, rdA, hn1, ← eh2, k1', k2]
     | some t =>
       rw [hu] at k2
       simp only [Rb] at k2
       have kc := cr t (by have := Hv hu; omega)
       dsimp only
       by_cases c : (zq t : Int) = e.I9
       · rw [if_pos c]
         refine ⟨t, ?_, fun u q => vG q⟩
         refine u7 (fn := AP.f107) (h2 := h2) (e := [(2, .str t), (3, .bool true)]) rfl rfl rfl ?_ rfl rfl
         simp (disch := omega) only [go_sem, wH, AP.f107, hv, hn0, ← eh1, g0, g1, rdA, hn1, ← eh2, k1', k2, kc]
       · rw [if_neg c]
         refine ⟨t, ?_, fun u q => by simp at q⟩
         refine u7 (fn := AP.f107) (h2 := h2) (e := [(2, .str t), (3, .bool false)]) rfl rfl rfl ?_ rfl rfl
         simp (disch := omega) only [go_sem, wH, AP.f107, hv, hn0, ← eh1, g0, g1, rdA, hn1, ← eh2, k1', k2, kc]
def ze (e : zw) : Bool := (yo e).isSome
theorem A5 (h : H) (hf : h.floor ≤ h.next) (e : zw) (v : AV) (hv : v.sc = true) (ok : BR h (e, v)) : aS AP.A 96 [.agg (wD e v)] h = some (.bool (ze e), h) := by
 obtain ⟨h1, eh1⟩ : ∃ g, g = h.ez.alloc (wD e v) := ⟨_, rfl⟩
 have hx1 : Ext h h1 := fun i c q => by rw [eh1]; exact ((Ext.refl h.ez).alloc _) i c q
 have hn0 : h.ez.next = h.next := rfl
 have g0 : h1.get h.next = some (wD e v) := by rw [eh1, wM (by simp)]
 obtain ⟨t, k1, _⟩ := MU h1 (by rw [eh1]; simp) e v hv (ok.mono hx1)
 have rdA : iG true 9 (wD e v) 0 = some (.agg (wD e v)) := rfl
 refine u7 (fn := AP.f96) (h2 := h1) (e := [(2, .bool (ze e))]) rfl rfl rfl ?_ rfl rfl
 clear hx1
 unfold ze
 simp only [wD] at *
 simp (disch := omega) only [go_sem, wH, AP.f96, hv, hn0, ← eh1, g0, rdA, k1]
def JL (e : zw) : AV := match yo e with
 | none => .bU [.str ⟨#[]⟩, .int .i64 1500]
 | some t => if e.gone then .bU [.str ⟨#[]⟩, .int .i64 1501] else .bU [.str t, .int .i64 0]
theorem GU (h : H) (hf : h.floor ≤ h.next) (e : zw) (v : AV) (hv : v.sc = true) (ok : BR h (e, v)) : aS AP.A 100 [.agg (wD e v)] h = some (JL e, h) := by
 obtain ⟨h1, eh1⟩ : ∃ g, g = h.ez.alloc (wD e v) := ⟨_, rfl⟩
 have hx1 : Ext h h1 := fun i c q => by rw [eh1]; exact ((Ext.refl h.ez).alloc _) i c q
 have hn0 : h.ez.next = h.next := rfl
 have g0 : h1.get h.next = some (wD e v) := by rw [eh1, wM (by simp)]
 obtain ⟨t, k1, kt⟩ := MU h1 (by rw [eh1]; simp) e v hv (ok.mono hx1)
 have rdA : iG true 9 (wD e v) 0 = some (.agg (wD e v)) := rfl
 unfold JL
 clear hx1
 cases ht : yo e with
 | none =>
   rw [ht] at k1
   refine u7 (fn := AP.f100) (h2 := h1) (e := [(2, .str ⟨#[]⟩), (3, .int .i64 1500)]) rfl rfl rfl ?_ rfl rfl
   simp only [wD, Option.isSome_none] at *
   simp (disch := omega) only [go_sem, wH, AP.f100, hv, hn0, ← eh1, g0, rdA, k1]
 | some u =>
   rw [ht] at k1
   obtain rfl := kt u ht
   cases hg : e.gone with
   | true =>
     refine u7 (fn := AP.f100) (h2 := h1) (e := [(2, .str ⟨#[]⟩), (3, .int .i64 1501)]) rfl rfl rfl ?_ rfl rfl
     simp only [wD, Option.isSome_some, hg] at *
     simp (disch := omega) only [go_sem, wH, AP.f100, hv, hn0, ← eh1, g0, rdA, k1]
   | false =>
     refine u7 (fn := AP.f100) (h2 := h1) (e := [(2, .str t), (3, .int .i64 0)]) rfl rfl rfl ?_ rfl rfl
     simp only [wD, Option.isSome_some, hg] at *
     simp (disch := omega) only [go_sem, wH, AP.f100, hv, hn0, ← eh1, g0, rdA, k1]
theorem Ou (e : zw) : ET [e] = (zu e.name && (yY e && yS e)) := by
 unfold ET EU
 rw [GR]
 simp [EU]
theorem Ms (c : ah) (e : Env) (h : H) (x y : X) : ai c e h (.mx [x, y]) = dI h (nk (x.ev e) (y.ev e)) := by
 simp only [ai, bC, VR, Wk, gV]
 cases nk (x.ev e) (y.ev e) <;> rfl
def xG (a b : Int) : Int := if a < b then b else a
theorem JQ (k : IntKind) (a b : Int) : nk (.int k a) (.int k b) = some (.int k (xG a b)) := rfl
def xP (a b : List Int) : List Int := List.zipWith xG a b
theorem Rd.UZ {h : H} {v : AV} {cs : List AV} (r : Rd h v cs) (hc : cs ≠ []) : fU 1 v .aQ = some false := by
 obtain ⟨r, hs⟩ := r
 unfold aT at r
 split at r
 · obtain ⟨_, h2⟩ := vJ (vG r); exact absurd h2.symm hc
 · exact absurd rfl (hs _)
 · rfl
 · rfl
 · cases r
theorem FI {n : Nat} {h : H} {v : AV} {k : Nat} {cs : List AV} (r : zU n h v k cs) (hfn : h.floor ≤ h.next) (hn : 0 < n) (hk : 0 < k) {z : Nat} (hr : roomy z k = true) (hc : AV.aC cs = true) :
 lL (h.alloc []) n z (.aF h.next 0 0 n) v = some (.aF (h.next + 1) 0 k n, ((h.alloc []).del h.next).alloc cs) := by
 have r2 : zU n (h.alloc []) v k cs := r.mono fun i c q => by rw [H.aW, if_neg (by have := h.lt _ _ q; omega)]; exact q
 unfold lL
 rw [r2.1, vO]
 have hkn : 0 < k * n := Nat.mul_pos hk hn
 unfold ep
 rw [if_neg (by omega), if_neg (by simp [hc]; omega)]
 simp only [H.jK, hfn, and_self, if_true]
 rw [wM rfl, vO, if_neg (by simp; omega), if_pos ⟨by simp, by simpa using hr⟩]
 simp
theorem B9 : ∀ l : List Int, AV.aC (ints l) = true
 | [] => rfl
 | n :: l => by
   have := B9 l
   show AV.aC (I n :: ints l) = true
   rw [qN, this]; rfl
theorem Nv (h : H) (v : AV) (l : List Int) (rd : Rd h v (ints l)) (hl : 0 < l.length) (hb : l.length < 1000000) (hfn : h.floor ≤ h.next) : aS AP.A 118 [v] h = some (.aF (h.next + 1) 0 l.length 1, ((h.alloc []).del h.next).alloc (ints l)) := by
 have r2 := rd.U5
 rw [qy] at r2
 have ap := FI r2 hfn (by omega) hl (z := 8) (by simp [roomy]; omega) (B9 l)
 have nn := rd.UZ (fun q => by
  have q2 : (ints l).length = 0 := by rw [q]; rfl
  rw [qy] at q2
  omega)
 refine uM (fn := AP.f118) (h2 := ((h.alloc []).del h.next).alloc (ints l)) (e := [(2, .aF (h.next + 1) 0 l.length 1)]) (vs := [.aF (h.next + 1) 0 l.length 1]) rfl rfl rfl ?_ rfl
 clear rd r2
 simp (disch := omega) only [go_sem, wH, AP.f118, nn, ap]
theorem Ot {l : List Int} (h : l.length = 4) : ∃ a b c d, l = [a, b, c, d] := by
 match l, h with
 | [a, b, c, d], _ => exact ⟨a, b, c, d, rfl⟩
def xg (l : List Int) : AV := Aa 1 l.length (ints l)
theorem Bl (h : H) (id : Nat) (b0 : AV) (adv : Int → AV) (i : Nat) (x y : Int) (cs : List AV) (hi : i < 4) (hg : h.get id = some cs) (hl : cs.length = 4) (hx : cs[i]? = some (.int .i64 x)) (hf : h.floor ≤ id)
 (a1 : gG 1 b0 (.int .i64 i) = some (adv i)) (a2 : cJ false 1 (adv i) h = some (.int .i64 y)) :
 aM (aS AP.A) bG AP.f110L0 (ay [(6, .aF id 0 4 1), (19, b0), (20, .int .i64 4), (21, .int .i64 i)] [6, 19, 20, 21]) h = some (.normal, [(6, .aF id 0 4 1), (19, b0), (20, .int .i64 4), (21, .int .i64 ((i : Int) + 1))], h.set id (cs.set i (.int .i64 (xG x y)))) := by
 have st := vA (h := h) (id := id) (off := i) (v := .int .i64 (xG x y)) (cs := cs) hf (by omega) rfl
 simp (disch := omega) only [go_sem, wH, AP.f110L0, a1, a2, hg, hx, Ms, JQ, st]
theorem NM (h : H) (v w : AV) (a b : List Int) (ra : Rd h v (ints a)) (rb : Rd h w (ints b)) (ha : C8 a = true) (hb : C8 b = true) (hfn : h.floor ≤ h.next) : aS AP.A 110 [v, w] h = some (.bU [xg (xP a b), .int .i64 0], h) := by
 have la : a.length = 4 := by unfold C8 at ha; simp only [vS, Wo] at ha; exact ha.1
 have lb : b.length = 4 := by unfold C8 at hb; simp only [vS, Wo] at hb; exact hb.1
 have ra' := ra.mono (wG h)
 have rb' := rb.mono (wG h)
 have k1 := M7 h.ez v a ra' (by omega)
 have k2 := M7 h.ez w b rb' (by omega)
 rw [ha] at k1; rw [hb] at k2
 have k3 := Nv h.ez v a ra' (by omega) (by omega) (by simp)
 rw [la] at k3
 have hn : h.ez.next = h.next := rfl
 rw [hn] at k3
 obtain ⟨h1, eh1⟩ : ∃ g, g = ((h.ez.alloc []).del h.next).alloc (ints a) := ⟨_, rfl⟩
 rw [← eh1] at k3
 have n1 : h1.next = h.next + 2 := by rw [eh1]; simp
 have f1 : h1.floor = h.next := by rw [eh1]; simp
 have g1 : h1.get (h.next + 1) = some (ints a) := by rw [eh1]; exact wM (by simp)
 have e1 : Ext h h1 := fun i c q => by
  have := h.lt _ _ q
  rw [eh1, H.aW, if_neg (by simp; omega), H.eI, if_neg (by omega), H.aW, if_neg (by simp; omega)]; exact q
 have ln := (rb.mono fun i c q => e1 i c q).len
 rw [qy, lb] at ln
 obtain ⟨adv, a1, a2⟩ := rb.xY
 obtain ⟨a0, b0, c0, d0, rfl⟩ := Ot la
 obtain ⟨p0, p1, p2, p3, rfl⟩ := Ot lb
 obtain ⟨h2, eh2⟩ : ∃ g, g = h1.set (h.next + 1) (ints [xG a0 p0, b0, c0, d0]) := ⟨_, rfl⟩
 obtain ⟨h3, eh3⟩ : ∃ g, g = h2.set (h.next + 1) (ints [xG a0 p0, xG b0 p1, c0, d0]) := ⟨_, rfl⟩
 obtain ⟨h4, eh4⟩ : ∃ g, g = h3.set (h.next + 1) (ints [xG a0 p0, xG b0 p1, xG c0 p2, d0]) := ⟨_, rfl⟩
 obtain ⟨h5, eh5⟩ : ∃ g, g = h4.set (h.next + 1) (ints [xG a0 p0, xG b0 p1, xG c0 p2, xG d0 p3]) := ⟨_, rfl⟩
 have g2 : h2.get (h.next + 1) = some (ints [xG a0 p0, b0, c0, d0]) := by rw [eh2, wQ rfl, g1]; rfl
 have g3 : h3.get (h.next + 1) = some (ints [xG a0 p0, xG b0 p1, c0, d0]) := by rw [eh3, wQ rfl, g2]; rfl
 have g4 : h4.get (h.next + 1) = some (ints [xG a0 p0, xG b0 p1, xG c0 p2, d0]) := by rw [eh4, wQ rfl, g3]; rfl
 have g5 : h5.get (h.next + 1) = some (ints [xG a0 p0, xG b0 p1, xG c0 p2, xG d0 p3]) := by rw [eh5, wQ rfl, g4]; rfl
 have e2 : Ext h h2 := by rw [eh2]; exact e1.set (by omega) _
 have e3 : Ext h h3 := by rw [eh3]; exact e2.set (by omega) _
 have e4 : Ext h h4 := by rw [eh4]; exact e3.set (by omega) _
 have s0 := Bl h1 (h.next + 1) w adv 0 a0 p0 _ (by omega) g1 rfl rfl (by omega) (a1 0 (by simp)) (a2 h1 e1 0 _ rfl)
 have s1 := Bl h2 (h.next + 1) w adv 1 b0 p1 _ (by omega) g2 rfl rfl (by rw [eh2]; simp; omega) (a1 1 (by simp)) (a2 h2 e2 1 _ rfl)
 have s2 := Bl h3 (h.next + 1) w adv 2 c0 p2 _ (by omega) g3 rfl rfl (by rw [eh3, eh2]; simp; omega) (a1 2 (by simp)) (a2 h3 e3 2 _ rfl)
 have s3 := Bl h4 (h.next + 1) w adv 3 d0 p3 _ (by omega) g4 rfl rfl (by rw [eh4, eh3, eh2]; simp; omega) (a1 3 (by simp)) (a2 h4 e4 3 _ rfl)
 have st0 : h1.set (h.next + 1) ((ints [a0, b0, c0, d0]).set 0 (.int .i64 (xG a0 p0))) = h2 := eh2.symm
 have N2 : h2.set (h.next + 1) ((ints [xG a0 p0, b0, c0, d0]).set 1 (.int .i64 (xG b0 p1))) = h3 := eh3.symm
 have st2 : h3.set (h.next + 1) ((ints [xG a0 p0, xG b0 p1, c0, d0]).set 2 (.int .i64 (xG c0 p2))) = h4 := eh4.symm
 have st3 : h4.set (h.next + 1) ((ints [xG a0 p0, xG b0 p1, xG c0 p2, d0]).set 3 (.int .i64 (xG d0 p3))) = h5 := eh5.symm
 rw [st0] at s0; rw [N2] at s1; rw [st2] at s2; rw [st3] at s3
 have fin : Lp AP.A [6, 19, 20, 21] AP.f110L0 [(6, .aF (h.next + 1) 0 4 1), (19, w), (20, .int .i64 4), (21, .int .i64 4)] h5 = some (.exit 0, [(6, .aF (h.next + 1) 0 4 1), (19, w), (20, .int .i64 4), (21, .int .i64 4), (22, .bool false)], h5) := by
  refine ux ?_
  simp (disch := omega) only [go_sem, wH, AP.f110L0]
 have lp : Lp AP.A [6, 19, 20, 21] AP.f110L0 [(6, .aF (h.next + 1) 0 4 1), (19, w), (20, .int .i64 4), (21, .int .i64 0)] h1 = some (.exit 0, [(6, .aF (h.next + 1) 0 4 1), (19, w), (20, .int .i64 4), (21, .int .i64 4), (22, .bool false)], h5) :=
  uy s0 (uy s1 (uy s2 (uy s3 fin)))
 simp only [I] at ln
 have ln' : jy false w = some (.int .i64 4) := ln
 refine u7 (fn := AP.f110) (h2 := h5) (e := [(4, .aF (h.next + 1) 0 4 1), (5, .int .i64 0)]) (vs := [.aF (h.next + 1) 0 4 1, .int .i64 0]) rfl rfl rfl ?_ rfl ?_
 · clear a1 a2 e1 e2 e3 e4 s0 s1 s2 s3 ra rb ra' rb' fin ha hb
   simp (disch := omega) only [go_sem, wH, AP.f110, k1, k2, k3, ln', th, lp]
 · have o : wW 1 h5 (.aF (h.next + 1) 0 4 1) 4 (ints [xG a0 p0, xG b0 p1, xG c0 p2, xG d0 p3]) := ⟨rfl, .inr ⟨_, rfl, g5, by rw [eh5, eh4, eh3, eh2]; simp; omega, by omega⟩⟩
   have s := o.yC (fl := h.next) (m := 13) (t := true) (by rw [eh5, eh4, eh3, eh2]; simp [f1])
   show (fV (snap h5.get h.next 15 true) [.aF (h.next + 1) 0 4 1, .int .i64 0]).bind _ = _
   simp only [fV, s, vO]
   rfl
def Ej (a b : Int) : Int := if a < b then -1 else if b < a then 1 else 0
theorem Ow (h : H) (a : Int) : aS AP.A 116 [.int .i64 a] h = some (.bool false, h) := by
 refine u7 (fn := AP.f116) (h2 := h.ez) (e := [(2, .bool false)]) rfl rfl rfl ?_ rfl rfl
 simp (disch := omega) only [go_sem, wH, AP.f116]
theorem Oh (h : H) (a b : Int) : aS AP.A 109 [.int .i64 a, .int .i64 b] h = some (.int .i64 (Ej a b), h) := by
 have k1 := Ow h.ez a
 have k2 := Ow h.ez b
 unfold Ej
 refine u7 (fn := AP.f109) (h2 := h.ez) (e := [(4, .int .i64 (if a < b then -1 else if b < a then 1 else 0))]) rfl rfl rfl ?_ rfl rfl
 by_cases c1 : a < b
 · rw [if_pos c1]; simp (disch := omega) only [go_sem, wH, AP.f109, k1, k2]
 · rw [if_neg c1]
   by_cases c2 : b < a
   · rw [if_pos c2]; simp (disch := omega) only [go_sem, wH, AP.f109, k1, k2]
   · rw [if_neg c2]; simp (disch := omega) only [go_sem, wH, AP.f109, k1, k2]
def Ur (a b : Int) : Int := if a = 0 then b else a
theorem U4 (h : H) (v : AV) (a b : Int) (rd : Rd h v (ints [a, b])) : aS AP.A 108 [v] h = some (.int .i64 (Ur a b), h) := by
 have rd' := rd.mono (wG h)
 have ln : jy false v = some (.int .i64 2) := rd'.len
 obtain ⟨ad, a1, a2⟩ := rd'.xY
 have i0 := a1 0 (by simp)
 have i1 := a1 1 (by simp)
 have l0 : cJ false 1 (ad 0) h.ez = some (.int .i64 a) := a2 h.ez (Ext.refl _) 0 a rfl
 have l1 : cJ false 1 (ad 1) h.ez = some (.int .i64 b) := a2 h.ez (Ext.refl _) 1 b rfl
 clear a1 a2 rd rd'
 unfold Ur
 by_cases c1 : a = 0
 · rw [if_pos c1]
   have s0 : aM (aS AP.A) bG AP.f108L0 (ay [(3, .int .i64 0), (6, v), (7, .int .i64 2), (8, .int .i64 0)] [3, 6, 7, 8]) h.ez = some (.normal, [(3, .int .i64 0), (6, v), (7, .int .i64 2), (8, .int .i64 1)], h.ez) := by
    simp (disch := omega) only [go_sem, wH, AP.f108L0, i0, l0]
   by_cases c2 : b = 0
   · have s1 : aM (aS AP.A) bG AP.f108L0 (ay [(3, .int .i64 0), (6, v), (7, .int .i64 2), (8, .int .i64 1)] [3, 6, 7, 8]) h.ez = some (.normal, [(3, .int .i64 0), (6, v), (7, .int .i64 2), (8, .int .i64 2)], h.ez) := by
      simp (disch := omega) only [go_sem, wH, AP.f108L0, i1, l1]
     have fin : Lp AP.A [3, 6, 7, 8] AP.f108L0 [(3, .int .i64 0), (6, v), (7, .int .i64 2), (8, .int .i64 2)] h.ez = some (.exit 0, [(3, .int .i64 0), (6, v), (7, .int .i64 2), (8, .int .i64 2), (9, .bool false)], h.ez) := by
      refine ux ?_
      simp (disch := omega) only [go_sem, wH, AP.f108L0]
     have lp := uy s0 (uy s1 fin)
     refine u7 (fn := AP.f108) (h2 := h.ez) (e := [(2, .int .i64 0)]) (vs := [.int .i64 b]) rfl rfl rfl ?_ (by rw [c2]; rfl) rfl
     clear s0 s1 fin
     simp (disch := omega) only [go_sem, wH, AP.f108, ln, th, lp]
   · have s1 : Lp AP.A [3, 6, 7, 8] AP.f108L0 [(3, .int .i64 0), (6, v), (7, .int .i64 2), (8, .int .i64 1)] h.ez = some (.ret, [(2, .int .i64 b)], h.ez) := by
      refine uT ?_
      simp (disch := omega) only [go_sem, wH, AP.f108L0, i1, l1]
     have lp := uy s0 s1
     refine u7 (fn := AP.f108) (h2 := h.ez) (e := [(2, .int .i64 b)]) rfl rfl rfl ?_ rfl rfl
     clear s0 s1
     simp (disch := omega) only [go_sem, wH, AP.f108, ln, th, lp]
 · rw [if_neg c1]
   have lp : Lp AP.A [3, 6, 7, 8] AP.f108L0 [(3, .int .i64 0), (6, v), (7, .int .i64 2), (8, .int .i64 0)] h.ez = some (.ret, [(2, .int .i64 a)], h.ez) := by
    refine uT ?_
    simp (disch := omega) only [go_sem, wH, AP.f108L0, i0, l0]
   refine u7 (fn := AP.f108) (h2 := h.ez) (e := [(2, .int .i64 a)]) rfl rfl rfl ?_ rfl rfl
   simp (disch := omega) only [go_sem, wH, AP.f108, ln, th, lp]
def I7 (a b : zw) : Bool := decide (a.wZ < b.wZ) || (decide (a.wZ = b.wZ) && decide (a.node < b.node))
theorem Re (a b : zw) : decide (Ur (Ej a.wZ b.wZ) (Ej a.node b.node) < 0) = I7 a b := by
 unfold Ur Ej I7
 by_cases c1 : a.wZ < b.wZ
 · simp [c1]
 · by_cases c2 : b.wZ < a.wZ
   · have : ¬ a.wZ = b.wZ := by omega
     simp [c1, c2, this]
   · have : a.wZ = b.wZ := by omega
     rw [if_neg c1, if_neg c2, if_pos rfl]
     by_cases c3 : a.node < b.node
     · simp [c3, this]
     · by_cases c4 : b.node < a.node
       · simp [c3, c4, this]
       · simp [c3, c4, this]
def yw (a b : zw) : Option zw :=
 if ze a && (ze b && (a.name.data.toList == b.name.data.toList)) then some { (if I7 a b then b else a) with vec := xP a.vec b.vec } else none
def zV : zw := ⟨⟨#[]⟩, false, [], 0, 0, 0, ⟨#[]⟩, 0, 0⟩
def G9 : Option zw → AV
 | some e => .bU [.agg (wD e (xg e.vec)), .int .i64 0]
 | none => .bU [.agg (wD zV .aQ), .int .i64 1500]
theorem Il {e : zw} (h : ze e = true) : C8 e.vec = true := by
 unfold ze yo at h
 by_cases c : ET [e] = false
 · rw [if_pos c] at h; cases h
 · rw [Ou] at c
   simp only [Bool.not_eq_false, vS] at c
   have := c.2.1
   unfold yY at this
   simp only [vS] at this
   exact this.1
theorem IL {g : Nat → Option (List AV)} {fl n : Nat} {e : zw} {v v' : AV} (hv : snap g fl (n + 1) true v = some v') : snap g fl (n + 2) true (.agg (wD e v)) = some (.agg (wD e v')) := by
 unfold snap
 simp only [wD, fV, hv]
 rfl
abbrev Z9 : List AV := [.str ⟨#[]⟩, .bool false, .aQ, .int .i64 0, .int .i64 0, .int .i64 0, .str ⟨#[]⟩, .int .i64 0, .int .i64 0]
theorem JA {h h1 h2 h3 h4 h5 h6 h7 h8 h9 : H} {A B W R : List AV} {va vb vj : AV} {na nb : ByteArray} {wn : Bool} {sa sb da db ca cb oo : Int}
 (lA : A.length = 9) (sA : AV.aC A = true) (lB : B.length = 9) (sB : AV.aC B = true)
 (ra : iG true 9 A 0 = some (.agg A)) (rb : iG true 9 B 0 = some (.agg B)) (rr : iG true 9 R 0 = some (.agg R))
 (a0 : A[0]? = some (.str na)) (a2 : A[2]? = some va) (a3 : A[3]? = some (.int .i64 sa)) (a4 : A[4]? = some (.int .i64 da))
 (b0 : B[0]? = some (.str nb)) (b2 : B[2]? = some vb) (b3 : B[3]? = some (.int .i64 sb)) (b4 : B[4]? = some (.int .i64 db))
 (n0 : h.ez.next = h.next) (n1 : h1.next = h.next + 1) (n2 : h2.next = h.next + 2) (n3 : h3.next = h.next + 3) (n5 : h5.next = h.next + 4)
 (e1 : h.ez.alloc A = h1) (e2 : h1.alloc B = h2) (e3 : h2.alloc [.str ⟨#[]⟩, .bool false, .aQ, .int .i64 0, .int .i64 0, .int .i64 0, .str ⟨#[]⟩, .int .i64 0, .int .i64 0] = h3)
 (ga3 : h3.get h.next = some A) (gb3 : h3.get (h.next + 1) = some B)
 (k1 : aS AP.A 96 [.agg A] h3 = some (.bool true, h3)) (k2 : aS AP.A 96 [.agg B] h3 = some (.bool true, h3)) (cm : bw .neq (.str na) (.str nb) = some (.bool false))
 (e4 : h3.alloc [.str ⟨#[]⟩, .bool false, .aQ, .int .i64 0, .int .i64 0, .int .i64 0, .str ⟨#[]⟩, .int .i64 0, .int .i64 0] = h4) (gz4 : h4.get (h.next + 3) = some Z9)
 (st5 : ve h4 (h.next + 3) 0 9 A (some Z9) = some h5)
 (ga5 : h5.get h.next = some A) (gb5 : h5.get (h.next + 1) = some B)
 (m1 : aS AP.A 109 [.int .i64 sa, .int .i64 sb] h5 = some (.int .i64 ca, h5)) (m2 : aS AP.A 109 [.int .i64 da, .int .i64 db] h5 = some (.int .i64 cb, h5))
 (e6 : h5.alloc [.int .i64 ca, .int .i64 cb] = h6) (m3 : aS AP.A 108 [.aF (h.next + 4) 0 2 1] h6 = some (.int .i64 oo, h6)) (hw : decide (oo < 0) = wn)
 (ga6 : h6.get h.next = some A) (gb6 : h6.get (h.next + 1) = some B) (gd6 : h6.get (h.next + 3) = some A)
 (st7 : ve h6 (h.next + 3) 0 9 B (some A) = some (h6.set (h.next + 3) B)) (e7 : h7 = if wn then h6.set (h.next + 3) B else h6)
 (ga7 : h7.get h.next = some A) (gb7 : h7.get (h.next + 1) = some B) (gd7 : h7.get (h.next + 3) = some W)
 (m4 : aS AP.A 110 [va, vb] h7 = some (.bU [vj, .int .i64 0], h7)) (hj : vj.cells = [vj])
 (st8 : ve h7 (h.next + 3) 2 1 [vj] (some W) = some h8) (gd8 : h8.get (h.next + 3) = some R) (gc8 : h8.get (h.next + 2) = some Z9)
 (st9 : ve h8 (h.next + 2) 0 9 R (some Z9) = some h9) :
 aM (aS AP.A) bG AP.f97.body (params 0 [.agg A, .agg B]) h.ez = some (.ret, [(4, .aE (h.next + 2) 0), (5, .int .i64 0)], h9) := by
 cases wn with
 | true =>
   rw [if_pos rfl] at e7
   rw [← e7] at st7
   simp (disch := omega) only [go_sem, wH, AP.f97, lA, sA, lB, sB, ra, rb, rr, a0, a2, a3, a4, b0, b2, b3, b4, n0, n1, n2, n3, n5, e1, e2, e3, ga3, gb3, k1, k2, cm, e4, gz4, st5, ga5, gb5, m1, m2, e6, m3, hw, ga6, gb6, gd6, st7, ga7, gb7, gd7, m4, hj, st8, gd8, gc8, st9]
 | false =>
   rw [if_neg (by decide)] at e7
   subst e7
   simp (disch := omega) only [go_sem, wH, AP.f97, lA, sA, lB, sB, ra, rb, rr, a0, a2, a3, a4, b0, b2, b3, b4, n0, n1, n2, n3, n5, e1, e2, e3, ga3, gb3, k1, k2, cm, e4, gz4, st5, ga5, gb5, m1, m2, e6, m3, hw, ga7, gb7, gd7, m4, hj, st8, gd8, gc8, st9]
theorem EV (h : H) (hf : h.floor ≤ h.next) (a b : zw) (va vb : AV) (sa : va.sc = true) (sb : vb.sc = true) (oka : BR h (a, va)) (okb : BR h (b, vb)) (hm : yw a b = none) :
 aS AP.A 97 [.agg (wD a va), .agg (wD b vb)] h = some (G9 (yw a b), h) := by
 obtain ⟨h1, eh1⟩ : ∃ g, g = h.ez.alloc (wD a va) := ⟨_, rfl⟩
 obtain ⟨h2, eh2⟩ : ∃ g, g = h1.alloc (wD b vb) := ⟨_, rfl⟩
 obtain ⟨h3, eh3⟩ : ∃ g, g = h2.alloc (wD zV .aQ) := ⟨_, rfl⟩
 have x1 : Ext h h1 := fun i c q => by rw [eh1]; exact ((Ext.refl h.ez).alloc _) i c q
 have x2 : Ext h h2 := by rw [eh2]; exact x1.alloc _
 have x3 : Ext h h3 := by rw [eh3]; exact x2.alloc _
 have n0 : h.ez.next = h.next := rfl
 have n1 : h1.next = h.next + 1 := by rw [eh1]; simp
 have n2 : h2.next = h.next + 2 := by rw [eh2]; simp [n1]
 have n3 : h3.next = h.next + 3 := by rw [eh3]; simp [n2]
 have f3 : h3.floor = h.next := by rw [eh3, eh2, eh1]; simp
 have ga3 : h3.get h.next = some (wD a va) := by rw [eh3, wR (by omega), eh2, wR (by omega), eh1, wM (by simp)]
 have gb3 : h3.get (h.next + 1) = some (wD b vb) := by rw [eh3, wR (by omega), eh2, wM (by omega)]
 have gc3 : h3.get (h.next + 2) = some (wD zV .aQ) := by rw [eh3, wM (by omega)]
 have k1 := A5 h3 (by omega) a va sa (oka.mono x3)
 have k2 := A5 h3 (by omega) b vb sb (okb.mono x3)
 have ra : iG true 9 (wD a va) 0 = some (.agg (wD a va)) := rfl
 have rb : iG true 9 (wD b vb) 0 = some (.agg (wD b vb)) := rfl
 have cm : bw .neq (.str a.name) (.str b.name) = some (.bool (!(a.name.data.toList == b.name.data.toList))) := D8 _ _
 have e3e : h2.alloc [.str ⟨#[]⟩, .bool false, .aQ, .int .i64 0, .int .i64 0, .int .i64 0, .str ⟨#[]⟩, .int .i64 0, .int .i64 0] = h3 := eh3.symm
 rw [hm]
 unfold yw at hm
 have hbad : (ze a && (ze b && (a.name.data.toList == b.name.data.toList))) = false := by
  cases hq : (ze a && (ze b && (a.name.data.toList == b.name.data.toList))) with
  | false => rfl
  | true => rw [hq, if_pos rfl] at hm; cases hm
 clear hm
 obtain ⟨h4, eh4⟩ : ∃ g, g = h3.set (h.next + 2) (wD zV .aQ) := ⟨_, rfl⟩
 have g4 : h4.get (h.next + 2) = some (wD zV .aQ) := by rw [eh4, wQ rfl, gc3]; rfl
 have e4e : h3.set (h.next + 2) [.str ⟨#[]⟩, .bool false, .aQ, .int .i64 0, .int .i64 0, .int .i64 0, .str ⟨#[]⟩, .int .i64 0, .int .i64 0] = h4 := eh4.symm
 refine u7 (fn := AP.f97) (h2 := h4) (e := [(4, .aE (h.next + 2) 0), (5, .int .i64 1500)]) (vs := [.agg (wD zV .aQ), .int .i64 1500]) rfl rfl rfl ?_ ?_ rfl
 · clear x1 x2 x3 oka okb g4
   generalize ze a = B1 at *
   generalize ze b = B2 at *
   generalize (a.name.data.toList == b.name.data.toList) = B3 at *
   simp only [wD, zV] at *
   cases B1 with
   | false => simp (disch := omega) only [go_sem, wH, AP.f97, sa, sb, n0, ← eh1, n1, ← eh2, n2, e3e, ga3, gb3, gc3, ra, rb, k1, k2, cm, e4e, f3]
   | true =>
     cases B2 with
     | false => simp (disch := omega) only [go_sem, wH, AP.f97, sa, sb, n0, ← eh1, n1, ← eh2, n2, e3e, ga3, gb3, gc3, ra, rb, k1, k2, cm, e4e, f3]
     | true =>
       cases B3 with
       | false => simp (disch := omega) only [go_sem, wH, AP.f97, sa, sb, n0, ← eh1, n1, ← eh2, n2, e3e, ga3, gb3, gc3, ra, rb, k1, k2, cm, e4e, f3]
       | true => cases hbad
 · simp only [AP.f97, cO, od, nQ, mB, ne_eq, Nat.reduceEqDiff, not_false_eq_true, rH, g4, uo]
   rfl
set_option maxHeartbeats 1600000 in
theorem J9 (h : H) (hf : h.floor ≤ h.next) (a b : zw) (va vb : AV) (sa : va.sc = true) (sb : vb.sc = true) (oka : BR h (a, va)) (okb : BR h (b, vb)) :
 aS AP.A 97 [.agg (wD a va), .agg (wD b vb)] h = some (G9 (yw a b), h) := by
 obtain ⟨h1, eh1⟩ : ∃ g, g = h.ez.alloc (wD a va) := ⟨_, rfl⟩
 obtain ⟨h2, eh2⟩ : ∃ g, g = h1.alloc (wD b vb) := ⟨_, rfl⟩
 obtain ⟨h3, eh3⟩ : ∃ g, g = h2.alloc (wD zV .aQ) := ⟨_, rfl⟩
 have x1 : Ext h h1 := fun i c q => by rw [eh1]; exact ((Ext.refl h.ez).alloc _) i c q
 have x2 : Ext h h2 := by rw [eh2]; exact x1.alloc _
 have x3 : Ext h h3 := by rw [eh3]; exact x2.alloc _
 have n0 : h.ez.next = h.next := rfl
 have n1 : h1.next = h.next + 1 := by rw [eh1]; simp
 have n2 : h2.next = h.next + 2 := by rw [eh2]; simp [n1]
 have n3 : h3.next = h.next + 3 := by rw [eh3]; simp [n2]
 have f3 : h3.floor = h.next := by rw [eh3, eh2, eh1]; simp
 have ga3 : h3.get h.next = some (wD a va) := by rw [eh3, wR (by omega), eh2, wR (by omega), eh1, wM (by simp)]
 have gb3 : h3.get (h.next + 1) = some (wD b vb) := by rw [eh3, wR (by omega), eh2, wM (by omega)]
 have gc3 : h3.get (h.next + 2) = some (wD zV .aQ) := by rw [eh3, wM (by omega)]
 have k1 := A5 h3 (by omega) a va sa (oka.mono x3)
 have k2 := A5 h3 (by omega) b vb sb (okb.mono x3)
 have ra : iG true 9 (wD a va) 0 = some (.agg (wD a va)) := rfl
 have rb : iG true 9 (wD b vb) 0 = some (.agg (wD b vb)) := rfl
 have cm : bw .neq (.str a.name) (.str b.name) = some (.bool (!(a.name.data.toList == b.name.data.toList))) := D8 _ _
 have e3e : h2.alloc [.str ⟨#[]⟩, .bool false, .aQ, .int .i64 0, .int .i64 0, .int .i64 0, .str ⟨#[]⟩, .int .i64 0, .int .i64 0] = h3 := eh3.symm
 cases hq : (ze a && (ze b && (a.name.data.toList == b.name.data.toList))) with
 | false => exact EV h hf a b va vb sa sb oka okb (by unfold yw; rw [hq]; rfl)
 | true =>
   have hm : yw a b = some { (if I7 a b then b else a) with vec := xP a.vec b.vec } := by unfold yw; rw [if_pos hq]
   rw [hm]
   simp only [vS] at hq
   obtain ⟨q1, q2, q3⟩ := hq
   rw [q1] at k1; rw [q2] at k2; rw [q3] at cm
   clear hm
   obtain ⟨h4, eh4⟩ : ∃ g, g = h3.alloc (wD zV .aQ) := ⟨_, rfl⟩
   obtain ⟨h5, eh5⟩ : ∃ g, g = h4.set (h.next + 3) (wD a va) := ⟨_, rfl⟩
   obtain ⟨h6, eh6⟩ : ∃ g, g = h5.alloc (ints [Ej a.wZ b.wZ, Ej a.node b.node]) := ⟨_, rfl⟩
   obtain ⟨w, ew⟩ : ∃ w, w = if I7 a b then (b, vb) else (a, va) := ⟨_, rfl⟩
   obtain ⟨h7, eh7⟩ : ∃ g, g = if I7 a b then h6.set (h.next + 3) (wD b vb) else h6 := ⟨_, rfl⟩
   obtain ⟨r, er⟩ : ∃ r : zw, r = { (if I7 a b then b else a) with vec := xP a.vec b.vec } := ⟨_, rfl⟩
   obtain ⟨h8, eh8⟩ : ∃ g, g = h7.set (h.next + 3) (wD r (xg (xP a.vec b.vec))) := ⟨_, rfl⟩
   obtain ⟨h9, eh9⟩ : ∃ g, g = h8.set (h.next + 2) (wD r (xg (xP a.vec b.vec))) := ⟨_, rfl⟩
   have x4 : Ext h h4 := by rw [eh4]; exact x3.alloc _
   have x5 : Ext h h5 := by rw [eh5]; exact x4.set (by omega) _
   have x6 : Ext h h6 := by rw [eh6]; exact x5.alloc _
   have x7 : Ext h h7 := by rw [eh7]; split; · exact x6.set (by omega) _
                            exact x6
   have n4 : h4.next = h.next + 4 := by rw [eh4]; simp [n3]
   have n5 : h5.next = h.next + 4 := by rw [eh5]; simp [n4]
   have n6 : h6.next = h.next + 5 := by rw [eh6]; simp [n5]
   have f4 : h4.floor = h.next := by rw [eh4]; simp [f3]
   have f5 : h5.floor = h.next := by rw [eh5]; simp [f4]
   have f6 : h6.floor = h.next := by rw [eh6]; simp [f5]
   have f7 : h7.floor = h.next := by rw [eh7]; split <;> simp [f6]
   have f8 : h8.floor = h.next := by rw [eh8]; simp [f7]
   have n7 : h7.next = h.next + 5 := by rw [eh7]; split <;> simp [n6]
   have gz4 : h4.get (h.next + 3) = some (wD zV .aQ) := by rw [eh4, wM (by omega)]
   have g5 : ∀ i, i ≠ h.next + 3 → i < h.next + 3 → h5.get i = h3.get i := fun i hi hl => by rw [eh5, wJ hi, eh4, wR (by omega)]
   have gd5 : h5.get (h.next + 3) = some (wD a va) := by rw [eh5, wQ rfl, gz4]; rfl
   have ga5 : h5.get h.next = some (wD a va) := by rw [g5 _ (by omega) (by omega), ga3]
   have gb5 : h5.get (h.next + 1) = some (wD b vb) := by rw [g5 _ (by omega) (by omega), gb3]
   have g6 : ∀ i, i < h.next + 4 → h6.get i = h5.get i := fun i hl => by rw [eh6, wR (by omega)]
   have ga6 : h6.get h.next = some (wD a va) := by rw [g6 _ (by omega), ga5]
   have gb6 : h6.get (h.next + 1) = some (wD b vb) := by rw [g6 _ (by omega), gb5]
   have gd6 : h6.get (h.next + 3) = some (wD a va) := by rw [g6 _ (by omega), gd5]
   have g7 : ∀ i, i ≠ h.next + 3 → h7.get i = h6.get i := fun i hi => by rw [eh7]; split; · rw [wJ hi]
                                                                         rfl
   have ga7 : h7.get h.next = some (wD a va) := by rw [g7 _ (by omega), ga6]
   have gb7 : h7.get (h.next + 1) = some (wD b vb) := by rw [g7 _ (by omega), gb6]
   have gd7 : h7.get (h.next + 3) = some (wD w.1 w.2) := by
    rw [eh7, ew]; split
    · rw [wQ rfl, gd6]; rfl
    · exact gd6
   have gc8 : h8.get (h.next + 2) = some (wD zV .aQ) := by rw [eh8, wJ (by omega), g7 _ (by omega), g6 _ (by omega), g5 _ (by omega) (by omega), gc3]
   have gd8 : h8.get (h.next + 3) = some (wD r (xg (xP a.vec b.vec))) := by rw [eh8, wQ rfl, gd7]; rfl
   have gc9 : h9.get (h.next + 2) = some (wD r (xg (xP a.vec b.vec))) := by rw [eh9, wQ rfl, gc8]; rfl
   have m1 := Oh h5 a.wZ b.wZ
   have m2 := Oh h5 a.node b.node
   have rd6 : Rd h6 (.aF (h.next + 4) 0 2 1) (ints [Ej a.wZ b.wZ, Ej a.node b.node]) := by
    refine ⟨?_, fun _ => by simp⟩
    simp only [aT, if_true]
    rw [eh6, wM (by omega)]; rfl
   have m3 := U4 h6 (.aF (h.next + 4) 0 2 1) _ _ rd6
   have m4 := NM h7 va vb a.vec b.vec (oka.mono x7).vec (okb.mono x7).vec (Il q1) (Il q2) (by omega)
   have wn := Re a b
   have st8 : setFrom (wD w.1 w.2) 2 (xg (xP a.vec b.vec)).cells = wD r (xg (xP a.vec b.vec)) := by
    have hc : (xg (xP a.vec b.vec)).cells = [xg (xP a.vec b.vec)] := by unfold xg Aa; split <;> rfl
    rw [hc, ew, er]
    cases I7 a b <;> rfl
   have sv : (xg (xP a.vec b.vec)).sc = true := by unfold xg Aa; split <;> rfl
   have hc : (xg (xP a.vec b.vec)).cells = [xg (xP a.vec b.vec)] := by unfold xg Aa; split <;> rfl
   have sw : AV.aC (wD w.1 w.2) = true := by rw [ew]; split <;> simp [wD, sa, sb]
   have rr : iG true 9 (wD r (xg (xP a.vec b.vec))) 0 = some (.agg (wD r (xg (xP a.vec b.vec)))) := rfl
   have lr : (wD r (xg (xP a.vec b.vec))).length = 9 := rfl
   have lw : (wD w.1 w.2).length = 9 := rfl
   have s4e : h3.alloc [.str ⟨#[]⟩, .bool false, .aQ, .int .i64 0, .int .i64 0, .int .i64 0, .str ⟨#[]⟩, .int .i64 0, .int .i64 0] = h4 := eh4.symm
   have st5 : ve h4 (h.next + 3) 0 9 (wD a va) (some (wD zV .aQ)) = some h5 := by rw [eh5]; exact Bx (by omega) rfl rfl (by simp [wD, sa])
   have st7 : ve h6 (h.next + 3) 0 9 (wD b vb) (some (wD a va)) = some (h6.set (h.next + 3) (wD b vb)) := Bx (by omega) rfl rfl (by simp [wD, sb])
   have st8' : ve h7 (h.next + 3) 2 1 [xg (xP a.vec b.vec)] (some (wD w.1 w.2)) = some h8 := by
    rw [vA (by omega) (by rw [lw]; omega) sv]
    rw [hc] at st8
    have : setFrom (wD w.1 w.2) 2 [xg (xP a.vec b.vec)] = (wD w.1 w.2).set 2 (xg (xP a.vec b.vec)) := rfl
    rw [← this, st8, eh8]
   have st9 : ve h8 (h.next + 2) 0 9 (wD r (xg (xP a.vec b.vec))) (some (wD zV .aQ)) = some h9 := by rw [eh9]; exact Bx (by omega) rfl rfl (by simp [wD, sv])
   have ca3 : (wD a va)[3]? = some (.int .i64 a.wZ) := rfl
   have ca4 : (wD a va)[4]? = some (.int .i64 a.node) := rfl
   have ca2 : (wD a va)[2]? = some va := rfl
   have ca0 : (wD a va)[0]? = some (.str a.name) := rfl
   have cb3 : (wD b vb)[3]? = some (.int .i64 b.wZ) := rfl
   have cb4 : (wD b vb)[4]? = some (.int .i64 b.node) := rfl
   have cb2 : (wD b vb)[2]? = some vb := rfl
   have cb0 : (wD b vb)[0]? = some (.str b.name) := rfl
   have e1e : h.ez.alloc (wD a va) = h1 := eh1.symm
   have e2e : h1.alloc (wD b vb) = h2 := eh2.symm
   have e6e : h5.alloc [.int .i64 (Ej a.wZ b.wZ), .int .i64 (Ej a.node b.node)] = h6 := eh6.symm
   have hvr : r.vec = xP a.vec b.vec := by rw [er]
   refine u7 (fn := AP.f97) (h2 := h9) (e := [(4, .aE (h.next + 2) 0), (5, .int .i64 0)]) (vs := [.agg (wD r (xg (xP a.vec b.vec))), .int .i64 0]) rfl rfl rfl ?_ ?_ ?_
   · exact JA rfl (by simp [wD, sa]) rfl (by simp [wD, sb]) ra rb rr ca0 ca2 ca3 ca4 cb0 cb2 cb3 cb4 n0 n1 n2 n3 n5 e1e e2e e3e ga3 gb3 k1 k2 cm s4e gz4 st5 ga5 gb5 m1 m2 e6e m3 wn ga6 gb6 gd6 st7 eh7 ga7 gb7 gd7 m4 hc st8' gd8 gc8 st9
   · simp only [AP.f97, cO, od, nQ, mB, ne_eq, Nat.reduceEqDiff, not_false_eq_true, rH, gc9, uo, rr]
     rfl
   · show (fV (snap h9.get h.next 15 true) [.agg (wD r (xg (xP a.vec b.vec))), .int .i64 0]).bind _ = _
     have s1 : snap h9.get h.next 15 true (.agg (wD r (xg (xP a.vec b.vec)))) = some (.agg (wD r (xg (xP a.vec b.vec)))) := by
      refine IL ?_
      unfold xg Aa
      split <;> rfl
     simp only [fV, s1, vO]
     rw [← er]
     show _ = some (AV.bU [.agg (wD r (xg r.vec)), .int .i64 0])
     rw [hvr]; rfl
def Cq (name : ByteArray) (node : Nat) (wZ : Int) (text : ByteArray) : zw := ⟨name, false, [0, 0, 0, 0].set node wZ, wZ, node, 0, text, text.size, zq text⟩
theorem Rc {l : List Int} (h : l.length = 4) : xg l = .aV false (ints l) 0 4 1 := by unfold xg Aa; rw [h, if_neg (by omega)]
theorem Hs (h : H) (name text : ByteArray) (node : Nat) (wZ : Int) (hn : node < 4) (ht : text.size < 1125899906842624) :
 aS AP.A 99 [.str name, .int .i64 node, .int .i64 wZ, .str text] h = some (.agg (wD (Cq name node wZ text) (xg ([0, 0, 0, 0].set node wZ))), h) := by
 obtain ⟨h1, eh1⟩ : ∃ g, g = h.ez.alloc (wD zV .aQ) := ⟨_, rfl⟩
 obtain ⟨h2, eh2⟩ : ∃ g, g = h1.alloc (ints [0, 0, 0, 0]) := ⟨_, rfl⟩
 obtain ⟨h3, eh3⟩ : ∃ g, g = h2.set (h.next + 1) (ints ([0, 0, 0, 0].set node wZ)) := ⟨_, rfl⟩
 obtain ⟨h4, eh4⟩ : ∃ g, g = h3.set h.next (wD (Cq name node wZ text) (.aF (h.next + 1) 0 4 1)) := ⟨_, rfl⟩
 have n0 : h.ez.next = h.next := rfl
 have n1 : h1.next = h.next + 1 := by rw [eh1]; simp
 have f2 : h2.floor = h.next := by rw [eh2, eh1]; simp
 have f3 : h3.floor = h.next := by rw [eh3]; simp [f2]
 have g2 : h2.get (h.next + 1) = some (ints [0, 0, 0, 0]) := by rw [eh2, wM (by omega)]
 have gz3 : h3.get h.next = some (wD zV .aQ) := by rw [eh3, wJ (by omega), eh2, wR (by omega), eh1, wM (by simp)]
 have g3 : h3.get (h.next + 1) = some (ints ([0, 0, 0, 0].set node wZ)) := by rw [eh3, wQ rfl, g2]; rfl
 have g4 : h4.get h.next = some (wD (Cq name node wZ text) (.aF (h.next + 1) 0 4 1)) := by rw [eh4, wQ rfl, gz3]; rfl
 have g4' : h4.get (h.next + 1) = some (ints ([0, 0, 0, 0].set node wZ)) := by rw [eh4, wJ (by omega), g3]
 have st3 : ve h2 (h.next + 1) node 1 [.int .i64 wZ] (some (ints [0, 0, 0, 0])) = some h3 := by
  rw [vA (by omega) (by simp; omega) rfl, eh3]
  congr 2
  match node, hn with
  | 0, _ => rfl
  | 1, _ => rfl
  | 2, _ => rfl
  | 3, _ => rfl
 have st4 : ve h3 h.next 0 9 [.str name, .bool false, .aF (h.next + 1) 0 4 1, .int .i64 wZ, .int .i64 node, .int .i64 0, .str text, .int .i64 text.size, .int .i64 (zq text : Nat)] (some (wD zV .aQ)) = some h4 := by
  rw [eh4]; exact Bx (by omega) rfl rfl rfl
 have e1 : h.ez.alloc [.str ⟨#[]⟩, .bool false, .aQ, .int .i64 0, .int .i64 0, .int .i64 0, .str ⟨#[]⟩, .int .i64 0, .int .i64 0] = h1 := eh1.symm
 have e2 : h1.alloc (zm 4 [.int .i64 0]) = h2 := eh2.symm
 have kc := LO h3 text ht
 have hlen : ([0, 0, 0, 0].set node wZ : List Int).length = 4 := by simp
 have o : wW 1 h4 (.aF (h.next + 1) 0 4 1) 4 (ints ([0, 0, 0, 0].set node wZ)) := ⟨by simp, .inr ⟨_, rfl, g4', by rw [eh4]; simp; omega, by omega⟩⟩
 have s1 : snap h4.get h.next 15 true (.aF (h.next + 1) 0 4 1) = some (xg ([0, 0, 0, 0].set node wZ)) := by
  have := o.yC (fl := h.next) (m := 13) (t := true) (by rw [eh4]; simp; omega)
  rw [this]; unfold xg; rw [hlen]
 have body : aM (aS AP.A) bG AP.f99.body (params 0 [.str name, .int .i64 node, .int .i64 wZ, .str text]) h.ez = some (.ret, [(8, .aE h.next 0)], h4) := by
  clear o s1 g4 g4' g3
  have it : ((node : Nat) : Int).toNat = node := by omega
  simp (disch := omega) only [go_sem, wH, AP.f99, n0, e1, n1, e2, it, g2, st3, kc, gz3, st4]
 refine u7 (fn := AP.f99) (h2 := h4) (e := [(8, .aE h.next 0)]) (vs := [.agg (wD (Cq name node wZ text) (.aF (h.next + 1) 0 4 1))]) rfl rfl rfl body ?_ ?_
 · simp only [AP.f99, cO, od, nQ, rH, g4, uo]; rfl
 · exact IL s1
theorem Kj {v w : AV} {a b : List Int} (hab : a.length = b.length) (hl : a.length < 1125899906842624) (h : H) (ra : Rd h v (ints a)) (rb : Rd h w (ints b)) : ∀ (p q r : List Int) (p' : List Int), a = p ++ q → b = p' ++ r → p.length = p'.length →
 (∃ e', Lp AP.A [0, 1, 5] AP.f106L0 [(0, v), (1, w), (5, .int .i64 p.length)] h = some (.exit 0, e', h) ∧ decide (q = r) = true) ∨
 (∃ e', Lp AP.A [0, 1, 5] AP.f106L0 [(0, v), (1, w), (5, .int .i64 p.length)] h = some (.ret, e', h) ∧ look e' 4 = .bool false ∧ decide (q = r) = false)
 | p, [], r, p', hp, hq, hpp => by
   have hr : r = [] := List.eq_nil_of_length_eq_zero (by rw [hp, hq] at hab; simp at hab; omega)
   left
   have ln := ra.len
   rw [qy] at ln
   simp only [I] at ln
   rw [V4] at hp
   refine ⟨[(0, v), (1, w), (5, .int .i64 p.length), (14, .bool false)], ux ?_, by rw [hr]; rfl⟩
   rw [hp] at ln
   clear hab hl ra rb
   simp (disch := omega) only [go_sem, wH, AP.f106L0, ln]
 | p, x :: q, [], p', hp, hq, hpp => by
   exfalso
   rw [hp, hq] at hab; simp at hab; omega
 | p, x :: q, y :: r, p', hp, hq, hpp => by
   have ln := ra.len
   rw [qy] at ln
   simp only [I] at ln
   have hlen : a.length = p.length + (q.length + 1) := by rw [hp]; simp
   have hx : a[p.length]? = some x := by rw [hp]; simp
   have hy : b[p.length]? = some y := by rw [hpp, hq]; simp
   obtain ⟨ad, a1, a2⟩ := ra.xY
   obtain ⟨bd, b1, b2⟩ := rb.xY
   have i1 := a1 p.length ⟨by omega, by omega⟩
   have i2 := b1 p.length ⟨by omega, by omega⟩
   have l1 := a2 h (Ext.refl h) _ _ hx
   have l2 := b2 h (Ext.refl h) _ _ hy
   have w1 : (((p ++ [x]).length : Nat) : Int) = (p.length : Int) + 1 := by simp
   have ih := Kj hab hl h ra rb (p ++ [x]) q r (p' ++ [y]) (by rw [hp]; simp) (by rw [hq]; simp) (by simp; omega)
   rw [w1] at ih
   clear a1 a2 b1 b2 ra rb w1
   by_cases c : x = y
   · have step : aM (aS AP.A) bG AP.f106L0 (ay [(0, v), (1, w), (5, .int .i64 p.length)] [0, 1, 5]) h = some (.normal, [(0, v), (1, w), (5, .int .i64 ((p.length : Int) + 1))], h) := by
      clear ih hp hq
      simp (disch := omega) only [go_sem, wH, AP.f106L0, ln, i1, i2, l1, l2]
     have e : decide (x :: q = y :: r) = decide (q = r) := by simp [c]
     rw [e]
     rcases ih with ⟨e', r1, r2⟩ | ⟨e', r1, r2, r3⟩
     · exact .inl ⟨e', uy step r1, r2⟩
     · exact .inr ⟨e', uy step r1, r2, r3⟩
   · right
     refine ⟨[(4, .bool false)], uT ?_, rfl, by simp [c]⟩
     clear ih hp hq
     simp (disch := omega) only [go_sem, wH, AP.f106L0, ln, i1, i2, l1, l2]
theorem N0 (h : H) (v w : AV) (a b : List Int) (ra : Rd h v (ints a)) (rb : Rd h w (ints b)) (hl : a.length < 1125899906842624) : aS AP.A 106 [v, w] h = some (.bool (decide (a = b)), h) := by
 have ra' := ra.mono (wG h)
 have rb' := rb.mono (wG h)
 have la := ra'.len
 have lb := rb'.len
 rw [qy] at la lb
 simp only [I] at la lb
 by_cases c : a.length = b.length
 · rcases Kj c hl h.ez ra' rb' [] a b [] rfl rfl rfl with ⟨e', r1, r2⟩ | ⟨e', r1, r2, r3⟩
   · have r1' : Lp AP.A [0, 1, 5] AP.f106L0 [(0, v), (1, w), (5, .int .i64 0)] h.ez = some (.exit 0, e', h.ez) := r1
     clear r1
     rw [r2]
     refine u7 (fn := AP.f106) (h2 := h.ez) (e := [(4, .bool true)]) rfl rfl rfl ?_ rfl rfl
     simp (disch := omega) only [go_sem, wH, AP.f106, la, lb, th, r1']
   · have r1' : Lp AP.A [0, 1, 5] AP.f106L0 [(0, v), (1, w), (5, .int .i64 0)] h.ez = some (.ret, e', h.ez) := r1
     clear r1
     rw [r3]
     refine u7 (fn := AP.f106) (h2 := h.ez) (e := e') (vs := [.bool false]) rfl rfl rfl ?_ (by simp only [AP.f106, cO, od, r2]; rfl) rfl
     simp (disch := omega) only [go_sem, wH, AP.f106, la, lb, th, r1']
 · have e : decide (a = b) = false := by rw [decide_eq_false_iff_not]; intro q; exact c (by rw [q])
   rw [e]
   refine u7 (fn := AP.f106) (h2 := h.ez) (e := [(4, .bool false)]) rfl rfl rfl ?_ rfl rfl
   simp (disch := omega) only [go_sem, wH, AP.f106, la, lb]
def nA : ByteArray := ⟨#[97]⟩
def nB : ByteArray := ⟨#[98]⟩
def MT : ByteArray := ⟨#[104, 105]⟩
def Vi : ByteArray := ⟨#[104, 111]⟩
def eA : zw := Cq nA 0 1 MT
def eB : zw := Cq nA 2 1 Vi
def eC : zw := Cq nB 0 1 ⟨#[]⟩
def eG : zw := ⟨nA, true, [9, 0, 0, 0], 9, 0, 0, ⟨#[]⟩, 0, 0⟩
theorem VE : yo eA = some MT := by decide +kernel
theorem VF : yo eG = some ⟨#[]⟩ := by decide +kernel
theorem Vz : ze eA = true := by decide +kernel
theorem VA : ze eB = true := by decide +kernel
theorem VB : ze { eA with I9 := (zq MT ^^^ 1 : Nat) } = false := by decide +kernel
def eM : zw := { eB with vec := [1, 0, 1, 0] }
theorem Vu : yw eA eB = some eM := by
 unfold yw
 rw [Vz, VA]
 rfl
theorem Vv : yw eA eC = none := by
 unfold yw
 have : (eA.name.data.toList == eC.name.data.toList) = false := by decide
 rw [this, VW, VW]; rfl
theorem KE {a : Nat} (ha : a < 4294967296) : bits .xor .i64 (a : Int) 1 = ((a ^^^ 1 : Nat) : Int) := by
 have h3 : a ^^^ 1 < 4294967296 := zT ha (by omega)
 show IntKind.wrap .i64 (((BitVec.ofInt 64 (a : Int) ^^^ BitVec.ofInt 64 ((1 : Nat) : Int)).toNat : Nat) : Int) = _
 rw [BitVec.toNat_xor, xX 64 a (by omega), xX 64 1 (by omega)]
 exact wA (by omega)
theorem BR.au {h : H} {e : zw} (hv : e.vec.length = 4) (nl : e.name.size < 1000000) (pl : e.packed.size < 1000000) : BR h (e, xg e.vec) :=
 ⟨by rw [show (e, xg e.vec).2 = xg e.vec from rfl, Rc hv]; have := zM h e.vec; unfold y8 at this; rw [hv] at this; exact this, by show e.vec.length < _; omega, by show e.name.size < _; omega, by show e.packed.size < _; omega⟩
theorem Rd.obj {h : H} {p n : Nat} {l : List Int} (hp : h.get p = some (ints l)) (hl : l.length = n) : Rd h (.aF p 0 n 1) (ints l) :=
 ⟨by subst hl; simp only [aT, if_true, hp, vO]; rw [if_pos (by simp), Wc, VY (by simp), qy], fun s e => by cases e⟩
theorem BR.obj {h : H} {e : zw} {p n : Nat} {l : List Int} (hp : h.get p = some (ints l)) (hl : l.length = n) (he : e.vec = l := by rfl) (nl : e.name.size < 1125899906842624) (pl : e.packed.size < 1125899906842624) (hn : n < 1000000 := by decide) : BR h (e, .aF p 0 n 1) :=
 ⟨by show Rd h _ (ints e.vec); rw [he]; exact Rd.obj hp hl, by show e.vec.length < _; rw [he]; omega, by show e.name.size < _; omega, by show e.packed.size < _; omega⟩
theorem GP (t : ByteArray) : zq t < 4294967296 := Ic 0 t
theorem zD (l : List Int) : (xg l).sc = true := by unfold xg Aa; split <;> rfl
theorem GS {e : zw} {v : AV} (h : v.sc = true) : AV.aC (wD e v) = true := by simp [wD, h]
theorem VC : JL eA = .bU [.str ⟨#[104, 105]⟩, .int .i64 0] := by unfold JL; rw [VE]; rfl
theorem VD : JL eG = .bU [.str ⟨#[]⟩, .int .i64 1501] := by unfold JL; rw [VF]; rfl
theorem Vx : G9 (yw eA eB) = .bU [.agg (wD eM (xg [1, 0, 1, 0])), .int .i64 0] := by rw [Vu]; rfl
theorem Vy : G9 (yw eA eC) = .bU [.agg (wD zV .aQ), .int .i64 1500] := by rw [Vv]; rfl
def eD : zw := { eA with I9 := (zq MT ^^^ 1 : Nat) }
theorem JV (h : H) (hf : h.floor ≤ h.next) (e : zw) (v : AV) (hv : v.sc = true) (hb : e.vec.length < 1000000) (r : aT ((h.alloc (wD e v)).alloc Z9 |>.alloc []) 1 v = some (e.vec.length, ints e.vec)) (h0 : 0 < e.vec.length) :
 aS AP.A 92 [.agg (wD e v)] h = some (.agg (wD e (.aF (h.next + 1 + 1 + 1) 0 e.vec.length 1)), ((((((h.alloc (wD e v)).alloc Z9).alloc []).del (h.next + 1 + 1)).alloc (ints e.vec)).set h.next (wD e (.aF (h.next + 1 + 1 + 1) 0 e.vec.length 1))).set (h.next + 1) (wD e (.aF (h.next + 1 + 1 + 1) 0 e.vec.length 1))) := by
 have cA : AV.aC (wD e v) = true := GS hv
 have lA : (wD e v).length = 9 := rfl
 have gA : (wD e v)[2]? = some v := rfl
 have fA : setFrom (wD e v) 2 [.aF (h.next + 1 + 1 + 1) 0 e.vec.length 1] = wD e (.aF (h.next + 1 + 1 + 1) 0 e.vec.length 1) := rfl
 have tA : List.take 9 (wD e (.aF (h.next + 1 + 1 + 1) 0 e.vec.length 1)) = wD e (.aF (h.next + 1 + 1 + 1) 0 e.vec.length 1) := rfl
 have lB : (wD e (.aF (h.next + 1 + 1 + 1) 0 e.vec.length 1)).length = 9 := rfl
 have cB : AV.aC (wD e (.aF (h.next + 1 + 1 + 1) 0 e.vec.length 1)) = true := rfl
 have fB : setFrom Z9 0 (wD e (.aF (h.next + 1 + 1 + 1) 0 e.vec.length 1)) = wD e (.aF (h.next + 1 + 1 + 1) 0 e.vec.length 1) := rfl
 have la := B9 e.vec
 have ll := qy e.vec
 refine uM (fn := AP.f92) (e := [(2, .aE (h.next + 1) 0)]) (vs := [.agg (wD e (.aF (h.next + 1 + 1 + 1) 0 e.vec.length 1))]) rfl rfl rfl ?_ ?_
 · generalize wD e v = A at *
   generalize hB : wD e (.aF (h.next + 1 + 1 + 1) 0 e.vec.length 1) = B at *
   generalize e.vec.length = n at *
   generalize ints e.vec = L at *
   simp (disch := first | omega | (simp only [y7, VK, VN, vW, Nat.reduceAdd]; first | done | omega | fail) | (simp (disch := first | omega | (simp only [y7, VK, VN, vW, Nat.reduceAdd]; first | done | omega | fail) | fail) only [y7, Gp, VO, VK, VN, vW, Nat.reduceAdd]; done) | fail) only [go_sem, wH, Hx, AP.f92, lA, cA, gA, fA, tA, lB, cB, fB, r, la, ll]
 · simp only [AP.f92, cO, od, nQ]
   generalize hB : wD e (.aF (h.next + 1 + 1 + 1) 0 e.vec.length 1) = B at *
   simp (disch := first | omega | (simp only [y7, VK, VN, vW, Nat.reduceAdd]; first | done | omega | fail) | (simp (disch := first | omega | (simp only [y7, VK, VN, vW, Nat.reduceAdd]; first | done | omega | fail) | fail) only [y7, Gp, VO, VK, VN, vW, Nat.reduceAdd]; done) | fail) only [go_sem, wH, Hx, tA, lB]
   rfl
set_option maxHeartbeats 4000000 in
theorem Ky (h : H) : aS AP.A 95 [] h = some (.bool true, h) := by
 obtain ⟨A, hA⟩ : ∃ x, x = wD eA (xg [1, 0, 0, 0]) := ⟨_, rfl⟩
 obtain ⟨B, hB⟩ : ∃ x, x = wD eB (xg [0, 0, 1, 0]) := ⟨_, rfl⟩
 obtain ⟨C, hC⟩ : ∃ x, x = wD eC (xg [1, 0, 0, 0]) := ⟨_, rfl⟩
 obtain ⟨M, hM⟩ : ∃ x, x = wD eM (xg [1, 0, 1, 0]) := ⟨_, rfl⟩
 have lA : A.length = 9 := by rw [hA]; rfl
 have lB : B.length = 9 := by rw [hB]; rfl
 have lM : M.length = 9 := by rw [hM]; rfl
 have cA : AV.aC A = true := by rw [hA]; exact GS (zD _)
 have cB : AV.aC B = true := by rw [hB]; exact GS (zD _)
 have cM : AV.aC M = true := by rw [hM]; exact GS (zD _)
 have tA : List.take 9 A = A := by rw [hA]; rfl
 have tB : List.take 9 B = B := by rw [hB]; rfl
 have s1 : ∀ g, aS AP.A 99 [.str ⟨#[97]⟩, .int .i64 0, .int .i64 1, .str ⟨#[104, 105]⟩] g = some (.agg A, g) := fun g => by rw [hA]; exact Hs g nA MT 0 1 (by omega) (by decide)
 have s2 : ∀ g, aS AP.A 99 [.str ⟨#[97]⟩, .int .i64 2, .int .i64 1, .str ⟨#[104, 111]⟩] g = some (.agg B, g) := fun g => by rw [hB]; exact Hs g nA Vi 2 1 (by omega) (by decide)
 have s3 : ∀ g, aS AP.A 99 [.str ⟨#[98]⟩, .int .i64 0, .int .i64 1, .str ⟨#[]⟩] g = some (.agg C, g) := fun g => by rw [hC]; exact Hs g nB ⟨#[]⟩ 0 1 (by omega) (by decide)
 have okA : ∀ g, BR g (eA, xg [1, 0, 0, 0]) := fun g => BR.au (e := eA) rfl (by decide) (by decide)
 have okB' : ∀ g, BR g (eB, xg [0, 0, 1, 0]) := fun g => BR.au (e := eB) rfl (by decide) (by decide)
 have DZ : ∀ g, BR g (eC, xg [1, 0, 0, 0]) := fun g => BR.au (e := eC) rfl (by decide) (by decide)
 have k1 : ∀ g : H, g.floor ≤ g.next → aS AP.A 100 [.agg A] g = some (.bU [.str ⟨#[104, 105]⟩, .int .i64 0], g) := fun g hg => by
  have := GU g hg eA (xg [1, 0, 0, 0]) (zD _) (okA g)
  rw [VC] at this
  rw [hA]; exact this
 have k2 : ∀ g : H, g.floor ≤ g.next → aS AP.A 97 [.agg A, .agg B] g = some (.bU [.agg M, .int .i64 0], g) := fun g hg => by
  have := J9 g hg eA eB (xg [1, 0, 0, 0]) (xg [0, 0, 1, 0]) (zD _) (zD _) (okA g) (okB' g)
  rw [Vx] at this
  rw [hA, hB, hM]; exact this
 have k3 : ∀ g : H, g.floor ≤ g.next → aS AP.A 97 [.agg A, .agg C] g = some (.bU [.agg (wD zV .aQ), .int .i64 1500], g) := fun g hg => by
  have := J9 g hg eA eC (xg [1, 0, 0, 0]) (xg [1, 0, 0, 0]) (zD _) (zD _) (okA g) (DZ g)
  rw [Vy] at this
  rw [hA, hC]; exact this
 have fA : setFrom Z9 0 A = A := by rw [hA]; rfl
 have fB : setFrom Z9 0 B = B := by rw [hB]; rfl
 have fM : setFrom Z9 0 M = M := by rw [hM]; rfl
 have fE : setFrom Z9 0 (wD zV .aQ) = Z9 := rfl
 have cE : AV.aC (wD zV .aQ) = true := rfl
 have lE : (wD zV .aQ).length = 9 := rfl
 have m6 : M[6]? = some (.str ⟨#[104, 111]⟩) := by rw [hM]; rfl
 have m4 : M[4]? = some (.int .i64 2) := by rw [hM]; rfl
 have m2 : M[2]? = some (xg [1, 0, 1, 0]) := by rw [hM]; rfl
 have k4 : ∀ (g : H) (p : Nat), g.floor ≤ g.next → g.get p = some [.int .i64 9, .int .i64 0, .int .i64 0, .int .i64 0] → aS AP.A 100 [.agg [.str ⟨#[97]⟩, .bool true, .aF p 0 4 1, .int .i64 9, .int .i64 0, .int .i64 0, .str ⟨#[]⟩, .int .i64 0, .int .i64 0]] g = some (.bU [.str ⟨#[]⟩, .int .i64 1501], g) := fun g p hg hp => by
  have := GU g hg eG (.aF p 0 4 1) rfl (BR.obj (l := [9, 0, 0, 0]) hp rfl rfl (by decide) (by decide))
  rw [VD] at this; exact this
 have k5 : ∀ (g : H) (p : Nat), g.floor ≤ g.next → g.get p = some [.int .i64 9, .int .i64 0, .int .i64 0, .int .i64 0] → aS AP.A 96 [.agg [.str ⟨#[97]⟩, .bool true, .aF p 0 4 1, .int .i64 9, .int .i64 0, .int .i64 0, .str ⟨#[]⟩, .int .i64 0, .int .i64 0]] g = some (.bool true, g) := fun g p hg hp => by
  have := A5 g hg eG (.aF p 0 4 1) rfl (BR.obj (l := [9, 0, 0, 0]) hp rfl rfl (by decide) (by decide))
  rw [show ze eG = true by decide +kernel] at this; exact this
 obtain ⟨K, hK⟩ : ∃ K, K = ((zq MT : Nat) : Int) := ⟨_, rfl⟩
 obtain ⟨K', hK'⟩ : ∃ K, K = ((zq MT ^^^ 1 : Nat) : Int) := ⟨_, rfl⟩
 have x1 : bits .xor .i64 K 1 = K' := by rw [hK, hK']; exact KE (GP _)
 have k6 : ∀ g : H, g.floor ≤ g.next → aS AP.A 92 [.agg A] g = some (.agg [.str nA, .bool false, .aF (g.next + 1 + 1 + 1) 0 4 1, .int .i64 1, .int .i64 0, .int .i64 0, .str MT, .int .i64 2, .int .i64 K], ((((((g.alloc A).alloc Z9).alloc []).del (g.next + 1 + 1)).alloc [.int .i64 1, .int .i64 0, .int .i64 0, .int .i64 0]).set g.next [.str nA, .bool false, .aF (g.next + 1 + 1 + 1) 0 4 1, .int .i64 1, .int .i64 0, .int .i64 0, .str MT, .int .i64 2, .int .i64 K]).set (g.next + 1) [.str nA, .bool false, .aF (g.next + 1 + 1 + 1) 0 4 1, .int .i64 1, .int .i64 0, .int .i64 0, .str MT, .int .i64 2, .int .i64 K]) := fun g hg => by
  rw [hA, hK]
  exact JV g hg eA (xg [1, 0, 0, 0]) (zD _) (by decide) rfl (by decide)
 have k7 : ∀ (g : H) (p : Nat), g.floor ≤ g.next → g.get p = some [.int .i64 1, .int .i64 0, .int .i64 0, .int .i64 0] → aS AP.A 96 [.agg [.str nA, .bool false, .aF p 0 4 1, .int .i64 1, .int .i64 0, .int .i64 0, .str MT, .int .i64 2, .int .i64 K']] g = some (.bool false, g) := fun g p hg hp => by
  have := A5 g hg eD (.aF p 0 4 1) rfl (BR.obj (l := [1, 0, 0, 0]) hp rfl rfl (by decide) (by decide))
  rw [show ze eD = false from VB] at this
  rw [hK']; exact this
 have k8 : ∀ (g : H) (p : Nat), g.get p = some [.int .i64 1, .int .i64 0, .int .i64 1, .int .i64 0] → aS AP.A 106 [xg [1, 0, 1, 0], .aF p 0 4 1] g = some (.bool true, g) := fun g p hp => by
  have := N0 g (xg [1, 0, 1, 0]) (.aF p 0 4 1) [1, 0, 1, 0] [1, 0, 1, 0] ?_ (Rd.obj (l := [1, 0, 1, 0]) hp rfl) (by decide)
  · exact this
  · have := zM g [1, 0, 1, 0]; unfold y8 at this; exact this
 have k9 := fun (g : H) n => Ox g n
 simp only [I] at k9
 have cm : (xg [1, 0, 1, 0]).cells = [xg [1, 0, 1, 0]] := rfl
 have y1 : bw .eql (.str ⟨#[104, 105]⟩) (.str ⟨#[104, 105]⟩) = some (.bool true) := by rw [AL]; rfl
 have y2 : bw .eql (.str ⟨#[104, 111]⟩) (.str ⟨#[104, 111]⟩) = some (.bool true) := by rw [AL]; rfl
 obtain ⟨h2, hh⟩ : ∃ h2, aM (aS AP.A) bG AP.f95.body (params 0 []) h.ez = some (.ret, [(0, .bool true)], h2) := by
  refine ⟨?_, ?_⟩
  rotate_left
  simp (disch := first | omega | (simp only [y7, VK, VN, vW, Nat.reduceAdd]; first | done | omega | fail) | (simp (disch := first | omega | (simp only [y7, VK, VN, vW, Nat.reduceAdd]; first | done | omega | fail) | fail) only [y7, Gp, VO, VK, VN, vW, Nat.reduceAdd]; done) | fail) only [go_sem, wH, Hx, AP.f95, lA, lB, lM, cA, cB, cM, s1, s2, s3, k1, k2, k3, fA, fB, fM, fE, cE, lE, m6, m4, m2, k4, k5, k6, k7, k8, k9, x1, cm, y1, y2, tA, tB]
  rfl
 exact u7 (fn := AP.f95) (h2 := h2) (e := [(0, .bool true)]) rfl rfl rfl hh rfl rfl
def Jw : Ty := .int .i64
theorem MG {B : Nat} {as : List AV} (h : Sh B Jw as) : ∃ n, as = [.int .i64 n] ∧ (-9223372036854775808 ≤ n ∧ n < 9223372036854775808) := by
 cases h with
 | int h => exact ⟨_, rfl, uJ h⟩
theorem U6 {P : Ty × List AV → Prop} {a b : Ty} {r : List (Ty × List AV)} (h : r.map (·.1) = [a, b]) (hp : ∀ x ∈ r, P x) : ∃ x y, r = [(a, x), (b, y)] ∧ P (a, x) ∧ P (b, y) := by
 match r, h with
 | [(a', x), (b', y)], h => simp at h; obtain ⟨rfl, rfl⟩ := h; exact ⟨x, y, rfl, hp _ (by simp), hp _ (by simp)⟩
def Q7 (s : ByteArray) : List Nat := s.data.toList.map (·.toNat)
theorem Km (s : ByteArray) : (Q7 s).length = s.size := by unfold Q7; rw [List.length_map, Array.length_toList]; rfl
theorem Q8 (s : ByteArray) : ∀ b ∈ Q7 s, b < 256 := by
 intro b hb
 obtain ⟨x, _, rfl⟩ := V6.1 hb
 exact x.toNat_lt
theorem DB (s : ByteArray) : bytesOf (Q7 s) = s := by
 unfold Q7 bytesOf; rw [List.map_map]; apply ByteArray.ext; simp [Function.comp_def]
theorem PE.obj {h : H} {id : Nat} {cs : List AV} (hg : h.get id = some cs) : PE h (.aE id 0) cs :=
 ⟨fun g => rfl, fun k => .aE id (0 + k), fun k => rfl, fun g hx k c hc => by
  show cJ false 1 (.aE id (0 + k)) g = _
  rw [vW]
  simp only [cJ, hx _ _ hg, vO, iG, hc]; rfl⟩
theorem FH (x : Int) (k : Nat) (hk : k ≤ 62) : bits .and .i64 x ((2 ^ k - 1 : Nat) : Int) = x % ((2 ^ k : Nat) : Int) := by
 have h2 : 2 ^ k ≤ 2 ^ 62 := VS (by omega) hk
 have h3 : 0 < 2 ^ k := Nat.pow_pos (by omega)
 show IntKind.wrap .i64 (((BitVec.ofInt 64 x &&& BitVec.ofInt 64 ((2 ^ k - 1 : Nat) : Int)).toNat : Nat) : Int) = _
 rw [BitVec.toNat_and, xX 64 (2 ^ k - 1) (by omega), BitVec.toNat_ofInt, Nat.and_two_pow_sub_one_eq_mod, wA (by
  have := Nat.mod_lt (x % ((2 ^ 64 : Nat) : Int)).toNat h3
  omega)]
 have e : (((x % ((2 ^ 64 : Nat) : Int)).toNat : Nat) : Int) = x % ((2 ^ 64 : Nat) : Int) := Int.toNat_of_nonneg (Int.emod_nonneg _ (by decide))
 rw [Int.natCast_emod, e]
 refine Int.emod_emod_of_dvd x ?_
 refine Int.natCast_dvd_natCast.2 (Nat.pow_dvd_pow 2 (by omega))
theorem Nj (x : Int) : bits .and .i64 x 1023 = x % 1024 := FH x 10 (by omega)
theorem Va (x : Int) (n : Nat) (hn : 0 < n) : ∃ r : Nat, r < n ∧ (IntKind.wrap .u64 x).tmod (n : Int) = r := by
 have h0 : 0 ≤ IntKind.wrap .u64 x := by simp only [IntKind.wrap, IntKind.signed, IntKind.bits]; simp; omega
 obtain ⟨m, hm⟩ : ∃ m : Nat, IntKind.wrap .u64 x = m := ⟨(IntKind.wrap .u64 x).toNat, by omega⟩
 rw [hm]
 exact ⟨m % n, Nat.mod_lt _ hn, by rw [Int.tmod_eq_emod_of_nonneg (by omega)]; omega⟩
theorem Jj {a d : Nat} (ha : a < 4294967296) (hd : d < 4294967296) : bits .xor .i64 (a : Int) (d : Int) = ((a ^^^ d : Nat) : Int) := by
 have h3 : a ^^^ d < 4294967296 := zT ha hd
 show IntKind.wrap .i64 (((BitVec.ofInt 64 (a : Int) ^^^ BitVec.ofInt 64 (d : Int)).toNat : Nat) : Int) = _
 rw [BitVec.toNat_xor, xX 64 a (by omega), xX 64 d (by omega)]
 exact wA (by omega)
theorem Rf {a d : Nat} (hd : d ≠ 0) : a ^^^ d ≠ a := by
 intro h
 have : a ^^^ (a ^^^ d) = a ^^^ a := by rw [h]
 rw [← Nat.xor_assoc, Nat.xor_self, Nat.zero_xor] at this
 exact hd this
theorem NQ (e : zw) : ze e = (zu e.name && (yY e && yS e) && (e.gone || (match xn e.method e.packed e.size with | some t => decide ((zq t : Int) = e.I9) | none => false))) := by
 unfold ze yo
 have hm : ET [e] = (zu e.name && (yY e && yS e)) := by simp [ET, EU, GR]
 rw [hm]
 cases (zu e.name && (yY e && yS e)) with
 | false => rfl
 | true =>
   rw [if_neg (by decide)]
   cases e.gone with
   | true => rfl
   | false =>
     rw [if_neg (by decide)]
     cases xn e.method e.packed e.size with
     | none => rfl
     | some t =>
       dsimp only
       by_cases c : (zq t : Int) = e.I9
       · rw [if_pos c]; simp [c]
       · rw [if_neg c]; simp [c]
theorem Vj {n : Nat} (h : n < 256) : IntKind.wrap .u8 (n : Int) = n := wb (by omega)
theorem N6 {a n : Nat} (hn : 0 < n) : bw .rem (.int .i64 ((a : Nat) : Int)) (.int .i64 (n : Int)) = some (.int .i64 ((a % n : Nat) : Int)) := by
 show (if (n : Int) = 0 then none else some (AV.int .i64 ((a : Int).tmod n))) = _
 rw [if_neg (by omega), Int.tmod_eq_emod_of_nonneg (by omega)]; rfl
theorem Cp : ∀ (l cs : List AV) (off : Nat), off + l.length ≤ cs.length → setFrom cs off l = cs.take off ++ (l ++ cs.drop (off + l.length))
 | [], cs, off, h => by simp [setFrom]
 | v :: l, cs, off, h => by
   rw [VK] at h
   rw [setFrom, Cp l (cs.set off v) (off + 1) (by rw [V0]; omega)]
   rw [List.take_set, List.drop_set_of_lt (by omega), VK, show off + 1 + l.length = off + (l.length + 1) by omega]
   rw [List.take_succ_eq_append_getElem (by omega), List.set_append_right _ _ (by simp; omega)]
   simp [show min off cs.length = off by omega]
abbrev cE (e : zw) (v : AV) (n : ByteArray) (s : Int) : List AV := [.str n, .bool e.gone, v, .int .i64 s, .int .i64 e.node, .int .i64 e.method, .str e.packed, .int .i64 e.size, .int .i64 e.I9]
def xy (bs : List Nat) : List Nat := yN bs 0 []
theorem EZ : ∀ (a b : List Nat) (i : Nat) (out : List Nat), yN (a ++ b) i out = yN b (i + a.length) (yN a i out)
 | [], b, i, out => rfl
 | x :: a, b, i, out => by
   show yN (a ++ b) (i + 1) (xZ out i x) = _
   rw [EZ a b]
   show yN b (i + 1 + a.length) _ = yN b (i + (a.length + 1)) _
   rw [show i + 1 + a.length = i + (a.length + 1) by omega]; rfl
theorem K3 (bs : List Nat) (b : Nat) : xy (bs ++ [b]) = xZ (xy bs) bs.length b := by
 unfold xy; rw [EZ, vW]; rfl
theorem Br (bs : List Nat) : (xy bs).length = (bs.length + 7) / 8 := by
 have : ∀ (l : List Nat) (i : Nat) (out : List Nat), out.length = (i + 7) / 8 → (yN l i out).length = (i + l.length + 7) / 8 := by
  intro l
  induction l with
  | nil => intro i out h; exact h
  | cons x l ih => intro i out h; rw [yN, ih (i + 1) _ (by rw [DO h]), VK]; congr 1; omega
 have := this bs 0 [] rfl
 rw [xy, this, vW]
structure Wr (h : H) (w : Nat) (bs : List Nat) (ov : AV) : Prop where
 get : h.get w = some [ov, .int .i64 (bs.length : Nat)]
 own : wW 1 h ov (xy bs).length (zW (xy bs))
 fl : h.floor ≤ w
 Lm : h.floor ≤ h.next
 ne : ov.id? ≠ some w
 Og : JN (xy bs)
structure HA (h : H) (w : Nat) (ov : AV) (h' : H) (ov' : AV) : Prop where
 floor : h'.floor = h.floor
 next : h.next ≤ h'.next
 yg : ∀ i, i < h.next → i ≠ w → ov.id? ≠ some i → h'.get i = h.get i
 ids : ∀ j, ov'.id? = some j → ov.id? = some j ∨ h.next ≤ j
theorem HA.refl (h : H) (w : Nat) (ov : AV) : HA h w ov h ov := ⟨rfl, vR _, fun _ _ _ _ => rfl, fun _ h => .inl h⟩
theorem HA.trans {h1 h2 h3 : H} {w : Nat} {o1 o2 o3 : AV} (a : HA h1 w o1 h2 o2) (b : HA h2 w o2 h3 o3) : HA h1 w o1 h3 o3 :=
 ⟨by rw [b.floor, a.floor], wk a.next b.next, fun i h hw ho => by
   rw [b.yg i (by have := a.next; omega) hw (fun q => by rcases a.ids i q with q | q; exact ho q; omega), a.yg i h hw ho],
  fun j h => by
   rcases b.ids j h with q | q
   · exact a.ids j q
   · exact .inr (wk a.next q)⟩
theorem N1 {b k : Nat} (hb : b ≤ 1) (hk : k < 8) : qe .shl .i64 (b : Int) ((k : Nat) : Int) = some (.int .i64 ((b * 2 ^ k : Nat) : Int)) := by
 unfold qe
 rw [if_neg (by omega)]
 simp only [IntKind.bits, Wm, show min k 64 = k by omega]
 have h1 : 2 ^ k ≤ 2 ^ 7 := VS (by omega) (by omega)
 have h2 : b * 2 ^ k ≤ 1 * 2 ^ 7 := Nat.mul_le_mul hb h1
 have : (b : Int) * 2 ^ k = ((b * 2 ^ k : Nat) : Int) := by rw [Int.natCast_mul, Int.natCast_pow]; rfl
 rw [this, wi (by omega)]
theorem RB {l : List Nat} {i x : Nat} (h : l[i]? = some x) : (zW l)[i]? = some (.int .u8 (x : Int)) := by simp [zW, h]
theorem Uw (l : List Nat) (i x : Nat) : (zW l).set i (.int .u8 (x : Int)) = zW (l.set i x) := by simp [zW, List.map_set]
theorem RC (l : List Nat) : (zW l).length = l.length := by simp [zW]
theorem Mr {g : H} {w id n b : Nat} {P : List Nat} {x : Nat} (hb : b ≤ 1) (hw : g.get w = some [.aF id 0 (n / 8 + 1) 1, .int .i64 n]) (hi : g.get id = some (zW P)) (hl : P.length = n / 8 + 1) (hx : P[n / 8]? = some x) (hx8 : x < 256) (hne : id ≠ w) (hf : g.floor ≤ w) (hf2 : g.floor ≤ id) (hn : n < 1000000) :
 ∃ e', aM (aS AP.A) bG (Nf 1 AP.f57.body) [(0, .aE w 0), (1, .int .i64 b)] g = some (.normal, e', (g.set id (zW (P.set (n / 8) (x ||| b * 2 ^ (n % 8))))).set w [.aF id 0 (n / 8 + 1) 1, .int .i64 ((n : Int) + 1)]) := by
 have c8 : b * 2 ^ (n % 8) < 256 := by
  have h1 : 2 ^ (n % 8) ≤ 2 ^ 7 := VS (by omega) (by omega)
  have h2 : b * 2 ^ (n % 8) ≤ 1 * 2 ^ 7 := Nat.mul_le_mul hb h1
  omega
 have s1 := N1 hb (show n % 8 < 8 by omega)
 have o1 := LJ hx8 c8
 have w1 := Vj (n := b * 2 ^ (n % 8)) c8
 have rm := N6 (a := n) (n := 8) (by omega)
 have rm' : bw .rem (.int .i64 (n : Int)) (.int .i64 8) = some (.int .i64 ((n % 8 : Nat) : Int)) := rm
 have w2 : IntKind.wrap .i64 (((n / 8 + 1 : Nat) : Int) - 1) = ((n / 8 : Nat) : Int) := by rw [wi (by omega)]; omega
 have bl := RC P
 have gx := RB hx
 have st := Uw P (n / 8) (x ||| b * 2 ^ (n % 8))
 have sgn : ((n / 8 : Nat) : Int).toNat = n / 8 := by omega
 have gw2 : (g.set id (zW (P.set (n / 8) (x ||| b * 2 ^ (n % 8))))).get w = some [.aF id 0 (n / 8 + 1) 1, .int .i64 n] := by rw [wJ (fun q => hne q.symm), hw]
 generalize zW P = BP at *
 generalize b * 2 ^ (n % 8) = Y at *
 generalize (x ||| Y) = Z at *
 generalize zW (P.set (n / 8) Z) = BZ at *
 refine ⟨?_, ?_⟩
 rotate_left
 simp (disch := first | omega | (simp only [y7, VK, VN, vW, Nat.reduceAdd]; first | done | omega | fail) | (simp (disch := first | omega | (simp only [y7, VK, VN, vW, Nat.reduceAdd]; first | done | omega | fail) | fail) only [y7, Gp, VO, VK, VN, vW, Nat.reduceAdd]; done) | fail) only [go_sem, wH, Hx, AP.f57, hw, hi, s1, o1, w1, rm', w2, bl, hl, gx, st, sgn, gw2]
 rfl
theorem Ei (P : List Nat) (x : Nat) : zW (P ++ [x]) = zW P ++ [.int .u8 (x : Int)] := by simp [zW]
theorem Mq {h : H} {w b : Nat} {bs : List Nat} {ov : AV} (wr : Wr h w bs ov) (hb : b ≤ 1) (hn : bs.length < 1000000) :
 ∃ h' ov', aS AP.A 57 [.aE w 0, .int .i64 b] h = some (.bU [], h') ∧ Wr h' w (bs ++ [b]) ov' ∧ HA h w ov h' ov' := by
 obtain ⟨gw, ow, fl, Lm, ne, Og⟩ := wr
 obtain ⟨n, en⟩ : ∃ n, n = bs.length := ⟨_, rfl⟩
 rw [← en] at gw hn
 have pl := Br bs
 rw [← en] at pl
 have pa := K3 bs b
 rw [← en] at pa
 obtain ⟨P, eP⟩ : ∃ P, P = xy bs := ⟨_, rfl⟩
 rw [← eP] at ow Og pa pl
 have wlt := h.lt _ _ gw
 obtain ⟨g, ov', id, P', x, s1, hw, hi, hl, hx, hid, hne, hf, hf2, hflx, hP, hk, hx8, hids, hbt⟩ : ∃ g ov' id P' x, aM (aS AP.A) bG (at_ 0 AP.f57.body) [(0, .aE w 0), (1, .int .i64 b)] h = some (.normal, [(0, .aE w 0), (1, .int .i64 b)], g) ∧ g.get w = some [.aF id 0 (n / 8 + 1) 1, .int .i64 n] ∧ g.get id = some (zW P') ∧ P'.length = n / 8 + 1 ∧ P'[n / 8]? = some x ∧ ov' = AV.aF id 0 (n / 8 + 1) 1 ∧ id ≠ w ∧ g.floor = h.floor ∧ h.floor ≤ id ∧ h.next ≤ g.next ∧ xZ P n b = P'.set (n / 8) (x ||| b * 2 ^ (n % 8)) ∧ (∀ i, i < h.next → i ≠ w → ov.id? ≠ some i → g.get i = h.get i) ∧ x < 256 ∧ (ov.id? = some id ∨ h.next ≤ id) ∧ JN P' := by
  have rm : bw .rem (.int .i64 (n : Int)) (.int .i64 8) = some (.int .i64 ((n % 8 : Nat) : Int)) := N6 (a := n) (n := 8) (by omega)
  by_cases c : n % 8 = 0
  · have cz : ((n % 8 : Nat) : Int) = 0 := by omega
    obtain ⟨v', h', p1, p2, p3, p4, p5, p6⟩ := ow.push Lm (z := 1) (m := 1) (by omega) (by omega) [.int .u8 0] rfl rfl (yB (by omega))
    have gw1 : h'.get w = some [ov, .int .i64 n] := by rw [p5 w ne wlt, gw]
    have e1 := p2.1
    rcases p2.2 with ⟨_, q⟩ | ⟨id, q1, q2, q3, q4⟩
    · omega
    · have hk : P.length + 1 = n / 8 + 1 := by omega
      rw [hk] at q1
      have qid : id = h.next + 1 := by rw [q1] at p6; exact vG p6
      refine ⟨h'.set w [v', .int .i64 n], v', id, P ++ [0], 0, ?_, ?_, ?_, ?_, ?_, q1, by omega, by simp [p3], by omega, ?_, ?_, ?_, by omega, .inr (by omega), ?_⟩
      · rw [q1]
        rw [q1] at p1
        have fl' : h'.floor ≤ w := by omega
        simp (disch := omega) only [go_sem, wH, AP.f57, yd, gw, gw1, rm, cz, p1, fl', wQ, wJ]
      · rw [wQ rfl, gw1, q1]; rfl
      · rw [wJ (by omega), q2, Ei]; rfl
      · simp; omega
      · rw [V3 (by omega), show n / 8 - P.length = 0 by omega]; rfl
      · simp; omega
      · unfold xZ; rw [if_pos c]; dsimp only; rw [VH, V3 (by omega), show n / 8 - P.length = 0 by omega]; rfl
      · intro i hi hiw hio
        rw [wJ hiw, p5 i hio hi]
      · intro y hy
        rcases Wb.1 hy with q | q
        · exact Og y q
        · simp at q; omega
  · have cz : ¬ ((n % 8 : Nat) : Int) = 0 := by omega
    rcases ow.2 with ⟨_, q⟩ | ⟨id, q1, q2, q3, q4⟩
    · omega
    · have hk : P.length = n / 8 + 1 := by omega
      rw [hk] at q1
      obtain ⟨x, hx⟩ : ∃ x, P[n / 8]? = some x := ⟨_, VL (by omega)⟩
      have hneq : id ≠ w := fun q => ne (by rw [q1, q]; rfl)
      refine ⟨h, ov, id, P, x, ?_, by rw [gw, q1], q2, hk, hx, q1, hneq, rfl, q3, vR _, ?_, fun _ _ _ _ => rfl, Og x (vV hx), .inl (by rw [q1]; rfl), Og⟩
      · simp (disch := first | omega | (simp only [y7, VK, VN, vW, Nat.reduceAdd]; first | done | omega | fail) | (simp (disch := first | omega | (simp only [y7, VK, VN, vW, Nat.reduceAdd]; first | done | omega | fail) | fail) only [y7, Gp, VO, VK, VN, vW, Nat.reduceAdd]; done) | fail) only [go_sem, wH, Hx, AP.f57, gw, rm, cz]
      · unfold xZ; rw [if_neg c]; dsimp only; rw [VH, hx]; rfl
 obtain ⟨e', s2⟩ := Mr hb hw hi hl hx hx8 hne (by omega) (by omega) hn
 have cs : aS AP.A 57 [.aE w 0, .int .i64 b] h = some (.bU [], (g.set id (zW (P'.set (n / 8) (x ||| b * 2 ^ (n % 8))))).set w [.aF id 0 (n / 8 + 1) 1, .int .i64 ((n : Int) + 1)]) := by
  refine xM (fn := AP.f57) (e := e') (vs := []) rfl rfl rfl ?_ rfl
  have hb : AP.f57.body = .seq (at_ 0 AP.f57.body) (Nf 1 AP.f57.body) := rfl
  rw [hb, sS]
  have s1' : aM (aS AP.A) bG (at_ 0 AP.f57.body) (params 0 [.aE w 0, .int .i64 b]) h = some (.normal, [(0, .aE w 0), (1, .int .i64 b)], g) := s1
  rw [s1', tP, s2]
 rw [← hP] at cs
 have ol : (xZ P n b).length = n / 8 + 1 := by rw [hP, V0, hl]
 refine ⟨_, ov', cs, ⟨?_, ?_, ?_, ?_, ?_, ?_⟩, ?_, ?_, ?_, ?_⟩
 · rw [wQ rfl, wJ hne.symm, hw, hid, wo, ← en]; rfl
 · rw [pa, hid]
   exact ⟨by simp [zW, ol], .inr ⟨id, by rw [ol], by rw [wJ hne, wQ rfl, hi]; rfl, by simpa [hf] using hf2, by omega⟩⟩
 · simpa [hf] using fl
 · simp; omega
 · rw [hid]; exact fun q => hne (vG q)
 · rw [pa]; exact DN hb Og
 · simp [hf]
 · simpa using hflx
 · intro i hi1 hi2 hi3
   have : i ≠ id := by
    rcases hids with q | q
    · intro q2; exact hi3 (by rw [q, q2])
    · omega
   rw [wJ hi2, wJ this, hk i hi1 hi2 hi3]
 · intro j hj
   rw [hid] at hj
   obtain rfl := vG hj
   exact hids
def E5 (v : Nat) : Nat → Nat → List Nat
 | _, 0 => []
 | i, m + 1 => v / 2 ^ i % 2 :: E5 v (i + 1) m
def w8 (v n : Nat) : List Nat := E5 v 0 n
def zI (v : Nat) : Nat → List Nat
 | 0 => []
 | m + 1 => v / 2 ^ m % 2 :: zI v m
theorem xc (v : Nat) : ∀ m i, (E5 v i m).length = m
 | 0, _ => rfl
 | m + 1, i => by simp [E5, xc v m]
theorem xw (v : Nat) : ∀ m, (zI v m).length = m
 | 0 => rfl
 | m + 1 => by simp [zI, xw v m]
theorem HD {n : Nat} (h : n < 1000000000) : bits .and .i64 (n : Int) 1 = ((n % 2 : Nat) : Int) := by
 have := FH (n : Int) 1 (by omega)
 exact this.trans (by omega)
theorem GJ (w v n : Nat) (hv : v < 65536) (hn : n ≤ 16) : ∀ (m i : Nat) (h : H) (bs : List Nat) (ov : AV), i + m = n → Wr h w bs ov → bs.length + m < 1000000 →
 ∃ e' h' ov', Lp AP.A [0, 1, 2, 7] AP.f33L0 [(0, .aE w 0), (1, .int .i64 v), (2, .int .i64 n), (7, .int .i64 i)] h = some (.exit 0, e', h') ∧ Wr h' w (bs ++ E5 v i m) ov' ∧ HA h w ov h' ov'
 | 0, i, h, bs, ov, hi, wr, hb => by
   obtain rfl : i = n := by omega
   refine ⟨[(0, .aE w 0), (1, .int .i64 v), (2, .int .i64 i), (7, .int .i64 i), (35, .bool false)], h, ov, ux ?_, by simpa [E5] using wr, HA.refl h w ov⟩
   simp (disch := omega) only [go_sem, wH, AP.f33L0]
 | m + 1, i, h, bs, ov, hi, wr, hb => by
   have q := Nat.div_le_self v (2 ^ i)
   obtain ⟨h1, o1, k1, wr1, f1⟩ := Mq wr (b := v / 2 ^ i % 2) (by omega) (by omega)
   obtain ⟨e', h', ov', r1, r2, r3⟩ := GJ w v n hv hn m (i + 1) h1 _ o1 (by omega) wr1 (by simp; omega)
   have n1 : ((i + 1 : Nat) : Int) = (i : Int) + 1 := by omega
   have s1 := IK (a := v) (s := i) (by omega)
   have a1 := HD (n := v / 2 ^ i) (by omega)
   rw [VT] at r2
   refine ⟨e', h', ov', uy ?_ r1, r2, f1.trans r3⟩
   rw [n1]
   simp (disch := omega) only [go_sem, wH, AP.f33L0, s1, a1, k1]
theorem zR {h : H} {w : Nat} {bs : List Nat} {ov : AV} (wr : Wr h w bs ov) (v n : Nat) (hn : n ≤ 16) (hv : v < 2 ^ n) (hb : bs.length + n ≤ 65536) :
 ∃ h' ov', aS AP.A 33 [.aE w 0, .int .i64 v, .int .i64 n] h = some (.int .i64 0, h') ∧ Wr h' w (bs ++ w8 v n) ov' ∧ HA h w ov h' ov' := by
 have hp : 2 ^ n ≤ 2 ^ 16 := VS (by omega) hn
 obtain ⟨e', h', ov', r1, r2, r3⟩ := GJ w v n (by omega) hn n 0 h bs ov (by omega) wr (by omega)
 have r1' : Lp AP.A [0, 1, 2, 7] AP.f33L0 [(0, .aE w 0), (1, .int .i64 v), (2, .int .i64 n), (7, .int .i64 0)] h = some (.exit 0, e', h') := r1
 clear r1
 have gw := wr.get
 have s1 : qe .shl .i64 1 (n : Int) = some (.int .i64 ((2 ^ n : Nat) : Int)) := by
  have := zC (a := 1) (s := n) (by omega) (by omega)
  rwa [Nat.one_mul] at this
 refine ⟨h', ov', uM (fn := AP.f33) (e := [(6, .int .i64 0)]) (vs := [.int .i64 0]) rfl rfl rfl ?_ rfl, r2, r3⟩
 generalize 2 ^ n = N at *
 simp (disch := omega) only [go_sem, wH, AP.f33, th, r1', gw, s1]
theorem Fu (w v : Nat) (A : List AV) (hA : A[1]? = some (.int .i64 v)) (hA2 : A.length = 2) (c : Nat) (hv : v < 65536) : ∀ (m : Nat) (h : H) (bs : List Nat) (ov : AV), m ≤ 15 → Wr h w bs ov → bs.length + m < 1000000 → h.get c = some A → c ≠ w → ov.id? ≠ some c →
 ∃ e' h' ov', Lp AP.A [0, 3, 5] AP.f35L0 [(0, .aE w 0), (3, .aE c 0), (5, .int .i64 ((m : Int) - 1))] h = some (.exit 0, e', h') ∧ Wr h' w (bs ++ zI v m) ov' ∧ HA h w ov h' ov'
 | 0, h, bs, ov, hm, wr, hb, hc, hcw, hco => by
   refine ⟨[(0, .aE w 0), (3, .aE c 0), (5, .int .i64 (-1)), (41, .bool false)], h, ov, ux ?_, by simpa [zI] using wr, HA.refl h w ov⟩
   simp (disch := omega) only [go_sem, wH, AP.f35L0]
 | m + 1, h, bs, ov, hm, wr, hb, hc, hcw, hco => by
   have q := Nat.div_le_self v (2 ^ m)
   obtain ⟨h1, o1, k1, wr1, f1⟩ := Mq wr (b := v / 2 ^ m % 2) (by omega) (by omega)
   have hcl := h.lt _ _ hc
   obtain ⟨e', h', ov', r1, r2, r3⟩ := Fu w v A hA hA2 c hv m h1 _ o1 (by omega) wr1 (by simp; omega) (by rw [f1.yg c hcl hcw hco, hc]) hcw (fun q => by rcases f1.ids c q with q | q; exact hco q; omega)
   have n1 : ((m + 1 : Nat) : Int) - 1 = (m : Int) := by omega
   have s1 := IK (a := v) (s := m) (by omega)
   have a1 := HD (n := v / 2 ^ m) (by omega)
   rw [VT] at r2
   refine ⟨e', h', ov', uy ?_ r1, r2, f1.trans r3⟩
   rw [n1]
   simp (disch := omega) only [go_sem, wH, AP.f35L0, s1, a1, k1, hc, hA, hA2]
theorem C9 {h : H} {w : Nat} {bs : List Nat} {ov : AV} (wr : Wr h w bs ov) (v n : Nat) (hn0 : 1 ≤ n) (hn : n ≤ 15) (hv : v < 2 ^ n) (hb : bs.length + n ≤ 65536) :
 ∃ h' ov', aS AP.A 35 [.aE w 0, .agg [.int .i64 n, .int .i64 v]] h = some (.int .i64 0, h') ∧ Wr h' w (bs ++ zI v n) ov' ∧ HA h w ov h' ov' := by
 have hp : 2 ^ n ≤ 2 ^ 15 := VS (by omega) hn
 obtain ⟨g, eg⟩ : ∃ g, g = h.alloc [.int .i64 n, .int .i64 v] := ⟨_, rfl⟩
 have hw := h.lt _ _ wr.get
 have frA : ∀ i, i < h.next → g.get i = h.get i := fun i hi => by rw [eg, wR (by omega)]
 have wr1 : Wr g w bs ov := ⟨by rw [frA w hw, wr.get], wr.own.mono (by rw [eg]; simp) (fun i q => frA i (wr.own.lt q).2), by rw [eg]; simpa using wr.fl, by rw [eg]; have := wr.Lm; simp; omega, wr.ne, wr.Og⟩
 have gc : g.get h.next = some [.int .i64 n, .int .i64 v] := by rw [eg, wM rfl]
 obtain ⟨e', h', ov', r1, r2, r3⟩ := Fu w v _ rfl rfl h.next (by omega) n g bs ov hn wr1 (by omega) gc (by omega) (fun q => by have := (wr.own.lt q).2; omega)
 have gw := wr1.get
 have s1 : qe .shl .i64 1 (n : Int) = some (.int .i64 ((2 ^ n : Nat) : Int)) := by
  have := zC (a := 1) (s := n) (by omega) (by omega)
  rwa [Nat.one_mul] at this
 refine ⟨h', ov', uM (fn := AP.f35) (e := [(4, .int .i64 0)]) (vs := [.int .i64 0]) rfl rfl rfl ?_ rfl, r2, ⟨by rw [r3.floor, eg]; simp, by have := r3.next; rw [eg] at this; simp at this; omega, fun i h1 h2 h3 => by rw [r3.yg i (by rw [eg]; simp; omega) h2 h3, frA i h1], fun j hj => by
  rcases r3.ids j hj with q | q
  · exact .inl q
  · rw [eg] at q; simp at q; exact .inr (by omega)⟩⟩
 generalize 2 ^ n = N at *
 simp (disch := omega) only [go_sem, wH, AP.f35, th, ← eg, r1, gw, gc, s1]
theorem Hw {h : H} {w : Nat} {bs : List Nat} {ov : AV} (wr : Wr h w bs ov) : aS AP.A 37 [.aE w 0] h = some (.str (bytesOf (xy bs)), h) := by
 have gw := wr.get
 have b := HF wr.own
 refine uM (fn := AP.f37) (e := [(2, .str (bytesOf (xy bs)))]) (vs := [.str (bytesOf (xy bs))]) rfl rfl rfl ?_ rfl
 simp (disch := omega) only [go_sem, wH, AP.f37, gw, b]
def wT (o : Option (Nat × Nat)) : Nat := (o.getD (0, 0)).1
def yi (o : Option (Nat × Nat)) : Nat := (o.getD (0, 0)).2
def BJ (f : Nat → Option (Nat × Nat)) (k : Nat) : Nat → Nat
 | 0 => 0
 | s + 1 => if wT (f (s + 1)) ≤ k then s + 1 else BJ f k s
def xS (k : Nat) : Nat := BJ lenOf k 285
def Ao (k : Nat) : Nat := yi (lenOf (xS k))
def AX (k : Nat) : Nat := k - wT (lenOf (xS k))
def yj (k : Nat) : Nat := BJ wO k 29
def Ai (k : Nat) : Nat := yi (wO (yj k))
def AU (k : Nat) : Nat := k - wT (wO (yj k))
theorem Cg {s : Nat} (h1 : 257 ≤ s) (h2 : s ≤ 285) : ∃ a b, lenOf s = some (a, b) := by
 unfold lenOf; rw [if_neg (by omega)]; split; exact ⟨_, _, rfl⟩; split <;> exact ⟨_, _, rfl⟩
theorem A4 {s : Nat} (h2 : s ≤ 29) : ∃ a b, wO s = some (a, b) := by
 unfold wO; rw [if_neg (by omega)]; split <;> exact ⟨_, _, rfl⟩
theorem J5 : ∀ s, 257 ≤ s → s < 285 → wT (lenOf (s + 1)) ≤ wT (lenOf s) + 2 ^ yi (lenOf s) := by
 intro s h1 h2
 have : ∀ s < 285, 257 ≤ s → wT (lenOf (s + 1)) ≤ wT (lenOf s) + 2 ^ yi (lenOf s) := by decide +kernel
 exact this s h2 h1
theorem HY : ∀ s, s < 29 → wT (wO (s + 1)) ≤ wT (wO s) + 2 ^ yi (wO s) := by decide +kernel
theorem Aq {k : Nat} (h1 : 3 ≤ k) (h2 : k ≤ 258) : 257 ≤ xS k ∧ xS k ≤ 285 ∧ wT (lenOf (xS k)) ≤ k ∧ k < wT (lenOf (xS k)) + 2 ^ yi (lenOf (xS k)) := by
 have key : ∀ n s, s = 257 + n → s ≤ 285 → (s = 285 ∨ k < wT (lenOf (s + 1))) → 257 ≤ BJ lenOf k s ∧ BJ lenOf k s ≤ 285 ∧ wT (lenOf (BJ lenOf k s)) ≤ k ∧ k < wT (lenOf (BJ lenOf k s)) + 2 ^ yi (lenOf (BJ lenOf k s)) := by
  intro n
  induction n with
  | zero =>
    intro s hs h hk
    obtain rfl : s = 257 := hs
    have e : BJ lenOf k 257 = 257 := by rw [BJ, if_pos (show wT (lenOf (256 + 1)) ≤ k from h1)]
    have g := J5 257 (by omega) (by omega)
    rw [e]
    refine ⟨by omega, by omega, h1, ?_⟩
    rcases hk with q | q
    · omega
    · omega
  | succ n ih =>
    intro s hs h hk
    obtain ⟨s, rfl⟩ : ∃ t, s = t + 1 := ⟨s - 1, by omega⟩
    by_cases c : wT (lenOf (s + 1)) ≤ k
    · rw [BJ, if_pos c]
      refine ⟨by omega, by omega, c, ?_⟩
      rcases hk with q | q
      · obtain rfl : s = 284 := by omega
        have : wT (lenOf (284 + 1)) = 258 := rfl
        have : 0 < 2 ^ yi (lenOf (284 + 1)) := Nat.pow_pos (by omega)
        omega
      · by_cases c2 : s + 1 = 285
        · obtain rfl : s = 284 := by omega
          have : wT (lenOf (284 + 1)) = 258 := rfl
          have : 0 < 2 ^ yi (lenOf (284 + 1)) := Nat.pow_pos (by omega)
          omega
        · have := J5 (s + 1) (by omega) (by omega); omega
    · rw [BJ, if_neg c]
      exact ih s (by omega) (by omega) (.inr (by omega))
 exact key 28 285 (by omega) (by omega) (.inl rfl)
theorem Aj {k : Nat} (h1 : 1 ≤ k) (h2 : k ≤ 32768) : yj k ≤ 29 ∧ wT (wO (yj k)) ≤ k ∧ k < wT (wO (yj k)) + 2 ^ yi (wO (yj k)) := by
 have l0 : wT (wO 0) = 1 := rfl
 have key : ∀ s, s ≤ 29 → (s = 29 ∨ k < wT (wO (s + 1))) → BJ wO k s ≤ 29 ∧ wT (wO (BJ wO k s)) ≤ k ∧ k < wT (wO (BJ wO k s)) + 2 ^ yi (wO (BJ wO k s)) := by
  intro s
  induction s with
  | zero =>
    intro h hk
    rw [BJ]
    have g := HY 0 (by omega)
    refine ⟨by omega, by omega, ?_⟩
    rcases hk with q | q <;> omega
  | succ s ih =>
    intro h hk
    by_cases c : wT (wO (s + 1)) ≤ k
    · rw [BJ, if_pos c]
      refine ⟨by omega, c, ?_⟩
      by_cases c2 : s + 1 = 29
      · obtain rfl : s = 28 := by omega
        have a1 : wT (wO (28 + 1)) = 24577 := rfl
        have a2 : 2 ^ yi (wO (28 + 1)) = 8192 := rfl
        omega
      · have := HY (s + 1) (by omega)
        rcases hk with q | q <;> omega
    · rw [BJ, if_neg c]
      exact ih (by omega) (.inr (by omega))
 exact key 29 (by omega) (.inl rfl)
theorem KU (k : Nat) (h1 : 3 ≤ k) (h2 : k ≤ 258) (g : H) (id : Nat) (hf : g.floor ≤ id) (hfl : g.floor ≤ g.next) (hg : g.get id = some [.int .i64 0, .int .i64 0, .int .i64 0]) : ∀ n s : Nat, s = 257 + n → s ≤ 285 →
 Lp AP.A [0, 2, 4] AP.f28L0 [(0, .int .i64 k), (2, .aE id 0), (4, .int .i64 s)] g = some (.ret, [(2, .aE id 0), (3, .int .i64 0)], g.set id [.int .i64 (BJ lenOf k s : Nat), .int .i64 (yi (lenOf (BJ lenOf k s)) : Nat), .int .i64 ((k - wT (lenOf (BJ lenOf k s)) : Nat) : Int)]) := by
 intro n
 induction n with
 | zero =>
   intro s hs h
   obtain rfl : s = 257 := hs
   have e : BJ lenOf k 257 = 257 := by rw [BJ, if_pos (show wT (lenOf (256 + 1)) ≤ k from h1)]
   have l1 : wT (lenOf 257) = 3 := rfl
   have b1 : yi (lenOf 257) = 0 := rfl
   have kk : aS AP.A 50 [.int .i64 257] g = _ := Ig g 257 (by omega)
   have tt : C7 (lenOf 257) = .bU [.int .i64 3, .int .i64 0, .int .i64 0] := rfl
   rw [tt] at kk
   rw [e, l1, b1]
   have n1 : ((k - 3 : Nat) : Int) = (k : Int) - 3 := by omega
   rw [n1]
   refine uT ?_
   simp (disch := first | omega | (simp only [y7, VK, VN, vW, Nat.reduceAdd]; first | done | omega | fail) | (simp (disch := first | omega | (simp only [y7, VK, VN, vW, Nat.reduceAdd]; first | done | omega | fail) | fail) only [y7, Gp, VO, VK, VN, vW, Nat.reduceAdd]; done) | fail) only [go_sem, wH, Hx, AP.f28L0, kk, hg]
 | succ n ih =>
   intro s hs h
   obtain ⟨s, rfl⟩ : ∃ t, s = t + 1 := ⟨s - 1, by omega⟩
   obtain ⟨a, b, hab⟩ := Cg (s := s + 1) (by omega) h
   have kk := Ig g (s + 1) (by omega)
   rw [hab] at kk
   simp only [I, C7] at kk
   have la : wT (lenOf (s + 1)) = a := by rw [hab]; rfl
   have lb : yi (lenOf (s + 1)) = b := by rw [hab]; rfl
   have bd := EN hab
   by_cases c1 : a ≤ k
   · rw [BJ, la, if_pos c1, la, lb]
     have n1 : ((k - a : Nat) : Int) = (k : Int) - (a : Int) := by omega
     rw [n1]
     refine uT ?_
     simp (disch := first | omega | (simp only [y7, VK, VN, vW, Nat.reduceAdd]; first | done | omega | fail) | (simp (disch := first | omega | (simp only [y7, VK, VN, vW, Nat.reduceAdd]; first | done | omega | fail) | fail) only [y7, Gp, VO, VK, VN, vW, Nat.reduceAdd]; done) | fail) only [go_sem, wH, Hx, AP.f28L0, kk, hg]
   · rw [BJ, la, if_neg c1]
     have r1 := ih s (by omega) (by omega)
     have n1 : ((s + 1 : Nat) : Int) - 1 = (s : Int) := by omega
     refine uy (e' := [(0, .int .i64 k), (2, .aE id 0), (4, .int .i64 s)]) ?_ r1
     simp (disch := first | omega | (simp only [y7, VK, VN, vW, Nat.reduceAdd]; first | done | omega | fail) | (simp (disch := first | omega | (simp only [y7, VK, VN, vW, Nat.reduceAdd]; first | done | omega | fail) | fail) only [y7, Gp, VO, VK, VN, vW, Nat.reduceAdd]; done) | fail) only [go_sem, wH, Hx, AP.f28L0, kk, n1]
theorem Ih (h : H) (k : Nat) (h1 : 3 ≤ k) (h2 : k ≤ 258) : aS AP.A 28 [.int .i64 k] h = some (.bU [.agg [.int .i64 (xS k : Nat), .int .i64 (Ao k : Nat), .int .i64 (AX k : Nat)], .int .i64 0], h) := by
 have r1 := KU k h1 h2 (h.ez.alloc [.int .i64 0, .int .i64 0, .int .i64 0]) h.next (by simp) (by simp) (by rw [wM (by simp)]) 28 285 (by omega) (by omega)
 have r1' : Lp AP.A [0, 2, 4] AP.f28L0 [(0, .int .i64 k), (2, .aE h.next 0), (4, .int .i64 285)] (h.ez.alloc [.int .i64 0, .int .i64 0, .int .i64 0]) = some (.ret, [(2, .aE h.next 0), (3, .int .i64 0)], (h.ez.alloc [.int .i64 0, .int .i64 0, .int .i64 0]).set h.next [.int .i64 (xS k : Nat), .int .i64 (Ao k : Nat), .int .i64 (AX k : Nat)]) := r1
 clear r1
 generalize xS k = S at *
 generalize Ao k = B at *
 generalize AX k = V at *
 refine u7 (fn := AP.f28) (h2 := (h.ez.alloc [.int .i64 0, .int .i64 0, .int .i64 0]).set h.next [.int .i64 S, .int .i64 B, .int .i64 V]) (e := [(2, .aE h.next 0), (3, .int .i64 0)]) (vs := [.agg [.int .i64 S, .int .i64 B, .int .i64 V], .int .i64 0]) rfl rfl rfl ?_ ?_ ?_
 · simp (disch := first | omega | (simp only [y7, VK, VN, vW, Nat.reduceAdd]; first | done | omega | fail) | (simp (disch := first | omega | (simp only [y7, VK, VN, vW, Nat.reduceAdd]; first | done | omega | fail) | fail) only [y7, Gp, VO, VK, VN, vW, Nat.reduceAdd]; done) | fail) only [go_sem, wH, Hx, AP.f28, th, r1']
 · simp (disch := first | omega | (simp only [y7, VK, VN, vW, Nat.reduceAdd]; first | done | omega | fail) | (simp (disch := first | omega | (simp only [y7, VK, VN, vW, Nat.reduceAdd]; first | done | omega | fail) | fail) only [y7, Gp, VO, VK, VN, vW, Nat.reduceAdd]; done) | fail) only [go_sem, wH, Hx, AP.f28, cO, od]; rfl
 · rfl
theorem Jq (k : Nat) (h1 : 1 ≤ k) (h2 : k ≤ 32768) (g : H) (id : Nat) (hf : g.floor ≤ id) (hfl : g.floor ≤ g.next) (hg : g.get id = some [.int .i64 0, .int .i64 0, .int .i64 0]) : ∀ n s : Nat, s = n → s ≤ 29 →
 Lp AP.A [0, 2, 4] AP.f29L0 [(0, .int .i64 k), (2, .aE id 0), (4, .int .i64 s)] g = some (.ret, [(2, .aE id 0), (3, .int .i64 0)], g.set id [.int .i64 (BJ wO k s : Nat), .int .i64 (yi (wO (BJ wO k s)) : Nat), .int .i64 ((k - wT (wO (BJ wO k s)) : Nat) : Int)]) := by
 intro n
 induction n with
 | zero =>
   intro s hs h
   obtain rfl : s = 0 := hs
   have e : BJ wO k 0 = 0 := rfl
   have l1 : wT (wO 0) = 1 := rfl
   have b1 : yi (wO 0) = 0 := rfl
   have kk : aS AP.A 51 [.int .i64 0] g = _ := FT g 0 (by omega)
   have tt : C7 (wO 0) = .bU [.int .i64 1, .int .i64 0, .int .i64 0] := rfl
   rw [tt] at kk
   rw [e, l1, b1]
   have n1 : ((k - 1 : Nat) : Int) = (k : Int) - 1 := by omega
   rw [n1]
   refine uT ?_
   simp (disch := first | omega | (simp only [y7, VK, VN, vW, Nat.reduceAdd]; first | done | omega | fail) | (simp (disch := first | omega | (simp only [y7, VK, VN, vW, Nat.reduceAdd]; first | done | omega | fail) | fail) only [y7, Gp, VO, VK, VN, vW, Nat.reduceAdd]; done) | fail) only [go_sem, wH, Hx, AP.f29L0, kk, hg]
 | succ n ih =>
   intro s hs h
   obtain ⟨s, rfl⟩ : ∃ t, s = t + 1 := ⟨s - 1, by omega⟩
   obtain ⟨a, b, hab⟩ := A4 (s := s + 1) h
   have kk := FT g (s + 1) (by omega)
   rw [hab] at kk
   simp only [I, C7] at kk
   have la : wT (wO (s + 1)) = a := by rw [hab]; rfl
   have lb : yi (wO (s + 1)) = b := by rw [hab]; rfl
   have bd := Dj hab
   by_cases c1 : a ≤ k
   · rw [BJ, la, if_pos c1, la, lb]
     have n1 : ((k - a : Nat) : Int) = (k : Int) - (a : Int) := by omega
     rw [n1]
     refine uT ?_
     simp (disch := first | omega | (simp only [y7, VK, VN, vW, Nat.reduceAdd]; first | done | omega | fail) | (simp (disch := first | omega | (simp only [y7, VK, VN, vW, Nat.reduceAdd]; first | done | omega | fail) | fail) only [y7, Gp, VO, VK, VN, vW, Nat.reduceAdd]; done) | fail) only [go_sem, wH, Hx, AP.f29L0, kk, hg]
   · rw [BJ, la, if_neg c1]
     have r1 := ih s (by omega) (by omega)
     have n1 : ((s + 1 : Nat) : Int) - 1 = (s : Int) := by omega
     refine uy (e' := [(0, .int .i64 k), (2, .aE id 0), (4, .int .i64 s)]) ?_ r1
     simp (disch := first | omega | (simp only [y7, VK, VN, vW, Nat.reduceAdd]; first | done | omega | fail) | (simp (disch := first | omega | (simp only [y7, VK, VN, vW, Nat.reduceAdd]; first | done | omega | fail) | fail) only [y7, Gp, VO, VK, VN, vW, Nat.reduceAdd]; done) | fail) only [go_sem, wH, Hx, AP.f29L0, kk, n1]
theorem LS (h : H) (k : Nat) (h1 : 1 ≤ k) (h2 : k ≤ 32768) : aS AP.A 29 [.int .i64 k] h = some (.bU [.agg [.int .i64 (yj k : Nat), .int .i64 (Ai k : Nat), .int .i64 (AU k : Nat)], .int .i64 0], h) := by
 have r1 := Jq k h1 h2 (h.ez.alloc [.int .i64 0, .int .i64 0, .int .i64 0]) h.next (by simp) (by simp) (by rw [wM (by simp)]) 29 29 (by omega) (by omega)
 have r1' : Lp AP.A [0, 2, 4] AP.f29L0 [(0, .int .i64 k), (2, .aE h.next 0), (4, .int .i64 29)] (h.ez.alloc [.int .i64 0, .int .i64 0, .int .i64 0]) = some (.ret, [(2, .aE h.next 0), (3, .int .i64 0)], (h.ez.alloc [.int .i64 0, .int .i64 0, .int .i64 0]).set h.next [.int .i64 (yj k : Nat), .int .i64 (Ai k : Nat), .int .i64 (AU k : Nat)]) := r1
 clear r1
 generalize yj k = S at *
 generalize Ai k = B at *
 generalize AU k = V at *
 refine u7 (fn := AP.f29) (h2 := (h.ez.alloc [.int .i64 0, .int .i64 0, .int .i64 0]).set h.next [.int .i64 S, .int .i64 B, .int .i64 V]) (e := [(2, .aE h.next 0), (3, .int .i64 0)]) (vs := [.agg [.int .i64 S, .int .i64 B, .int .i64 V], .int .i64 0]) rfl rfl rfl ?_ ?_ ?_
 · simp (disch := first | omega | (simp only [y7, VK, VN, vW, Nat.reduceAdd]; first | done | omega | fail) | (simp (disch := first | omega | (simp only [y7, VK, VN, vW, Nat.reduceAdd]; first | done | omega | fail) | fail) only [y7, Gp, VO, VK, VN, vW, Nat.reduceAdd]; done) | fail) only [go_sem, wH, Hx, AP.f29, th, r1']
 · simp (disch := first | omega | (simp only [y7, VK, VN, vW, Nat.reduceAdd]; first | done | omega | fail) | (simp (disch := first | omega | (simp only [y7, VK, VN, vW, Nat.reduceAdd]; first | done | omega | fail) | fail) only [y7, Gp, VO, VK, VN, vW, Nat.reduceAdd]; done) | fail) only [go_sem, wH, Hx, AP.f29, cO, od]; rfl
 · rfl
theorem Q6 (h : H) (v : AV) (ts : List Tok) (hn : ts.length < 1000000000) (rd : zU 3 h v ts.length (xC ts)) : aS AP.A 69 [v] h = some (.bool (w9 0 ts), h) := by
 have E9 : zU 3 h.ez v ts.length (xC ts) := rd.mono fun i c q => q
 have hfl : h.ez.floor ≤ h.ez.next := by simp
 rcases Gz hn h.ez E9 ts [] 0 h.ez rfl (by omega) (Ext.refl _) (vR _) hfl with ⟨e', h', r1, r2⟩ | ⟨e', h', r1, r2, r3⟩
 · have r1' : Lp AP.A [0, 3, 4] AP.f69L0 [(0, v), (3, .int .i64 0), (4, .int .i64 0)] h.ez = some (.exit 0, e', h') := r1
   rw [r2]
   refine u7 (fn := AP.f69) (h2 := h') (e := [(2, .bool true)]) rfl rfl rfl ?_ rfl rfl
   simp (disch := omega) only [go_sem, wH, AP.f69, th, r1']
 · have r1' : Lp AP.A [0, 3, 4] AP.f69L0 [(0, v), (3, .int .i64 0), (4, .int .i64 0)] h.ez = some (.ret, e', h') := r1
   rw [r3]
   obtain ⟨e2, he2⟩ : ∃ e2, aM (aS AP.A) bG AP.f69.body (params 0 [v]) h.ez = some (.ret, e2, h') ∧ look e2 2 = .bool false := by
    refine ⟨e', ?_, r2⟩
    simp (disch := omega) only [go_sem, wH, AP.f69, th, r1']
   refine u7 (fn := AP.f69) (h2 := h') (e := e2) (vs := [.bool false]) rfl rfl rfl he2.1 ?_ rfl
   simp only [AP.f69, cO, od, he2.2]; rfl
def I8 (d : Nat) : Nat → List Nat → List Nat
 | 0, o => o
 | n + 1, o => I8 d n (o ++ [o.getD (o.length - d) 0])
theorem D5 (d : Nat) : ∀ n o, (I8 d n o).length = o.length + n
 | 0, o => rfl
 | n + 1, o => by rw [I8, D5 d n]; simp; omega
theorem JX (d : Nat) : ∀ n o, JN o → JN (I8 d n o)
 | 0, o, h => h
 | n + 1, o, h => by
   refine JX d n _ fun x hx => ?_
   rcases Wb.1 hx with q | q
   · exact h x q
   · simp only [List.mem_singleton] at q
     subst q
     rw [VH]
     cases hg : o[o.length - d]? with
     | none => simp
     | some y => exact h y (vV hg)
def xm (o : List Nat) (t : Tok) : List Nat := if t.len = 0 then o ++ [t.lit.toNat] else I8 t.xa.toNat t.len.toNat o
def zy : List Tok → List Nat → List Nat
 | [], o => o
 | t :: r, o => zy r (xm o t)
theorem HU {v : AV} {ts : List Tok} (hn : ts.length < 1000000000) (h0 : H) (rd : zU 3 h0 v ts.length (xC ts)) (i : Nat) (t : Tok) (ht : ts[i]? = some t) (L D : Nat) (hL : t.len = L) (hD : t.xa = D) (hLb : L ≤ 258) (hD1 : 1 ≤ D) : ∀ (m j : Nat) (out : List Nat) (h : H) (ov : AV), j + m = L → D ≤ out.length → out.length + m ≤ 10000 → JN out → Ext h0 h → h0.next ≤ h.floor → h.floor ≤ h.next → wW 1 h ov out.length (zW out) →
 ∃ h' ov', Lp AP.A [0, 4, 5, 6] AP.f55L0 [(0, v), (4, ov), (5, .int .i64 i), (6, .int .i64 j)] h = some (.exit 2, [(0, v), (4, ov'), (5, .int .i64 i), (6, .int .i64 L), (37, .bool false)], h') ∧ Ext h0 h' ∧ h'.floor = h.floor ∧ h'.floor ≤ h'.next ∧ wW 1 h' ov' (I8 D m out).length (zW (I8 D m out))
 | 0, j, out, h, ov, hj, hDo, hs, hb, hx, hf, hfn, ow => by
   obtain rfl : j = L := by omega
   obtain ⟨ad, a1, a2, a3⟩ := rd.Ld
   have hi : i < ts.length := (vN.1 ht).1
   have hI : (0 : Int) ≤ (i : Int) ∧ (i : Int) < ts.length := ⟨by omega, by omega⟩
   have b1 := a1 _ hI
   have b2 := a2 i 0 1 hI
   obtain ⟨_, b3, _, _⟩ := a3 h hx _ _ ht
   rw [hL] at b3
   clear a1 a2 a3
   refine ⟨h, ov, ux ?_, hx, rfl, hfn, ow⟩
   simp (disch := omega) only [go_sem, wH, AP.f55L0, b1, b2, b3]
 | m + 1, j, out, h, ov, hj, hDo, hs, hb, hx, hf, hfn, ow => by
   obtain ⟨ad, a1, a2, a3⟩ := rd.Ld
   have hi : i < ts.length := (vN.1 ht).1
   have hI : (0 : Int) ≤ (i : Int) ∧ (i : Int) < ts.length := ⟨by omega, by omega⟩
   have b1 := a1 _ hI
   have b2 := a2 i 0 1 hI
   have b2' := a2 i 0 2 hI
   obtain ⟨_, b3, b4, _⟩ := a3 h hx _ _ ht
   rw [hL] at b3
   rw [hD] at b4
   clear a1 a2 a3
   rcases ow.2 with ⟨_, q⟩ | ⟨id, q1, q2, q3, q4⟩
   · omega
   obtain ⟨x, hxx⟩ : ∃ x, out[out.length - D]? = some x := ⟨_, VL (by omega)⟩
   have gx := RB hxx
   have gd : out.getD (out.length - D) 0 = x := by rw [VH, hxx]; rfl
   obtain ⟨v', h', p1, p2, p3, p4, p5, p6⟩ := ow.push hfn (z := 1) (m := 1) (by omega) (by omega) [.int .u8 x] rfl rfl (yB (by omega))
   have x8 := hb x (vV hxx)
   have hxn : Ext h0 h' := fun k c hk => by
    have := h0.lt _ _ hk
    rw [p5 k (fun e => by rw [q1] at e; have := vG e; omega) (by omega), hx k c hk]
   have ow2 : wW 1 h' v' (out ++ [x]).length (zW (out ++ [x])) := by rw [Ei, wo]; exact p2
   obtain ⟨h2, ov', r1, r2, r3, r4, r5⟩ := HU hn h0 rd i t ht L D hL hD hLb hD1 m (j + 1) (out ++ [x]) h' v' (by omega) (by simp; omega) (by simp; omega) (fun y hy => by
    rcases Wb.1 hy with q | q
    · exact hb y q
    · simp at q; omega) hxn (by omega) (by omega) ow2
   have n1 : ((j + 1 : Nat) : Int) = (j : Int) + 1 := by omega
   have n2 : (out.length : Int) - (D : Int) = ((out.length - D : Nat) : Int) := by omega
   have bl := RC out
   rw [I8, gd]
   refine ⟨h2, ov', uy ?_ r1, r2, by omega, r4, r5⟩
   rw [n1]
   subst q1
   clear r5 hb x8 ow2 r1 r2 hx hxn
   generalize zW out = BO at *
   simp (disch := omega) only [go_sem, wH, AP.f55L0, b1, b2, b2', b3, b4, n2, q2, gx, bl, p1]
theorem EA {v : AV} {ts : List Tok} (hn : ts.length < 1000000000) (h0 : H) (rd : zU 3 h0 v ts.length (xC ts)) : ∀ (q p : List Tok) (out : List Nat) (h : H) (ov : AV), ts = p ++ q → w9 out.length q = true → out.length ≤ 8192 → JN out → Ext h0 h → h0.next ≤ h.floor → h.floor ≤ h.next → wW 1 h ov out.length (zW out) →
 ∃ e' h' ov', Lp AP.A [0, 4, 5] AP.f55L1 [(0, v), (4, ov), (5, .int .i64 p.length)] h = some (.exit 0, e', h') ∧ look e' 4 = ov' ∧ h'.floor = h.floor ∧ wW 1 h' ov' (zy q out).length (zW (zy q out)) ∧ (zy q out).length ≤ 8192 ∧ JN (zy q out)
 | [], p, out, h, ov, hp, hm, hs, hb, hx, hf, hfn, ow => by
   rw [V4] at hp; subst hp
   have ln := rd.len
   refine ⟨[(0, v), (4, ov), (5, .int .i64 ts.length), (13, .bool false)], h, ov, ux ?_, rfl, rfl, ow, hs, hb⟩
   simp (disch := omega) only [go_sem, wH, AP.f55L1, ln]
 | t :: q, p, out, h, ov, hp, hm, hs, hb, hx, hf, hfn, ow => by
   have ln := rd.len
   have hlen : ts.length = p.length + (q.length + 1) := by rw [hp]; simp
   have ht : ts[p.length]? = some t := by rw [hp]; simp
   obtain ⟨ad, a1, a2, a3⟩ := rd.Ld
   have hI : (0 : Int) ≤ (p.length : Int) ∧ (p.length : Int) < ts.length := ⟨by omega, by omega⟩
   have b1 := a1 _ hI
   have b2 := a2 p.length 0 1 hI
   have b2' := a2 p.length 0 0 hI
   obtain ⟨b3, b4, _, _⟩ := a3 h hx _ _ ht
   rw [w9] at hm
   have pl : p.length < ts.length := by omega
   cases hst : yc out.length t with
   | none => rw [hst] at hm; cases hm
   | some s' =>
     rw [hst] at hm
     simp only at hm
     by_cases k : 8192 < s'
     · rw [if_pos k] at hm; cases hm
     rw [if_neg k] at hm
     unfold yc at hst
     have n1 : (((p ++ [t]).length : Nat) : Int) = (p.length : Int) + 1 := by simp
     by_cases c0 : t.len = 0
     · rw [if_pos c0] at hst
       by_cases c : t.lit < 0 ∨ 255 < t.lit ∨ t.xa ≠ 0
       · rw [if_pos c] at hst; cases hst
       rw [if_neg c] at hst
       obtain rfl := vG hst
       obtain ⟨x, hxl⟩ : ∃ x : Nat, t.lit = x := VP (by omega)
       have es : xm out t = out ++ [x] := by unfold xm; rw [if_pos c0, hxl]; rfl
       have hx8 : x < 256 := by omega
       obtain ⟨v', h', p1, p2, p3, p4, p5, p6⟩ := ow.push hfn (z := 1) (m := 1) (by omega) (by omega) [.int .u8 x] rfl rfl (yB (by omega))
       have hxn : Ext h0 h' := fun k c hk => by
        have := h0.lt _ _ hk
        rw [p5 k (fun e => by have := ow.lt e; omega) (by omega), hx k c hk]
       have ow2 : wW 1 h' v' (out ++ [x]).length (zW (out ++ [x])) := by rw [Ei, wo]; exact p2
       have hx3 : Ext h0 h' := hxn
       obtain ⟨b3', b4', _, _⟩ := a3 h' hxn _ _ ht
       rw [hxl] at b3
       rw [c0] at b4 b4'
       have wx := Vj (n := x) hx8
       clear a1 a2 a3
       obtain ⟨e', h2, ov', r1, r2, r3, r4, r5, r6⟩ := EA hn h0 rd q (p ++ [t]) (out ++ [x]) h' v' (by rw [hp]; simp) (by rw [← hm]; simp) (by simp; omega) (fun y hy => by
        rcases Wb.1 hy with q | q
        · exact hb y q
        · simp at q; omega) hxn (by omega) (by omega) ow2
       have L0 : Lp AP.A [0, 4, 5, 6] AP.f55L0 [(0, v), (4, v'), (5, .int .i64 p.length), (6, .int .i64 0)] h' = some (.exit 2, [(0, v), (4, v'), (5, .int .i64 p.length), (6, .int .i64 0), (37, .bool false)], h') := by
        refine ux ?_
        simp (disch := omega) only [go_sem, wH, AP.f55L0, b1, b2, b4']
       rw [zy, es]
       refine ⟨e', h2, ov', uy ?_ r1, r2, by omega, r4, r5, r6⟩
       rw [n1]
       clear r1 r2 r4 r5 r6 hm hp hx hxn hx3 hb hst c
       simp (disch := omega) only [go_sem, wH, AP.f55L1, ln, b1, b2, b2', b3, b4, wx, p1, th, L0]
     · rw [if_neg c0] at hst
       by_cases c : t.len < 3 ∨ 258 < t.len ∨ t.xa < 1 ∨ 32768 < t.xa ∨ (out.length : Int) < t.xa ∨ t.lit ≠ 0
       · rw [if_pos c] at hst; cases hst
       rw [if_neg c] at hst
       obtain rfl := vG hst
       obtain ⟨L, hL⟩ : ∃ x : Nat, t.len = x := VP (by omega)
       obtain ⟨D, hD⟩ : ∃ x : Nat, t.xa = x := VP (by omega)
       have es : xm out t = I8 D L out := by unfold xm; rw [if_neg c0, hL, hD]; rfl
       have cl := D5 D L out
       have cb := JX D L out hb
       obtain ⟨h', v', L0, s1, s2, s3, s4⟩ := HU hn h0 rd p.length t ht L D hL hD (by omega) (by omega) L 0 out h ov (by omega) (by omega) (by omega) hb hx hf hfn ow
       have L0' : Lp AP.A [0, 4, 5, 6] AP.f55L0 [(0, v), (4, ov), (5, .int .i64 p.length), (6, .int .i64 0)] h = _ := L0
       obtain ⟨e', h2, ov', r1, r2, r3, r4, r5, r6⟩ := EA hn h0 rd q (p ++ [t]) (I8 D L out) h' v' (by rw [hp]; simp) (by rw [← hm, cl, hL]; simp) (by omega) cb s1 (by omega) s3 s4
       rw [zy, es]
       refine ⟨e', h2, ov', uy ?_ r1, r2, by omega, r4, r5, r6⟩
       rw [n1]
       have c0' : ¬ (L : Int) = 0 := by omega
       rw [hL] at b4
       clear r1 r2 r4 r5 r6 hm hp hx hb hst c c0 L0 s4 cb es a1 a2 a3
       simp (disch := omega) only [go_sem, wH, AP.f55L1, ln, b1, b2, b2', b4, th, L0', c0']
def Bg (ts : List Tok) : Option ByteArray := if w9 0 ts = true then some (bytesOf (zy ts [])) else none
def PU : Option ByteArray → AV
 | some t => .bU [.str t, .int .i64 0]
 | none => .bU [.str ⟨#[]⟩, .int .i64 500]
theorem LW (h : H) (v : AV) (ts : List Tok) (hn : ts.length < 1000000000) (rd : zU 3 h v ts.length (xC ts)) : aS AP.A 55 [v] h = some (PU (Bg ts), h) ∧ ∀ t, Bg ts = some t → t.size ≤ 8192 := by
 have k1 : ∀ g : H, g = h.ez → aS AP.A 69 [v] g = some (.bool (w9 0 ts), g) := fun g e => by subst e; exact Q6 h.ez v ts hn (rd.mono fun i c q => q)
 unfold Bg
 by_cases hm : w9 0 ts = true
 · rw [if_pos hm]
   have E9 : zU 3 h.ez v ts.length (xC ts) := rd.mono fun i c q => q
   obtain ⟨e', h', ov', r1, r2, r3, r4, r5, r6⟩ := EA hn h.ez E9 ts [] [] h.ez .aQ rfl hm (by simp) (fun _ h => by simp at h) (Ext.refl _) (by simp) (by simp) wW.nil
   have r1' : Lp AP.A [0, 4, 5] AP.f55L1 [(0, v), (4, .aQ), (5, .int .i64 0)] h.ez = some (.exit 0, e', h') := r1
   have b := HF r4
   have k := k1 _ rfl
   rw [hm] at k
   refine ⟨?_, fun t ht => ?_⟩
   · generalize bytesOf (zy ts []) = B at *
     refine u7 (fn := AP.f55) (h2 := h') (e := [(2, .str B), (3, .int .i64 0)]) rfl rfl rfl ?_ rfl rfl
     clear r1 r4 r5 r6 E9 rd k1
     simp (disch := omega) only [go_sem, wH, AP.f55, k, th, r1', r2, b]
   · obtain rfl := vG ht
     rw [xH]; omega
 · rw [if_neg hm]
   have k := k1 _ rfl
   rw [Bool.eq_false_iff.2 hm] at k
   refine ⟨?_, fun t ht => by cases ht⟩
   refine u7 (fn := AP.f55) (h2 := h.ez) (e := [(2, .str ⟨#[]⟩), (3, .int .i64 500)]) rfl rfl rfl ?_ rfl rfl
   clear rd k1
   simp (disch := omega) only [go_sem, wH, AP.f55, k]
def KO (ts : List Tok) : Bool := match Bg ts with
 | some t => decide (t.size ≤ 300)
 | none => false
theorem Ok (h : H) (v : AV) (ts : List Tok) (hn : ts.length < 1000000000) (rd : zU 3 h v ts.length (xC ts)) : aS AP.A 27 [v] h = some (.bool (KO ts), h) := by
 obtain ⟨k, kl⟩ := LW h.ez v ts hn (rd.mono fun i c q => q)
 unfold KO
 cases he : Bg ts with
 | none =>
   rw [he] at k
   simp only [PU] at k
   refine u7 (fn := AP.f27) (h2 := h.ez) (e := [(2, .bool false)]) rfl rfl rfl ?_ rfl rfl
   clear rd kl
   simp (disch := omega) only [go_sem, wH, AP.f27, k]
 | some t =>
   rw [he] at k
   have := kl t he
   simp only [PU] at k
   refine u7 (fn := AP.f27) (h2 := h.ez) (e := [(2, .bool (decide (t.size ≤ 300)))]) rfl rfl rfl ?_ rfl rfl
   clear rd kl
   by_cases c : t.size ≤ 300
   · simp (disch := omega) only [go_sem, wH, AP.f27, k, VM c]
   · simp (disch := omega) only [go_sem, wH, AP.f27, k, VJ c]
theorem D6 {p q : Prop} [Decidable p] [Decidable q] {α : Type} {a b : α} (h : p ↔ q) : (if p then a else b) = if q then a else b := by
 by_cases c : p
 · rw [if_pos c, if_pos (h.1 c)]
 · rw [if_neg c, if_neg (fun x => c (h.2 x))]
def xU (p : Int × Int) : List AV := [.int .i64 p.1, .int .i64 p.2]
theorem Ar (p : Int × Int) : (xU p).length = 2 := rfl
theorem L7 {α : Type} {C : α → List AV} {n : Nat} (hC : ∀ x, (C x).length = n) : ∀ (l : List α) (i : Nat) (x : α), i < l.length → setFrom (l.flatMap C) (i * n) (C x) = (l.set i x).flatMap C
 | [], i, x, h => by simp at h
 | y :: l, 0, x, h => by
   have := zo (C y) (C x) [] (l.flatMap C) (by rw [hC, hC])
   simpa using this
 | y :: l, i + 1, x, h => by
   have ih := L7 hC l i x (by simpa using h)
   rw [VQ, List.set_cons_succ, VQ, ← ih]
   have e := Dk hC l
   have : i < l.length := by simpa using h
   have hi : i * n + n ≤ l.length * n := by
    have := vU n (show i + 1 ≤ l.length from this)
    rwa [Nat.succ_mul] at this
   have hs : (i + 1) * n = n + i * n := by rw [Nat.succ_mul]; omega
   rw [Cp _ _ _ (by rw [wo, hC, hC, e, hs]; omega), Cp _ _ _ (by rw [hC, e]; omega), hs, hC]
   rw [List.take_append, List.drop_append, hC]
   rw [VY (by rw [hC]; omega), List.drop_of_length_le (by rw [hC]; omega)]
   rw [show n + i * n - n = i * n by omega, show n + i * n + n - n = i * n + n by omega]
   simp
def BI (l : List Int) (i : Nat) : Int × Int := if 1 ≤ l.getD i 0 then (l.getD i 0, wI l (l.getD i 0).toNat + yL (l.take i) (l.getD i 0).toNat) else (0, 0)
def wB (l : List Int) : List (Int × Int) := (List.range l.length).map (BI l)
def xL (l : List Int) (b i : Nat) : List (Int × Int) := (List.range l.length).map fun j => if 1 ≤ l.getD j 0 ∧ (l.getD j 0 < b ∨ (l.getD j 0 = b ∧ j < i)) then BI l j else (0, 0)
theorem Dd (l : List Int) (b i : Nat) : (xL l b i).length = l.length := by simp [xL]
theorem KH {l : List Int} {b i : Nat} (hi : i < l.length) (hb : 1 ≤ b) (hl : l.getD i 0 = (b : Int)) : (xL l b i).set i ((b : Int), wI l b + yL (l.take i) b) = xL l b (i + 1) := by
 apply List.ext_getElem?
 intro j
 rw [VZ]
 by_cases e : i = j
 · subst e
   rw [if_pos rfl, if_pos (by rw [Dd]; exact hi)]
   simp only [xL, v7, Wn hi, VO]
   rw [if_pos ⟨by omega, .inr ⟨hl, by omega⟩⟩, BI, if_pos (by omega), hl]; rfl
 · rw [if_neg e]
   simp only [xL, v7]
   by_cases hj : j < l.length
   · rw [Wn hj]
     simp only [VO]
     exact Wh some (D6 (by omega))
   · rw [V5 (by simp; omega)]; rfl
theorem Jl {l : List Int} {b i : Nat} (hl : ¬ l.getD i 0 = (b : Int)) : xL l b (i + 1) = xL l b i := by
 unfold xL
 refine We fun j hj => ?_
 by_cases e : j = i
 · subst e
   exact D6 (by omega)
 · exact D6 (by omega)
theorem Jm (l : List Int) (b : Nat) : xL l (b + 1) 0 = xL l b l.length := by
 unfold xL
 refine We fun j hj => ?_
 have hj' : j < l.length := Wp.1 hj
 exact D6 (by omega)
theorem KG {l : List Int} (hr : ∀ y ∈ l, 0 ≤ y ∧ y < 16) : xL l 16 0 = wB l := by
 unfold xL wB
 refine We fun j hj => ?_
 have hj' : j < l.length := Wp.1 hj
 have hm := hr (l.getD j 0) (by rw [VH, VL hj']; simp)
 by_cases c : 1 ≤ l.getD j 0
 · rw [if_pos ⟨c, .inl (by omega)⟩]
 · rw [if_neg (fun q => c q.1), BI, if_neg c]
theorem Jn (l : List Int) : xL l 1 0 = List.replicate l.length (0, 0) := by
 unfold xL
 have : (List.range l.length).map (fun j => if 1 ≤ l.getD j 0 ∧ (l.getD j 0 < (1 : Nat) ∨ (l.getD j 0 = (1 : Nat) ∧ j < 0)) then BI l j else ((0 : Int), (0 : Int))) = (List.range l.length).map (fun _ => ((0 : Int), (0 : Int))) := by
  refine We fun j hj => ?_
  rw [if_neg (by omega)]
 rw [this, List.map_const', List.length_range]
theorem BH {l : List Int} {i : Nat} (hi : i < l.length) (b : Nat) (hb : 1 ≤ b) : yL (l.take (i + 1)) b = yL (l.take i) b + if l.getD i 0 = (b : Int) then 1 else 0 := by
 have e : l.take (i + 1) = l.take i ++ [l.getD i 0] := by
  rw [List.take_add_one, VL hi, VH, VL hi]; rfl
 rw [e, CJ]
 congr 1
 by_cases c : l.getD i 0 = (b : Int)
 · rw [if_pos ⟨by omega, c⟩, if_pos c]
 · rw [if_neg (fun q => c q.2), if_neg c]
theorem Es {x : AV} {l : List Int} (hl : l.length < 1000) (h0 : H) (rd : Rd h0 x (ints l)) (id b : Nat) (hid : h0.next ≤ id) (hb1 : 1 ≤ b) (hb : b ≤ 15) : ∀ (m i : Nat) (h : H), i + m = l.length → Ext h0 h → h.floor ≤ id → h.get id = some ((xL l b i).flatMap xU) →
 ∃ h', Lp AP.A [0, 5, 6, 7, 8] AP.f34L0 [(0, x), (5, .aF id 0 l.length 2), (6, .int .i64 (wI l b + yL (l.take i) b)), (7, .int .i64 b), (8, .int .i64 i)] h = some (.exit 2, [(0, x), (5, .aF id 0 l.length 2), (6, .int .i64 (wI l b + yL l b)), (7, .int .i64 b), (8, .int .i64 l.length), (30, .bool false)], h') ∧ Ext h0 h' ∧ h'.floor = h.floor ∧ h'.get id = some ((xL l b l.length).flatMap xU)
 | 0, i, h, hi, hx, hf, hg => by
   obtain rfl : i = l.length := by omega
   have ln := rd.len
   rw [qy] at ln
   simp only [I] at ln
   rw [List.take_length]
   refine ⟨h, ux ?_, hx, rfl, hg⟩
   simp (disch := omega) only [go_sem, wH, AP.f34L0, ln]
 | m + 1, i, h, hi, hx, hf, hg => by
   have ln := rd.len
   rw [qy] at ln
   simp only [I] at ln
   have hil : i < l.length := by omega
   obtain ⟨ad, a1, a2⟩ := rd.xY
   have b1 := a1 i ⟨by omega, by omega⟩
   have lg : l[i]? = some (l.getD i 0) := by rw [VH, VL hil]; rfl
   have b2 := a2 h hx i _ lg
   have n1 : ((i + 1 : Nat) : Int) = (i : Int) + 1 := by omega
   have ct := BH hil b hb1
   have fb := Bh (l := l) (by omega) b
   have pw := Bs hb
   have cl := BU (l.take i) b
   have tl := List.length_take_le i l
   generalize hy : l.getD i 0 = y at *
   by_cases c : y = (b : Int)
   · have st : ve h id (i * 2) 2 [.int .i64 (b : Int), .int .i64 (wI l b + yL (l.take i) b)] (some ((xL l b i).flatMap xU)) = some (h.set id ((xL l b (i + 1)).flatMap xU)) := by
      rw [Kk, ← KH hil hb1 (hy.trans c), ← L7 Ar _ _ _ (by rw [Dd]; exact hil)]
      have := Dk Ar (xL l b i)
      rw [Dd] at this
      simp only [this, hf, VK, VN, decide_true, AV.aC, AV.sc, Bool.and_true, Bool.true_and, show i * 2 + 2 ≤ l.length * 2 by omega]
      rfl
     rw [if_pos c] at ct
     have g2 : (h.set id ((xL l b (i + 1)).flatMap xU)).get id = some ((xL l b (i + 1)).flatMap xU) := by rw [wQ rfl, hg]; rfl
     obtain ⟨h', r1, r2, r3, r4⟩ := Es hl h0 rd id b hid hb1 hb m (i + 1) _ (by omega) (hx.set hid _) (by simpa using hf) g2
     have e1 : wI l b + (yL (l.take i) b : Int) + 1 = wI l b + (yL (l.take (i + 1)) b : Nat) := by rw [ct]; omega
     refine ⟨h', uy ?_ r1, r2, by rw [r3]; simp, r4⟩
     rw [← e1, n1]
     subst c
     clear r1 r2 r3 r4 g2 ct e1 hx
     generalize wI l b = F at *
     generalize yL (l.take i) b = K at *
     generalize (xL l b i).flatMap xU = CS at *
     generalize (xL l b (i + 1)).flatMap xU = CS2 at *
     simp (disch := omega) only [go_sem, wH, AP.f34L0, ln, b1, b2, hg, st]
   · rw [if_neg c, Nat.add_zero] at ct
     obtain ⟨h', r1, r2, r3, r4⟩ := Es hl h0 rd id b hid hb1 hb m (i + 1) h (by omega) hx hf (by rw [Jl (fun q => c (hy.symm.trans q))]; exact hg)
     rw [ct] at r1
     refine ⟨h', uy ?_ r1, r2, r3, r4⟩
     rw [n1]
     generalize wI l b = F at *
     generalize yL (l.take i) b = K at *
     simp (disch := omega) only [go_sem, wH, AP.f34L0, ln, b1, b2]
theorem HV {x : AV} {l : List Int} (hl : l.length < 1000) (h0 : H) (rd : Rd h0 x (ints l)) (id : Nat) (hid : h0.next ≤ id) : ∀ (m b : Nat) (h : H) (F : Int), b + m = 16 → 1 ≤ b → F + F = wI l b → Ext h0 h → h.floor ≤ id → h.get id = some ((xL l b 0).flatMap xU) →
 ∃ e' h', Lp AP.A [0, 5, 6, 7] AP.f34L1 [(0, x), (5, .aF id 0 l.length 2), (6, .int .i64 F), (7, .int .i64 b)] h = some (.exit 0, e', h') ∧ look e' 5 = .aF id 0 l.length 2 ∧ h'.floor = h.floor ∧ h'.get id = some ((xL l 16 0).flatMap xU)
 | 0, b, h, F, hb, hb1, hF, hx, hf, hg => by
   obtain rfl : b = 16 := by omega
   refine ⟨[(0, x), (5, .aF id 0 l.length 2), (6, .int .i64 F), (7, .int .i64 16), (22, .bool false)], h, ux ?_, rfl, rfl, hg⟩
   simp (disch := omega) only [go_sem, wH, AP.f34L1]
 | m + 1, b, h, F, hb, hb1, hF, hx, hf, hg => by
   obtain ⟨h1, q1, q2, q3, q4⟩ := Es hl h0 rd id b hid hb1 (by omega) l.length 0 h (by omega) hx hf hg
   rw [← Jm] at q4
   have c0 : yL (l.take 0) b = 0 := by rw [List.take_zero]; exact JS b
   rw [c0] at q1
   have fb := Bh (l := l) (by omega) b
   have pw := Bs (m := b) (by omega)
   have q1' : Lp AP.A [0, 5, 6, 7, 8] AP.f34L0 [(0, x), (5, .aF id 0 l.length 2), (6, .int .i64 (wI l b)), (7, .int .i64 b), (8, .int .i64 0)] h = some (.exit 2, [(0, x), (5, .aF id 0 l.length 2), (6, .int .i64 (wI l b + yL l b)), (7, .int .i64 b), (8, .int .i64 l.length), (30, .bool false)], h1) := by
    have e : (wI l b + ((0 : Nat) : Int)) = wI l b := by omega
    rw [e] at q1; exact q1
   obtain ⟨e', h', r1, r2, r3, r4⟩ := HV hl h0 rd id hid m (b + 1) h1 (wI l b + yL l b) (by omega) (by omega) (by rw [wI]; omega) q2 (by omega) q4
   have n1 : ((b + 1 : Nat) : Int) = (b : Int) + 1 := by omega
   have n2 : 2 * F = wI l b := by omega
   have hFb : 0 ≤ F ∧ F < 100000000000 := by omega
   refine ⟨e', h', uy ?_ r1, r2, by omega, r4⟩
   rw [n1]
   clear q1 r1 r2 r3 r4 q4 hx rd
   generalize wI l b = G at *
   simp (disch := omega) only [go_sem, wH, AP.f34L1, n2, th, q1']
theorem Co : ∀ E : List (Int × Int), E.flatMap xU = ints (E.flatMap fun p => [p.1, p.2])
 | [] => rfl
 | p :: E => by rw [VQ, VQ, qx, Co E]; rfl
theorem DS : ∀ n, zm n [.int .i64 0, .int .i64 0] = (List.replicate n ((0 : Int), (0 : Int))).flatMap xU
 | 0 => rfl
 | n + 1 => by
   have := DS n
   unfold zm at *
   rw [eh, this, List.replicate_succ, VQ]; rfl
def Em (l : List Int) : AV := Aa 2 l.length ((wB l).flatMap xU)
theorem CK (h : H) (x : AV) (l : List Int) (h1 : 1 ≤ l.length) (hl : l.length < 1000) (rd : Rd h x (ints l)) (hc : wS l = 0 ∨ wS l = 302) : aS AP.A 34 [x] h = some (.bU [Em l, .int .i64 0], h) := by
 have k := LK h.ez x l (by omega) (rd.mono (wG h))
 simp only [I] at k
 have hr : ∀ y ∈ l, 0 ≤ y ∧ y < 16 := by
  refine Dn ?_
  unfold wS at hc
  by_cases q : Cm l = false
  · rw [if_pos q] at hc; omega
  · simpa using q
 have E9 : Rd h.ez x (ints l) := rd.mono (wG h)
 obtain ⟨g, eg⟩ : ∃ g, g = h.ez.alloc (zm l.length [.int .i64 0, .int .i64 0]) := ⟨_, rfl⟩
 have hn : h.ez.next = h.next := rfl
 have ex : Ext h.ez g := by rw [eg]; exact (Ext.refl _).alloc _
 have gg : g.get h.next = some ((xL l 1 0).flatMap xU) := by rw [eg, wM (by simp), DS, Jn]
 obtain ⟨e', h', r1, r2, r3, r4⟩ := HV hl h.ez E9 h.next (by simp) 15 1 g 0 (by omega) (by omega) (by simp [wI, yL]) ex (by rw [eg]; simp) gg
 have r1' : Lp AP.A [0, 5, 6, 7] AP.f34L1 [(0, x), (5, .aF h.next 0 l.length 2), (6, .int .i64 0), (7, .int .i64 1)] g = some (.exit 0, e', h') := r1
 have ln := rd.len
 rw [qy] at ln
 simp only [I] at ln
 rw [KG hr] at r4
 have ce : (wB l).length = l.length := by simp [wB]
 have ow : wW 2 h' (.aF h.next 0 l.length 2) l.length ((wB l).flatMap xU) := ⟨by rw [Dk Ar, ce], .inr ⟨h.next, rfl, r4, by rw [r3, eg]; simp, by omega⟩⟩
 have kk : (¬ wS l = 0 ∧ ¬ wS l = 302) = False := by simp; omega
 refine u7 (fn := AP.f34) (h2 := h') (e := [(2, .aF h.next 0 l.length 2), (3, .int .i64 0)]) (vs := [.aF h.next 0 l.length 2, .int .i64 0]) rfl rfl rfl ?_ rfl ?_
 · clear r1 r4 ow rd E9 hr kk gg ex
   rcases hc with q | q
   · rw [q] at k
     simp (disch := omega) only [go_sem, wH, AP.f34, k, ln, ← eg, hn, th, r1', r2]
   · rw [q] at k
     simp (disch := omega) only [go_sem, wH, AP.f34, k, ln, ← eg, hn, th, r1', r2]
 · have o' := ow
   rw [Co] at o'
   have s1 := o'.yC (fl := h.next) (m := 13) (t := true) (by rw [r3, eg]; simp)
   show (fV (snap h'.get h.next 15 true) [.aF h.next 0 l.length 2, .int .i64 0]).bind _ = _
   simp only [fV, s1, vO]
   rw [← Co]; rfl
def xk (l : List Int) (least : Nat) : Nat → Nat
 | 0 => least
 | i + 1 => if i + 1 ≤ least then least else if 0 < l.getD i 0 then i + 1 else xk l least i
theorem GG {x : AV} {l : List Int} (hl : l.length < 1000) (h : H) (rd : Rd h x (ints l)) (k : Nat) (hk : k < 1000) : ∀ i : Nat, i ≤ l.length →
 (∃ e', Lp AP.A [0, 1, 5] AP.f31L0 [(0, x), (1, .int .i64 k), (5, .int .i64 i)] h = some (.exit 0, e', h) ∧ look e' 1 = .int .i64 k ∧ xk l k i = k) ∨
 Lp AP.A [0, 1, 5] AP.f31L0 [(0, x), (1, .int .i64 k), (5, .int .i64 i)] h = some (.ret, [(4, .int .i64 (xk l k i : Nat))], h)
 | 0, hi => by
   refine .inl ⟨[(0, x), (1, .int .i64 k), (5, .int .i64 0), (10, .bool false)], ux ?_, rfl, rfl⟩
   simp (disch := omega) only [go_sem, wH, AP.f31L0]
 | i + 1, hi => by
   by_cases c : i + 1 ≤ k
   · refine .inl ⟨[(0, x), (1, .int .i64 k), (5, .int .i64 (i + 1 : Nat)), (10, .bool false)], ux ?_, rfl, by rw [xk, if_pos c]⟩
     simp (disch := omega) only [go_sem, wH, AP.f31L0]
   · obtain ⟨ad, a1, a2⟩ := rd.xY
     have b1 := a1 i ⟨by omega, by omega⟩
     have lg : l[i]? = some (l.getD i 0) := by rw [VH, VL (by omega)]; rfl
     have b2 := a2 h (Ext.refl h) i _ lg
     have n1 : ((i + 1 : Nat) : Int) - 1 = (i : Int) := by omega
     rw [xk, if_neg c]
     generalize hy : l.getD i 0 = y at *
     by_cases c2 : 0 < y
     · rw [if_pos c2]
       refine .inr (uT ?_)
       simp (disch := omega) only [go_sem, wH, AP.f31L0, n1, b1, b2]
     · rw [if_neg c2]
       have step : aM (aS AP.A) bG AP.f31L0 (ay [(0, x), (1, .int .i64 k), (5, .int .i64 (i + 1 : Nat))] [0, 1, 5]) h = some (.normal, [(0, x), (1, .int .i64 k), (5, .int .i64 i)], h) := by
        simp (disch := omega) only [go_sem, wH, AP.f31L0, n1, b1, b2]
       rcases GG hl h rd k hk i (by omega) with ⟨e', r1, r2, r3⟩ | r1
       · exact .inl ⟨e', uy step r1, r2, r3⟩
       · exact .inr (uy step r1)
theorem JM (h : H) (x : AV) (l : List Int) (hl : l.length < 1000) (rd : Rd h x (ints l)) (k : Nat) (hk : k < 1000) : aS AP.A 31 [x, .int .i64 k] h = some (.int .i64 (xk l k l.length : Nat), h) := by
 have ln := rd.len
 rw [qy] at ln
 simp only [I] at ln
 have E9 : Rd h.ez x (ints l) := rd.mono (wG h)
 rcases GG hl h.ez E9 k hk l.length (vR _) with ⟨e', r1, r2, r3⟩ | r1
 · rw [r3]
   refine u7 (fn := AP.f31) (h2 := h.ez) (e := [(4, .int .i64 k)]) rfl rfl rfl ?_ rfl rfl
   simp (disch := omega) only [go_sem, wH, AP.f31, ln, th, r1, r2]
 · refine u7 (fn := AP.f31) (h2 := h.ez) (e := [(4, .int .i64 (xk l k l.length : Nat))]) rfl rfl rfl ?_ rfl rfl
   generalize xk l k l.length = U at *
   simp (disch := omega) only [go_sem, wH, AP.f31, ln, th, r1]
end Ab
