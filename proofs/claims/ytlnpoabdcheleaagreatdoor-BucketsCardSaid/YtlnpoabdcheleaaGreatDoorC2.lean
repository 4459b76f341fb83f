/- Part C2. -/
import Derived.Test.YtlnpoabdcheleaaGreatDoorC1
set_option linter.unusedSimpArgs false
set_option linter.unusedVariables false
namespace Ab
open Go
theorem A5 {c : FC} {S : SS} {h : H} {ov : AV} (st : Ft c S h ov) (a b : AV) (n d i : Nat) (hs : n ≤ i ∨ (i < n ∧ S.e ≠ 0)) :
 ∃ e', Lp AP.A [0, 1, 2, 10, 14, 15] AP.f20L0 [(0, .aF c.f 0), (1, a), (2, b), (10, I n), (14, I d), (15, I i)] h = some (.exit 2, e', h) ∧ look e' 0 = .aF c.f 0 ∧ look e' 1 = a ∧ look e' 2 = b := by
 have gf := st.gf
 refine ⟨[(0, .aF c.f 0), (1, a), (2, b), (10, I n), (14, I d), (15, I i), (107, .bool false)], vC ?_, rfl, rfl, rfl⟩
 rcases hs with hn | ⟨hn, he⟩
 · have c1 : ¬ (i : Int) < n := by omega
   simp only [I] at *
   simp only [AP.f20L0, go_sem, TL c1]
 · have c1 : (i : Int) < n := by omega
   have c2 := wz he
   simp only [I] at *
   simp only [AP.f20L0, go_sem, TO c1, gf, c2]
theorem DQ {c : FC} (a b : AV) (d : Nat) (hd : 0 < d) (n : Nat) (hn : n ≤ 65535) : ∀ (m i : Nat) (S : SS) (h : H) (ov : AV), i + m = n → Ft c S h ov → S.e = 0 → d ≤ S.out.length →
 ∃ e' h' ov' S', Lp AP.A [0, 1, 2, 10, 14, 15] AP.f20L0 [(0, .aF c.f 0), (1, a), (2, b), (10, I n), (14, I d), (15, I i)] h = some (.exit 2, e', h') ∧ look e' 0 = .aF c.f 0 ∧ look e' 1 = a ∧ look e' 2 = b ∧ Ft c S' h' ov' ∧ FF c h ov h' ov' ∧ match A8 c.most d m S.out with
   | .ok o => S' = { S with out := o }
   | .error k => S'.e = k ∧ k ≠ 0
 | 0, i, S, h, ov, hm, st, he, hl => by
   obtain ⟨e', q, q2⟩ := A5 st a b n d i (.inl (by omega))
   exact ⟨e', h, ov, S, q, q2.1, q2.2.1, q2.2.2, st, FF.refl _ _ _, by simp only [A8]⟩
 | m + 1, i, S, h, ov, hm, st, he, hl => by
   have gf := st.gf
   have hol := st.ol
   have hml := st.ml
   have ln := st.own.len
   rw [zq] at ln
   have c1 : (i : Int) < n := by omega
   have w1 : IntKind.wrap .i64 ((i : Int) + 1) = ((i + 1 : Nat) : Int) := xR (n := i + 1) (by omega)
   have w2 : IntKind.wrap .i64 ((S.out.length : Int) - d) = ((S.out.length - d : Nat) : Int) := by rw [show (S.out.length : Int) - d = ((S.out.length - d : Nat) : Int) by omega]; exact xR (by omega)
   have hb := HC (l := S.out) (i := S.out.length - d) (by omega)
   obtain ⟨id, i1, i2, i3⟩ := st.own.elem hb
   obtain ⟨h2, ov2, S2, p1, p2, p3, p4⟩ := Hm st he (S.out.getD (S.out.length - d) 0)
   have step : aN (aT AP.A) bI AP.f20L0 (az [(0, .aF c.f 0), (1, a), (2, b), (10, I n), (14, I d), (15, I i)] [0, 1, 2, 10, 14, 15]) h = some (.normal, [(0, .aF c.f 0), (1, a), (2, b), (10, I n), (14, I d), (15, I (i + 1 : Nat))], h2) := by
    clear i1
    rw [he] at gf
    simp only [I] at *
    simp only [AP.f20L0, go_sem, TO c1, gf, ln, w2, i2, i3, hb, p1, w1]
   rw [A8]
   by_cases hm' : c.most ≤ S.out.length
   · rw [if_pos hm'] at p4 ⊢
     have he2 : S2.e = 701 := by rw [p4]
     have hs : n ≤ i + 1 ∨ (i + 1 < n ∧ S2.e ≠ 0) := by
      by_cases q : i + 1 < n
      · exact .inr ⟨q, by rw [he2]; decide⟩
      · exact .inl (by omega)
     obtain ⟨e', q, q2⟩ := A5 p2 a b n d (i + 1) hs
     exact ⟨e', h2, ov2, _, vD step q, q2.1, q2.2.1, q2.2.2, p2, p3, he2, by decide⟩
   · rw [if_neg hm'] at p4 ⊢
     subst p4
     obtain ⟨e', h', ov', S', q1, q2, q3, q4, q5, q6, q7⟩ := DQ a b d hd n hn m (i + 1) _ h2 ov2 (by omega) p2 rfl (by simp; omega)
     refine ⟨e', h', ov', S', vD step q1, q2, q3, q4, q5, p3.trans q6, ?_⟩
     dsimp only at q7 ⊢
     rw [he]
     exact q7
theorem AH {c : FC} {S : SS} {h : H} {ov : AV} (st : Ft c S h ov) (a b : AV) (hs : S.e ≠ 0) :
 ∃ e', Lp AP.A [0, 1, 2] AP.f20L1 [(0, .aF c.f 0), (1, a), (2, b)] h = some (.exit 0, e', h) := by
 have gf := st.gf
 refine ⟨[(0, .aF c.f 0), (1, a), (2, b), (20, .bool false)], vC ?_⟩
 have c2 := wz hs
 simp only [I] at *
 simp only [AP.f20L1, go_sem, gf, c2]
theorem Bh {c : FC} (ll dl : List Int) (hll : ll.length < 1000) (hdl : dl.length < 1000) : ∀ (k : Nat) (S : SS) (h : H) (ov : AV), Ft c S h ov → S.e = 0 → 8 * c.text.size < S.at_ + k →
 ∃ e' h' ov' S', (Lp AP.A [0, 1, 2] AP.f20L1 [(0, .aF c.f 0), (1, yd ll), (2, yd dl)] h = some (.ret, e', h') ∨ Lp AP.A [0, 1, 2] AP.f20L1 [(0, .aF c.f 0), (1, yd ll), (2, yd dl)] h = some (.exit 0, e', h')) ∧ Ft c S' h' ov' ∧ FF c h ov h' ov' ∧ Fin (zG c.text c.most ll dl k S.at_ S.out) S'
 | 0, S, h, ov, st, he, hk => by have := st.yZ; omega
 | k + 1, S, h, ov, st, he, hk => by
   have gf := st.gf
   rw [he] at gf
   obtain ⟨h1, S1, z, s1, s2, s3, s4⟩ := CH ll hll st he
   have gf1 := s2.gf
   rw [zG]
   cases hz : zR c.text ll 15 1 0 S.at_ with
   | none =>
     rw [hz] at s4
     obtain ⟨s4, s5⟩ := s4
     have ce : (S1.e != 0) = true := wC (by rw [s4]; decide)
     refine ⟨[(0, .aF c.f 0), (1, yd ll), (2, yd dl), (6, I z), (32, .bool true)], h1, ov, S1, .inl (vW ?_), s2, s3, s4, by decide⟩
     simp only [I] at *
     simp only [AP.f20L1, go_sem, gf, s1, gf1, ce]
   | some zp =>
     obtain ⟨z2, p1⟩ := zp
     rw [hz] at s4
     obtain ⟨s4, s5⟩ := s4
     subst s5 s4
     dsimp only at gf1
     rw [he] at gf1
     have zb := zO hz
     obtain ⟨y, hy⟩ : ∃ n : Nat, z = n := TY zb.1
     subst hy
     dsimp only
     by_cases c1 : (y : Int) < 256
     · rw [if_pos c1]
       have w1 : IntKind.wrap .u8 (y : Int) = y := wrap_u8 (by omega)
       have c256 : ((y : Int) == 256) = false := wz (by omega)
       obtain ⟨h2, ov2, S2, p1', p2', p3', p4'⟩ := Hm s2 he y
       have step : aN (aT AP.A) bI AP.f20L1 (az [(0, .aF c.f 0), (1, yd ll), (2, yd dl)] [0, 1, 2]) h = some (.normal, [(0, .aF c.f 0), (1, yd ll), (2, yd dl)], h2) := by
        simp only [I] at *
        simp only [AP.f20L1, go_sem, gf, s1, gf1, c256, TO c1, w1, p1']
       dsimp only at p4'
       by_cases hm : c.most ≤ S.out.length
       · rw [if_pos hm] at p4' ⊢
         have he2 : S2.e = 701 := by rw [p4']
         obtain ⟨e', q⟩ := AH p2' (yd ll) (yd dl) (by rw [he2]; decide)
         exact ⟨e', h2, ov2, _, .inr (vD step q), p2', s3.trans p3', he2, by decide⟩
       · rw [if_neg hm] at p4' ⊢
         subst p4'
         obtain ⟨e', h', ov', S', q1, q2, q3, q4⟩ := Bh ll dl hll hdl k _ h2 ov2 p2' rfl (by dsimp only; omega)
         refine ⟨e', h', ov', S', ?_, q2, (s3.trans p3').trans q3, q4⟩
         rcases q1 with q1 | q1
         · exact .inl (vD step q1)
         · exact .inr (vD step q1)
     · rw [if_neg c1]
       by_cases c2 : (y : Int) = 256
       · rw [if_pos c2]
         refine ⟨[(0, .aF c.f 0), (1, yd ll), (2, yd dl), (6, I y), (32, .bool true)], h1, ov, _, .inl (vW ?_), s2, s3, ?_⟩
         · have c2' := wA c2
           simp only [I] at *
           simp only [AP.f20L1, go_sem, gf, s1, gf1, c2']
         · simp only [Fin]; rw [he]
       · rw [if_neg c2]
         have c256 := wz c2
         have lo := Ka h1 y (by omega)
         rw [Uc]
         unfold B7
         have n600 : ((600 : Int) != 0) = true := rfl
         have n0 : ((0 : Int) != 0) = false := rfl
         cases hlo : lenOf y with
         | none =>
           rw [hlo] at lo
           obtain ⟨h2, f1, f2, f3⟩ := zP s2
           refine ⟨[], h2, ov, _, .inl (vW ?_), f2, s3.trans f3, by simp [xZ, he], by decide⟩
           simp only [I, Bm] at *
           simp only [AP.f20L1, go_sem, gf, s1, gf1, c256, TL c1, lo, n600, f1]
         | some le =>
           obtain ⟨least, extra⟩ := le
           rw [hlo] at lo
           obtain ⟨b1, b2, b3⟩ := Gt hlo
           obtain ⟨h2, k1, k2, k3⟩ := zr s2 extra extra rfl (by omega)
           dsimp only
           by_cases hp : p1 + extra ≤ 8 * c.text.size
           · have eg : yo c extra { S with at_ := p1 } = (xV c.text p1 extra, { S with at_ := p1 + extra }) := by rw [yo, if_pos hp]
             rw [eg] at k1 k2
             dsimp only at k1 k2
             rw [if_pos hp]
             have gf2 := k2.gf
             dsimp only at gf2
             rw [he] at gf2
             have hve := yF c.text p1 extra
             have hve2 : 2 ^ extra ≤ 2 ^ 5 := TT (by omega) b2
             have w1 : IntKind.wrap .i64 ((least : Int) + (xV c.text p1 extra : Int)) = ((least + xV c.text p1 extra : Nat) : Int) := by
              rw [show (least : Int) + (xV c.text p1 extra : Int) = ((least + xV c.text p1 extra : Nat) : Int) by omega]; exact xR (by omega)
             obtain ⟨h3, S3, z, s1', s2', s3', s4'⟩ := CH dl hdl k2 he
             have gf3 := s2'.gf
             dsimp only at s4'
             cases hz2 : zR c.text dl 15 1 0 (p1 + extra) with
             | none =>
               rw [hz2] at s4'
               obtain ⟨s4', s5'⟩ := s4'
               have ce3 : (S3.e != 0) = true := wC (by rw [s4']; decide)
               refine ⟨[(0, .aF c.f 0), (1, yd ll), (2, yd dl), (10, I (least + xV c.text p1 extra : Nat)), (11, I z), (66, .bool true)], h3, ov, S3, .inl (vW ?_), s2', (s3.trans k3).trans s3', s4', by decide⟩
               simp only [I, Bm] at *
               simp only [AP.f20L1, go_sem, gf, s1, gf1, c256, TL c1, lo, n0, k1, w1, gf2, s1', gf3, ce3]
             | some zp =>
               obtain ⟨z2, p2⟩ := zp
               rw [hz2] at s4'
               obtain ⟨s4', s5'⟩ := s4'
               subst s5' s4'
               have zb2 := zO hz2
               obtain ⟨zn, hzn⟩ : ∃ n : Nat, z = n := TY zb2.1
               subst hzn
               have dob := IV h3 zn (by omega)
               dsimp only at gf3 ⊢
               rw [he] at gf3
               rw [Uc]
               cases hdo : zJ zn with
               | none =>
                 rw [hdo] at dob
                 obtain ⟨h4, f1, f2, f3⟩ := zP s2'
                 refine ⟨[], h4, ov, _, .inl (vW ?_), f2, ((s3.trans k3).trans s3').trans f3, by simp [xZ, he], by decide⟩
                 simp only [I, Bm] at *
                 simp only [AP.f20L1, go_sem, gf, s1, gf1, c256, TL c1, lo, n0, k1, w1, gf2, s1', gf3, dob, n600, f1]
               | some lx =>
                 obtain ⟨ld, xd⟩ := lx
                 rw [hdo] at dob
                 obtain ⟨d1, d2, d3⟩ := EG hdo
                 obtain ⟨h4, v1, v2, v3⟩ := zr s2' xd xd rfl (by omega)
                 obtain ⟨x, hx⟩ : ∃ x, x = (yo c xd { S with at_ := p2 }).1 := ⟨_, rfl⟩
                 obtain ⟨S4, hS4⟩ : ∃ x, x = (yo c xd { S with at_ := p2 }).2 := ⟨_, rfl⟩
                 rw [← hx] at v1; rw [← hS4] at v2
                 have hxb : x < 65536 := hx ▸ Fq c _ xd (by omega)
                 have w2 : IntKind.wrap .i64 ((ld : Int) + (x : Int)) = ((ld + x : Nat) : Int) := by
                  rw [show (ld : Int) + (x : Int) = ((ld + x : Nat) : Int) by omega]; exact xR (by omega)
                 have gf4 := v2.gf
                 have ln := v2.own.len
                 rw [zq] at ln
                 have frs := ((s3.trans k3).trans s3').trans v3
                 dsimp only
                 have toLoop : ∀ (h5 : H) (e6 : Env) (h6 : H), ((S4.e = 0 ∧ S4.out.length < ld + x ∧ aT AP.A 25 [.aF c.f 0] h4 = some (.bW [], h5)) ∨ ((S4.e ≠ 0 ∨ ¬ S4.out.length < ld + x) ∧ h5 = h4)) → Lp AP.A [0, 1, 2, 10, 14, 15] AP.f20L0 [(0, .aF c.f 0), (1, yd ll), (2, yd dl), (10, I (least + xV c.text p1 extra : Nat)), (14, I (ld + x : Nat)), (15, I 0)] h5 = some (.exit 2, e6, h6) →
                  look e6 0 = .aF c.f 0 → look e6 1 = yd ll → look e6 2 = yd dl → aN (aT AP.A) bI AP.f20L1 (az [(0, .aF c.f 0), (1, yd ll), (2, yd dl)] [0, 1, 2]) h = some (.normal, [(0, .aF c.f 0), (1, yd ll), (2, yd dl)], h6) := by
                  intro h5 e6 h6 hcase q6 l0 l1 l2
                  rcases hcase with ⟨g1, g2, g3⟩ | ⟨g1, rfl⟩
                  · have g2' : (S4.out.length : Int) < ((ld + x : Nat) : Int) := by omega
                    have g1' := wA g1
                    simp only [I, Bm] at *
                    simp only [AP.f20L1, go_sem, gf, s1, gf1, c256, TL c1, lo, n0, k1, w1, gf2, s1', gf3, dob, v1, w2, gf4, g1', ln, TO g2', g3, uK, q6, l0, l1, l2]
                  · by_cases g3 : S4.e = 0
                    · have g2 : ¬ S4.out.length < ld + x := by
                       rcases g1 with q | q
                       · exact absurd g3 q
                       · exact q
                      have g2' : ¬ (S4.out.length : Int) < ((ld + x : Nat) : Int) := by omega
                      have g1' := wA g3
                      clear g1
                      simp only [I, Bm] at *
                      simp only [AP.f20L1, go_sem, gf, s1, gf1, c256, TL c1, lo, n0, k1, w1, gf2, s1', gf3, dob, v1, w2, gf4, g1', ln, TL g2', uK, q6, l0, l1, l2]
                    · have g1' := wz g3
                      clear g1
                      simp only [I, Bm] at *
                      simp only [AP.f20L1, go_sem, gf, s1, gf1, c256, TL c1, lo, n0, k1, w1, gf2, s1', gf3, dob, v1, w2, gf4, g1', ln, uK, q6, l0, l1, l2]
                 by_cases hp2 : p2 + xd ≤ 8 * c.text.size
                 · have egx : yo c xd { S with at_ := p2 } = (xV c.text p2 xd, { S with at_ := p2 + xd }) := by rw [yo, if_pos hp2]
                   rw [egx] at hx hS4; dsimp only at hx hS4
                   subst hS4
                   rw [← hx]
                   by_cases hbk : S.out.length < ld + x
                   · rw [if_neg (fun q => by omega)]
                     obtain ⟨h5, f1, f2, f3⟩ := zP v2
                     have he5 : (xZ 700 { S with at_ := p2 + xd }).e = 700 := by simp [xZ, he]
                     obtain ⟨e6, q6, q7, q8, q9⟩ := A5 f2 (yd ll) (yd dl) (least + xV c.text p1 extra) (ld + x) 0 (.inr ⟨by omega, by rw [he5]; decide⟩)
                     have step := toLoop h5 e6 h5 (.inl ⟨he, hbk, f1⟩) q6 q7 q8 q9
                     obtain ⟨e', q⟩ := AH f2 (yd ll) (yd dl) (by rw [he5]; decide)
                     exact ⟨e', h5, ov, _, .inr (vD step q), f2, frs.trans f3, he5, by decide⟩
                   · rw [if_pos ⟨hp2, by omega⟩]
                     obtain ⟨e6, h6, ov6, S6, q1, q2, q3, q4, q5, q6, q7⟩ := DQ (c := c) (yd ll) (yd dl) (ld + x) (by omega) (least + xV c.text p1 extra) (by omega) (least + xV c.text p1 extra) 0 _ h4 ov (by omega) v2 he (by dsimp only; omega)
                     have step := toLoop h4 e6 h6 (.inr ⟨.inr hbk, rfl⟩) q1 q2 q3 q4
                     dsimp only at q7
                     cases hcl : A8 c.most (ld + x) (least + xV c.text p1 extra) S.out with
                     | error q =>
                       rw [hcl] at q7
                       obtain ⟨e', q'⟩ := AH q5 (yd ll) (yd dl) (by rw [q7.1]; exact q7.2)
                       exact ⟨e', h6, ov6, S6, .inr (vD step q'), q5, frs.trans q6, q7⟩
                     | ok o =>
                       rw [hcl] at q7
                       dsimp only at q7
                       subst q7
                       obtain ⟨e', h', ov', S', r1, r2, r3, r4⟩ := Bh ll dl hll hdl k _ h6 ov6 q5 he (by dsimp only; omega)
                       refine ⟨e', h', ov', S', ?_, r2, (frs.trans q6).trans r3, r4⟩
                       rcases r1 with r1 | r1
                       · exact .inl (vD step r1)
                       · exact .inr (vD step r1)
                 · rw [if_neg (fun q => hp2 q.1)]
                   have he4 : S4.e = 700 := by rw [hS4, yo, if_neg hp2]; simp [xZ, he]
                   obtain ⟨e6, q6, q7, q8, q9⟩ := A5 v2 (yd ll) (yd dl) (least + xV c.text p1 extra) (ld + x) 0 (.inr ⟨by omega, by rw [he4]; decide⟩)
                   have step := toLoop h4 e6 h4 (.inr ⟨.inl (by rw [he4]; decide), rfl⟩) q6 q7 q8 q9
                   obtain ⟨e', q⟩ := AH v2 (yd ll) (yd dl) (by rw [he4]; decide)
                   exact ⟨e', h4, ov, _, .inr (vD step q), v2, frs, he4, by decide⟩
           · have eg : yo c extra { S with at_ := p1 } = (0, { S with at_ := p1, e := 700 }) := by rw [yo, if_neg hp, xZ, if_pos he]
             rw [eg] at k1 k2
             dsimp only at k1 k2
             rw [if_neg hp]
             have gf2 := k2.gf
             have w1 : IntKind.wrap .i64 ((least : Int) + ((0 : Nat) : Int)) = ((least : Nat) : Int) := by
              rw [show (least : Int) + ((0 : Nat) : Int) = ((least : Nat) : Int) by omega]; exact xR (by omega)
             have n7 : ((700 : Int) != 0) = true := rfl
             refine ⟨[(0, .aF c.f 0), (1, yd ll), (2, yd dl), (10, I least), (58, .bool true)], h2, ov, _, .inl (vW ?_), k2, s3.trans k3, rfl, by decide⟩
             simp only [I, Bm] at *
             simp only [AP.f20L1, go_sem, gf, s1, gf1, c256, TL c1, lo, n0, k1, w1, gf2, n7]
theorem F9 {c : FC} {S : SS} {h : H} {ov : AV} (ll dl : List Int) (hll : ll.length < 1000) (hdl : dl.length < 1000) (st : Ft c S h ov) (he : S.e = 0) :
 ∃ h' ov' S', aT AP.A 20 [.aF c.f 0, yd ll, yd dl] h = some (.bW [], h') ∧ Ft c S' h' ov' ∧ FF c h ov h' ov' ∧ Fin (zG c.text c.most ll dl (8 * c.text.size + 1) S.at_ S.out) S' := by
 obtain ⟨e', h', ov', S', q1, q2, q3, q4⟩ := Bh ll dl hll hdl (8 * c.text.size + 1) S h ov st he (by omega)
 refine ⟨h', ov', S', ?_, q2, q3, q4⟩
 rcases q1 with q1 | q1
 · refine vP (fn := AP.f20) (e := e') (vs := []) rfl rfl rfl ?_ rfl
   simp only [AP.f20, go_sem, uK, q1]
 · refine yG (fn := AP.f20) (e := []) (vs := []) rfl rfl rfl ?_ rfl
   simp only [AP.f20, go_sem, uK, q1]
theorem Kf (h : H) : aT AP.A 32 [] h = some (yX yw, h) := by
 have b : bc [] (.di 1 19 [.int .i64 0] [(0, (.c (.int .i64 16))), (1, (.c (.int .i64 17))), (2, (.c (.int .i64 18))), (3, (.c (.int .i64 0))), (4, (.c (.int .i64 8))), (5, (.c (.int .i64 7))), (6, (.c (.int .i64 9))), (7, (.c (.int .i64 6))), (8, (.c (.int .i64 10))), (9, (.c (.int .i64 5))), (10, (.c (.int .i64 11))), (11, (.c (.int .i64 4))), (12, (.c (.int .i64 12))), (13, (.c (.int .i64 3))), (14, (.c (.int .i64 13))), (15, (.c (.int .i64 2))), (16, (.c (.int .i64 14))), (17, (.c (.int .i64 1))), (18, (.c (.int .i64 15)))]) = some (ints yw, fun i => .aG i 0 19 1) := rfl
 refine wj (fn := AP.f32) (h2 := h.eN.alloc (ints yw)) (e := [(0, .aG h.next 0 19 1)]) (vs := [.aG h.next 0 19 1]) rfl rfl rfl ?_ rfl ?_
 · have hn : h.eN.next = h.next := rfl
   simp only [AP.f32, go_sem, b, hn]
 · show snap (h.eN.alloc (ints yw)).get h.next 16 true (.aG h.next 0 19 1) = _
   unfold snap
   rw [if_neg (by omega), H.aY, if_pos (show h.next = h.eN.next from rfl), w9, if_pos (by decide)]
   rw [show ((ints yw).drop 0).take (19 * 1) = ints yw from rfl, zf]; rfl
theorem Ar {h : H} {v : AV} {l : List Int} {fl : Nat} (o : pd h v (ints l)) (hf : fl ≤ h.floor) (hl : l ≠ []) : snap h.get fl 16 true v = some (yX l) := by
 rcases o with ⟨_, q⟩ | ⟨id, rfl, q, h2, _⟩
 · exact absurd (List.map_eq_nil_iff.1 q) hl
 · unfold snap
   rw [if_neg (by omega), q, w9, if_pos (by omega)]
   rw [TX, Uf, List.take_length, zf]
   simp [yX]
def fixF (i : Nat) : Int := if 144 ≤ i ∧ i < 256 then 9 else if 256 ≤ i ∧ i < 280 then 7 else 8
theorem C5 : ∀ (m i : Nat) (h : H) (v : AV), i + m = 288 → pd h v (ints ((List.range i).map fixF)) → h.floor ≤ h.next →
 ∃ e' h' v', Lp AP.A [1, 2] AP.f22L0 [(1, v), (2, I i)] h = some (.exit 0, e', h') ∧ look e' 1 = v' ∧ pd h' v' (ints ((List.range 288).map fixF)) ∧ h'.floor = h.floor
 | 0, i, h, v, hm, o, hf => by
   obtain rfl : i = 288 := by omega
   refine ⟨[(1, v), (2, I 288), (5, .bool false)], h, v, vC ?_, rfl, o, rfl⟩
   have c1 : ¬ (((288 : Nat) : Int) < 288) := by omega
   simp only [I] at *
   simp only [AP.f22L0, go_sem, TL c1]
   rfl
 | m + 1, i, h, v, hm, o, hf => by
   have c1 : (i : Int) < 288 := by omega
   have w1 : IntKind.wrap .i64 ((i : Int) + 1) = ((i + 1 : Nat) : Int) := xR (n := i + 1) (by omega)
   obtain ⟨g, hg⟩ : ∃ g, g = h.alloc [I (fixF i)] := ⟨_, rfl⟩
   have og : pd g v (ints ((List.range i).map fixF)) := o.mono (by rw [hg]; simp) fun j hj => by have := o.lt hj; rw [hg, H.aY, if_neg (by omega)]
   have hgf : g.floor ≤ g.next := by rw [hg]; simp; omega
   obtain ⟨v', h2, r1, r2, r3, r4, r5, r6⟩ := og.app hgf (z := 8) (I (fixF i)) rfl (by simp [roomy]; omega)
   have src : aU g 1 (.aG h.next 0 1 1) = some (1, [I (fixF i)]) := by simp [aU, hg, H.aY]
   have ap : mG g 1 8 v (.aG h.next 0 1 1) = some (v', h2) := by unfold mG; rw [src, w9]; exact r1
   have bt : ∀ e : Env, look e 21 = .int .i64 (fixF i) → bc e (.di 1 1 [.int .i64 0] [(0, .t 21)]) = some ([.int .i64 (fixF i)], fun i => .aG i 0 1 1) := by
    intro e q; simp only [bc, TZ, Ui, uM, q]; rfl
   have hr : ints ((List.range i).map fixF) ++ [I (fixF i)] = ints ((List.range (i + 1)).map fixF) := by
    rw [List.range_succ, T8, rD]; rfl
   rw [hr] at r2
   have step : aN (aT AP.A) bI AP.f22L0 (az [(1, v), (2, I i)] [1, 2]) h = some (.normal, [(1, v'), (2, I (i + 1 : Nat))], h2) := by
    clear hr
    by_cases q1 : 144 ≤ i
    · have d1 : (144 : Int) ≤ i := by omega
      by_cases q2 : i < 256
      · have d2 : (i : Int) < 256 := by omega
        have hx : fixF i = 9 := by rw [fixF, if_pos ⟨q1, q2⟩]
        rw [hx] at hg bt
        simp only [I] at *
        simp only [AP.f22L0, go_sem, TO c1, TO d1, TO d2]
        rw [bt _ rfl]
        simp only [go_sem, ← hg, ap, w1]
      · have d2 : ¬ (i : Int) < 256 := by omega
        have d3 : (256 : Int) ≤ i := by omega
        by_cases q3 : i < 280
        · have d4 : (i : Int) < 280 := by omega
          have hx : fixF i = 7 := by rw [fixF, if_neg (by omega), if_pos ⟨by omega, q3⟩]
          rw [hx] at hg bt
          simp only [I] at *
          simp only [AP.f22L0, go_sem, TO c1, TO d1, TL d2, TO d3, TO d4]
          rw [bt _ rfl]
          simp only [go_sem, ← hg, ap, w1]
        · have d4 : ¬ (i : Int) < 280 := by omega
          have hx : fixF i = 8 := by rw [fixF, if_neg (by omega), if_neg (by omega)]
          rw [hx] at hg bt
          simp only [I] at *
          simp only [AP.f22L0, go_sem, TO c1, TO d1, TL d2, TO d3, TL d4]
          rw [bt _ rfl]
          simp only [go_sem, ← hg, ap, w1]
    · have d1 : ¬ (144 : Int) ≤ i := by omega
      have d3 : ¬ (256 : Int) ≤ i := by omega
      have hx : fixF i = 8 := by rw [fixF, if_neg (by omega), if_neg (by omega)]
      rw [hx] at hg bt
      simp only [I] at *
      simp only [AP.f22L0, go_sem, TO c1, TL d1, TL d3]
      rw [bt _ rfl]
      simp only [go_sem, ← hg, ap, w1]
   obtain ⟨e', h', v2, s1, s2, s3, s4⟩ := C5 m (i + 1) h2 v' (by omega) r2 (by rw [r3]; exact xL hgf r4)
   exact ⟨e', h', v2, vD step s1, s2, s3, by rw [s4, r3, hg]; simp⟩
theorem IZ : (List.range 288).map fixF = yP := by decide +kernel
theorem JY (h : H) : aT AP.A 22 [] h = some (yX yP, h) := by
 obtain ⟨e', h', v', s1, s2, s3, s4⟩ := C5 288 0 h.eN .aR rfl (.inl ⟨rfl, rfl⟩) (xc _)
 have s1' : Lp AP.A [1, 2] AP.f22L0 [(1, .aR), (2, I 0)] h.eN = some (.exit 0, e', h') := s1
 clear s1
 rw [IZ] at s3
 refine wj (fn := AP.f22) (h2 := h') (e := [(0, v')]) (vs := [v']) rfl rfl rfl ?_ rfl ?_
 · simp only [I] at *
   simp only [AP.f22, go_sem, uK, s1', s2]
 · exact Ar s3 (by rw [s4]; exact xc _) (by intro e; have := Ue List.length e; rw [Az] at this; simp at this)
theorem DR (id : Nat) : ∀ (m i : Nat) (h : H), i + m = 30 → h.get id = some (ints (List.replicate i 5 ++ List.replicate m 0)) → h.floor ≤ id →
 ∃ e' h', Lp AP.A [1, 2] AP.f23L0 [(1, .aG id 0 30 1), (2, I i)] h = some (.exit 0, e', h') ∧ look e' 1 = .aG id 0 30 1 ∧ h'.get id = some (ints (List.replicate 30 5)) ∧ h'.floor = h.floor
 | 0, i, h, hm, hg, hf => by
   obtain rfl : i = 30 := by omega
   refine ⟨[(1, .aG id 0 30 1), (2, I 30), (5, .bool false)], h, vC ?_, rfl, hg, rfl⟩
   have c1 : ¬ (((30 : Nat) : Int) < 30) := by omega
   simp only [I] at *
   simp only [AP.f23L0, go_sem, TL c1]
   rfl
 | m + 1, i, h, hm, hg, hf => by
   have c1 : (i : Int) < 30 := by omega
   have w1 : IntKind.wrap .i64 ((i : Int) + 1) = ((i + 1 : Nat) : Int) := xR (n := i + 1) (by omega)
   have ia : gV 1 (.aG id 0 30 1) (I i) = some (.aF id i) := by simp [gV, mh (show i < 30 by omega)]
   have hset : (ints (List.replicate i 5 ++ List.replicate (m + 1) 0)).set i (I 5) = ints (List.replicate (i + 1) 5 ++ List.replicate m 0) := by
    have h1 : (List.replicate i (5 : Int) ++ List.replicate (m + 1) 0).set i 5 = List.replicate (i + 1) 5 ++ List.replicate m 0 := by
     rw [List.set_append_right _ _ (by simp), T9, Nat.sub_self, List.replicate_succ, List.set_cons_zero, List.replicate_succ', List.append_assoc]; rfl
    rw [← h1]; simp [ints, List.map_set]
   have hst : wm h id i 1 [I 5] (some (ints (List.replicate i 5 ++ List.replicate (m + 1) 0))) = some (h.set id (ints (List.replicate (i + 1) 5 ++ List.replicate m 0))) := by
    rw [wM hf (by rw [rF]; simp) rfl, hset]
   have step : aN (aT AP.A) bI AP.f23L0 (az [(1, .aG id 0 30 1), (2, I i)] [1, 2]) h = some (.normal, [(1, .aG id 0 30 1), (2, I (i + 1 : Nat))], h.set id (ints (List.replicate (i + 1) 5 ++ List.replicate m 0))) := by
    clear hset
    generalize ints (List.replicate (i + 1) 5 ++ List.replicate m 0) = L1 at *
    generalize ints (List.replicate i 5 ++ List.replicate (m + 1) 0) = L0 at *
    simp only [I] at *
    simp only [AP.f23L0, go_sem, TO c1, ia, hg, hst, w1]
   obtain ⟨e', h', s1, s2, s3, s4⟩ := DR id m (i + 1) _ (by omega) (by rw [H.dW, if_pos rfl, hg]; rfl) (by simpa using hf)
   exact ⟨e', h', vD step s1, s2, s3, by rw [s4]; simp⟩
theorem Lb (h : H) : aT AP.A 23 [] h = some (yX (List.replicate 30 5), h) := by
 obtain ⟨h1, hh1⟩ : ∃ g, g = h.eN.alloc (ints (List.replicate 30 0)) := ⟨_, rfl⟩
 have hg : h1.get h.next = some (ints (List.replicate 0 5 ++ List.replicate 30 0)) := by rw [hh1, H.aY, if_pos (show h.next = h.eN.next from rfl)]; rfl
 obtain ⟨e', h', s1, s2, s3, s4⟩ := DR h.next 30 0 h1 rfl hg (by rw [hh1]; simp)
 have s1' : Lp AP.A [1, 2] AP.f23L0 [(1, .aG h.next 0 30 1), (2, I 0)] h1 = some (.exit 0, e', h') := s1
 clear s1
 have bt : ∀ e : Env, bc e (.jI 1 8 [.int .i64 0] (.c (.int .i64 30)) (.c (.int .i64 30))) = some (ints (List.replicate 30 0), fun i => .aG i 0 30 1) := fun _ => rfl
 have hn : h.eN.next = h.next := rfl
 refine wj (fn := AP.f23) (h2 := h') (e := [(0, .aG h.next 0 30 1)]) (vs := [.aG h.next 0 30 1]) rfl rfl rfl ?_ rfl ?_
 · simp only [I] at *
   simp only [AP.f23, go_sem, bt, ← hh1, hn, uK, s1', s2]
 · exact Ar (l := List.replicate 30 5) (.inr ⟨h.next, rfl, s3, by rw [s4, hh1]; simp, by decide⟩) (by rw [s4, hh1]; simp) (by decide)
theorem ES {x : AV} {l : List Int} (hl : l.length < 100000) (h : H) (rd : Rd h x (ints l)) : ∀ (q p : List Int), l = p ++ q →
 (∃ e', Lp AP.A [0, 3] AP.f67L0 [(0, x), (3, I p.length)] h = some (.exit 0, e', h) ∧ (ints q).any BA = false) ∨ (∃ e', Lp AP.A [0, 3] AP.f67L0 [(0, x), (3, I p.length)] h = some (.ret, e', h) ∧ look e' 2 = .bool false ∧ (ints q).any BA = true)
 | [], p, hp => by
   have ln := rd.len
   rw [rF] at ln
   left
   refine ⟨[(0, x), (3, I p.length), (15, .bool false)], vC ?_, rfl⟩
   have c1 : ¬ (p.length : Int) < (l.length : Int) := by rw [hp]; simp
   simp only [I] at *
   simp only [AP.f67L0, go_sem, ln, TL c1]
 | y :: q, p, hp => by
   have ln := rd.len
   rw [rF] at ln
   have hlen : l.length = p.length + (q.length + 1) := by rw [hp]; simp
   have c1 : (p.length : Int) < (l.length : Int) := by omega
   have hv : (ints l)[p.length]? = some (I y) := ve (by rw [hp]; simp)
   obtain ⟨ad, p1, p2⟩ := rd.elem hv
   have p3 := p2 h (fun _ _ q => q)
   have w1 : IntKind.wrap .i64 ((p.length : Int) + 1) = (((p ++ [y]).length : Nat) : Int) := by
    rw [xN]; exact xR (n := p.length + 1) (by omega)
   have hany : (ints (y :: q)).any BA = (BA (I y) || (ints q).any BA) := rfl
   rw [hany]
   by_cases d1 : y < 0
   · right
     refine ⟨[(2, .bool false)], vW ?_, rfl, by simp [BA, I, d1]⟩
     simp only [I] at *
     simp only [AP.f67L0, go_sem, ln, TO c1, p1, p3, TO d1]
   by_cases d2 : 15 < y
   · right
     refine ⟨[(2, .bool false)], vW ?_, rfl, by simp [BA, I, d2]⟩
     simp only [I] at *
     simp only [AP.f67L0, go_sem, ln, TO c1, p1, p3, TL d1, TO d2]
   have hb : BA (I y) = false := by simp [BA, I]; omega
   have step : aN (aT AP.A) bI AP.f67L0 (az [(0, x), (3, I p.length)] [0, 3]) h = some (.normal, [(0, x), (3, I (p ++ [y]).length)], h) := by
    clear hany hb
    generalize (p ++ [y]).length = B at *
    simp only [I] at *
    simp only [AP.f67L0, go_sem, ln, TO c1, p1, p3, TL d1, TL d2, w1]
   rw [hb, Bool.false_or]
   rcases ES hl h rd q (p ++ [y]) (by rw [hp]; simp) with ⟨e', r1, r2⟩ | ⟨e', r1, r2, r3⟩
   · exact .inl ⟨e', vD step r1, r2⟩
   · exact .inr ⟨e', vD step r1, r2, r3⟩
theorem P4 (h : H) (x : AV) (l : List Int) (hl : l.length < 100000) (rd : Rd h x (ints l)) : aT AP.A 67 [x] h = some (.bool (Dk l), h) := by
 have rd' := rd.mono (yg h)
 have ln := rd.len
 rw [rF] at ln
 unfold Dk
 by_cases c1 : l.length < 1
 · refine wj (fn := AP.f67) (h2 := h.eN) (e := [(2, .bool false)]) rfl rfl rfl ?_ rfl (by rw [TL (show ¬ 1 ≤ l.length by omega)]; rfl)
   have c1' : (l.length : Int) < 1 := by omega
   simp only [I] at *
   simp only [AP.f67, go_sem, ln, TO c1']
 have c1' : ¬ (l.length : Int) < 1 := by omega
 by_cases c2 : 288 < l.length
 · refine wj (fn := AP.f67) (h2 := h.eN) (e := [(2, .bool false)]) rfl rfl rfl ?_ rfl (by rw [TL (show ¬ l.length ≤ 288 by omega), TU]; rfl)
   have c2' : (288 : Int) < (l.length : Int) := by omega
   simp only [I] at *
   simp only [AP.f67, go_sem, ln, TL c1', TO c2']
 have c2' : ¬ (288 : Int) < (l.length : Int) := by omega
 rw [TO (show 1 ≤ l.length by omega), TO (show l.length ≤ 288 by omega)]
 rcases ES hl h.eN rd' l [] rfl with ⟨e', r1, r2⟩ | ⟨e', r1, r2, r3⟩
 · have r1' : Lp AP.A [0, 3] AP.f67L0 [(0, x), (3, I 0)] h.eN = some (.exit 0, e', h.eN) := r1
   clear r1
   rw [r2]
   refine wj (fn := AP.f67) (h2 := h.eN) (e := [(2, .bool true)]) rfl rfl rfl ?_ rfl rfl
   simp only [I] at *
   simp only [AP.f67, go_sem, ln, TL c1', TL c2', uK, r1']
 · have r1' : Lp AP.A [0, 3] AP.f67L0 [(0, x), (3, I 0)] h.eN = some (.ret, e', h.eN) := r1
   clear r1
   rw [r3]
   refine wj (fn := AP.f67) (h2 := h.eN) (e := e') (vs := [.bool false]) rfl rfl rfl ?_ (by simp only [AP.f67, cW, oW, r2]; rfl) rfl
   simp only [I] at *
   simp only [AP.f67, go_sem, ln, TL c1', TL c2', uK, r1']
theorem DX (p : List Int) (x : Int) : ∀ n : Nat, yz (p ++ [x]) n = yz p n - (if 1 ≤ x ∧ x ≤ n then 2 ^ (n - x.toNat) else 0)
 | 0 => by
   rw [if_neg (by omega)]; simp [yz]
 | n + 1 => by
   have e1 : yz (p ++ [x]) (n + 1) = yz (p ++ [x]) n * 2 - zV (p ++ [x]) (n + 1) := rfl
   have e2 : yz p (n + 1) = yz p n * 2 - zV p (n + 1) := rfl
   rw [e1, e2, DX p x n, BX]
   by_cases h1 : x = ((n + 1 : Nat) : Int)
   · rw [if_neg (by omega), if_pos ⟨by omega, h1⟩, if_pos (by omega)]
     rw [show n + 1 - x.toNat = 0 by omega]; simp; omega
   · rw [if_neg (show ¬ (n + 1 ≠ 0 ∧ x = ((n + 1 : Nat) : Int)) from fun q => h1 q.2)]
     by_cases h2 : 1 ≤ x ∧ x ≤ (n : Int)
     · rw [if_pos h2, if_pos (by omega), show n + 1 - x.toNat = (n - x.toNat) + 1 by omega, Int.pow_succ]; omega
     · rw [if_neg h2, if_neg (by omega)]; omega
theorem E5 {x : AV} {l : List Int} (hl : l.length < 100000) (hr : zu l) (h : H) (rd : Rd h x (ints l)) : ∀ (q p : List Int), l = p ++ q →
 ∃ e', Lp AP.A [0, 3, 4] AP.f68L0 [(0, x), (3, I (32768 - yz p 15)), (4, I p.length)] h = some (.exit 0, e', h) ∧ look e' 3 = I (32768 - yz l 15)
 | [], p, hp => by
   rw [TR] at hp; subst hp
   have ln := rd.len
   rw [rF] at ln
   refine ⟨[(0, x), (3, I (32768 - yz l 15)), (4, I l.length), (8, .bool false)], vC ?_, rfl⟩
   have c1 : ¬ (l.length : Int) < (l.length : Int) := by omega
   simp only [I] at *
   simp only [AP.f68L0, go_sem, ln, TL c1]
 | y :: q, p, hp => by
   have ln := rd.len
   rw [rF] at ln
   have hlen : l.length = p.length + (q.length + 1) := by rw [hp]; simp
   have c1 : (p.length : Int) < (l.length : Int) := by omega
   have hv : (ints l)[p.length]? = some (I y) := ve (by rw [hp]; simp)
   have hy := hr y (by rw [hp]; simp)
   obtain ⟨ad, p1, p2⟩ := rd.elem hv
   have p3 := p2 h (fun _ _ q => q)
   have w1 : IntKind.wrap .i64 ((p.length : Int) + 1) = (((p ++ [y]).length : Nat) : Int) := by
    rw [xN]; exact xR (n := p.length + 1) (by omega)
   have hsn := DX p y 15
   have hbd := Gs (show p.length < 100000 by omega) 15
   have step : aN (aT AP.A) bI AP.f68L0 (az [(0, x), (3, I (32768 - yz p 15)), (4, I p.length)] [0, 3, 4]) h = some (.normal, [(0, x), (3, I (32768 - yz (p ++ [y]) 15)), (4, I (p ++ [y]).length)], h) := by
    by_cases d1 : 0 < y
    · obtain ⟨yn, hyn⟩ : ∃ n : Nat, y = n := TY hy.1
      subst hyn
      rw [if_pos (by omega), Uc] at hsn
      have w2 : IntKind.wrap .i64 (15 - (yn : Int)) = ((15 - yn : Nat) : Int) := by rw [show 15 - (yn : Int) = ((15 - yn : Nat) : Int) by omega]; exact xR (by omega)
      have hp15 : 2 ^ (15 - yn) ≤ 2 ^ 15 := TT (by omega) (by omega)
      have s1 : qQ .shl .i64 1 ((15 - yn : Nat) : Int) = some (.int .i64 ((2 ^ (15 - yn) : Nat) : Int)) := by
       have := Aj (a := 1) (s := 15 - yn) (by omega) (by omega)
       rw [Nat.one_mul] at this; exact this
      have hpc : ((2 ^ (15 - yn) : Nat) : Int) = 2 ^ (15 - yn) := by simp
      have hpos : (0 : Int) ≤ 2 ^ (15 - yn) := Int.pow_nonneg (by omega)
      have w3 : IntKind.wrap .i64 (32768 - yz p 15 + ((2 ^ (15 - yn) : Nat) : Int)) = 32768 - yz (p ++ [(yn : Int)]) 15 := by
       rw [show 32768 - yz p 15 + ((2 ^ (15 - yn) : Nat) : Int) = 32768 - yz (p ++ [(yn : Int)]) 15 by rw [hsn, hpc]; omega]
       refine vT ?_ ?_
       · rw [hsn]; rw [← hpc]; omega
       · rw [hsn]; rw [← hpc]; omega
      clear hsn hpc hbd hp15
      generalize (p ++ [(yn : Int)]).length = B at *
      generalize yz (p ++ [(yn : Int)]) 15 = L2 at *
      generalize yz p 15 = L1 at *
      generalize 2 ^ (15 - yn) = PW at *
      simp only [I] at *
      simp only [AP.f68L0, go_sem, ln, TO c1, p1, p3, TO d1, w2, s1, w3, w1]
    · rw [if_neg (by omega), Int.sub_zero] at hsn
      rw [hsn]
      clear hsn hbd
      generalize (p ++ [y]).length = B at *
      simp only [I] at *
      simp only [AP.f68L0, go_sem, ln, TO c1, p1, p3, TL d1, w1]
   obtain ⟨e', r1, r2⟩ := E5 hl hr h rd q (p ++ [y]) (by rw [hp]; simp)
   exact ⟨e', vD step r1, r2⟩
theorem Qc (h : H) (x : AV) (l : List Int) (hl : l.length < 100000) (hr : zu l) (rd : Rd h x (ints l)) : aT AP.A 68 [x] h = some (I (32768 - yz l 15), h) := by
 obtain ⟨e', r1, r2⟩ := E5 hl hr h.eN (rd.mono (yg h)) l [] rfl
 have r1' : Lp AP.A [0, 3, 4] AP.f68L0 [(0, x), (3, I 0), (4, I 0)] h.eN = some (.exit 0, e', h.eN) := r1
 clear r1
 refine wj (fn := AP.f68) (h2 := h.eN) (e := [(2, I (32768 - yz l 15))]) rfl rfl rfl ?_ rfl rfl
 simp only [I] at *
 simp only [AP.f68, go_sem, uK, r1', r2]
theorem DJ (h : H) (x : AV) (l : List Int) (hl : l.length < 100000) (rd : Rd h x (ints l)) : aT AP.A 52 [x] h = some (I (yB l), h) := by
 have rd' := rd.mono (yg h)
 have k1 := P4 h.eN x l hl rd'
 unfold yB
 by_cases hm : Dk l = true
 · have k2 := Qc h.eN x l hl (EY hm) rd'
   rw [hm] at k1 ⊢
   rw [if_neg (by decide)]
   by_cases c1 : yz l 15 < 0
   · rw [if_pos c1]
     have d1 : 32768 < 32768 - yz l 15 := by omega
     refine wj (fn := AP.f52) (h2 := h.eN) (e := [(2, I 301)]) rfl rfl rfl ?_ rfl rfl
     simp only [I] at *
     simp only [AP.f52, go_sem, k1, k2, TO d1]
   · rw [if_neg c1]
     have d1 : ¬ 32768 < 32768 - yz l 15 := by omega
     by_cases c2 : 0 < yz l 15
     · rw [if_pos c2]
       have d2 : 32768 - yz l 15 < 32768 := by omega
       refine wj (fn := AP.f52) (h2 := h.eN) (e := [(2, I 302)]) rfl rfl rfl ?_ rfl rfl
       simp only [I] at *
       simp only [AP.f52, go_sem, k1, k2, TL d1, TO d2]
     · rw [if_neg c2]
       have d2 : ¬ 32768 - yz l 15 < 32768 := by omega
       refine wj (fn := AP.f52) (h2 := h.eN) (e := [(2, I 0)]) rfl rfl rfl ?_ rfl rfl
       simp only [I] at *
       simp only [AP.f52, go_sem, k1, k2, TL d1, TL d2]
 · have hm' : Dk l = false := by simpa using hm
   rw [hm'] at k1 ⊢
   rw [if_pos rfl]
   refine wj (fn := AP.f52) (h2 := h.eN) (e := [(2, I 300)]) rfl rfl rfl ?_ rfl rfl
   simp only [I] at *
   simp only [AP.f52, go_sem, k1]
theorem Bj {x : AV} {l : List Int} (hl : l.length < 100000) (hr : zu l) (h : H) (rd : Rd h x (ints l)) : ∀ (q p : List Int) (m b s : Int), l = p ++ q → 0 ≤ m → m ≤ p.length → m ≤ s → (m = 0 → s = 0) → (m = 1 → b = s) →
 ∃ e' m' b', Lp AP.A [0, 3, 4, 5] AP.f54L0 [(0, x), (3, I m), (4, I b), (5, I p.length)] h = some (.exit 0, e', h) ∧ look e' 3 = I m' ∧ look e' 4 = I b' ∧ 0 ≤ m' ∧ m' ≤ Hu q s ∧ (m' = 0 → Hu q s = 0) ∧ (m' = 1 → b' = Hu q s)
 | [], p, m, b, s, hp, h1, h2, h3, h4, h5 => by
   have ln := rd.len
   rw [rF] at ln
   refine ⟨[(0, x), (3, I m), (4, I b), (5, I p.length), (9, .bool false)], m, b, vC ?_, rfl, rfl, h1, h3, h4, h5⟩
   have c1 : ¬ (p.length : Int) < (l.length : Int) := by rw [hp]; simp
   simp only [I] at *
   simp only [AP.f54L0, go_sem, ln, TL c1]
 | y :: q, p, m, b, s, hp, h1, h2, h3, h4, h5 => by
   have ln := rd.len
   rw [rF] at ln
   have hlen : l.length = p.length + (q.length + 1) := by rw [hp]; simp
   have c1 : (p.length : Int) < (l.length : Int) := by omega
   have hv : (ints l)[p.length]? = some (I y) := ve (by rw [hp]; simp)
   have hy := hr y (by rw [hp]; simp)
   obtain ⟨ad, p1, p2⟩ := rd.elem hv
   have p3 := p2 h (fun _ _ q => q)
   have w1 : IntKind.wrap .i64 ((p.length : Int) + 1) = (((p ++ [y]).length : Nat) : Int) := by
    rw [xN]; exact xR (n := p.length + 1) (by omega)
   by_cases d1 : 0 < y
   · have w2 : IntKind.wrap .i64 (m + 1) = m + 1 := vT (by omega) (by omega)
     have step : aN (aT AP.A) bI AP.f54L0 (az [(0, x), (3, I m), (4, I b), (5, I p.length)] [0, 3, 4, 5]) h = some (.normal, [(0, x), (3, I (m + 1)), (4, I y), (5, I (p ++ [y]).length)], h) := by
      generalize hB : (p ++ [y]).length = B at *
      simp only [I] at *
      simp only [AP.f54L0, go_sem, ln, TO c1, p1, p3, TO d1, w2, w1]
     obtain ⟨e', m', b', r1, r2⟩ := Bj hl hr h rd q (p ++ [y]) (m + 1) y (s + y) (by rw [hp]; simp) (by omega) (by simp; omega) (by omega) (by omega) (by intro e; have := h4 (by omega); omega)
     exact ⟨e', m', b', vD step r1, r2⟩
   · have hy0 : y = 0 := by omega
     have step : aN (aT AP.A) bI AP.f54L0 (az [(0, x), (3, I m), (4, I b), (5, I p.length)] [0, 3, 4, 5]) h = some (.normal, [(0, x), (3, I m), (4, I b), (5, I (p ++ [y]).length)], h) := by
      generalize hB : (p ++ [y]).length = B at *
      simp only [I] at *
      simp only [AP.f54L0, go_sem, ln, TO c1, p1, p3, TL d1, w1]
     obtain ⟨e', m', b', r1, r2⟩ := Bj hl hr h rd q (p ++ [y]) m b (s + y) (by rw [hp]; simp) h1 (by simp; omega) (by omega) (by intro e; have := h4 e; omega) (by intro e; have := h5 e; omega)
     exact ⟨e', m', b', vD step r1, r2⟩
theorem Kv (h : H) (x : AV) (l : List Int) (hl : l.length < 100000) (hr : zu l) (rd : Rd h x (ints l)) : aT AP.A 54 [x] h = some (.bool (yT l), h) := by
 obtain ⟨e', m', b', r1, r2, r3, r4, r5, r6, r7⟩ := Bj hl hr h.eN (rd.mono (yg h)) l [] 0 0 0 rfl (by omega) (by simp) (by omega) (by intro _; rfl) (by omega)
 have r1' : Lp AP.A [0, 3, 4, 5] AP.f54L0 [(0, x), (3, I 0), (4, I 0), (5, I 0)] h.eN = some (.exit 0, e', h.eN) := r1
 clear r1
 refine wj (fn := AP.f54) (h2 := h.eN) (e := [(2, .bool (yT l))]) rfl rfl rfl ?_ rfl rfl
 unfold yT
 generalize Hu l 0 = s at *
 by_cases c0 : m' = 0
 · have d0 := wA c0
   have hs : s ≤ 1 := by have := r6 c0; omega
   rw [TO hs]
   simp only [I] at *
   simp only [AP.f54, go_sem, uK, r1', r2, r3, d0]
 have d0 := wz c0
 by_cases c1 : m' = 1
 · have d1 := wA c1
   have hb := r7 c1
   by_cases c2 : b' = 1
   · have d2 := wA c2
     rw [TO (show s ≤ 1 by omega)]
     simp only [I] at *
     simp only [AP.f54, go_sem, uK, r1', r2, r3, d0, d1, d2]
   · have d2 := wz c2
     rw [TL (show ¬ s ≤ 1 by omega)]
     simp only [I] at *
     simp only [AP.f54, go_sem, uK, r1', r2, r3, d0, d1, d2]
 · have d1 := wz c1
   rw [TL (show ¬ s ≤ 1 by omega)]
   simp only [I] at *
   simp only [AP.f54, go_sem, uK, r1', r2, r3, d0, d1]
theorem Ed {c : FC} {S : SS} {h : H} {ov : AV} (st : Ft c S h ov) (b : AV) (many times n : Int) (v : AV) (i : Int) (hs : times ≤ i ∨ (i < times ∧ S.e ≠ 0)) :
 ∃ e', Lp AP.A [0, 1, 2, 7, 9, 10, 11] AP.f53L0 [(0, .aF c.f 0), (1, b), (2, I many), (7, v), (9, I times), (10, I n), (11, I i)] h = some (.exit 3, e', h) ∧ look e' 0 = .aF c.f 0 ∧ look e' 1 = b ∧ look e' 2 = I many ∧ look e' 7 = v := by
 have gf := st.gf
 refine ⟨[(0, .aF c.f 0), (1, b), (2, I many), (7, v), (9, I times), (10, I n), (11, I i), (83, .bool false)], vC ?_, rfl, rfl, rfl, rfl⟩
 rcases hs with hn | ⟨hn, he⟩
 · have c1 : ¬ i < times := by omega
   simp only [I] at *
   simp only [AP.f53L0, go_sem, TL c1]
 · have c2 := wz he
   simp only [I] at *
   simp only [AP.f53L0, go_sem, TO hn, gf, c2]
theorem GI {c : FC} (h0 : H) {S : SS} {ov : AV} (he : S.e = 0) (b : AV) (many : Int) (n : Int) (times : Nat) (ht : times ≤ 1000) : ∀ (m i : Nat) (acc : List Int) (h : H) (v : AV), i + m = times → Ft c S h ov → FF c h0 ov h ov → pd h v (ints acc) → acc.length < 100000 + i → (∀ j, v.id? = some j → h0.next ≤ j) → (∀ j, (j = c.f ∨ ov.id? = some j) → j < h0.next) →
 ∃ e' h' v', Lp AP.A [0, 1, 2, 7, 9, 10, 11] AP.f53L0 [(0, .aF c.f 0), (1, b), (2, I many), (7, v), (9, I times), (10, I n), (11, I i)] h = some (.exit 3, e', h') ∧ look e' 0 = .aF c.f 0 ∧ look e' 1 = b ∧ look e' 2 = I many ∧ look e' 7 = v' ∧ Ft c S h' ov ∧ FF c h0 ov h' ov ∧ pd h' v' (ints (acc ++ List.replicate m n)) ∧ ∀ j, v'.id? = some j → h0.next ≤ j
 | 0, i, acc, h, v, hm, st, fr, o, hal, hid, hlo => by
   obtain ⟨e', q1, q2, q3, q4, q5⟩ := Ed st b many times n v i (.inl (by omega))
   exact ⟨e', h, v, q1, q2, q3, q4, q5, st, fr, by simpa using o, hid⟩
 | m + 1, i, acc, h, v, hm, st, fr, o, hal, hid, hlo => by
   have gf := st.gf
   rw [he] at gf
   have c1 : (i : Int) < times := by omega
   have w1 : IntKind.wrap .i64 ((i : Int) + 1) = ((i + 1 : Nat) : Int) := xR (n := i + 1) (by omega)
   obtain ⟨g, hg⟩ : ∃ g, g = h.alloc [I n] := ⟨_, rfl⟩
   have al := st.alloc [I n]
   rw [← hg] at al
   have og : pd g v (ints acc) := o.mono (by rw [hg]; simp) fun j hj => by have := o.lt hj; rw [hg, H.aY, if_neg (by omega)]
   have hgf := al.1.nx
   obtain ⟨v', h2, r1, r2, r3, r4, r5, r6⟩ := og.app hgf (z := 8) (I n) rfl (by simp [roomy]; omega)
   have src : aU g 1 (.aG h.next 0 1 1) = some (1, [I n]) := by simp [aU, hg, H.aY]
   have ap : mG g 1 8 v (.aG h.next 0 1 1) = some (v', h2) := by unfold mG; rw [src, w9]; exact r1
   have bt : ∀ e : Env, look e 87 = .int .i64 n → bc e (.di 1 1 [.int .i64 0] [(0, .t 87)]) = some ([.int .i64 n], fun i => .aG i 0 1 1) := by
    intro e q; simp only [bc, TZ, Ui, uM, q]; rfl
   have step : aN (aT AP.A) bI AP.f53L0 (az [(0, .aF c.f 0), (1, b), (2, I many), (7, v), (9, I times), (10, I n), (11, I i)] [0, 1, 2, 7, 9, 10, 11]) h = some (.normal, [(0, .aF c.f 0), (1, b), (2, I many), (7, v'), (9, I times), (10, I n), (11, I (i + 1 : Nat))], h2) := by
    simp only [I] at *
    simp only [AP.f53L0, go_sem, TO c1, gf]
    rw [bt _ rfl]
    simp only [go_sem, ← hg, ap, w1]
   have frg := fr.trans al.2
   have st2 : Ft c S h2 ov := al.1.yY r3 r4 fun j hj => r5 j (fun e => by have := hid j e; have := hlo j hj; omega) (by have := hlo j hj; have := frg.nx; omega)
   have fr2 : FF c h0 ov h2 ov := ⟨r3.trans frg.fl, xL frg.nx r4, fun id i1 i2 i4 => by rw [r5 id (fun e => by have := hid id e; omega) (by have := frg.nx; omega)]; exact frg.Dc id i1 i2 i4, fun j hj => .inl hj⟩
   have hr : ints acc ++ [I n] = ints (acc ++ [n]) := by rw [rD]; rfl
   rw [hr] at r2
   obtain ⟨e', h', v2, s1, s2, s3, s4, s5, s6, s7, s8, s9⟩ := GI h0 he b many n times ht m (i + 1) (acc ++ [n]) h2 v' (by omega) st2 fr2 r2 (by simp; omega) (fun j hj => by rw [r6] at hj; cases hj; exact frg.nx) hlo
   refine ⟨e', h', v2, vD step s1, s2, s3, s4, s5, s6, s7, ?_, s9⟩
   rw [List.replicate_succ, show acc ++ n :: List.replicate m n = acc ++ [n] ++ List.replicate m n by simp]
   exact s8
theorem BK {c : FC} {S : SS} {h : H} {ov : AV} (st : Ft c S h ov) (b : AV) (many : Nat) {v : AV} {acc : List Int} (o : pd h v (ints acc)) (hs : many ≤ acc.length ∨ (acc.length < many ∧ S.e ≠ 0)) :
 ∃ e', Lp AP.A [0, 1, 2, 7] AP.f53L1 [(0, .aF c.f 0), (1, b), (2, I many), (7, v)] h = some (.exit 0, e', h) ∧ look e' 7 = v := by
 have gf := st.gf
 have ln := o.len
 rw [rF] at ln
 refine ⟨[(0, .aF c.f 0), (1, b), (2, I many), (7, v), (22, .bool false)], vC ?_, rfl⟩
 rcases hs with hs | ⟨hs, he⟩
 · have c1 : ¬ (acc.length : Int) < many := by omega
   simp only [I] at *
   simp only [AP.f53L1, go_sem, ln, TL c1]
 · have c1 : (acc.length : Int) < many := by omega
   have c2 := wz he
   simp only [I] at *
   simp only [AP.f53L1, go_sem, ln, TO c1, gf, c2]
theorem Hk {c : FC} {S2 : SS} {h2 : H} {ov : AV} (h0 : H) (cl : List Int) (many : Nat) (hm : many ≤ 400) {v : AV} {acc : List Int} (st : Ft c S2 h2 ov) (fr : FF c h0 ov h2 ov) (o : pd h2 v (ints acc)) (hal : acc.length < many) (hid : ∀ j, v.id? = some j → h0.next ≤ j) (hlo : ∀ j, (j = c.f ∨ ov.id? = some j) → j < h0.next) (n : Int) (times : Nat) (ht : times ≤ 1000) (he2 : S2.e = 0 ∨ S2.e = 700) (code : aI)
 (hcode : code = (.seq (.seq (.qE [ ⟨(some 59), .mv (.t 0), none⟩, ⟨(some 60), .pX (.t 59), none⟩, ⟨(some 61), .pO 4 (.t 60), none⟩, ⟨(some 62), .load false 1 (.t 61), none⟩, ⟨(some 63), .bin .eql (.t 62) (.c (.int .i64 0)), none⟩, ⟨(some 64), .mv (.t 63), none⟩, ⟨(some 65), .mv (.t 7), (some (64, true))⟩, ⟨(some 66), .len false (.t 65), (some (64, true))⟩, ⟨(some 67), .mv (.t 9), (some (64, true))⟩, ⟨(some 68), .bin .add (.t 66) (.t 67), (some (64, true))⟩, ⟨(some 69), .mv (.t 2), (some (64, true))⟩, ⟨(some 70), .bin .gtr (.t 68) (.t 69), (some (64, true))⟩, ⟨(some 71), .pick (.t 64) (.t 70) (.c (.bool false)), none⟩] [0, 1, 2, 7, 9, 10, 71]) (.cond (.t 71) (.qE [ ⟨(some 72), .mv (.t 0), none⟩, ⟨(some 73), .call (.c (.fn 25 [] [])) [(.t 72)], none⟩] [0, 1, 2, 7, 9, 10]) (.skip) [0, 1, 2, 7, 9, 10])) (.seq (.qE [ ⟨(some 11), .mv (.c (.int .i64 0)), none⟩] [0, 1, 2, 7, 9, 10, 11]) (.block 3 (.loop [0, 1, 2, 7, 9, 10, 11] AP.f53L0) [0, 1, 2, 7])))) :
 ∃ h3 S3 v3, aN (aT AP.A) bI code [(0, .aF c.f 0), (1, yd cl), (2, I many), (7, v), (9, I times), (10, I n)] h2 = some (.normal, [(0, .aF c.f 0), (1, yd cl), (2, I many), (7, v3)], h3) ∧ Ft c S3 h3 ov ∧ FF c h0 ov h3 ov ∧
   ((S2.e = 0 ∧ acc.length + times ≤ many ∧ S3 = S2 ∧ pd h3 v3 (ints (acc ++ List.replicate times n)) ∧ ∀ j, v3.id? = some j → h0.next ≤ j) ∨ ((S2.e ≠ 0 ∨ many < acc.length + times) ∧ S3.e = 700 ∧ v3 = v ∧ pd h3 v (ints acc))) := by
 have gf := st.gf
 have ln := o.len
 rw [rF] at ln
 subst hcode
 have w1 : IntKind.wrap .i64 ((acc.length : Int) + times) = ((acc.length + times : Nat) : Int) := by rw [show (acc.length : Int) + times = ((acc.length + times : Nat) : Int) by omega]; exact xR (by omega)
 by_cases he : S2.e = 0
 · have ce := wA he
   by_cases hgt : many < acc.length + times
   · have d1 : (many : Int) < ((acc.length + times : Nat) : Int) := by omega
     obtain ⟨h3, f1, f2, f3⟩ := zP st
     have he3 : (xZ 700 S2).e = 700 := by simp [xZ, he]
     have hs : (times : Int) ≤ 0 ∨ ((0 : Int) < times ∧ (xZ 700 S2).e ≠ 0) := by
      by_cases q : 0 < times
      · exact .inr ⟨by omega, by rw [he3]; decide⟩
      · exact .inl (by omega)
     obtain ⟨e', q1, q2, q3, q4, q5⟩ := Ed f2 (yd cl) many times n v 0 hs
     have o3 : pd h3 v (ints acc) := o.mono f3.fl fun j hj => f3.Dc j (o.lt hj) (fun e => by have := hid j hj; have := hlo j (.inl e); omega) (fun e => by have := hid j hj; have := hlo j (.inr e); omega)
     refine ⟨h3, xZ 700 S2, v, ?_, f2, fr.trans f3, .inr ⟨.inr hgt, he3, rfl, o3⟩⟩
     simp only [I] at *
     simp only [go_sem, gf, ce, ln, w1, TO d1, f1, uK, q1, q2, q3, q4, q5]
   · have d1 : ¬ (many : Int) < ((acc.length + times : Nat) : Int) := by omega
     obtain ⟨e', h3, v3, q1, q2, q3, q4, q5, q6, q7, q8, q9⟩ := GI h0 he (yd cl) many n times ht times 0 acc h2 v (by omega) st fr o (by omega) hid hlo
     have q1' : Lp AP.A [0, 1, 2, 7, 9, 10, 11] AP.f53L0 [(0, .aF c.f 0), (1, yd cl), (2, I many), (7, v), (9, I times), (10, I n), (11, I 0)] h2 = some (.exit 3, e', h3) := q1
     clear q1
     refine ⟨h3, S2, v3, ?_, q6, q7, .inl ⟨he, by omega, rfl, q8, q9⟩⟩
     simp only [I] at *
     simp only [go_sem, gf, ce, ln, w1, TL d1, uK, q1', q2, q3, q4, q5]
 · have ce := wz he
   have he3 : S2.e = 700 := by rcases he2 with q | q; exact absurd q he; exact q
   have hs : (times : Int) ≤ 0 ∨ ((0 : Int) < times ∧ S2.e ≠ 0) := by
    by_cases q : 0 < times
    · exact .inr ⟨by omega, he⟩
    · exact .inl (by omega)
   obtain ⟨e', q1, q2, q3, q4, q5⟩ := Ed st (yd cl) many times n v 0 hs
   refine ⟨h2, S2, v, ?_, st, fr, .inr ⟨.inl he, he3, rfl, o⟩⟩
   simp only [I] at *
   simp only [go_sem, gf, ce, ln, w1, uK, q1, q2, q3, q4, q5]
theorem DS {c : FC} (h0 : H) (cl : List Int) (hcl : cl.length < 1000) (many : Nat) (hm : many ≤ 400) : ∀ (f : Nat) (acc : List Int) (S : SS) (h : H) (ov v : AV), Ft c S h ov → S.e = 0 → 8 * c.text.size < S.at_ + f → FF c h0 ov h ov → pd h v (ints acc) → acc.length ≤ many → (∀ j, v.id? = some j → h0.next ≤ j) → (∀ j, (j = c.f ∨ ov.id? = some j) → j < h0.next) →
 ∃ h' S', Ft c S' h' ov ∧ FF c h0 ov h' ov ∧ match yE c.text cl many f acc S.at_ with
   | some (L, p) => S' = { S with at_ := p } ∧ L.length = many ∧ ∃ e' v', Lp AP.A [0, 1, 2, 7] AP.f53L1 [(0, .aF c.f 0), (1, yd cl), (2, I many), (7, v)] h = some (.exit 0, e', h') ∧ look e' 7 = v' ∧ pd h' v' (ints L) ∧ ∀ j, v'.id? = some j → h0.next ≤ j
   | none => S'.e = 700 ∧ ((∃ e' v', Lp AP.A [0, 1, 2, 7] AP.f53L1 [(0, .aF c.f 0), (1, yd cl), (2, I many), (7, v)] h = some (.exit 0, e', h') ∧ look e' 7 = v') ∨ ∃ e', Lp AP.A [0, 1, 2, 7] AP.f53L1 [(0, .aF c.f 0), (1, yd cl), (2, I many), (7, v)] h = some (.ret, e', h') ∧ look e' 6 = .aR)
 | 0, acc, S, h, ov, v, st, he, hk, fr, oa, hal, hid, hlo => by have := st.yZ; omega
 | f + 1, acc, S, h, ov, v, st, he, hk, fr, oa, hal, hid, hlo => by
   by_cases hlt : acc.length < many
   · rw [yE, if_pos hlt]
     have gf := st.gf
     rw [he] at gf
     have ln := oa.len
     rw [rF] at ln
     have c1 : (acc.length : Int) < many := by omega
     obtain ⟨h1, S1, y, s1, s2, s3, s4⟩ := CH cl hcl st he
     have gf1 := s2.gf
     cases hz : zR c.text cl 15 1 0 S.at_ with
     | none =>
       rw [hz] at s4
       obtain ⟨s4, s5⟩ := s4
       have ce : (S1.e != 0) = true := wC (by rw [s4]; decide)
       refine ⟨h1, S1, s2, fr.trans s3, s4, .inr ⟨[(6, .aR)], vW ?_, rfl⟩⟩
       simp only [I] at *
       simp only [AP.f53L1, go_sem, ln, TO c1, gf, s1, gf1, ce]
     | some yp =>
       obtain ⟨z, p1⟩ := yp
       rw [hz] at s4
       obtain ⟨s4, s5⟩ := s4
       subst s5 s4
       have zb := zO hz
       dsimp only at gf1 ⊢
       rw [he] at gf1
       have fr1 := fr.trans s3
       have hneq : ∀ i, v.id? = some i → i ≠ c.f ∧ ov.id? ≠ some i := fun i hi => by
        have := hid i hi
        exact ⟨fun e => by have := hlo i (.inl e); omega, fun e => by have := hlo i (.inr e); omega⟩
       have oa1 : pd h1 v (ints acc) := oa.mono s3.fl fun i hi => s3.Dc i (oa.lt hi) (hneq i hi).1 (hneq i hi).2
       have ln1 := oa1.len
       rw [rF] at ln1
       have fin : ∀ (n : Int) (times : Nat) (h2 : H) (S2 : SS), times ≤ 1000 → Ft c S2 h2 ov → FF c h0 ov h2 ov → pd h2 v (ints acc) → (S2.e = 0 ∨ S2.e = 700) → (∀ code h3 v3, code = (aI.seq (.seq (.qE [ ⟨(some 59), .mv (.t 0), none⟩, ⟨(some 60), .pX (.t 59), none⟩, ⟨(some 61), .pO 4 (.t 60), none⟩, ⟨(some 62), .load false 1 (.t 61), none⟩, ⟨(some 63), .bin .eql (.t 62) (.c (.int .i64 0)), none⟩, ⟨(some 64), .mv (.t 63), none⟩, ⟨(some 65), .mv (.t 7), (some (64, true))⟩, ⟨(some 66), .len false (.t 65), (some (64, true))⟩, ⟨(some 67), .mv (.t 9), (some (64, true))⟩, ⟨(some 68), .bin .add (.t 66) (.t 67), (some (64, true))⟩, ⟨(some 69), .mv (.t 2), (some (64, true))⟩, ⟨(some 70), .bin .gtr (.t 68) (.t 69), (some (64, true))⟩, ⟨(some 71), .pick (.t 64) (.t 70) (.c (.bool false)), none⟩] [0, 1, 2, 7, 9, 10, 71]) (.cond (.t 71) (.qE [ ⟨(some 72), .mv (.t 0), none⟩, ⟨(some 73), .call (.c (.fn 25 [] [])) [(.t 72)], none⟩] [0, 1, 2, 7, 9, 10]) (.skip) [0, 1, 2, 7, 9, 10])) (.seq (.qE [ ⟨(some 11), .mv (.c (.int .i64 0)), none⟩] [0, 1, 2, 7, 9, 10, 11]) (.block 3 (.loop [0, 1, 2, 7, 9, 10, 11] AP.f53L0) [0, 1, 2, 7]))) → aN (aT AP.A) bI code [(0, .aF c.f 0), (1, yd cl), (2, I many), (7, v), (9, I times), (10, I n)] h2 = some (.normal, [(0, .aF c.f 0), (1, yd cl), (2, I many), (7, v3)], h3) →
        aN (aT AP.A) bI AP.f53L1 (az [(0, .aF c.f 0), (1, yd cl), (2, I many), (7, v)] [0, 1, 2, 7]) h = some (.normal, [(0, .aF c.f 0), (1, yd cl), (2, I many), (7, v3)], h3)) →
        (match yL c.text y acc p1 with | some q => S2 = { S with at_ := q.2.2 } ∧ n = q.1 ∧ times = q.2.1 ∧ p1 ≤ q.2.2 | none => S2.e = 700) →
        ∃ h' S', Ft c S' h' ov ∧ FF c h0 ov h' ov ∧ match (match yL c.text y acc p1 with | none => none | some (n, times, p2) => yE c.text cl many f (acc ++ List.replicate times n) p2) with
          | some (L, p) => S' = { S with at_ := p } ∧ L.length = many ∧ ∃ e' v', Lp AP.A [0, 1, 2, 7] AP.f53L1 [(0, .aF c.f 0), (1, yd cl), (2, I many), (7, v)] h = some (.exit 0, e', h') ∧ look e' 7 = v' ∧ pd h' v' (ints L) ∧ ∀ j, v'.id? = some j → h0.next ≤ j
          | none => S'.e = 700 ∧ ((∃ e' v', Lp AP.A [0, 1, 2, 7] AP.f53L1 [(0, .aF c.f 0), (1, yd cl), (2, I many), (7, v)] h = some (.exit 0, e', h') ∧ look e' 7 = v') ∨ ∃ e', Lp AP.A [0, 1, 2, 7] AP.f53L1 [(0, .aF c.f 0), (1, yd cl), (2, I many), (7, v)] h = some (.ret, e', h') ∧ look e' 6 = .aR) := by
        intro n times h2 S2 ht st2 fr2 o2 he2 hstep hag
        obtain ⟨h3, S3, v3, t1, t2, t3, t4⟩ := Hk h0 cl many hm st2 fr2 o2 hlt hid hlo n times ht he2 _ rfl
        have step := hstep _ h3 v3 rfl t1
        cases ha : yL c.text y acc p1 with
        | none =>
          rw [ha] at hag
          dsimp only at hag ⊢
          rcases t4 with ⟨t5, _⟩ | ⟨_, t6, t7, t8⟩
          · rw [hag] at t5; exact absurd t5 (by decide)
          · subst t7
            obtain ⟨e', q1, q2⟩ := BK t2 (yd cl) many t8 (.inr ⟨hlt, by rw [t6]; decide⟩)
            exact ⟨h3, S3, t2, t3, t6, .inl ⟨e', v3, vD step q1, q2⟩⟩
        | some q =>
          obtain ⟨n2, t2', p2⟩ := q
          rw [ha] at hag
          obtain ⟨g1, g2, g3, g4⟩ := hag
          dsimp only at g1 g2 g3 g4 ⊢
          subst g1 g2 g3
          have hle2 := st2.yZ
          dsimp only at hle2
          rcases t4 with ⟨t5, t6, t7, t8, t9⟩ | ⟨t5, t6, t7, t8⟩
          · subst t7
            obtain ⟨h', S', r1, r2, r3⟩ := DS h0 cl hcl many hm f (acc ++ List.replicate times n) _ h3 ov v3 t2 he (by dsimp only; omega) t3 t8 (by simp; omega) t9 hlo
            refine ⟨h', S', r1, r2, ?_⟩
            dsimp only at r3
            cases hL : yE c.text cl many f (acc ++ List.replicate times n) p2 with
            | some q =>
              rw [hL] at r3
              obtain ⟨r4, r5, e', v', r6, r7⟩ := r3
              exact ⟨r4, r5, e', v', vD step r6, r7⟩
            | none =>
              rw [hL] at r3
              obtain ⟨r4, r5⟩ := r3
              refine ⟨r4, ?_⟩
              rcases r5 with ⟨e', v', r6, r7⟩ | ⟨e', r6, r7⟩
              · exact .inl ⟨e', v', vD step r6, r7⟩
              · exact .inr ⟨e', vD step r6, r7⟩
          · have hgt : many < acc.length + times := by
             rcases t5 with q | q
             · exact absurd he q
             · exact q
            have hnone : yE c.text cl many f (acc ++ List.replicate times n) p2 = none := by
             obtain ⟨f', rfl⟩ : ∃ f', f = f' + 1 := ⟨f - 1, by omega⟩
             rw [yE, if_neg (by simp; omega), if_pos (by simp; omega)]
            rw [hnone]
            dsimp only
            subst t7
            obtain ⟨e', q1, q2⟩ := BK t2 (yd cl) many t8 (.inr ⟨hlt, by rw [t6]; decide⟩)
            exact ⟨h3, S3, t2, t3, t6, .inl ⟨e', v3, vD step q1, q2⟩⟩
       have ne0 : ((0 : Int) != 0) = false := rfl
       by_cases h16 : y = 16
       · have d16 := wA h16
         by_cases hn : acc = []
         · obtain ⟨h2, f1, f2, f3⟩ := zP s2
           have hag : yL c.text y acc p1 = none := by unfold yL; rw [if_pos h16, if_pos hn]
           rw [hag]
           have hz0 : ((acc.length : Int) == 0) = true := by rw [hn]; rfl
           refine ⟨h2, _, f2, fr1.trans f3, by simp [xZ, he], .inr ⟨[(6, .aR)], vW ?_, rfl⟩⟩
           simp only [I] at *
           simp only [AP.f53L1, go_sem, ln, TO c1, gf, s1, gf1, ne0, d16, ln1, hz0, f1]
         · have hpos : 0 < acc.length := List.length_pos_iff.2 hn
           have hz0 : ((acc.length : Int) == 0) = false := wz (by omega)
           have w2 : IntKind.wrap .i64 ((acc.length : Int) - 1) = ((acc.length - 1 : Nat) : Int) := by
            rw [show (acc.length : Int) - 1 = ((acc.length - 1 : Nat) : Int) by omega]; exact xR (by omega)
           have hel := Bt (l := acc) (i := acc.length - 1) (by omega)
           obtain ⟨id, i1, i2, i3⟩ := oa1.elem hel
           obtain ⟨h2, k1, k2, k3⟩ := zr s2 2 2 rfl (by omega)
           have hgl : (yo c 2 { S with at_ := p1 }).1 < 4 := by
            unfold yo; split
            · simpa using yF c.text p1 2
            · simp
           have w3 : IntKind.wrap .i64 (3 + ((yo c 2 { S with at_ := p1 }).1 : Int)) = ((3 + (yo c 2 { S with at_ := p1 }).1 : Nat) : Int) := xR (n := 3 + _) (by omega)
           have o2 : pd h2 v (ints acc) := oa1.mono k3.fl fun i hi => k3.Dc i (oa1.lt hi) (hneq i hi).1 (hneq i hi).2
           refine fin (acc.getD (acc.length - 1) 0) (3 + (yo c 2 { S with at_ := p1 }).1) h2 _ (by omega) k2 (fr1.trans k3) o2 (CI c 2 _ (.inl he)) ?_ ?_
           · intro code h3 v3 hc hev
             clear fin i1
             generalize (yo c 2 { S with at_ := p1 }).1 = G at *
             unfold AP.f53L1
             rw [hc] at hev
             simp only [I] at *
             simp only [ux, pg, rQ, u0, go_sem, ln, TO c1, gf, s1, gf1, ne0, d16, ln1, hz0, w2, i2, i3, hel, k1, w3]
             simp only [ux, pg, rQ, u0, go_sem] at hev
             simp only [hev, go_sem]
           · by_cases hp : p1 + 2 ≤ 8 * c.text.size
             · have hag : yL c.text y acc p1 = some (acc.getD (acc.length - 1) 0, 3 + xV c.text p1 2, p1 + 2) := by unfold yL; rw [if_pos h16, if_neg hn, if_pos hp]
               rw [hag]
               have eg : yo c 2 { S with at_ := p1 } = (xV c.text p1 2, { S with at_ := p1 + 2 }) := by rw [yo, if_pos hp]
               rw [eg]
               exact ⟨rfl, rfl, rfl, by show p1 ≤ p1 + 2; omega⟩
             · have hag : yL c.text y acc p1 = none := by unfold yL; rw [if_pos h16, if_neg hn, if_neg hp]
               rw [hag]
               have eg : yo c 2 { S with at_ := p1 } = (0, { S with at_ := p1, e := 700 }) := by rw [yo, if_neg hp, xZ, if_pos he]
               rw [eg]
       · have d16 := wz h16
         by_cases h17 : y = 17
         · have d17 := wA h17
           obtain ⟨h2, k1, k2, k3⟩ := zr s2 3 3 rfl (by omega)
           have hgl : (yo c 3 { S with at_ := p1 }).1 < 8 := by
            unfold yo; split
            · simpa using yF c.text p1 3
            · simp
           have w3 : IntKind.wrap .i64 (3 + ((yo c 3 { S with at_ := p1 }).1 : Int)) = ((3 + (yo c 3 { S with at_ := p1 }).1 : Nat) : Int) := xR (n := 3 + _) (by omega)
           have o2 : pd h2 v (ints acc) := oa1.mono k3.fl fun i hi => k3.Dc i (oa1.lt hi) (hneq i hi).1 (hneq i hi).2
           refine fin 0 (3 + (yo c 3 { S with at_ := p1 }).1) h2 _ (by omega) k2 (fr1.trans k3) o2 (CI c 3 _ (.inl he)) ?_ ?_
           · intro code h3 v3 hc hev
             clear fin
             generalize (yo c 3 { S with at_ := p1 }).1 = G at *
             unfold AP.f53L1
             rw [hc] at hev
             simp only [I] at *
             simp only [ux, pg, rQ, u0, go_sem, ln, TO c1, gf, s1, gf1, ne0, d16, d17, k1, w3]
             simp only [ux, pg, rQ, u0, go_sem] at hev
             simp only [hev, go_sem]
           · by_cases hp : p1 + 3 ≤ 8 * c.text.size
             · have hag : yL c.text y acc p1 = some (0, 3 + xV c.text p1 3, p1 + 3) := by unfold yL; rw [if_neg h16, if_pos h17, if_pos hp]
               rw [hag]
               have eg : yo c 3 { S with at_ := p1 } = (xV c.text p1 3, { S with at_ := p1 + 3 }) := by rw [yo, if_pos hp]
               rw [eg]
               exact ⟨rfl, rfl, rfl, by show p1 ≤ p1 + 3; omega⟩
             · have hag : yL c.text y acc p1 = none := by unfold yL; rw [if_neg h16, if_pos h17, if_neg hp]
               rw [hag]
               have eg : yo c 3 { S with at_ := p1 } = (0, { S with at_ := p1, e := 700 }) := by rw [yo, if_neg hp, xZ, if_pos he]
               rw [eg]
         · have d17 := wz h17
           by_cases h18 : y = 18
           · have d18 := wA h18
             obtain ⟨h2, k1, k2, k3⟩ := zr s2 7 7 rfl (by omega)
             have hgl : (yo c 7 { S with at_ := p1 }).1 < 128 := by
              unfold yo; split
              · simpa using yF c.text p1 7
              · simp
             have w3 : IntKind.wrap .i64 (11 + ((yo c 7 { S with at_ := p1 }).1 : Int)) = ((11 + (yo c 7 { S with at_ := p1 }).1 : Nat) : Int) := xR (n := 11 + _) (by omega)
             have o2 : pd h2 v (ints acc) := oa1.mono k3.fl fun i hi => k3.Dc i (oa1.lt hi) (hneq i hi).1 (hneq i hi).2
             refine fin 0 (11 + (yo c 7 { S with at_ := p1 }).1) h2 _ (by omega) k2 (fr1.trans k3) o2 (CI c 7 _ (.inl he)) ?_ ?_
             · intro code h3 v3 hc hev
               clear fin
               generalize (yo c 7 { S with at_ := p1 }).1 = G at *
               unfold AP.f53L1
               rw [hc] at hev
               simp only [I] at *
               simp only [ux, pg, rQ, u0, go_sem, ln, TO c1, gf, s1, gf1, ne0, d16, d17, d18, k1, w3]
               simp only [ux, pg, rQ, u0, go_sem] at hev
               simp only [hev, go_sem]
             · by_cases hp : p1 + 7 ≤ 8 * c.text.size
               · have hag : yL c.text y acc p1 = some (0, 11 + xV c.text p1 7, p1 + 7) := by unfold yL; rw [if_neg h16, if_neg h17, if_pos h18, if_pos hp]
                 rw [hag]
                 have eg : yo c 7 { S with at_ := p1 } = (xV c.text p1 7, { S with at_ := p1 + 7 }) := by rw [yo, if_pos hp]
                 rw [eg]
                 exact ⟨rfl, rfl, rfl, by show p1 ≤ p1 + 7; omega⟩
               · have hag : yL c.text y acc p1 = none := by unfold yL; rw [if_neg h16, if_neg h17, if_pos h18, if_neg hp]
                 rw [hag]
                 have eg : yo c 7 { S with at_ := p1 } = (0, { S with at_ := p1, e := 700 }) := by rw [yo, if_neg hp, xZ, if_pos he]
                 rw [eg]
           · have d18 := wz h18
             have hag : yL c.text y acc p1 = some (y, 1, p1) := by unfold yL; rw [if_neg h16, if_neg h17, if_neg h18]
             refine fin y 1 h1 _ (by omega) s2 fr1 oa1 (.inl he) ?_ (by rw [hag]; exact ⟨rfl, rfl, rfl, xc _⟩)
             intro code h3 v3 hc hev
             clear fin hag
             unfold AP.f53L1
             rw [hc] at hev
             have hev' : aN (aT AP.A) bI _ [(0, .aF c.f 0), (1, yd cl), (2, I many), (7, v), (9, I 1), (10, I y)] h1 = _ := hev
             clear hev
             simp only [I] at *
             simp only [ux, pg, rQ, u0, go_sem, ln, TO c1, gf, s1, gf1, ne0, d16, d17, d18]
             simp only [ux, pg, rQ, u0, go_sem, ln, TO c1, gf, s1, gf1, ne0, d16, d17, d18] at hev'
             simp only [hev', go_sem]
   · have heq : acc.length = many := by omega
     obtain ⟨e', q1, q2⟩ := BK st (yd cl) many oa (.inl (by omega))
     refine ⟨h, S, st, fr, ?_⟩
     rw [yE, if_neg hlt, if_neg (by omega)]
     exact ⟨rfl, heq, e', v, q1, q2, oa, hid⟩
def FJ (c : FC) : SC := ⟨0, 0, c.text, c.most⟩
theorem Lj (c : FC) (n : Nat) (S : SS) : yo c n S = xW (FJ c) n S := (Li (FJ c) c rfl n S).symm
theorem EJ {c : FC} (a : Nat) (many : Nat) (hmany : many ≤ 19) (m2 m3 : AV) : ∀ (q p o : List Int) (S : SS) (h : H) (ov : AV), yw.take many = p ++ q → Ft c S h ov → ov.id? ≠ some a → a ≠ c.f → h.get a = some (ints o) → o.length = 19 → h.floor ≤ a →
 ∃ e' h', Lp AP.A [0, 2, 3, 4, 5, 6, 7] AP.f24L0 [(0, .aF c.f 0), (2, m2), (3, m3), (4, I many), (5, .aG a 0 19 1), (6, yX yw), (7, I p.length)] h = some (.exit 0, e', h') ∧ look e' 0 = .aF c.f 0 ∧ look e' 2 = m2 ∧ look e' 3 = m3 ∧ look e' 5 = .aG a 0 19 1 ∧
   Ft c (Ac (FJ c) q o S).2 h' ov ∧ h'.get a = some (ints (Ac (FJ c) q o S).1) ∧ h'.floor = h.floor ∧ h.next ≤ h'.next ∧ ∀ i, i < h.next → i ≠ c.f → ov.id? ≠ some i → i ≠ a → h'.get i = h.get i
 | [], p, o, S, h, ov, hp, st, hoa, hac, hg, ho, hf => by
   have hlen : p.length = many := by
    have := Ue List.length hp
    rw [List.length_take, TR] at this
    have h2 : yw.length = 19 := rfl
    omega
   refine ⟨[(0, .aF c.f 0), (2, m2), (3, m3), (4, I many), (5, .aG a 0 19 1), (6, yX yw), (7, I p.length), (37, .bool false)], h, vC ?_, rfl, rfl, rfl, rfl, st, hg, rfl, xc _, fun _ _ _ _ _ => rfl⟩
   have c1 : ¬ (p.length : Int) < (many : Int) := by omega
   simp only [I] at *
   simp only [AP.f24L0, go_sem, TL c1]
 | s :: q, p, o, S, h, ov, hp, st, hoa, hac, hg, ho, hf => by
   have h2l : yw.length = 19 := rfl
   have hlen : p.length + (q.length + 1) = many := by
    have := Ue List.length hp
    rw [List.length_take, xN, TM] at this
    omega
   have c1 : (p.length : Int) < (many : Int) := by omega
   have hsm : s ∈ yw := List.mem_of_mem_take (i := many) (by rw [hp]; simp)
   have hs := EZ s hsm
   obtain ⟨sn, hsn⟩ : ∃ n : Nat, s = n := TY hs.1
   subst hsn
   have hv0 : yw[p.length]? = some (sn : Int) := by
    have : (yw.take many)[p.length]? = some (sn : Int) := by rw [hp]; simp
    rw [xM] at this
    split at this
    · exact this
    · cases this
   have hv : (ints yw)[p.length]? = some (I sn) := ve hv0
   have ia : gV 1 (yX yw) (I p.length) = some (.aM (ints yw) p.length) := by
    have := mh (show p.length < yw.length by omega)
    simp only [gV, yX, if_true, this, w9, xp, Uf]
   obtain ⟨h1, k1, k2, k3⟩ := zr st 3 3 rfl (by omega)
   rw [Lj] at k1 k2
   have hal : a < h.next := h.lt _ _ hg
   have hg1 : h1.get a = some (ints o) := by rw [k3.Dc a hal hac hoa]; exact hg
   have a1 : gV 1 (.aG a 0 19 1) (I sn) = some (.aF a sn) := by simp [gV, mh (show sn < 19 by omega)]
   have hset : (ints o).set sn (I ((xW (FJ c) 3 S).1 : Nat)) = ints (o.set sn ((xW (FJ c) 3 S).1 : Nat)) := by simp [ints, List.map_set]
   have hst : wm h1 a sn 1 [I ((xW (FJ c) 3 S).1 : Nat)] (some (ints o)) = some (h1.set a (ints (o.set sn ((xW (FJ c) 3 S).1 : Nat)))) := by
    rw [wM (by rw [k3.fl]; exact hf) (by rw [rF]; omega) rfl, hset]
   have w2 : IntKind.wrap .i64 ((p.length : Int) + 1) = (((p ++ [(sn : Int)]).length : Nat) : Int) := by
    rw [xN]; exact xR (n := p.length + 1) (by omega)
   have step : aN (aT AP.A) bI AP.f24L0 (az [(0, .aF c.f 0), (2, m2), (3, m3), (4, I many), (5, .aG a 0 19 1), (6, yX yw), (7, I p.length)] [0, 2, 3, 4, 5, 6, 7]) h = some (.normal, [(0, .aF c.f 0), (2, m2), (3, m3), (4, I many), (5, .aG a 0 19 1), (6, yX yw), (7, I (p ++ [(sn : Int)]).length)], h1.set a (ints (o.set sn ((xW (FJ c) 3 S).1 : Nat)))) := by
    clear hset
    generalize ints (o.set sn ((xW (FJ c) 3 S).1 : Nat)) = W at *
    generalize (p ++ [(sn : Int)]).length = B at *
    generalize (xW (FJ c) 3 S).1 = G at *
    generalize ints o = OO at *
    generalize yX yw = RO at *
    unfold AP.f24L0
    refine wJ (e1 := [(0, .aF c.f 0), (2, m2), (3, m3), (4, I many), (5, .aG a 0 19 1), (6, RO), (7, I p.length)]) (h1 := h) ?_ ?_
    · simp only [I] at *
      simp only [go_sem, TO c1]
    refine wJ (e1 := [(0, .aF c.f 0), (2, m2), (3, m3), (4, I many), (5, .aG a 0 19 1), (6, RO), (7, I p.length)]) (h1 := h1.set a W) ?_ ?_
    · rw [pg, Fc (e' := [(47, .aF a sn), (46, I G), (45, .aF c.f 0), (44, I sn), (43, .aM (ints yw) p.length), (42, I p.length), (41, RO), (40, .aG a 0 19 1), (0, .aF c.f 0), (2, m2), (3, m3), (4, I many), (5, .aG a 0 19 1), (6, RO), (7, I p.length)]) (h' := h1.set a W) (gs := [h, h1, h1.set a W])]
      · simp only [go_sem]
      · simp only [I] at *
        simp only [AQ, CL, CJ, CO, CN, cj.aQ, go_sem, ia, hv, k1, a1, hg1, hst]
      · refine AW (fun k hk => ?_) rfl
        obtain rfl : k = 1 := by simpa using hk
        refine AU (o := ⟨some 44, .load false 1 (.t 43), none⟩) (g := h1) (h' := h1) (d := 44) (u := I sn) rfl rfl rfl rfl ?_ ?_
        · simp only [aj, go_sem, hv]
        · simp only [go_sem, I, Dm]
    · simp only [I] at *
      simp only [go_sem, w2]
   have st2 : Ft c (xW (FJ c) 3 S).2 (h1.set a (ints (o.set sn ((xW (FJ c) 3 S).1 : Nat)))) ov := k2.yY (by simp) (by simp) fun i hi => by
    rw [H.dW, if_neg]
    rintro rfl
    rcases hi with hi | hi
    · exact hac hi
    · exact hoa hi
   obtain ⟨e', h', q1, q2, q3, q4, q5, q6, q7, q8, q9, q10⟩ := EJ a many hmany m2 m3 q (p ++ [(sn : Int)]) (o.set sn ((xW (FJ c) 3 S).1 : Nat)) _ _ ov (by rw [hp]; simp) st2 hoa hac (by rw [H.dW, if_pos rfl, hg1]; rfl) (by simpa using ho) (by simp [k3.fl]; exact hf)
   refine ⟨e', h', vD step q1, q2, q3, q4, q5, ?_, ?_, by rw [q8]; simp [k3.fl], by have := k3.nx; simp at q9; omega, fun i i1 i2 i4 i5 => ?_⟩
   · rw [Ac]; exact q6
   · rw [Ac]; exact q7
   · rw [q10 i (by have := k3.nx; simp; omega) i2 i4 i5, H.dW, if_neg i5, k3.Dc i i1 i2 i4]
theorem Hj {c : FC} {S : SS} {h : H} {ov : AV} (cl : List Int) (hcl : cl.length < 1000) (st : Ft c S h ov) (he : S.e = 0) (many : Nat) (hm : many ≤ 400) :
 ∃ h' S' v, aT AP.A 53 [.aF c.f 0, yd cl, I many] h = some (v, h') ∧ Ft c S' h' ov ∧ FF c h ov h' ov ∧ match yE c.text cl many (8 * c.text.size + 1) [] S.at_ with
   | some (L, p) => S' = { S with at_ := p } ∧ L.length = many ∧ pd h' v (ints L) ∧ ∀ j, v.id? = some j → h.next ≤ j
   | none => S'.e = 700 := by
 obtain ⟨h', S', q1, q2, q3⟩ := DS h cl hcl many hm (8 * c.text.size + 1) [] S h ov .aR st he (by omega) (FF.refl _ _ _) (.inl ⟨rfl, rfl⟩) (by simp) (fun j q => by cases q) (fun j hj => st.lt hj)
 have close : ∀ e' v, Lp AP.A [0, 1, 2, 7] AP.f53L1 [(0, .aF c.f 0), (1, yd cl), (2, I many), (7, .aR)] h = some (.exit 0, e', h') → look e' 7 = v → aT AP.A 53 [.aF c.f 0, yd cl, I many] h = some (v, h') := by
  intro e' v r1 r2
  refine vP (fn := AP.f53) (e := [(6, v)]) (vs := [v]) rfl rfl rfl ?_ rfl
  simp only [I] at *
  simp only [AP.f53, go_sem, uK, r1, r2]
 cases hL : yE c.text cl many (8 * c.text.size + 1) [] S.at_ with
 | some q =>
   rw [hL] at q3
   obtain ⟨r1, r2, e', v', r3, r4, r5, r6⟩ := q3
   exact ⟨h', S', v', close e' v' r3 r4, q1, q2, r1, r2, r5, r6⟩
 | none =>
   rw [hL] at q3
   obtain ⟨r1, ⟨e', v', r3, r4⟩ | ⟨e', r3, r4⟩⟩ := q3
   · exact ⟨h', S', v', close e' v' r3 r4, q1, q2, r1⟩
   · refine ⟨h', S', .aR, ?_, q1, q2, r1⟩
     refine vP (fn := AP.f53) (e := e') (vs := [.aR]) rfl rfl rfl ?_ (by simp only [AP.f53, cW, oW, r4]; rfl)
     simp only [I] at *
     simp only [AP.f53, go_sem, uK, r3]
theorem Ha (t : ByteArray) (most : Int) (out : List Nat) {p : Nat} (hp : ¬ p + 14 ≤ 8 * t.size) : En t most p out = .error 700 := by
 unfold En
 split
 · dsimp only
   split
   · rfl
   · have : ∀ m, Ae t m (p + 10) = none := fun m => by rw [Ae, if_neg (by omega)]
     rw [this]
 · rfl
theorem Hc {c : FC} {S : SS} {h : H} {ov : AV} (st : Ft c S h ov) (he : S.e = 0) :
 ∃ h' ov' S', aT AP.A 24 [.aF c.f 0] h = some (.bW [], h') ∧ Ft c S' h' ov' ∧ FF c h ov h' ov' ∧ Fin (En c.text c.most S.at_ S.out) S' := by
 obtain ⟨h1, a1, a2, a3⟩ := zr st 5 5 rfl (by omega)
 obtain ⟨h2, b1, b2, b3⟩ := zr a2 5 5 rfl (by omega)
 obtain ⟨h3, d1, d2, d3⟩ := zr b2 4 4 rfl (by omega)
 obtain ⟨A, hA⟩ : ∃ n, n = (yo c 5 S).1 := ⟨_, rfl⟩
 obtain ⟨S1, hS1⟩ : ∃ n, n = (yo c 5 S).2 := ⟨_, rfl⟩
 rw [← hA] at a1; rw [← hS1] at a2 b1 b2 d1 d2
 obtain ⟨B, hB⟩ : ∃ n, n = (yo c 5 S1).1 := ⟨_, rfl⟩
 obtain ⟨S2, hS2⟩ : ∃ n, n = (yo c 5 S1).2 := ⟨_, rfl⟩
 rw [← hB] at b1; rw [← hS2] at b2 d1 d2
 obtain ⟨C, hC⟩ : ∃ n, n = (yo c 4 S2).1 := ⟨_, rfl⟩
 obtain ⟨S3, hS3⟩ : ∃ n, n = (yo c 4 S2).2 := ⟨_, rfl⟩
 rw [← hC] at d1; rw [← hS3] at d2
 have g5 : ∀ S, (yo c 5 S).1 < 32 := fun S => by
  unfold yo; split
  · simpa using yF c.text S.at_ 5
  · simp
 have hA32 : A < 32 := hA ▸ g5 S
 have hB32 : B < 32 := hB ▸ g5 S1
 have hC16 : C < 16 := by
  rw [hC]; unfold yo; split
  · simpa using yF c.text S2.at_ 4
  · simp
 have w1 : IntKind.wrap .i64 (257 + (A : Int)) = ((A + 257 : Nat) : Int) := by rw [show 257 + (A : Int) = ((A + 257 : Nat) : Int) by omega]; exact xR (by omega)
 have w2 : IntKind.wrap .i64 (1 + (B : Int)) = ((B + 1 : Nat) : Int) := by rw [show 1 + (B : Int) = ((B + 1 : Nat) : Int) by omega]; exact xR (by omega)
 have w3 : IntKind.wrap .i64 (4 + (C : Int)) = ((C + 4 : Nat) : Int) := by rw [show 4 + (C : Int) = ((C + 4 : Nat) : Int) by omega]; exact xR (by omega)
 have gf3 := d2.gf
 have he3 : S3.e = 0 ∨ S3.e = 700 := by rw [hS3]; exact CI c 4 _ (by rw [hS2]; exact CI c 5 _ (by rw [hS1]; exact CI c 5 S (.inl he)))
 have fr3 := (a3.trans b3).trans d3
 have bad : (S3.e ≠ 0 ∨ 286 < A + 257 ∨ 30 < B + 1) → ∃ h' ov' S', aT AP.A 24 [.aF c.f 0] h = some (.bW [], h') ∧ Ft c S' h' ov' ∧ FF c h ov h' ov' ∧ S'.e = 700 ∧ (700 : Int) ≠ 0 := by
  intro hb
  obtain ⟨h4, f1, f2, f3⟩ := zP d2
  refine ⟨h4, ov, xZ 700 S3, ?_, f2, fr3.trans f3, by rcases he3 with q | q <;> simp [xZ, q], by decide⟩
  refine vP (fn := AP.f24) (e := []) (vs := []) rfl rfl rfl ?_ rfl
  by_cases c1 : S3.e = 0
  · have c1' := wB c1
    by_cases c2 : 286 < A + 257
    · have c2' : (286 : Int) < ((A + 257 : Nat) : Int) := by omega
      simp only [I] at *
      simp only [AP.f24, go_sem, a1, b1, d1, w1, w2, w3, gf3, c1', TO c2', f1]
    · have c2' : ¬ (286 : Int) < ((A + 257 : Nat) : Int) := by omega
      have c3' : (30 : Int) < ((B + 1 : Nat) : Int) := by
       rcases hb with q | q | q
       · exact absurd c1 q
       · exact absurd q c2
       · omega
      simp only [I] at *
      simp only [AP.f24, go_sem, a1, b1, d1, w1, w2, w3, gf3, c1', TL c2', TO c3', f1]
  · have c1' := wC c1
    simp only [I] at *
    simp only [AP.f24, go_sem, a1, b1, d1, w1, w2, w3, gf3, c1', f1]
 by_cases hp : S.at_ + 14 ≤ 8 * c.text.size
 · unfold En
   have e1 : yo c 5 S = (xV c.text S.at_ 5, { S with at_ := S.at_ + 5 }) := by rw [yo, if_pos (by omega)]
   rw [e1] at hA hS1; dsimp only at hA hS1
   have e2 : yo c 5 { S with at_ := S.at_ + 5 } = (xV c.text (S.at_ + 5) 5, { S with at_ := S.at_ + 5 + 5 }) := by rw [yo, if_pos (by show S.at_ + 5 + 5 ≤ _; omega)]
   rw [hS1, e2] at hB hS2; dsimp only at hB hS2
   have e3 : yo c 4 { S with at_ := S.at_ + 5 + 5 } = (xV c.text (S.at_ + 5 + 5) 4, { S with at_ := S.at_ + 5 + 5 + 4 }) := by rw [yo, if_pos (by show S.at_ + 5 + 5 + 4 ≤ _; omega)]
   rw [hS2, e3] at hC hS3; dsimp only at hC hS3
   rw [if_pos (show S.at_ + 10 ≤ 8 * c.text.size by omega)]
   dsimp only
   rw [← hA, ← hB]
   by_cases hbig : 286 < A + 257 ∨ 30 < B + 1
   · rw [if_pos hbig]; exact bad (.inr hbig)
   rw [if_neg hbig]
   have he30 : S3.e = 0 := by rw [hS3]; exact he
   have hat3 : S3.at_ = S.at_ + 14 := by rw [hS3]
   have c1' : (S3.e != 0) = false := wB he30
   have c2' : ¬ (286 : Int) < ((A + 257 : Nat) : Int) := by omega
   have c3' : ¬ (30 : Int) < ((B + 1 : Nat) : Int) := by omega
   have w4 : IntKind.wrap .i64 (((A + 257 : Nat) : Int) + ((B + 1 : Nat) : Int)) = ((A + 257 + (B + 1) : Nat) : Int) := by
    rw [show ((A + 257 : Nat) : Int) + ((B + 1 : Nat) : Int) = ((A + 257 + (B + 1) : Nat) : Int) by omega]; exact xR (by omega)
   obtain ⟨a, ha⟩ : ∃ a, a = h3.next := ⟨_, rfl⟩
   obtain ⟨g0, hg0⟩ : ∃ g, g = h3.alloc (ints (List.replicate 19 0)) := ⟨_, rfl⟩
   have al := d2.alloc (ints (List.replicate 19 0))
   rw [← hg0] at al
   have hga : g0.get a = some (ints (List.replicate 19 0)) := by rw [hg0, H.aY, if_pos ha]
   have oc := Kf g0
   have bt : ∀ e : Env, bc e (.jI 1 8 [.int .i64 0] (.c (.int .i64 19)) (.c (.int .i64 19))) = some (ints (List.replicate 19 0), fun i => .aG i 0 19 1) := fun _ => rfl
   have hac : a ≠ c.f := fun e => by have := d2.lt (.inl e); omega
   have hoa : ov.id? ≠ some a := fun e => by have := d2.lt (.inr e); omega
   obtain ⟨e4, h4, l1, l2, l3, l4, l5, l6, l7, l8, l9, l10⟩ := EJ (c := c) a (C + 4) (by omega) (I (A + 257 : Nat)) (I (B + 1 : Nat)) (yw.take (C + 4)) [] (List.replicate 19 0) S3 g0 ov rfl al.1 hoa hac hga (by simp) (by rw [hg0, ha]; simp; exact d2.nx)
   have l1' : Lp AP.A [0, 2, 3, 4, 5, 6, 7] AP.f24L0 [(0, .aF c.f 0), (2, I (A + 257 : Nat)), (3, I (B + 1 : Nat)), (4, I (C + 4 : Nat)), (5, .aG a 0 19 1), (6, yX yw), (7, I 0)] g0 = some (.exit 0, e4, h4) := l1
   clear l1
   have hn0 : g0.next = h3.next + 1 := by rw [hg0]; simp
   have fr4 : FF c h ov h4 ov := by
    refine ⟨by rw [l8, al.2.fl, fr3.fl], ?_, fun id i1 i2 i4 => ?_, fun i hi => .inl hi⟩
    · have := fr3.nx; omega
    · have := fr3.nx
      rw [l10 id (by omega) i2 i4 (by omega), al.2.Dc id (by omega) i2 i4, fr3.Dc id i1 i2 i4]
   obtain ⟨cl, hcl⟩ : ∃ cl, cl = (Ac (FJ c) (yw.take (C + 4)) (List.replicate 19 0) S3).1 := ⟨_, rfl⟩
   obtain ⟨S4, hS4⟩ : ∃ cl, cl = (Ac (FJ c) (yw.take (C + 4)) (List.replicate 19 0) S3).2 := ⟨_, rfl⟩
   rw [← hS4] at l6; rw [← hcl] at l7
   have hcll : cl.length = 19 := by rw [hcl, D9]; simp
   have hol : (yw.take (C + 4)).length = C + 4 := by rw [List.length_take]; show min (C + 4) 19 = C + 4; omega
   have iW : Rd h4 (.aG a 0 19 1) (ints cl) := by
    refine ⟨?_, by intro s e; cases e⟩
    simp [aU, l7, hcll, xI]
   have ck := DJ h4 (.aG a 0 19 1) cl (by omega) iW
   have bk := Bb h4 (.aG a 0 19 1) cl (by omega) iW
   have gf4 := l6.gf
   have he4 : S4.e = 0 ∨ S4.e = 700 := by rw [hS4]; exact Kg _ _ _ _ (.inl he30)
   have bad2 : (S4.e ≠ 0 ∨ yB cl ≠ 0) → ∃ h' ov' S', aT AP.A 24 [.aF c.f 0] h = some (.bW [], h') ∧ Ft c S' h' ov' ∧ FF c h ov h' ov' ∧ S'.e = 700 ∧ (700 : Int) ≠ 0 := by
    intro hb
    obtain ⟨h5, f1, f2, f3⟩ := zP l6
    refine ⟨h5, ov, xZ 700 S4, ?_, f2, fr4.trans f3, by rcases he4 with q | q <;> simp [xZ, q], by decide⟩
    refine vP (fn := AP.f24) (e := []) (vs := []) rfl rfl rfl ?_ rfl
    by_cases q1 : S4.e = 0
    · have q1' := wB q1
      have q2' : (yB cl != 0) = true := wC (by rcases hb with q | q; exact absurd q1 q; exact q)
      simp only [I] at *
      simp only [AP.f24, go_sem, a1, b1, d1, w1, w2, w3, gf3, c1', TL c2', TL c3', bt, ← hg0, ← ha, oc, uK, l1', l2, l3, l4, l5, gf4, q1', ck, q2', f1]
    · have q1' := wC q1
      simp only [I] at *
      simp only [AP.f24, go_sem, a1, b1, d1, w1, w2, w3, gf3, c1', TL c2', TL c3', bt, ← hg0, ← ha, oc, uK, l1', l2, l3, l4, l5, gf4, q1', f1]
   have hlens : Ae c.text (A + 257 + (B + 1)) (S.at_ + 10) = if S.at_ + 14 + 3 * (C + 4) ≤ 8 * c.text.size then (if yB (Ep c.text (yw.take (C + 4)) (S.at_ + 14) (List.replicate 19 0)) = 0 then yE c.text (Ep c.text (yw.take (C + 4)) (S.at_ + 14) (List.replicate 19 0)) (A + 257 + (B + 1)) (8 * c.text.size + 1) [] (S.at_ + 14 + 3 * (C + 4)) else none) else none := by
    have hC' : xV c.text (S.at_ + 10) 4 = C := hC.symm
    unfold Ae
    rw [if_pos (show S.at_ + 10 + 4 ≤ 8 * c.text.size by omega)]
    dsimp only
    rw [hC', show S.at_ + 10 + 4 = S.at_ + 14 by omega]
   by_cases hp2 : S.at_ + 14 + 3 * (C + 4) ≤ 8 * c.text.size
   · have ok := Fz (FJ c) (yw.take (C + 4)) (List.replicate 19 0) S3 he30 (by rw [hol, hat3]; exact hp2)
     rw [ok] at hcl hS4
     dsimp only at hcl hS4
     rw [hol] at hS4
     rw [hat3] at hcl
     have hcl' : cl = Ep c.text (yw.take (C + 4)) (S.at_ + 14) (List.replicate 19 0) := hcl
     rw [if_pos hp2, ← hcl'] at hlens
     by_cases hck : yB cl = 0
     · rw [if_pos hck] at hlens
       have he40 : S4.e = 0 := by rw [hS4]; exact he30
       have hat4 : S4.at_ = S.at_ + 14 + 3 * (C + 4) := by rw [hS4]; show S3.at_ + 3 * (C + 4) = _; rw [hat3]
       have q1' := wB he40
       have q2' := wB hck
       obtain ⟨h5, S5, av, m1, m2, m3, m4⟩ := Hj cl (by omega) l6 he40 (A + 257 + (B + 1)) (by omega)
       have gf5 := m2.gf
       rw [hat4] at m4
       rw [hlens]
       cases hL : yE c.text cl (A + 257 + (B + 1)) (8 * c.text.size + 1) [] (S.at_ + 14 + 3 * (C + 4)) with
       | none =>
         rw [hL] at m4
         have q3' : (S5.e != 0) = true := wC (by rw [m4]; decide)
         refine ⟨h5, ov, S5, ?_, m2, fr4.trans m3, m4, by decide⟩
         refine vP (fn := AP.f24) (e := [(0, .aF c.f 0), (2, I (A + 257 : Nat)), (8, av), (71, .bool true)]) (vs := []) rfl rfl rfl ?_ rfl
         simp only [I] at *
         simp only [AP.f24, go_sem, a1, b1, d1, w1, w2, w3, gf3, c1', TL c2', TL c3', bt, ← hg0, ← ha, oc, uK, l1', l2, l3, l4, l5, gf4, q1', ck, q2', bk, w4, m1, gf5, q3']
       | some q =>
         obtain ⟨L, p2⟩ := q
         rw [hL] at m4
         obtain ⟨m4, m5, m6, m7⟩ := m4
         have he5 : S5.e = 0 := by rw [m4]; exact he40
         have q3' := wB he5
         have hrng : zu L := EP (t := c.text) (many := A + 257 + (B + 1)) (p := S.at_ + 10) (p2 := p2) (by rw [hlens, hL])
         dsimp only
         obtain ⟨id, hav, hgid⟩ : ∃ id, av = .aG id 0 (A + 257 + (B + 1)) 1 ∧ h5.get id = some (ints L) := by
          rcases m6 with ⟨_, q⟩ | ⟨id, q1, q2, _⟩
          · have := Ue List.length q; rw [rF, m5, TN] at this; omega
          · exact ⟨id, by rw [q1, rF, m5], q2⟩
         have hil : (ints L).length = A + 257 + (B + 1) := by rw [rF, m5]
         have s1 := Ff (h := h5) (k := A + 257) hgid hil (xc _) (by omega)
         have s2 := G5 (h := h5) (k := A + 257) hgid hil (by omega)
         rw [show A + 257 + (B + 1) - (A + 257) = B + 1 by omega] at s2
         rw [← hav] at s1 s2
         obtain ⟨la, hla⟩ : ∃ x, x = L.take (A + 257) := ⟨_, rfl⟩
         obtain ⟨lb, hlb⟩ : ∃ x, x = L.drop (A + 257) := ⟨_, rfl⟩
         have hlal : la.length = A + 257 := by rw [hla, List.length_take]; omega
         have hlbl : lb.length = B + 1 := by rw [hlb, List.length_drop]; omega
         have ra : Rd h5 (.aG id 0 (A + 257) 1) (ints la) := by
          refine ⟨?_, by intro s e; cases e⟩
          simp only [aU, if_true, hgid, w9]
          rw [if_pos (by rw [hil]; omega), hla]; simp [ints, List.map_take]; omega
         have rb : Rd h5 (.aG id (A + 257) (B + 1) 1) (ints lb) := by
          refine ⟨?_, by intro s e; cases e⟩
          simp only [aU, if_true, hgid, w9]
          rw [if_pos (by rw [hil]; omega), hlb]
          have : (ints (L.drop (A + 257))).length = B + 1 := by rw [rF, ← hlb, hlbl]
          rw [this, ints, ints, ← List.map_drop, Uf, xI (by rw [TQ, ← hlb, hlbl]; omega)]
         rw [← hla, ← hlb]
         have cka := DJ h5 _ la (by omega) ra
         have ckb := DJ h5 _ lb (by omega) rb
         have hra : zu la := fun y hy => hrng y (List.mem_of_mem_take (hla ▸ hy))
         have hrb : zu lb := fun y hy => hrng y (List.mem_of_mem_drop (hlb ▸ hy))
         have sgb := Kv h5 _ lb (by omega) hrb rb
         have mka := Bb h5 _ la (by omega) ra
         have mkb := Bb h5 _ lb (by omega) rb
         have hel0 : la.getD 256 0 = L.getD 256 0 := by
          rw [hla, List.getD_eq_getElem?_getD, List.getD_eq_getElem?_getD, xM, if_pos (by omega)]
         have hel := Bt (l := L) (i := 256) (by omega)
         rw [← hel0] at hel
         obtain ⟨id2, i1, i2, i3⟩ := m6.elem hel
         have i2' : gV 1 av (I 256) = some (.aF id2 256) := i2
         clear i2
         by_cases hbad : yB la ≠ 0 ∨ la.getD 256 0 = 0 ∨ (yB lb ≠ 0 ∧ yT lb = false)
         · rw [if_pos hbad]
           obtain ⟨h6, f1, f2, f3⟩ := zP m2
           refine ⟨h6, ov, xZ 700 S5, ?_, f2, (fr4.trans m3).trans f3, by simp [xZ, he5], by decide⟩
           refine vP (fn := AP.f24) (e := []) (vs := []) rfl rfl rfl ?_ rfl
           by_cases x1 : yB la = 0
           · have x1' := wB x1
             by_cases x2 : la.getD 256 0 = 0
             · have x2' := wA x2
               simp only [I] at *
               simp only [AP.f24, go_sem, a1, b1, d1, w1, w2, w3, gf3, c1', TL c2', TL c3', bt, ← hg0, ← ha, oc, uK, l1', l2, l3, l4, l5, gf4, q1', ck, q2', bk, w4, m1, gf5, q3', TP, TW, s1, s2, cka, x1', i2', i3, hel, x2', f1]
             · have x2' := wz x2
               obtain ⟨x3, x4⟩ : yB lb ≠ 0 ∧ yT lb = false := by
                rcases hbad with q | q | q
                · exact absurd x1 q
                · exact absurd q x2
                · exact q
               have x3' := wC x3
               rw [x4] at sgb
               simp only [I] at *
               simp only [AP.f24, go_sem, a1, b1, d1, w1, w2, w3, gf3, c1', TL c2', TL c3', bt, ← hg0, ← ha, oc, uK, l1', l2, l3, l4, l5, gf4, q1', ck, q2', bk, w4, m1, gf5, q3', TP, TW, s1, s2, cka, x1', i2', i3, hel, x2', ckb, x3', sgb, f1]
           · have x1' := wC x1
             simp only [I] at *
             simp only [AP.f24, go_sem, a1, b1, d1, w1, w2, w3, gf3, c1', TL c2', TL c3', bt, ← hg0, ← ha, oc, uK, l1', l2, l3, l4, l5, gf4, q1', ck, q2', bk, w4, m1, gf5, q3', TP, TW, s1, s2, cka, x1', f1]
         · rw [if_neg hbad]
           have x1 : yB la = 0 := Decidable.byContradiction fun q => hbad (.inl q)
           have x2 : la.getD 256 0 ≠ 0 := fun q => hbad (.inr (.inl q))
           have x1' := wB x1
           have x2' := wz x2
           obtain ⟨h6, ov6, S6, r1, r2, r3, r4⟩ := F9 la lb (by omega) (by omega) m2 he5
           have last : aN (aT AP.A) bI (.jG [0, 1, 2, 3, 4, 5, 6, 7, 8, 9] [ ⟨(some 99), .mv (.t 0), none⟩, ⟨(some 100), .mv (.t 8), none⟩, ⟨(some 101), .mv (.t 2), none⟩, ⟨(some 102), .sl 1 (.t 100) none (some (.t 101)) none, none⟩, ⟨(some 103), .call (.c (.fn 21 [] [])) [(.t 102)], none⟩, ⟨(some 104), .mv (.t 8), none⟩, ⟨(some 105), .mv (.t 2), none⟩, ⟨(some 106), .sl 1 (.t 104) (some (.t 105)) none none, none⟩, ⟨(some 107), .call (.c (.fn 21 [] [])) [(.t 106)], none⟩, ⟨(some 108), .call (.c (.fn 20 [] [])) [(.t 99), (.t 103), (.t 107)], none⟩] [(7, [0])] []) [(0, .aF c.f 0), (2, I (A + 257 : Nat)), (8, av)] h5 = some (.normal, [], h6) := by
            rw [Fc (e' := [(108, .bW []), (107, yd lb), (106, .aG id (A + 257) (B + 1) 1), (105, I (A + 257 : Nat)), (104, av), (103, yd la), (102, .aG id 0 (A + 257) 1), (101, I (A + 257 : Nat)), (100, av), (99, .aF c.f 0), (0, .aF c.f 0), (2, I (A + 257 : Nat)), (8, av)]) (h' := h6) (gs := [h5, h5, h5, h6])]
            · simp only [go_sem]
            · simp only [AQ, CL, CJ, CO, CN, cj.aQ, go_sem, TP, TW, s1, s2, mka, mkb, r1]
            · refine AW (fun k hk => ?_) rfl
              obtain rfl : k = 0 := by simpa using hk
              refine AU (o := ⟨some 106, .sl 1 (.t 104) (some (.t 105)) none none, none⟩) (g := h5) (h' := h5) (d := 106) (u := .aG id (A + 257) (B + 1) 1) rfl rfl rfl rfl ?_ ?_
              · simp only [aj, go_sem, TP, TW, s2]
              · simp only [go_sem, BT]
           refine ⟨h6, ov6, S6, ?_, r2, (fr4.trans m3).trans r3, ?_⟩
           · refine yG (fn := AP.f24) (e := []) (vs := []) rfl rfl rfl ?_ rfl
             by_cases x3 : yB lb = 0
             · have x3' := wB x3
               simp only [I] at *
               simp only [AP.f24, go_sem, a1, b1, d1, w1, w2, w3, gf3, c1', TL c2', TL c3', bt, ← hg0, ← ha, oc, uK, l1', l2, l3, l4, l5, gf4, q1', ck, q2', bk, w4, m1, gf5, q3', TP, TW, s1, s2, cka, x1', i2', i3, hel, x2', ckb, x3', last]
             · have x3' := wC x3
               have x4 : yT lb = true := by
                cases hs : yT lb with
                | true => rfl
                | false => exact absurd (.inr (.inr ⟨x3, hs⟩)) hbad
               rw [x4] at sgb
               simp only [I] at *
               simp only [AP.f24, go_sem, a1, b1, d1, w1, w2, w3, gf3, c1', TL c2', TL c3', bt, ← hg0, ← ha, oc, uK, l1', l2, l3, l4, l5, gf4, q1', ck, q2', bk, w4, m1, gf5, q3', TP, TW, s1, s2, cka, x1', i2', i3, hel, x2', ckb, x3', sgb, last]
           · have h1 : S5.at_ = p2 := by rw [m4]
             have h2 : S5.out = S.out := by rw [m4, hS4, hS3]
             rw [h1, h2] at r4; exact r4
     · rw [if_neg hck] at hlens
       rw [hlens]
       exact bad2 (.inr hck)
   · rw [if_neg hp2] at hlens
     rw [hlens]
     refine bad2 (.inl ?_)
     rw [hS4, D8 (FJ c) _ _ S3 he30 (by rw [hat3]; exact hp) (by rw [hol, hat3]; show 8 * c.text.size < _; omega)]; decide
 · rw [Ha c.text c.most S.out hp]
   refine bad (.inl ?_)
   rw [hS3, hS2, hS1]
   unfold yo
   by_cases q1 : S.at_ + 5 ≤ 8 * c.text.size
   · simp only [if_pos q1]
     by_cases q2 : S.at_ + 5 + 5 ≤ 8 * c.text.size
     · simp only [if_pos q2]; rw [if_neg (by omega)]; simp [xZ, he]
     · simp only [if_neg q2, xZ, he, if_true]; split <;> simp
   · simp only [if_neg q1, xZ, he, if_true]
     split
     · split <;> simp
     · simp; split <;> simp
theorem EI {c : FC} {S : SS} {h : H} {ov : AV} (st : Ft c S h ov) (b : Int) (hs : b ≠ 0 ∨ (b = 0 ∧ S.e ≠ 0)) :
 ∃ e', Lp AP.A [7, 8] AP.f8L0 [(7, .aF c.f 0), (8, I b)] h = some (.exit 0, e', h) ∧ look e' 7 = .aF c.f 0 := by
 have gf := st.gf
 refine ⟨[(7, .aF c.f 0), (29, .bool false)], vC ?_, rfl⟩
 rcases hs with hb | ⟨hb, he⟩
 · have c1 := wz hb
   simp only [I] at *
   simp only [AP.f8L0, go_sem, c1]
 · have c1 := wA hb
   have c2 := wz he
   simp only [I] at *
   simp only [AP.f8L0, go_sem, c1, gf, c2]
theorem EH {c : FC} : ∀ (f : Nat) (S : SS) (h : H) (ov : AV), Ft c S h ov → S.e = 0 → 8 * c.text.size < S.at_ + f →
 ∃ e' h' ov' S', Lp AP.A [7, 8] AP.f8L0 [(7, .aF c.f 0), (8, I 0)] h = some (.exit 0, e', h') ∧ look e' 7 = .aF c.f 0 ∧ Ft c S' h' ov' ∧ FF c h ov h' ov' ∧ Fin (zo c.text c.most f S.at_ S.out) S'
 | 0, S, h, ov, st, he, hk => by have := st.yZ; omega
 | f + 1, S, h, ov, st, he, hk => by
   have gf := st.gf
   rw [he] at gf
   obtain ⟨h1, a1, a2, a3⟩ := zr st 1 1 rfl (by omega)
   obtain ⟨h2, b1, b2, b3⟩ := zr a2 2 2 rfl (by omega)
   obtain ⟨A, hA⟩ : ∃ n, n = (yo c 1 S).1 := ⟨_, rfl⟩
   obtain ⟨S1, hS1⟩ : ∃ n, n = (yo c 1 S).2 := ⟨_, rfl⟩
   rw [← hA] at a1; rw [← hS1] at a2 b1 b2
   obtain ⟨B, hB⟩ : ∃ n, n = (yo c 2 S1).1 := ⟨_, rfl⟩
   obtain ⟨S2, hS2⟩ : ∃ n, n = (yo c 2 S1).2 := ⟨_, rfl⟩
   rw [← hB] at b1; rw [← hS2] at b2
   have gf2 := b2.gf
   have fr2 := a3.trans b3
   rw [zo]
   unfold Av
   by_cases hp : S.at_ + 3 ≤ 8 * c.text.size
   · rw [if_pos hp]
     have e1 : yo c 1 S = (xV c.text S.at_ 1, { S with at_ := S.at_ + 1 }) := by rw [yo, if_pos (by omega)]
     rw [e1] at hA hS1; dsimp only at hA hS1
     have e2 : yo c 2 { S with at_ := S.at_ + 1 } = (xV c.text (S.at_ + 1) 2, { S with at_ := S.at_ + 1 + 2 }) := by rw [yo, if_pos (by show S.at_ + 1 + 2 ≤ _; omega)]
     rw [hS1, e2] at hB hS2; dsimp only at hB hS2
     have he2 : S2.e = 0 := by rw [hS2]; exact he
     have hat : S2.at_ = S.at_ + 3 := by rw [hS2]
     have hout : S2.out = S.out := by rw [hS2]
     have hA2 : A < 2 := by rw [hA]; simpa using yF c.text S.at_ 1
     dsimp only
     rw [← hA, ← hB]
     have ce := wB he2
     have n0 : ((0 : Int) == 0) = true := rfl
     have z0 : ((0 : Int) == 0) = true := rfl
     have close : ∀ (r : Rs) (h' : H) (ov' : AV) (S' : SS), aN (aT AP.A) bI AP.f8L0 (az [(7, .aF c.f 0), (8, I 0)] [7, 8]) h = some (.normal, [(7, .aF c.f 0), (8, I A)], h') → Ft c S' h' ov' → FF c h2 ov h' ov' → Fin r S' → (∀ q, r = .ok q → S.at_ < q.1) →
      ∃ e' h' ov' S', Lp AP.A [7, 8] AP.f8L0 [(7, .aF c.f 0), (8, I 0)] h = some (.exit 0, e', h') ∧ look e' 7 = .aF c.f 0 ∧ Ft c S' h' ov' ∧ FF c h ov h' ov' ∧ Fin (match (match r with | .ok q => (.ok (A == 1, q.1, q.2) : Except Int (Bool × Nat × List Nat)) | .error k => .error k) with | .error k => .error k | .ok (last, p2, o) => if last then .ok (p2, o) else zo c.text c.most f p2 o) S' := by
      intro r h' ov' S' step q2 q3 q4 q5
      cases r with
      | error k =>
        have hs : (A : Int) ≠ 0 ∨ ((A : Int) = 0 ∧ S'.e ≠ 0) := by
         by_cases q : (A : Int) = 0
         · exact .inr ⟨q, by rw [q4.1]; exact q4.2⟩
         · exact .inl q
        obtain ⟨e', r1, r2⟩ := EI q2 A hs
        exact ⟨e', h', ov', S', vD step r1, r2, q2, fr2.trans q3, q4⟩
      | ok q =>
        obtain ⟨p2, o⟩ := q
        simp only [Fin] at q4
        dsimp only
        by_cases hA1 : A = 1
        · have hb : (A == 1) = true := by rw [hA1]; rfl
          rw [hb]
          simp only [if_true]
          obtain ⟨e', r1, r2⟩ := EI q2 A (.inl (by omega))
          exact ⟨e', h', ov', S', vD step r1, r2, q2, fr2.trans q3, q4⟩
        · have hA0 : A = 0 := by omega
          have hb : (A == 1) = false := by rw [hA0]; rfl
          rw [hb]
          simp only [xa, xO]
          rw [hA0] at step
          subst q4
          have h5 := q5 (p2, o) rfl
          dsimp only at h5
          obtain ⟨e', h'', ov'', S'', r1, r2, r3, r4, r5⟩ := EH f _ h' ov' q2 rfl (by dsimp only; omega)
          exact ⟨e', h'', ov'', S'', vD step r1, r2, r3, (fr2.trans q3).trans r4, r5⟩
     by_cases d0 : B = 0
     · rw [if_pos d0]
       obtain ⟨h', ov', S', q1, q2, q3, q4⟩ := I0 b2 he2
       rw [hat, hout] at q4
       have d0' : ((B : Int) == 0) = true := wA (by omega)
       refine close _ h' ov' S' ?_ q2 q3 q4 (fun q hq => ?_)
       · simp only [I] at *
         simp only [AP.f8L0, go_sem, gf, a1, b1, gf2, ce, d0', q1]
       · unfold Ak at hq
         dsimp only at hq
         split at hq
         · split at hq
           · obtain ⟨p2, o⟩ := q
             have := CW hq; dsimp only; omega
           · cases hq
         · cases hq
     · rw [if_neg d0]
       have d0' : ((B : Int) == 0) = false := wz (by omega)
       by_cases d1 : B = 1
       · rw [if_pos d1]
         have d1' : ((B : Int) == 1) = true := wA (by omega)
         have f1 := JY h2
         have m1 := Bb h2 (yX yP) yP (by rw [Az]; omega) (Ad _ _)
         have f2 := Lb h2
         have m2 := Bb h2 (yX (List.replicate 30 5)) (List.replicate 30 5) (by rw [T9]; omega) (Ad _ _)
         obtain ⟨h', ov', S', q1, q2, q3, q4⟩ := F9 yP (List.replicate 30 5) (by rw [Az]; omega) (by rw [T9]; omega) b2 he2
         rw [hat, hout] at q4
         refine close _ h' ov' S' ?_ q2 q3 q4 (fun q hq => by obtain ⟨p2, o⟩ := q; have := AM hq; dsimp only; omega)
         generalize yd yP = bf at *
         generalize yd (List.replicate 30 5) = bd at *
         generalize yX yP = vf at *
         generalize yX (List.replicate 30 5) = vd at *
         simp only [I] at *
         simp only [AP.f8L0, go_sem, gf, a1, b1, gf2, ce, d0', d1', f1, m1, f2, m2, q1]
       · rw [if_neg d1]
         have d1' : ((B : Int) == 1) = false := wz (by omega)
         by_cases d2 : B = 2
         · rw [if_pos d2]
           have d2' : ((B : Int) == 2) = true := wA (by omega)
           obtain ⟨h', ov', S', q1, q2, q3, q4⟩ := Hc b2 he2
           rw [hat, hout] at q4
           refine close _ h' ov' S' ?_ q2 q3 q4 (fun q hq => ?_)
           · simp only [I] at *
             simp only [AP.f8L0, go_sem, gf, a1, b1, gf2, ce, d0', d1', d2', q1]
           · have hb : Av c.text c.most S.at_ S.out = .ok (xV c.text S.at_ 1 == 1, q.1, q.2) := by
              unfold Av
              rw [if_pos hp]
              dsimp only
              rw [← hB, if_neg d0, if_neg d1, if_pos d2, hq]
             have := EB hb
             exact this
         · rw [if_neg d2]
           have d2' : ((B : Int) == 2) = false := wz (by omega)
           obtain ⟨h', q1, q2, q3⟩ := zP b2
           refine close (.error 700) h' ov _ ?_ q2 q3 ⟨by simp [xZ, he2], by decide⟩ (fun q hq => by cases hq)
           simp only [I] at *
           simp only [AP.f8L0, go_sem, gf, a1, b1, gf2, ce, d0', d1', d2', q1]
   · rw [if_neg hp]
     have he2 : S2.e = 700 := by
      by_cases q1 : S.at_ + 1 ≤ 8 * c.text.size
      · have e1 : yo c 1 S = (xV c.text S.at_ 1, { S with at_ := S.at_ + 1 }) := by rw [yo, if_pos q1]
        rw [e1] at hS1; dsimp only at hS1
        have e2 : yo c 2 S1 = (0, { S1 with e := 700 }) := by rw [yo, if_neg (by rw [hS1]; show ¬ S.at_ + 1 + 2 ≤ _; omega), xZ, if_pos (by rw [hS1]; exact he)]
        rw [e2] at hS2
        rw [hS2]
      · have e1 : yo c 1 S = (0, { S with e := 700 }) := by rw [yo, if_neg q1, xZ, if_pos he]
        rw [e1] at hS1; dsimp only at hS1
        have e2 : yo c 2 S1 = (0, S1) := by rw [yo, if_neg (by rw [hS1]; show ¬ S.at_ + 2 ≤ _; omega), xZ, if_neg (by rw [hS1]; simp)]
        rw [e2] at hS2
        rw [hS2, hS1]
     have ce : (S2.e != 0) = true := wC (by rw [he2]; decide)
     refine ⟨[(7, .aF c.f 0), (8, I A), (9, I B), (38, .bool true)], h2, ov, S2, vC ?_, rfl, b2, fr2, he2, by decide⟩
     simp only [I] at *
     simp only [AP.f8L0, go_sem, gf, a1, b1, gf2, ce]
theorem Hd (h : H) (t : ByteArray) (most : Int) (hs : t.size < 1125899906842624) : aT AP.A 8 [.str t, I most] h = some (I7 (zK t most), h) := by
 unfold zK
 by_cases c1 : most < 0
 · rw [if_pos (.inl c1)]
   refine wj (fn := AP.f8) (h2 := h.eN) (e := [(4, .str ⟨#[]⟩), (5, I 0), (6, I 700)]) rfl rfl rfl ?_ rfl rfl
   simp only [I] at *
   simp only [AP.f8, go_sem, TO c1]
 by_cases c2 : 8192 < most
 · rw [if_pos (.inr c2)]
   refine wj (fn := AP.f8) (h2 := h.eN) (e := [(4, .str ⟨#[]⟩), (5, I 0), (6, I 700)]) rfl rfl rfl ?_ rfl rfl
   simp only [I] at *
   simp only [AP.f8, go_sem, TL c1, TO c2]
 rw [if_neg (by omega)]
 obtain ⟨h1, hh1⟩ : ∃ g, g = h.eN.alloc [.str t, I 0, .aR, I most, I 0] := ⟨_, rfl⟩
 have st : Ft ⟨h.next, t, most⟩ ⟨0, [], 0⟩ h1 .aR := by
  refine ⟨?_, .inl ⟨rfl, rfl⟩, ?_, by simp [AV.id?], ?_, hs, by simp, by simp; omega, by show most ≤ 900000; omega⟩
  · rw [hh1, H.aY, if_pos (show h.next = h.eN.next from rfl)]; rfl
  · rw [hh1]; simp
  · rw [hh1]; simp
 obtain ⟨e', h3, ov, S, q1, q2, q3, q4, q5⟩ := EH (8 * t.size + 1) ⟨0, [], 0⟩ h1 .aR st rfl (by show 8 * t.size < 0 + (8 * t.size + 1); omega)
 have gf := q3.gf
 have bx : ∀ e : Env, look e 19 = .agg [.str t, .int .i64 0, .aR, .int .i64 most, .int .i64 0] → bc e (.box 5 (.t 19)) = some ([.str t, .int .i64 0, .aR, .int .i64 most, .int .i64 0], fun i => .aF i 0) := by
  intro e q; simp only [bc, uM, q]; rfl
 have fl1 : eO [.str ⟨#[]⟩, .int .i64 0] [(0, 1, .str t)] = some [.str t, .int .i64 0] := rfl
 have fl2 : eO [.str ⟨#[]⟩, .int .i64 0, .aR, .int .i64 0, .int .i64 0] [(0, 2, .agg [.str t, .int .i64 0]), (3, 1, .int .i64 most)] = some [.str t, .int .i64 0, .aR, .int .i64 most, .int .i64 0] := rfl
 have hn : h.eN.next = h.next := rfl
 dsimp only at q5
 cases hi : zo t most (8 * t.size + 1) 0 [] with
 | error k =>
   rw [hi] at q5
   have c3 : (S.e != 0) = true := wC (by rw [q5.1]; exact q5.2)
   have hk : S.e = k := q5.1
   refine wj (fn := AP.f8) (h2 := h3) (e := [(4, .str ⟨#[]⟩), (5, I 0), (6, I k)]) rfl rfl rfl ?_ rfl rfl
   rw [hk] at gf c3
   simp only [I] at *
   simp only [AP.f8, go_sem, TL c1, TL c2, hn, TZ, Ui, fl1, fl2]
   rw [bx _ rfl]
   simp only [go_sem, ← hh1, hn, uK, q1, q2, gf, c3]
 | ok z =>
   obtain ⟨p, o⟩ := z
   rw [hi] at q5
   simp only [Fin] at q5
   have c3 : (S.e != 0) = false := wB (by rw [q5])
   have hb := Hw q3.own
   subst q5
   dsimp only at gf hb c3
   have hle := q3.yZ
   dsimp only at hle
   have w2 : IntKind.wrap .i64 ((p : Int) + 7) = ((p + 7 : Nat) : Int) := xR (n := p + 7) (by omega)
   have qd : bE .quo (.int .i64 ((p + 7 : Nat) : Int)) (.int .i64 8) = some (.int .i64 (((p + 7) / 8 : Nat) : Int)) := by
    rw [uz _ _ _ (by omega), show (8 : Int) = ((8 : Nat) : Int) from rfl, zj, xR (by omega)]
   refine wj (fn := AP.f8) (h2 := h3) (e := [(4, .str (bytesOf o)), (5, I ((p + 7) / 8 : Nat)), (6, I 0)]) rfl rfl rfl ?_ rfl rfl
   generalize (p + 7) / 8 = P at *
   generalize p + 7 = P7 at *
   simp only [I] at *
   simp only [AP.f8, go_sem, TL c1, TL c2, hn, TZ, Ui, fl1, fl2]
   rw [bx _ rfl]
   simp only [go_sem, ← hh1, hn, uK, q1, q2, gf, c3, w2, hb, qd]
abbrev E7 (k : Int) : Prop := k = 700 ∨ k = 701
theorem Ej {t : ByteArray} {most k : Int} : ∀ {n p : Nat} {out : List Nat}, zd t most n p out = .error k → E7 k
 | 0, p, out, h => by cases h
 | n + 1, p, out, h => by
   unfold zd at h
   split at h
   · split at h
     · cases h; exact .inr rfl
     · exact Ej h
   · cases h; exact .inl rfl
theorem GO {t : ByteArray} {most k : Int} {p : Nat} {out : List Nat} (h : Ak t most p out = .error k) : E7 k := by
 unfold Ak at h
 dsimp only at h
 split at h
 · split at h
   · exact Ej h
   · cases h; exact .inl rfl
 · cases h; exact .inl rfl
theorem ED {most k : Int} {d : Nat} : ∀ {n : Nat} {out : List Nat}, A8 most d n out = .error k → E7 k
 | 0, out, h => by cases h
 | n + 1, out, h => by
   unfold A8 at h
   split at h
   · cases h; exact .inr rfl
   · exact ED h
theorem IM {t : ByteArray} {most k : Int} {dl : List Int} {y p : Nat} {out : List Nat} (h : B7 t most dl y p out = .error k) : E7 k := by
 unfold B7 at h
 split at h
 · cases h; exact .inl rfl
 · split at h
   · split at h
     · cases h; exact .inl rfl
     · split at h
       · cases h; exact .inl rfl
       · split at h
         · split at h
           · cases h
           · rename_i q; cases h; exact ED q
         · cases h; exact .inl rfl
   · cases h; exact .inl rfl
theorem A1 {t : ByteArray} {most k : Int} {ll dl : List Int} : ∀ {n p : Nat} {out : List Nat}, zG t most ll dl n p out = .error k → E7 k
 | 0, p, out, h => by cases h; exact .inl rfl
 | n + 1, p, out, h => by
   unfold zG at h
   split at h
   · cases h; exact .inl rfl
   · split at h
     · split at h
       · cases h; exact .inr rfl
       · exact A1 h
     · split at h
       · cases h
       · split at h
         · exact A1 h
         · rename_i q; cases h; exact IM q
theorem JR {t : ByteArray} {most k : Int} {p : Nat} {out : List Nat} (h : En t most p out = .error k) : E7 k := by
 unfold En at h
 dsimp only at h
 split at h
 · split at h
   · cases h; exact .inl rfl
   · split at h
     · cases h; exact .inl rfl
     · split at h
       · cases h; exact .inl rfl
       · exact A1 h
 · cases h; exact .inl rfl
theorem G7 {t : ByteArray} {most k : Int} {p : Nat} {out : List Nat} (h : Av t most p out = .error k) : E7 k := by
 unfold Av at h
 dsimp only at h
 split at h
 · split at h
   · cases h
   · rename_i q
     cases h
     split at q
     · exact GO q
     · split at q
       · exact A1 q
       · split at q
         · exact JR q
         · cases q; exact .inl rfl
 · cases h; exact .inl rfl
theorem C7 {t : ByteArray} {most k : Int} : ∀ {n p : Nat} {out : List Nat}, zo t most n p out = .error k → E7 k
 | 0, p, out, h => by
   unfold zo at h
   cases h; exact .inl rfl
 | n + 1, p, out, h => by
   unfold zo at h
   split at h
   · rename_i q; cases h; exact G7 q
   · split at h
     · cases h
     · exact C7 h
theorem Cg {t : ByteArray} {most k : Int} (h : zK t most = .error k) : E7 k := by
 unfold zK at h
 split at h
 · cases h; exact .inl rfl
 · split at h
   · cases h
   · rename_i q; cases h; exact C7 q
theorem dt {p : Prop} [Decidable p] (h : p) : decide p = true := TO h
theorem df {p : Prop} [Decidable p] (h : ¬ p) : decide p = false := TL h
theorem TB {a b : Int} (h : a = b) : (a == b) = true := by simp [h]
theorem Tn {a b : Int} (h : ¬ a = b) : (a == b) = false := by simp [h]
theorem TE {a b : Int} (h : ¬ a = b) : (a != b) = true := by simp [h]
theorem Ts {a b : Int} (h : a = b) : (a != b) = false := by simp [h]
theorem wi {n : Int} (h : -9223372036854775808 ≤ n ∧ n < 9223372036854775808) : IntKind.wrap .i64 n = n := vT h.1 (by omega)
theorem wb {n : Int} (h : 0 ≤ n ∧ n < 256) : IntKind.wrap .u8 n = n := by
 simp [IntKind.wrap, IntKind.bits, IntKind.signed]; omega
theorem Qn {i : Int} {n : Nat} (h : 0 ≤ i ∧ i < n) : dz (.int .i64 i) n = some i.toNat := by
 simp [dz, pB, h]
def at_ : Nat → aI → aI
 | 0, .seq a _ => a
 | 0, c => c
 | n + 1, .seq _ b => at_ n b
 | _ + 1, c => c
def Te : Nat → aI → aI
 | 0, c => c
 | n + 1, .seq _ b => Te n b
 | _ + 1, c => c
theorem Qu (a b : aI) : at_ 0 (.seq a b) = a := rfl
theorem Qt (n : Nat) (a b : aI) : at_ (n + 1) (.seq a b) = at_ n b := rfl
theorem Ta (c : aI) : Te 0 c = c := rfl
theorem S9 (n : Nat) (a b : aI) : Te (n + 1) (.seq a b) = Te n b := rfl
theorem zI {h : H} {id i : Nat} (e : ¬ i = id) : (h.del id).get i = h.get i := by rw [H.eR, if_neg e]
theorem Co (h : H) : h.eN.next = h.next := wY rfl rfl
theorem Cb (h : H) : h.eN.floor = h.next := wY rfl rfl
theorem Cc (h : H) (i : Nat) : h.eN.get i = h.get i := wY rfl rfl
theorem Fv (h : H) (i : Nat) : (h.del i).next = h.next := wY rfl rfl
theorem Fp (h : H) (i : Nat) : (h.del i).floor = h.floor := wY rfl rfl
theorem xY {h : H} {cs : List AV} {i : Nat} (e : i = h.next) : (h.alloc cs).get i = some cs := by rw [H.aY, if_pos e]
theorem yq {h : H} {cs : List AV} {i : Nat} (e : ¬ i = h.next) : (h.alloc cs).get i = h.get i := by rw [H.aY, if_neg e]
theorem yM {h : H} {cs : List AV} {id i : Nat} (e : i = id) : (h.set id cs).get i = (h.get i).map fun _ => cs := by rw [H.dW, if_pos e, e]
theorem yA {h : H} {cs : List AV} {id i : Nat} (e : ¬ i = id) : (h.set id cs).get i = h.get i := by rw [H.dW, if_neg e]
def zg {α : Type} (b : Bool) (x : α) : Option α := if b then some x else none
theorem HG {α : Type} (x : α) : zg true x = some x := rfl
theorem KF (h : H) (id off n : Nat) (v cs : List AV) : wm h id off n v (some cs) = zg (decide (h.floor ≤ id) && (decide (v.length = n) && (decide (off + n ≤ cs.length) && AV.aE v))) (h.set id (setFrom cs off v)) := by
 simp only [wm, w9, zg]
 by_cases c : h.floor ≤ id ∧ v.length = n ∧ off + n ≤ cs.length ∧ AV.aE v = true
 · rw [if_pos c]; obtain ⟨c1, c2, c3, c4⟩ := c; simp [c1, c2, c3, c4]
 · rw [if_neg c, if_neg]; simpa using c
theorem TF (n : Nat) (cs : List AV) (off : Nat) : iW true n cs off = zg (decide (off + n ≤ cs.length)) (.agg ((cs.drop off).take n)) := by
 simp only [iW, zg, if_true, T7]
theorem JW (z : List AV) : eO z [] = some z := rfl
def Ga (r : List (Nat × Nat × AV)) (p : Option (List AV)) : Option (List AV) := p.bind fun z => eO z r
theorem HQ (r : List (Nat × Nat × AV)) (z : List AV) : Ga r (some z) = eO z r := rfl
theorem JV (z : List AV) (o n : Nat) (v : AV) (r : List (Nat × Nat × AV)) : eO z ((o, n, v) :: r) = Ga r (zg (decide (v.cells.length = n) && (decide (o + n ≤ z.length) && AV.aE v.cells)) (setFrom z o v.cells)) := by
 simp only [eO, zg]
 by_cases c : v.cells.length = n ∧ o + n ≤ z.length ∧ AV.aE v.cells = true
 · rw [if_pos c]; obtain ⟨c1, c2, c3⟩ := c; simp [c1, c2, c3, Ga]
 · rw [if_neg c, if_neg]; · rfl
   simpa using c
def FQ (p : Option (List AV)) (f : Nat → AV) : Option (List AV × (Nat → AV)) := p.bind fun cs => some (cs, f)
theorem JA (cs : List AV) (f : Nat → AV) : FQ (some cs) f = some (cs, f) := rfl
theorem Ez (e : Env) (z : List AV) : bc e (.alloc z) = FQ (zg (AV.aE z) z) (fun i => .aF i 0) := by
 simp only [bc, zg]; split <;> rfl
theorem Hx (e : Env) (n : Nat) (x : X) : bc e (.box n x) = FQ (zg (decide ((x.ev e).cells.length = n) && AV.aE (x.ev e).cells) (x.ev e).cells) (fun i => .aF i 0) := by
 simp only [bc, zg]
 by_cases c : (x.ev e).cells.length = n ∧ AV.aE (x.ev e).cells = true
 · rw [if_pos c]; simp [c, FQ]
 · rw [if_neg c, if_neg]; · rfl
   simpa using c
theorem DB (e : Env) (sz len : Nat) (z : List AV) (ps : List (Nat × X)) : bc e (.di sz len z ps) = FQ (Ga (ps.map fun p => (p.1 * sz, sz, p.2.ev e)) (zg (decide (z.length = sz) && (decide (0 < sz) && AV.aE z)) (eu len z))) (fun i => .aG i 0 len sz) := by
 simp only [bc, zg]
 by_cases c : z.length = sz ∧ 0 < sz ∧ AV.aE z = true
 · rw [if_pos c]; simp [c, FQ, Ga]
 · rw [if_neg c, if_neg]; · rfl
   simpa using c
theorem Kl (z : List AV) : eu 0 z = [] := rfl
theorem Kk (n : Nat) (z : List AV) : eu (n + 1) z = z ++ eu n z := rfl
def PZ (yY : List Nat) (e : Env) (h : H) (b : Bool) : ef := if b then some (.normal, az e yY, h) else none
theorem J4 (yY : List Nat) (e : Env) (h : H) : PZ yY e h true = some (.normal, az e yY, h) := rfl
def TC (c : ah) (ops : List ak) (fl : List (Nat × List Nat)) (yY : List Nat) (p : Option (Env × H × List H)) : ef := p.bind fun q => PZ yY q.1 q.2.1 (bg c ops q.1 q.2.2 fl)
theorem L9 (c : ah) (ops : List ak) (fl : List (Nat × List Nat)) (yY : List Nat) (e : Env) (h : H) (gs : List H) : TC c ops fl yY (some (e, h, gs)) = PZ yY e h (bg c ops e gs fl) := rfl
theorem Hv (c : ah) (l : bR) (ord : List Nat) (ops : List ak) (x : Nat × List Nat) (fl : List (Nat × List Nat)) (yY : List Nat) (e : Env) (h : H) : aN c l (.jG ord ops (x :: fl) yY) e h = TC c ops (x :: fl) yY (aP c ops e h) := by
 rw [aN]; rfl
theorem Mu (c : ah) (ops : List ak) (e : Env) (gs : List H) : bg c ops e gs [] = true := rfl
def S7 (c : ah) (ops : List ak) (e : Env) (gs : List H) (i : Nat) (ks : List Nat) : Bool := ks.all (bP c ops e gs i)
theorem Mt (c : ah) (ops : List ak) (e : Env) (gs : List H) (i : Nat) (ks : List Nat) (r : List (Nat × List Nat)) : bg c ops e gs ((i, ks) :: r) = (S7 c ops e gs i ks && bg c ops e gs r) := rfl
theorem Mr (c : ah) (ops : List ak) (e : Env) (gs : List H) (i : Nat) : S7 c ops e gs i [] = true := rfl
def LN (c : ah) (e : Env) (o : Option ak) (g : Option H) : Bool := match o, g with
 | some o, some g =>
   if o.op.aK then
    match o.dst.map (look e) with
    | some (.bW []) => true
    | some v => (match v.id?, bc e o.op with
      | some id, some b => (match g.get id with | some cs => AV.gY cs b.1 | none => false)
      | _, _ => false)
    | none => false
   else match o.dst.map (look e) with
    | some v => (match aj c o e g with | some (u, _) => AV.beq u v | none => false)
    | none => false
 | _, _ => false
theorem Mq (c : ah) (ops : List ak) (e : Env) (gs : List H) (i k : Nat) (r : List Nat) : S7 c ops e gs i (k :: r) = (LN c e (ops[i]?) (gs[k]?) && S7 c ops e gs i r) := by
 unfold S7
 rw [List.all_cons]
 congr 1
def Tw (v : AV) (p : Option (AV × H)) : Bool := match p with | some (u, _) => AV.beq u v | none => false
theorem Ms (v u : AV) (h : H) : Tw v (some (u, h)) = AV.beq u v := rfl
def Qo (b : Bool) (x y : Bool) : Bool := if b then x else y
theorem Mo (x y : Bool) : Qo false x y = y := rfl
def Es (c : ah) (e : Env) (o : Option ak) (g : Option H) : Bool := LN c e o g
theorem Mn (c : ah) (e : Env) (d : Nat) (op : cj) (g : H) : LN c e (some ⟨some d, op, none⟩) (some g) = Qo op.aK (Es c e (some ⟨some d, op, none⟩) (some g)) (Tw (look e d) (ai c e g op)) := by
 unfold Es LN Qo
 dsimp only
 cases op.aK <;> rfl
theorem Ml (c : ah) (e : Env) (d : Nat) (op : cj) (k : Nat) (w : Bool) (g : H) : LN c e (some ⟨some d, op, some (k, w)⟩) (some g) = Qo op.aK (Es c e (some ⟨some d, op, some (k, w)⟩) (some g)) (Tw (look e d) (mV w c e g op (look e k))) := by
 unfold Es LN Qo
 dsimp only
 cases op.aK with
 | true => rfl
 | false => rw [oG]; rfl
mutual
theorem beq_refl : ∀ a : AV, AV.beq a a = true
 | .bot => rfl
 | .bool b => by simp [AV.beq]
 | .int k n => by simp [AV.beq]
 | .str s => Dn s
 | .cQ => rfl
 | .aF i o => by simp [AV.beq]
 | .aM c o => by simp [AV.beq, ze c]
 | .aR => rfl
 | .aG i o l z => by simp [AV.beq]
 | .aX t c o l z => by simp [AV.beq, ze c]
 | .fn f a b => by simp [AV.beq, ze a, ze b]
 | .fJ => rfl
 | .iface t v => by simp [AV.beq, beq_refl v]
 | .fK => rfl
 | .agg c => by simp [AV.beq, ze c]
 | .bW c => by simp [AV.beq, ze c]
theorem ze : ∀ l : List AV, AV.gY l l = true
 | [] => rfl
 | a :: l => by simp [AV.gY, beq_refl a, ze l]
end
theorem Mp (x y : Bool) : Qo true x y = x := rfl
def Qx (c : Option (List AV)) (d : List AV) : Bool := match c with | some cs => AV.gY cs d | none => false
theorem LZ (c d : List AV) : Qx (some c) d = AV.gY c d := rfl
def FG (v : AV) (b : Option (List AV × (Nat → AV))) (g : H) : Bool := match v with
 | .bW [] => true
 | v => match v.id?, b with
   | some id, some b => Qx (g.get id) b.1
   | _, _ => false
theorem KE (b : Option (List AV × (Nat → AV))) (g : H) : FG (.bW []) b g = true := rfl
theorem KD (i o : Nat) (cs : List AV) (f : Nat → AV) (g : H) : FG (.aF i o) (some (cs, f)) g = Qx (g.get i) cs := rfl
theorem Kz (i o l z : Nat) (cs : List AV) (f : Nat → AV) (g : H) : FG (.aG i o l z) (some (cs, f)) g = Qx (g.get i) cs := rfl
theorem Ds {c : ah} {e : Env} {d : Nat} {op : cj} {gd : Option (Nat × Bool)} {g : H} (hb : op.aK = true) : Es c e (some ⟨some d, op, gd⟩) (some g) = FG (look e d) (bc e op) g := by
 unfold Es LN
 dsimp only
 rw [hb, if_pos rfl]
 show (match some (look e d) with
  | some (.bW []) => true
  | some v => (match v.id?, bc e op with
    | some id, some b => (match g.get id with | some cs => AV.gY cs b.1 | none => false)
    | _, _ => false)
  | none => false) = _
 generalize look e d = v
 unfold FG Qx
 cases v with
 | bW vs => cases vs <;> rfl
 | _ => cases bc e op <;> rfl
theorem Ei (c : ah) (e : Env) (d : Nat) (z : List AV) (gd : Option (Nat × Bool)) (g : H) : Es c e (some ⟨some d, .alloc z, gd⟩) (some g) = FG (look e d) (bc e (.alloc z)) g := Ds rfl
theorem GN (c : ah) (e : Env) (d n : Nat) (x : X) (gd : Option (Nat × Bool)) (g : H) : Es c e (some ⟨some d, .box n x, gd⟩) (some g) = FG (look e d) (bc e (.box n x)) g := Ds rfl
theorem Dh (c : ah) (e : Env) (d n m : Nat) (z : List AV) (ps : List (Nat × X)) (gd : Option (Nat × Bool)) (g : H) : Es c e (some ⟨some d, .di n m z ps, gd⟩) (some g) = FG (look e d) (bc e (.di n m z ps)) g := Ds rfl
theorem E8 (c : ah) (e : Env) (d n m : Nat) (z : List AV) (x y : X) (gd : Option (Nat × Bool)) (g : H) : Es c e (some ⟨some d, .jI n m z x y, gd⟩) (some g) = FG (look e d) (bc e (.jI n m z x y)) g := Ds rfl
theorem FM (b : Bool) : AV.beq (.bool b) (.bool b) = true := by simp [AV.beq]
theorem FP : AV.beq (.bW []) (.bW []) = true := rfl
theorem FN : AV.beq .aR .aR = true := rfl
theorem Ey : AV.beq .cQ .cQ = true := rfl
theorem J9 (sz id off len : Nat) (i : AV) : gV sz (.aG id off len sz) i = wF id off sz (dz i len) := by simp [gV, wF]
theorem J8 (t : Bool) (cells : List AV) (sz off len : Nat) (i : AV) : gV sz (.aX t cells off len sz) i = wG cells off sz (dz i len) := by simp [gV, wG]
def Ee (n : Nat) (z : List AV) : List AV := eu n z
def Mc (sz bytes : Nat) (zero : List AV) (l c : AV) : Option (List AV × (Nat → AV)) :=
 match l, c with
 | .int .i64 l, .int .i64 c => FQ (zg (decide (0 ≤ l) && (decide (l ≤ c) && (decide (c ≤ 9223372036854775807) && (decide ((bytes : Int) * c ≤ 281474976710656) && (decide (zero.length = sz) && (decide (0 < sz) && AV.aE zero)))))) (Ee c.toNat zero)) (fun i => .aG i 0 l.toNat sz)
 | _, _ => none
theorem Fu (sz bytes : Nat) (zero : List AV) (l c : Int) : Mc sz bytes zero (.int .i64 l) (.int .i64 c) = FQ (zg (decide (0 ≤ l) && (decide (l ≤ c) && (decide (c ≤ 9223372036854775807) && (decide ((bytes : Int) * c ≤ 281474976710656) && (decide (zero.length = sz) && (decide (0 < sz) && AV.aE zero)))))) (Ee c.toNat zero)) (fun i => .aG i 0 l.toNat sz) := rfl
theorem FR (e : Env) (sz bytes : Nat) (zero : List AV) (l c : X) : bc e (.jI sz bytes zero l c) = Mc sz bytes zero (l.ev e) (c.ev e) := by
 simp only [bc]
 cases l.ev e with
 | int k l => cases k <;> cases c.ev e with
   | int k2 c => cases k2 <;> first
     | rfl
     | (simp only [Fu, zg]
        by_cases q : 0 ≤ l ∧ l ≤ c ∧ c ≤ 9223372036854775807 ∧ (bytes : Int) * c ≤ 281474976710656 ∧ zero.length = sz ∧ 0 < sz ∧ AV.aE zero = true
        · rw [if_pos q]; obtain ⟨q1, q2, q3, q4, q5, q6, q7⟩ := q
          rw [if_pos]
          · rfl
          · simp [q1, q2, q3, q4, q5, q6, q7]
        · rw [if_neg q, if_neg]
          · rfl
          · simpa using q)
   | _ => rfl
 | _ => cases c.ev e <;> rfl
theorem Jw (i o l z : Nat) : jQ false (.aG i o l z) = some (.int .i64 l) := rfl
theorem Jv : jQ false .aR = some (.int .i64 0) := rfl
theorem Ju (t : Bool) (c : List AV) (o l z : Nat) : jQ false (.aX t c o l z) = some (.int .i64 l) := rfl
theorem BR (s : ByteArray) : jQ true (.str s) = some (.int .i64 s.size) := rfl
theorem KK (a b : Nat) : ((a : Int) + (b : Int)).toNat = a + b := by omega
theorem AE (a : Nat) : ((a : Int)).toNat = a := by omega
def Ap (s : ByteArray) (i : Nat) : Nat := ((s[i]?).map (·.toNat)).getD 0
theorem Bc (s : ByteArray) (i : Nat) : Ap s i < 256 := by
 unfold Ap
 cases s[i]? with
 | none => simp
 | some b => simp; exact b.toNat_lt
theorem Dr {s : ByteArray} {i : Int} (h : 0 ≤ i ∧ i < s.size) : nQ (.str s) (.int .i64 i) = some (.int .u8 (Ap s i.toNat : Nat)) := by
 have hi : i.toNat < s.size := by omega
 simp [nQ, Qn h, Ap, hi]
def CT {α : Type} (b : Bool) (x y : Option α) : Option α := if b then x else y
theorem Ko {α : Type} (x y : Option α) : CT true x y = x := rfl
theorem Kn {α : Type} (x y : Option α) : CT false x y = y := rfl
def Qg (n o k : Nat) (p : Option (List AV)) : Option (Nat × List AV) := p.bind fun cs => zg (decide (o + k * n ≤ cs.length)) (k, (cs.drop o).take (k * n))
theorem Ky (n o k : Nat) (cs : List AV) : Qg n o k (some cs) = zg (decide (o + k * n ≤ cs.length)) (k, (cs.drop o).take (k * n)) := rfl
theorem Mi (h : H) (n p o k : Nat) : aU h n (.aG p o k n) = Qg n o k (h.get p) := by
 simp only [aU, if_true, Qg]
 cases h.get p with
 | none => rfl
 | some cs => simp only [w9, zg, T7]
theorem Mf (h : H) (t : Bool) (n o k : Nat) (cs : List AV) : aU h n (.aX t cs o k n) = zg (decide (o + k * n ≤ cs.length)) (k, (cs.drop o).take (k * n)) := by
 simp only [aU, if_true, zg, T7]
theorem Mh (h : H) (n : Nat) : aU h n .aR = some (0, []) := wY rfl rfl
theorem Mj (h : H) (s : ByteArray) : aU h 1 (.str s) = some (s.size, s.data.toList.map fun b => .int .u8 b.toNat) := wY rfl rfl
def Qs (h : H) (n z : Nat) (a : AV) (p : Option (Nat × List AV)) : Option (AV × H) := p.bind fun r => eH h n z a r.1 r.2
theorem Jy (h : H) (n z : Nat) (a : AV) (m : Nat) (bs : List AV) : Qs h n z a (some (m, bs)) = eH h n z a m bs := rfl
theorem LX (h : H) (n z : Nat) (a b : AV) : mG h n z a b = Qs h n z a (aU h n b) := wY rfl rfl
def Tg (h : H) (n z p o k m : Nat) (bs : List AV) (q : Option (List AV)) : Option (AV × H) := q.bind fun cs =>
 CT (decide (o + (k + m) * n ≤ cs.length)) (some (.aG p o (k + m) n, h.set p (setFrom cs (o + k * n) bs))) (CT (decide (o + k * n = cs.length) && roomy z (k + m)) (some (.aG h.next 0 (k + m) n, (h.del p).alloc (cs.drop o ++ bs))) none)
theorem LU (h : H) (n z p o k m : Nat) (bs cs : List AV) : Tg h n z p o k m bs (some cs) = CT (decide (o + (k + m) * n ≤ cs.length)) (some (.aG p o (k + m) n, h.set p (setFrom cs (o + k * n) bs))) (CT (decide (o + k * n = cs.length) && roomy z (k + m)) (some (.aG h.next 0 (k + m) n, (h.del p).alloc (cs.drop o ++ bs))) none) := rfl
theorem LW (h : H) (n z p o k m : Nat) (bs : List AV) : eH h n z (.aG p o k n) m bs = CT (decide (m = 0)) (some (.aG p o k n, h)) (CT (AV.aE bs && (decide (0 < n) && decide (h.floor ≤ p))) (Tg h n z p o k m bs (h.get p)) none) := by
 unfold eH CT
 by_cases c : m = 0
 · simp [c]
 · rw [if_neg c]
   simp only [T7, if_neg c]
   by_cases c1 : AV.aE bs = false ∨ n = 0
   · rw [if_pos c1, if_neg]
     rcases c1 with c1 | c1
     · simp [c1]
     · simp [c1]
   · rw [if_neg c1]
     have q1 : AV.aE bs = true := by cases q : AV.aE bs with | true => rfl | false => exact absurd (.inl q) c1
     by_cases c2 : h.floor ≤ p
     · have qq : (AV.aE bs && (decide (0 < n) && decide (h.floor ≤ p))) = true := by simp [q1, c2]; omega
       simp only [true_and, if_pos c2, qq, if_true, Tg, CT]
       cases h.get p with
       | none => rfl
       | some cs => simp only [w9, T7, xe]
     · have qq : (AV.aE bs && (decide (0 < n) && decide (h.floor ≤ p))) = false := by simp [c2]
       simp only [true_and, if_neg c2, qq]; rfl
theorem LV (h : H) (n z m : Nat) (bs : List AV) : eH h n z .aR m bs = CT (decide (m = 0)) (some (.aR, h)) (CT (AV.aE bs && (decide (0 < n) && roomy z m)) (some (.aG h.next 0 m n, h.alloc bs)) none) := by
 unfold eH CT
 by_cases c : m = 0
 · simp [c]
 · rw [if_neg c]
   simp only [T7, if_neg c]
   by_cases c1 : AV.aE bs = false ∨ n = 0
   · rw [if_pos c1, if_neg]
     rcases c1 with c1 | c1
     · simp [c1]
     · simp [c1]
   · rw [if_neg c1]
     have q1 : AV.aE bs = true := by cases q : AV.aE bs with | true => rfl | false => exact absurd (.inl q) c1
     have q2 : 0 < n := by omega
     simp [q1, q2]
theorem Ii {b n : Nat} (h : 1 ≤ b ∧ (n + n / 4 + 512) * b ≤ 281474976710656) : roomy b n = true := by simp only [roomy, h.1, h.2, and_self, decide_true]
theorem Ks {h : H} {n p o k : Nat} {m : Int} {cs : List AV} (hg : h.get p = some cs) (hn : 0 < n) (hk : o + k * n ≤ cs.length) (hm : 0 ≤ m ∧ m.toNat ≤ (cs.length - o) / n) : uF h n (.aG p o k n) none (some (.int .i64 m)) none = some (.aG p o m.toNat n) := by
 have h1 : k ≤ (cs.length - o) / n := by rw [Nat.le_div_iff_mul_le hn]; omega
 simp only [uF, hn, and_self, if_true, hg, w9, aD]
 rw [if_pos ⟨by omega, h1⟩]
 have h3 : lU (.int .i64 m) ((cs.length - o) / n) = some m.toNat := by
  simp only [lU, pB, w9]
  rw [if_pos]
  omega
 simp [h3]
theorem CG {α : Type} {C : α → List AV} {n : Nat} (hC : ∀ x, (C x).length = n) : ∀ {l : List α} {i f : Nat} {x : α}, l[i]? = some x → f < n → (l.flatMap C)[i * n + f]? = (C x)[f]?
 | [], i, f, x, h, _ => by simp at h
 | y :: l, 0, f, x, h, hf => by
   obtain rfl : y = x := by simpa using h
   rw [List.flatMap_cons, Nat.zero_mul, xp, List.getElem?_append_left (by rw [hC]; exact hf)]
 | y :: l, i + 1, f, x, h, hf => by
   rw [List.flatMap_cons, List.getElem?_append_right (by rw [hC, xJ]; omega), hC]
   rw [show (i + 1) * n + f - n = i * n + f by rw [xJ]; omega]
   exact CG hC (by simpa using h) hf
theorem Hl {α : Type} {C : α → List AV} {n : Nat} (hC : ∀ x, (C x).length = n) : ∀ l : List α, (l.flatMap C).length = l.length * n
 | [] => by simp
 | y :: l => by rw [List.flatMap_cons, xN, hC, Hl hC l, TM, xJ]; omega
theorem HS {α : Type} {C : α → List AV} {n : Nat} (hC : ∀ x, (C x).length = n) : ∀ {l : List α} {i : Nat} {x : α}, l[i]? = some x → ((l.flatMap C).drop (i * n)).take n = C x
 | [], i, x, h => by simp at h
 | y :: l, 0, x, h => by
   obtain rfl : y = x := by simpa using h
   rw [List.flatMap_cons, Nat.zero_mul, TX, List.take_append_of_le_length (by rw [hC]; omega), xI (by rw [hC]; omega)]
 | y :: l, i + 1, x, h => by
   rw [List.flatMap_cons, List.drop_append, List.drop_of_length_le (by rw [hC, xJ]; omega), List.nil_append, hC, show (i + 1) * n - n = i * n by rw [xJ]; omega]
   exact HS hC (by simpa using h)
def zk (n : Nat) (h : H) (v : AV) (k : Nat) (cs : List AV) : Prop := aU h n v = some (k, cs) ∧ cs.length = k * n ∧ ∀ s, v ≠ .str s
theorem Rd.Jj {h : H} {v : AV} {cs : List AV} (r : Rd h v cs) : zk 1 h v cs.length cs := ⟨r.1, by omega, r.2⟩
theorem zk.len {n : Nat} {h : H} {v : AV} {k : Nat} {cs : List AV} (r : zk n h v k cs) : jQ false v = some (.int .i64 k) := by
 obtain ⟨r, _, hs⟩ := r
 unfold aU at r
 split at r
 · obtain ⟨h1, h2⟩ := wW (wU r); subst h1; rfl
 · exact absurd rfl (hs _)
 · split at r
   · simp only [wT] at r
     obtain ⟨c, _, r⟩ := r
     split at r
     · obtain ⟨h1, h2⟩ := wW (wU r); simp [jQ, h1]
     · cases r
   · cases r
 · split at r
   · split at r
     · obtain ⟨h1, h2⟩ := wW (wU r); simp [jQ, h1]
     · cases r
   · cases r
 · cases r
theorem zk.mono {n : Nat} {h g : H} {v : AV} {k : Nat} {cs : List AV} (r : zk n h v k cs) (hg : ∀ id c, h.get id = some c → g.get id = some c) : zk n g v k cs := by
 obtain ⟨r, hl, hs⟩ := r
 refine ⟨?_, hl, hs⟩
 unfold aU at r ⊢
 split at r
 · exact r
 · exact r
 · split at r
   · rename_i q; simp only [if_pos q, wT] at r ⊢
     obtain ⟨c, h1, r⟩ := r
     exact ⟨c, hg _ _ h1, r⟩
   · cases r
 · exact r
 · cases r
theorem zk.at_ {n : Nat} {h : H} {v : AV} {k : Nat} {cs : List AV} (r : zk n h v k cs) : ∃ ad : Int → Nat → AV,
 (∀ i : Int, 0 ≤ i ∧ i < k → gV n v (.int .i64 i) = some (ad i 0)) ∧
 (∀ (i : Int) (f g : Nat), 0 ≤ i ∧ i < k → fU g (ad i f) = some (ad i (f + g))) ∧
 (∀ (i : Int) (f : Nat) (g : H), 0 ≤ i ∧ i < k → ko g (ad i f) = some (ad i f, g)) ∧
 (∀ g : H, (∀ id c, h.get id = some c → g.get id = some c) → (∀ (i : Int) (f : Nat) (c : AV), 0 ≤ i ∧ i < k → cs[i.toNat * n + f]? = some c → cf false 1 (ad i f) g = some c) ∧
   ∀ i : Int, 0 ≤ i ∧ i < k → cf true n (ad i 0) g = some (.agg ((cs.drop (i.toNat * n)).take n))) := by
 obtain ⟨r, hl, hs⟩ := r
 unfold aU at r
 split at r
 · obtain ⟨h1, h2⟩ := wW (wU r); subst h1
   exact ⟨fun _ _ => .bot, fun i hi => by omega, fun i f g hi => by omega, fun i f g hi => by omega, fun g _ => ⟨fun i f c hi => by omega, fun i hi => by omega⟩⟩
 · exact absurd rfl (hs _)
 · rename_i id off len s
   split at r
   · rename_i q
     subst q
     simp only [wT] at r
     obtain ⟨d, hd, r⟩ := r
     split at r
     · rename_i hle
       obtain ⟨h1, h2⟩ := wW (wU r)
       subst h1
       have bnd : ∀ i : Int, 0 ≤ i ∧ i < len → i.toNat * s + s ≤ len * s := fun i hi => by
        have := xh s (show i.toNat + 1 ≤ len by omega); rw [xJ] at this; omega
       refine ⟨fun i f => .aF id (off + i.toNat * s + f), fun i hi => by simp [gV, Qn hi], fun i f g _ => by simp [fU]; omega, fun i f g _ => rfl, fun g hg => ⟨fun i f c hi hc => ?_, fun i hi => ?_⟩⟩
       · simp only [cf, hg _ _ hd, w9, iW, xa, xO]
         rw [← h2, xM] at hc
         split at hc
         · rw [xE] at hc; rw [xb]; exact hc
         · cases hc
       · have := bnd i hi
         simp only [cf, hg _ _ hd, w9, iW, if_true, Nat.add_zero]
         rw [if_pos (by omega), ← h2, List.drop_take, List.take_take, List.drop_drop, Nat.min_eq_left (by omega)]
     · cases r
   · cases r
 · rename_i t cells off len s
   split at r
   · rename_i q
     subst q
     split at r
     · rename_i hle
       obtain ⟨h1, h2⟩ := wW (wU r)
       subst h1
       have bnd : ∀ i : Int, 0 ≤ i ∧ i < len → i.toNat * s + s ≤ len * s := fun i hi => by
        have := xh s (show i.toNat + 1 ≤ len by omega); rw [xJ] at this; omega
       refine ⟨fun i f => .aM cells (off + i.toNat * s + f), fun i hi => by simp [gV, Qn hi], fun i f g _ => by simp [fU]; omega, fun i f g _ => rfl, fun g hg => ⟨fun i f c hi hc => ?_, fun i hi => ?_⟩⟩
       · simp only [cf, iW, xa, xO]
         rw [← h2, xM] at hc
         split at hc
         · rw [xE] at hc; rw [xb]; exact hc
         · cases hc
       · have := bnd i hi
         simp only [cf, iW, if_true, Nat.add_zero]
         rw [if_pos (by omega), ← h2, List.drop_take, List.take_take, List.drop_drop, Nat.min_eq_left (by omega)]
     · cases r
   · cases r
 · cases r
def yI (n : Nat) (h : H) (v : AV) (k : Nat) (cs : List AV) : Prop := cs.length = k * n ∧ ((v = .aR ∧ k = 0) ∨ ∃ id, v = .aG id 0 k n ∧ h.get id = some cs ∧ h.floor ≤ id ∧ 0 < k)
theorem yI.nil {n : Nat} {h : H} : yI n h .aR 0 [] := ⟨by simp, .inl ⟨rfl, rfl⟩⟩
theorem yI.mono {n : Nat} {h g : H} {v : AV} {k : Nat} {cs : List AV} (o : yI n h v k cs) (hf : g.floor = h.floor) (hg : ∀ i, v.id? = some i → g.get i = h.get i) : yI n g v k cs := by
 obtain ⟨l, o⟩ := o
 refine ⟨l, ?_⟩
 rcases o with o | ⟨id, rfl, h1, h2, h3⟩
 · exact .inl o
 · exact .inr ⟨id, rfl, by rw [hg id rfl]; exact h1, by rw [hf]; exact h2, h3⟩
theorem yI.sc {n : Nat} {h : H} {v : AV} {k : Nat} {cs : List AV} (o : yI n h v k cs) : v.sc = true := by
 rcases o.2 with ⟨rfl, _⟩ | ⟨id, rfl, _⟩ <;> rfl
theorem yI.lt {n : Nat} {h : H} {v : AV} {k : Nat} {cs : List AV} (o : yI n h v k cs) {i : Nat} (hi : v.id? = some i) : h.floor ≤ i ∧ i < h.next := by
 rcases o.2 with ⟨rfl, _⟩ | ⟨id, rfl, h1, h2⟩
 · cases hi
 · obtain rfl := wU hi; exact ⟨h2.1, h.lt _ _ h1⟩
theorem yI.rd {n : Nat} {h : H} {v : AV} {k : Nat} {cs : List AV} (o : yI n h v k cs) : zk n h v k cs := by
 obtain ⟨l, o⟩ := o
 rcases o with ⟨rfl, rfl⟩ | ⟨id, rfl, h1, h2⟩
 · have : cs = [] := Ua (by omega)
   subst this
   exact ⟨rfl, by simp, fun _ => by simp⟩
 · refine ⟨?_, l, fun _ => by simp⟩
   simp only [aU, if_true, h1, w9, xp]
   rw [if_pos (by omega), TX, xI (by omega)]
theorem yI.app {n : Nat} {h : H} {v : AV} {k : Nat} {cs : List AV} (o : yI n h v k cs) (hfn : h.floor ≤ h.next) {z m : Nat} (hm : 0 < m) (hn : 0 < n) (bs : List AV) (hb : bs.length = m * n) (hc : AV.aE bs = true) (hr : roomy z (k + m) = true) :
 ∃ v' h', eH h n z v m bs = some (v', h') ∧ yI n h' v' (k + m) (cs ++ bs) ∧ h'.floor = h.floor ∧ h.next ≤ h'.next ∧ (∀ i, v.id? ≠ some i → i ≠ h.next → h'.get i = h.get i) ∧ v'.id? = some h.next := by
 obtain ⟨hl, o⟩ := o
 have hll : (cs ++ bs).length = (k + m) * n := by rw [xN, hl, hb, xJ]
 rcases o with ⟨rfl, rfl⟩ | ⟨id, rfl, hg, hf, _⟩
 · have : cs = [] := Ua (by omega)
   subst this
   refine ⟨.aG h.next 0 m n, h.alloc bs, ?_, ⟨hll, .inr ⟨h.next, by simp, by simp [H.aY], by simp; omega, by omega⟩⟩, by simp, by simp, fun i _ hi => by rw [H.aY, if_neg hi], rfl⟩
   unfold eH
   rw [if_neg (by omega), if_neg (by simp [hc]; omega)]
   rw [xp] at hr
   simp only [hr, if_true]
 · have hmn : 0 < m * n := Nat.mul_pos hm hn
   have hnot : ¬ 0 + (k + m) * n ≤ cs.length := by rw [hl, xJ]; omega
   refine ⟨.aG h.next 0 (k + m) n, (h.del id).alloc (cs ++ bs), ?_, ⟨hll, .inr ⟨h.next, by simp, by simp [H.aY], ?_, by omega⟩⟩, by simp, by simp, fun i h1 h2 => ?_, rfl⟩
   · unfold eH
     rw [if_neg (by omega), if_neg (by simp [hc]; omega)]
     simp only [hf, and_self, if_true, hg, w9]
     rw [if_neg hnot, if_pos ⟨by omega, hr⟩]
     simp
   · have := h.lt id cs hg; simp; omega
   · rw [H.aY, H.ki, if_neg h2, H.eR, if_neg]
     intro e; subst e; exact h1 rfl
theorem yI.push {n : Nat} {h : H} {v : AV} {k : Nat} {cs : List AV} (o : yI n h v k cs) (hfn : h.floor ≤ h.next) {z m : Nat} (hm : 0 < m) (hn : 0 < n) (bs : List AV) (hb : bs.length = m * n) (hc : AV.aE bs = true) (hr : roomy z (k + m) = true) :
 ∃ v' h', mG (h.alloc bs) n z v (.aG h.next 0 m n) = some (v', h') ∧ yI n h' v' (k + m) (cs ++ bs) ∧ h'.floor = h.floor ∧ h.next + 1 ≤ h'.next ∧ (∀ i, v.id? ≠ some i → i < h.next → h'.get i = h.get i) ∧ v'.id? = some (h.next + 1) := by
 have o1 : yI n (h.alloc bs) v k cs := o.mono (by simp) fun i q => by rw [H.aY, if_neg]; have := o.lt q; omega
 obtain ⟨v', h', p1, p2, p3, p4, p5, p6⟩ := o1.app (z := z) (by simp; omega) hm hn bs hb hc hr
 refine ⟨v', h', ?_, p2, by rw [p3]; simp, by simpa using p4, fun i q1 q2 => ?_, by simpa using p6⟩
 · have src : aU (h.alloc bs) n (.aG h.next 0 m n) = some (m, bs) := by
    simp only [aU, if_true, H.aY, w9, xp]
    rw [if_pos (by omega), TX, xI (by omega)]
   unfold mG; rw [src, w9]; exact p1
 · rw [p5 i q1 (by simp; omega), H.aY, if_neg (by omega)]
def Jk (n k : Nat) (cs : List AV) : AV := if k = 0 then .aR else .aX false cs 0 k n
theorem Qa {n k : Nat} {h : H} {cs : List AV} (hl : cs.length = k * n) : zk n h (Jk n k cs) k cs := by
 unfold Jk
 by_cases hk : k = 0
 · subst hk
   have : cs = [] := Ua (by omega)
   subst this
   exact ⟨rfl, by simp, fun _ => by simp⟩
 · rw [if_neg hk]
   refine ⟨?_, hl, fun _ => by simp⟩
   simp only [aU, if_true, xp]
   rw [if_pos (by omega), TX, xI (by omega)]
theorem yI.Ar {n : Nat} {h : H} {v : AV} {k : Nat} {l : List Int} {fl m : Nat} {t : Bool} (o : yI n h v k (ints l)) (hf : fl ≤ h.floor) : snap h.get fl (m + 2) t v = some (Jk n k (ints l)) := by
 obtain ⟨hl, o⟩ := o
 rw [rF] at hl
 rcases o with ⟨rfl, rfl⟩ | ⟨id, rfl, q, h2, hk⟩
 · rfl
 · unfold snap
   rw [if_neg (by omega), q, w9, if_pos (by rw [rF]; omega)]
   rw [TX, xI (by rw [rF]; omega), zf]
   unfold Jk
   rw [if_neg (by omega)]; rfl
attribute [go_sem] List.map_cons List.map_nil Bool.and_true Bool.true_and Bool.and_self List.append_nil Option.map_some Option.map_none Bool.and_false Bool.false_and Bool.or_false Bool.or_true Bool.true_or Bool.false_or Bool.or_self cj.aQ cj.aK Int.reduceAdd Int.reduceSub Int.reduceMul Int.reduceNeg Int.reduceToNat List.take_succ_cons List.take_zero List.drop_zero List.drop_succ_cons Int.cast_ofNat_Int Int.natCast_one Int.natCast_zero List.length_set
theorem xX : type_of% @dt ∧ type_of% @df ∧ type_of% @TB ∧ type_of% @Tn ∧ type_of% @TE ∧ type_of% @Ts ∧ type_of% @wi ∧ type_of% @wb ∧ type_of% @BR ∧ type_of% @Dr ∧ type_of% @KK ∧ type_of% @AE ∧ type_of% @Qn ∧ type_of% @xY ∧ type_of% @yq ∧ type_of% @yM ∧ type_of% @yA ∧ type_of% @H.j6 ∧ type_of% @H.lK ∧ type_of% @H.mU ∧ type_of% @H.kj ∧ type_of% @KF ∧ type_of% @HG ∧ type_of% @JW ∧ type_of% @JV ∧ type_of% @HQ ∧ type_of% @DB ∧ type_of% @Ez ∧ type_of% @Hx ∧ type_of% @JA ∧ type_of% @Kk ∧ type_of% @Kl ∧ type_of% @rN ∧ type_of% @qP ∧ type_of% @uh ∧ type_of% @rX ∧ type_of% @J9 ∧ type_of% @J8 ∧ type_of% @u7 ∧ type_of% @u9 ∧ type_of% @FR ∧ type_of% @Fu ∧ type_of% @Jw ∧ type_of% @Jv ∧ type_of% @Ju ∧ type_of% @Hv ∧ type_of% @L9 ∧ type_of% @J4 ∧ type_of% @Mu ∧ type_of% @Mt ∧ type_of% @Mr ∧ type_of% @Mq ∧ type_of% @Ms ∧ type_of% @Mo ∧ type_of% @Dm ∧ type_of% @FM ∧ type_of% @FP ∧ type_of% @FN ∧ type_of% @Ey ∧ type_of% @Dn ∧ type_of% @BT ∧ type_of% @FO ∧ type_of% @AQ ∧ type_of% @CL ∧ type_of% @Kd ∧ type_of% @CJ ∧ type_of% @CO ∧ type_of% @CN ∧ type_of% @Mn ∧ type_of% @Ml ∧ type_of% @v7 ∧ type_of% @beq_refl ∧ type_of% @ze ∧ type_of% @Mp ∧ type_of% @LZ ∧ type_of% @KE ∧ type_of% @KD ∧ type_of% @Kz ∧ type_of% @Ei ∧ type_of% @GN ∧ type_of% @Dh ∧ type_of% @E8 := ⟨@dt, @df, @TB, @Tn, @TE, @Ts, @wi, @wb, @BR, @Dr, @KK, @AE, @Qn, @xY, @yq, @yM, @yA, @H.j6, @H.lK, @H.mU, @H.kj, @KF, @HG, @JW, @JV, @HQ, @DB, @Ez, @Hx, @JA, @Kk, @Kl, @rN, @qP, @uh, @rX, @J9, @J8, @u7, @u9, @FR, @Fu, @Jw, @Jv, @Ju, @Hv, @L9, @J4, @Mu, @Mt, @Mr, @Mq, @Ms, @Mo, @Dm, @FM, @FP, @FN, @Ey, @Dn, @BT, @FO, @AQ, @CL, @Kd, @CJ, @CO, @CN, @Mn, @Ml, @v7, @beq_refl, @ze, @Mp, @LZ, @KE, @KD, @Kz, @Ei, @GN, @Dh, @E8⟩
theorem Ba : type_of% @Co ∧ type_of% @Cc ∧ type_of% @Cb ∧ type_of% @Fv ∧ type_of% @Fp ∧ type_of% @zI ∧ type_of% @TF ∧ type_of% @Ko ∧ type_of% @Kn ∧ type_of% @Ky ∧ type_of% @Mi ∧ type_of% @Mf ∧ type_of% @Mh ∧ type_of% @Mj ∧ type_of% @Jy ∧ type_of% @LX ∧ type_of% @LU ∧ type_of% @LW ∧ type_of% @LV ∧ type_of% @Ii ∧ type_of% @Qu ∧ type_of% @Qt ∧ type_of% @Ta ∧ type_of% @S9 := ⟨@Co, @Cc, @Cb, @Fv, @Fp, @zI, @TF, @Ko, @Kn, @Ky, @Mi, @Mf, @Mh, @Mj, @Jy, @LX, @LU, @LW, @LV, @Ii, @Qu, @Qt, @Ta, @S9⟩
theorem yH : type_of% @H.lK ∧ type_of% @H.kj ∧ type_of% @Fv ∧ type_of% @Co ∧ type_of% @H.j6 ∧ type_of% @H.mU ∧ type_of% @Fp ∧ type_of% @Cb := ⟨@H.lK, @H.kj, @Fv, @Co, @H.j6, @H.mU, @Fp, @Cb⟩
theorem AY : type_of% @xY ∧ type_of% @yq ∧ type_of% @yM ∧ type_of% @yA ∧ type_of% @zI ∧ type_of% @Cc := ⟨@xY, @yq, @yM, @yA, @zI, @Cc⟩
end Ab
set_option maxRecDepth 100000
namespace Ab
open Go
theorem wrap_u32 {n : Nat} (h : n < 4294967296) : IntKind.wrap .u32 (n : Int) = n := by
 have e : IntKind.wrap .u32 (n : Int) = (n : Int) % 4294967296 := by simp [IntKind.wrap, IntKind.bits, IntKind.signed]
 rw [e]; omega
theorem Jp (n : Int) : IntKind.wrap .u32 n = n % 4294967296 := by simp [IntKind.wrap, IntKind.bits, IntKind.signed]
theorem wu {n : Int} (h : 0 ≤ n ∧ n < 4294967296) : IntKind.wrap .u32 n = n := by rw [Jp]; omega
theorem Bp {a b : Nat} (ha : a < 4294967296) (hb : b < 4294967296) : a ^^^ b < 4294967296 := Nat.xor_lt_two_pow (n := 32) ha hb
theorem Au {a b : Nat} (ha : a < 4294967296) (hb : b < 4294967296) : bits .xor .u32 (a : Int) (b : Int) = ((a ^^^ b : Nat) : Int) := by
 have h3 := Bp ha hb
 show IntKind.wrap .u32 (((BitVec.ofInt 32 (a : Int) ^^^ BitVec.ofInt 32 (b : Int)).toNat : Nat) : Int) = _
 rw [BitVec.toNat_xor, zF 32 a (by omega), zF 32 b (by omega)]
 exact wrap_u32 h3
theorem DD {a : Nat} (ha : a < 4294967296) : bits .and .u32 (a : Int) 1 = ((a % 2 : Nat) : Int) := by
 show IntKind.wrap .u32 (((BitVec.ofInt 32 (a : Int) &&& BitVec.ofInt 32 ((1 : Nat) : Int)).toNat : Nat) : Int) = _
 rw [BitVec.toNat_and, zF 32 a (by omega), zF 32 1 (by omega), Nat.and_one_is_mod]
 exact wrap_u32 (by omega)
theorem Iq {a : Nat} (ha : a < 4294967296) : qQ .shr .u32 (a : Int) 1 = some (.int .u32 ((a / 2 : Nat) : Int)) := by
 unfold qQ
 rw [if_neg (by omega)]
 have e : (2 : Int) ^ min (Int.toNat 1) IntKind.u32.bits = 2 := by decide
 rw [e]
 show some (AV.int .u32 _) = _
 rw [Int.fdiv_eq_ediv_of_nonneg _ (by omega)]
 rfl
theorem Fs {h : H} {a : Nat} (ha : a < 4294967296) : vg h (.int .u32 (a : Int)) = some (.int .u32 ((4294967295 - a : Nat) : Int), h) := by
 rw [we]
 have e : (if IntKind.u32.signed then -1 else IntKind.u32.max) = ((4294967295 : Nat) : Int) := by decide
 rw [e, Au (by omega) ha]
 have h2 : 4294967295 ^^^ a = 4294967295 - a := by
  have h1 : a < 2 ^ 32 := by simpa using ha
  have : 4294967295 - a = 2 ^ 32 - (a + 1) := by omega
  rw [this]
  apply Nat.eq_of_testBit_eq
  intro i
  rw [Nat.testBit_two_pow_sub_succ h1, Nat.testBit_xor, show 4294967295 = 2 ^ 32 - 1 from rfl, Nat.testBit_two_pow_sub_one]
  by_cases hi : i < 32
  · simp [hi]
  · have : a.testBit i = false := Nat.testBit_lt_two_pow (Nat.lt_of_lt_of_le h1 (TT (by omega) (by omega)))
    simp [hi, this]
 rw [h2]
def BJ (c : Nat) : Nat := if c % 2 = 1 then (c / 2) ^^^ 3988292384 else c / 2
def B8 : Nat → Nat → Nat
 | 0, c => c
 | n + 1, c => B8 n (BJ c)
def Ai (c b : Nat) : Nat := B8 8 (c ^^^ b)
def zS (s : ByteArray) : Nat → Nat → Nat → Nat
 | 0, _, c => c
 | n + 1, i, c => zS s n (i + 1) (Ai c (Ap s i))
theorem CA {c : Nat} (h : c < 4294967296) : BJ c < 4294967296 := by
 unfold BJ; split
 · exact Bp (by omega) (by omega)
 · omega
theorem DN : ∀ (n : Nat) {c : Nat}, c < 4294967296 → B8 n c < 4294967296
 | 0, _, h => h
 | n + 1, _, h => DN n (CA h)
theorem A4 {c b : Nat} (hc : c < 4294967296) (hb : b < 256) : Ai c b < 4294967296 := DN 8 (Bp hc (by omega))
theorem CD (s : ByteArray) : ∀ (n i : Nat) {c : Nat}, c < 4294967296 → zS s n i c < 4294967296
 | 0, _, _, h => h
 | n + 1, i, _, h => CD s n (i + 1) (A4 h (Bc s i))
theorem EM (a b d : AV) (h : H) : ∀ (n c k : Nat), k + n = 8 → c < 4294967296 →
 ∃ e', Lp AP.A [1, 5, 12, 13, 22] AP.f103L0 [(1, a), (5, .int .u32 c), (12, b), (13, d), (22, .int .i64 k)] h = some (.exit 2, e', h) ∧ look e' 1 = a ∧ look e' 5 = .int .u32 (B8 n c : Nat) ∧ look e' 12 = b ∧ look e' 13 = d
 | 0, c, k, hk, hc => by
   refine ⟨[(1, a), (5, .int .u32 c), (12, b), (13, d), (22, .int .i64 k), (23, .bool false)], vC ?_, rfl, rfl, rfl, rfl⟩
   simp (disch := omega) only [go_sem, xX, AP.f103L0]
 | n + 1, c, k, hk, hc => by
   obtain ⟨e', r1, r2, r3, r4, r5⟩ := EM a b d h n (BJ c) (k + 1) (by omega) (CA hc)
   have n1 : ((k + 1 : Nat) : Int) = (k : Int) + 1 := by omega
   have x1 := Au (a := c / 2) (b := 3988292384) (by omega) (by omega)
   have a1 := DD hc
   have s1 := Iq hc
   refine ⟨e', vD ?_ r1, r2, r3, r4, r5⟩
   rw [n1]
   unfold BJ
   by_cases p : c % 2 = 1
   · rw [if_pos p]
     rw [show ((3988292384 : Nat) : Int) = 3988292384 from rfl] at x1
     simp (disch := omega) only [go_sem, xX, AP.f103L0, a1, s1, x1]
   · rw [if_neg p]
     simp (disch := omega) only [go_sem, xX, AP.f103L0, a1, s1]
theorem EN (s : ByteArray) (hs : s.size < 1125899906842624) (h : H) : ∀ (n i c : Nat), i + n = s.size → c < 4294967296 →
 ∃ e', Lp AP.A [1, 5, 12, 13] AP.f103L1 [(1, .str s), (5, .int .u32 c), (12, .int .i64 s.size), (13, .int .i64 i)] h = some (.exit 0, e', h) ∧ look e' 5 = .int .u32 (zS s n i c : Nat)
 | 0, i, c, hi, hc => by
   refine ⟨[(1, .str s), (5, .int .u32 c), (12, .int .i64 s.size), (13, .int .i64 i), (14, .bool false)], vC ?_, rfl⟩
   simp (disch := omega) only [go_sem, xX, AP.f103L1]
 | n + 1, i, c, hi, hc => by
   have hb := Bc s i
   obtain ⟨e', r1, r2⟩ := EN s hs h n (i + 1) (Ai c (Ap s i)) (by omega) (A4 hc hb)
   obtain ⟨e1, q1, q2, q3, q4, q5⟩ := EM (.str s) (.int .i64 s.size) (.int .i64 i) h 8 (c ^^^ Ap s i) 0 rfl (Bp hc (by omega))
   have q1' : Lp AP.A [1, 5, 12, 13, 22] AP.f103L0 [(1, .str s), (5, .int .u32 (c ^^^ Ap s i : Nat)), (12, .int .i64 s.size), (13, .int .i64 i), (22, .int .i64 0)] h = some (.exit 2, e1, h) := q1
   clear q1
   have x1 := Au hc (show Ap s i < 4294967296 by omega)
   have n1 : ((i + 1 : Nat) : Int) = (i : Int) + 1 := by omega
   refine ⟨e', vD ?_ r1, r2⟩
   rw [n1]
   unfold Ai
   simp (disch := omega) only [go_sem, xX, AP.f103L1, wu, x1, uK, q1', q2, q3, q4, q5]
def zc (a : Nat) (s : ByteArray) : Nat := 4294967295 - zS s s.size 0 (4294967295 - a)
theorem DW (a : Nat) (s : ByteArray) : zc a s < 4294967296 := by unfold zc; omega
theorem Ho (h : H) (s : ByteArray) (a : Nat) (ha : a < 4294967296) (hs : s.size < 1125899906842624) : aT AP.A 103 [.int .i64 a, .str s] h = some (.int .i64 (zc a s : Nat), h) := by
 obtain ⟨e', r1, r2⟩ := EN s hs h.eN s.size 0 (4294967295 - a) (by omega) (by omega)
 have r1' : Lp AP.A [1, 5, 12, 13] AP.f103L1 [(1, .str s), (5, .int .u32 (4294967295 - a : Nat)), (12, .int .i64 s.size), (13, .int .i64 0)] h.eN = some (.exit 0, e', h.eN) := r1
 clear r1
 have lt := CD s s.size 0 (c := 4294967295 - a) (by omega)
 have v1 : ∀ g : H, vg g (.int .u32 (a : Int)) = some (.int .u32 ((4294967295 - a : Nat) : Int), g) := fun g => Fs ha
 have v2 : ∀ g : H, vg g (.int .u32 (zS s s.size 0 (4294967295 - a) : Nat)) = some (.int .u32 ((4294967295 - zS s s.size 0 (4294967295 - a) : Nat) : Int), g) := fun g => Fs lt
 refine wj (fn := AP.f103) (h2 := h.eN) (e := [(4, .int .i64 (zc a s : Nat))]) rfl rfl rfl ?_ rfl rfl
 unfold zc
 simp (disch := omega) only [go_sem, xX, AP.f103, wu, v1, v2, uK, r1', r2]
def Ch (x : Int) : Bool := decide (0 ≤ x ∧ x ≤ 4294967295)
theorem SW (h : H) (x : Int) : aT AP.A 105 [.int .i64 x] h = some (.bool (Ch x), h) := by
 refine wj (fn := AP.f105) (h2 := h.eN) (e := [(2, .bool (Ch x))]) rfl rfl rfl ?_ rfl rfl
 unfold Ch
 by_cases c1 : 0 ≤ x
 · by_cases c2 : x ≤ 4294967295
   · simp (disch := omega) only [go_sem, xX, AP.f105]
   · simp (disch := omega) only [go_sem, xX, AP.f105]
 · simp (disch := omega) only [go_sem, xX, AP.f105]
def y9 (s : ByteArray) : Nat := zc 0 s
theorem GB (h : H) (s : ByteArray) (hs : s.size < 1125899906842624) : aT AP.A 115 [.str s] h = some (.int .i64 (y9 s : Nat), h) := by
 have k1 := Ho h.eN s 0 (by omega) hs
 have k1' : aT AP.A 103 [.int .i64 0, .str s] h.eN = some (.int .i64 (y9 s : Nat), h.eN) := k1
 refine wj (fn := AP.f115) (h2 := h.eN) (e := [(2, .int .i64 (y9 s : Nat))]) rfl rfl rfl ?_ rfl rfl
 simp (disch := omega) only [go_sem, xX, AP.f115, k1']
theorem E9 (a d : AV) (h : H) : ∀ (n c k : Nat), k + n = 8 → c < 4294967296 →
 ∃ e', Lp AP.A [0, 1, 5, 6] AP.f111L0 [(0, .int .u32 c), (1, a), (5, d), (6, .int .i64 k)] h = some (.exit 2, e', h) ∧ look e' 1 = a ∧ look e' 0 = .int .u32 (B8 n c : Nat) ∧ look e' 5 = d
 | 0, c, k, hk, hc => by
   refine ⟨[(0, .int .u32 c), (1, a), (5, d), (6, .int .i64 k), (20, .bool false)], vC ?_, rfl, rfl, rfl⟩
   simp (disch := omega) only [go_sem, xX, AP.f111L0]
 | n + 1, c, k, hk, hc => by
   obtain ⟨e', r1, r2, r3, r4⟩ := E9 a d h n (BJ c) (k + 1) (by omega) (CA hc)
   have n1 : ((k + 1 : Nat) : Int) = (k : Int) + 1 := by omega
   have x1 := Au (a := c / 2) (b := 3988292384) (by omega) (by omega)
   have a1 := DD hc
   have s1 := Iq hc
   refine ⟨e', vD ?_ r1, r2, r3, r4⟩
   rw [n1]
   unfold BJ
   by_cases p : c % 2 = 1
   · rw [if_pos p]
     rw [show ((3988292384 : Nat) : Int) = 3988292384 from rfl] at x1
     simp (disch := omega) only [go_sem, xX, AP.f111L0, a1, s1, x1]
   · rw [if_neg p]
     simp (disch := omega) only [go_sem, xX, AP.f111L0, a1, s1]
theorem Fa (s : ByteArray) (hs : s.size < 1125899906842624) (h : H) : ∀ (n i c : Nat), i + n = s.size → c < 4294967296 →
 ∃ e', Lp AP.A [0, 1, 5] AP.f111L1 [(0, .int .u32 c), (1, .str s), (5, .int .i64 i)] h = some (.exit 0, e', h) ∧ look e' 0 = .int .u32 (zS s n i c : Nat)
 | 0, i, c, hi, hc => by
   refine ⟨[(0, .int .u32 c), (1, .str s), (5, .int .i64 i), (10, .bool false)], vC ?_, rfl⟩
   simp (disch := omega) only [go_sem, xX, AP.f111L1]
 | n + 1, i, c, hi, hc => by
   have hb := Bc s i
   obtain ⟨e', r1, r2⟩ := Fa s hs h n (i + 1) (Ai c (Ap s i)) (by omega) (A4 hc hb)
   obtain ⟨e1, q1, q2, q3, q4⟩ := E9 (.str s) (.int .i64 i) h 8 (c ^^^ Ap s i) 0 rfl (Bp hc (by omega))
   have q1' : Lp AP.A [0, 1, 5, 6] AP.f111L0 [(0, .int .u32 (c ^^^ Ap s i : Nat)), (1, .str s), (5, .int .i64 i), (6, .int .i64 0)] h = some (.exit 2, e1, h) := q1
   clear q1
   have x1 := Au hc (show Ap s i < 4294967296 by omega)
   have n1 : ((i + 1 : Nat) : Int) = (i : Int) + 1 := by omega
   refine ⟨e', vD ?_ r1, r2⟩
   rw [n1]
   unfold Ai
   simp (disch := omega) only [go_sem, xX, AP.f111L1, wu, x1, uK, q1', q2, q3, q4]
theorem Qk (h : H) (s : ByteArray) (c : Nat) (hc : c < 4294967296) (hs : s.size < 1125899906842624) : aT AP.A 111 [.int .u32 c, .str s] h = some (.int .u32 (zS s s.size 0 c : Nat), h) := by
 obtain ⟨e', r1, r2⟩ := Fa s hs h.eN s.size 0 c (by omega) hc
 have r1' : Lp AP.A [0, 1, 5] AP.f111L1 [(0, .int .u32 c), (1, .str s), (5, .int .i64 0)] h.eN = some (.exit 0, e', h.eN) := r1
 clear r1
 refine wj (fn := AP.f111) (h2 := h.eN) (e := [(4, .int .u32 (zS s s.size 0 c : Nat))]) rfl rfl rfl ?_ rfl rfl
 simp (disch := omega) only [go_sem, xX, AP.f111, uK, r1', r2]
theorem DM (h : H) (s : ByteArray) (hs : s.size < 1125899906842624) : aT AP.A 101 [.str s] h = some (.int .i64 (y9 s : Nat), h) := by
 have k1 := Qk h.eN s 4294967295 (by omega) hs
 have k1' : aT AP.A 111 [.int .u32 4294967295, .str s] h.eN = some (.int .u32 (zS s s.size 0 4294967295 : Nat), h.eN) := k1
 have lt := CD s s.size 0 (c := 4294967295) (by omega)
 have v2 : ∀ g : H, vg g (.int .u32 (zS s s.size 0 4294967295 : Nat)) = some (.int .u32 (y9 s : Nat), g) := fun g => Fs lt
 have lt2 := DW 0 s
 unfold y9 at v2 ⊢
 refine wj (fn := AP.f101) (h2 := h.eN) (e := [(2, .int .i64 (zc 0 s : Nat))]) rfl rfl rfl ?_ rfl rfl
 simp (disch := omega) only [go_sem, xX, AP.f101, k1', v2]
theorem GK {a s : Nat} (hs : s ≤ 64) : qQ .shr .i64 (a : Int) (s : Int) = some (.int .i64 ((a / 2 ^ s : Nat) : Int)) := by
 unfold qQ
 rw [if_neg (by omega)]
 simp only [IntKind.bits, Uc, Nat.min_eq_left hs]
 rw [Int.fdiv_eq_ediv_of_nonneg _ (Int.pow_nonneg (by omega))]
 simp
theorem GW (n : Nat) : IntKind.wrap .u8 (n : Int) = ((n % 256 : Nat) : Int) := by rw [KO]; omega
def Gv (x i : Nat) : Nat := x / 2 ^ (8 * i) % 256
def ym (x k : Nat) : List Nat := (List.range k).map (Gv x)
theorem EU (x k : Nat) : ym x (k + 1) = ym x k ++ [Gv x k] := by simp [ym, List.range_succ]
theorem yc (x k : Nat) : (ym x k).length = k := by simp [ym]
def Eo (x k : Nat) : ByteArray := bytesOf (ym x k)
theorem FK {h : H} {v : AV} {k : Nat} {l : List Nat} (o : yI 1 h v k (AL l)) : vY h v (aU h 1 v) = some (.str (bytesOf l), h) := by
 rw [o.rd.1]
 simp only [vY, w9, Fg]
 rcases o.2 with ⟨rfl, _⟩ | ⟨id, rfl, _⟩ <;> rfl
theorem AZ (a b : List Nat) : AL (a ++ b) = AL a ++ AL b := by simp [AL]
theorem DI (x : Nat) (k : Nat) (hk : k ≤ 8) : ∀ (m i : Nat) (h : H) (ov : AV), i + m = k → yI 1 h ov i (AL (ym x i)) → h.floor ≤ h.next →
 ∃ e' h' ov', Lp AP.A [0, 1, 5, 6] AP.f161L0 [(0, .int .i64 x), (1, .int .i64 k), (5, ov), (6, .int .i64 i)] h = some (.exit 0, e', h') ∧ look e' 5 = ov' ∧ yI 1 h' ov' k (AL (ym x k))
 | 0, i, h, ov, hi, o, hf => by
   obtain rfl : i = k := by omega
   refine ⟨[(0, .int .i64 x), (1, .int .i64 i), (5, ov), (6, .int .i64 i), (9, .bool false)], h, ov, vC ?_, rfl, o⟩
   simp (disch := omega) only [go_sem, xX, AP.f161L0]
 | m + 1, i, h, ov, hi, o, hf => by
   obtain ⟨v', h', p1, p2, p3, p4, p5, p6⟩ := o.push hf (z := 1) (m := 1) (by omega) (by omega) (AL [Gv x i]) rfl rfl (by simp [roomy]; omega)
   rw [← AZ, ← EU] at p2
   obtain ⟨e', h2, ov', r1, r2, r3⟩ := DI x k hk m (i + 1) h' v' (by omega) p2 (by omega)
   have n1 : ((i + 1 : Nat) : Int) = (i : Int) + 1 := by omega
   have n2 : (8 : Int) * (i : Int) = ((8 * i : Nat) : Int) := by omega
   have s1 := GK (a := x) (s := 8 * i) (by omega)
   have w1 := GW (x / 2 ^ (8 * i))
   simp only [AL, TZ, Ui, Gv] at p1
   refine ⟨e', h2, ov', vD ?_ r1, r2, r3⟩
   rw [n1]
   simp (disch := omega) only [go_sem, xX, AP.f161L0, n2, s1, w1, p1]
theorem BW (h : H) (x k : Nat) (hk : k ≤ 8) : aT AP.A 161 [.int .i64 x, .int .i64 k] h = some (.str (Eo x k), h) := by
 obtain ⟨e', h', ov', r1, r2, r3⟩ := DI x k hk k 0 h.eN .aR (by omega) (by simpa [ym, AL] using yI.nil) (by simp)
 have r1' : Lp AP.A [0, 1, 5, 6] AP.f161L0 [(0, .int .i64 x), (1, .int .i64 k), (5, .aR), (6, .int .i64 0)] h.eN = some (.exit 0, e', h') := r1
 clear r1
 have b := FK r3
 refine wj (fn := AP.f161) (h2 := h') (e := [(4, .str (Eo x k))]) rfl rfl rfl ?_ rfl rfl
 unfold Eo
 simp (disch := omega) only [go_sem, xX, AP.f161, uK, r1', r2, b]
theorem Gx (x k id : Nat) (hk : k ≤ 8) : ∀ (m i : Nat) (h : H), i + m = k → h.get id = some (AL (ym x i ++ List.replicate m 0)) → h.floor ≤ id →
 ∃ e' h', Lp AP.A [0, 5, 10, 11] AP.f104L0 [(0, .int .i64 x), (5, .aG id 0 k 1), (10, .int .i64 k), (11, .int .i64 i)] h = some (.exit 0, e', h') ∧ look e' 5 = .aG id 0 k 1 ∧ h'.get id = some (AL (ym x k)) ∧ h'.floor = h.floor
 | 0, i, h, hi, hg, hf => by
   obtain rfl : i = k := by omega
   refine ⟨[(0, .int .i64 x), (5, .aG id 0 i 1), (10, .int .i64 i), (11, .int .i64 i), (12, .bool false)], h, vC ?_, rfl, by simpa using hg, rfl⟩
   simp (disch := omega) only [go_sem, xX, AP.f104L0]
 | m + 1, i, h, hi, hg, hf => by
   have g2 : (h.set id (AL (ym x (i + 1) ++ List.replicate m 0))).get id = some (AL (ym x (i + 1) ++ List.replicate m 0)) := by rw [yM rfl, hg]; rfl
   obtain ⟨e', h', r1, r2, r3, r4⟩ := Gx x k id hk m (i + 1) _ (by omega) g2 (by simpa using hf)
   have n1 : ((i + 1 : Nat) : Int) = (i : Int) + 1 := by omega
   have n2 : (8 : Int) * (i : Int) = ((8 * i : Nat) : Int) := by omega
   have s1 := GK (a := x) (s := 8 * i) (by omega)
   have w1 := GW (x / 2 ^ (8 * i))
   have st : wm h id i 1 [.int .u8 ((x / 2 ^ (8 * i) % 256 : Nat) : Int)] (some (AL (ym x i ++ List.replicate (m + 1) 0))) = some (h.set id (AL (ym x (i + 1) ++ List.replicate m 0))) := by
    rw [wM hf (by simp [yc]) rfl]
    congr 2
    rw [EU, AZ, AZ, AZ, List.set_append_right _ _ (by simp [yc]), List.append_assoc]
    simp [yc, AL, List.replicate_succ, Gv]
   refine ⟨e', h', vD ?_ r1, r2, r3, by rw [r4]; simp⟩
   rw [n1]
   simp (disch := omega) only [go_sem, xX, AP.f104L0, n2, s1, w1, hg, st]
theorem BD (h : H) (x k : Nat) (hk : k ≤ 8) (hk0 : 0 < k) : aT AP.A 104 [.int .i64 x, .int .i64 k] h = some (.str (Eo x k), h) := by
 obtain ⟨h1, eh1⟩ : ∃ g, g = h.eN.alloc (Ee k [.int .u8 0]) := ⟨_, rfl⟩
 have hz : Ee k [.int .u8 0] = AL (ym x 0 ++ List.replicate k 0) := by
  unfold Ee; rw [FB]; simp [AL, ym]
 have g1 : h1.get h.next = some (AL (ym x 0 ++ List.replicate k 0)) := by rw [eh1, xY (by simp), hz]
 obtain ⟨e', h', r1, r2, r3, r4⟩ := Gx x k h.next hk k 0 h1 (by omega) g1 (by rw [eh1]; simp)
 have r1' : Lp AP.A [0, 5, 10, 11] AP.f104L0 [(0, .int .i64 x), (5, .aG h.next 0 k 1), (10, .int .i64 k), (11, .int .i64 0)] h1 = some (.exit 0, e', h') := r1
 clear r1
 have o : yI 1 h' (.aG h.next 0 k 1) k (AL (ym x k)) := ⟨by simp [yc], .inr ⟨h.next, rfl, r3, by rw [r4, eh1]; simp, hk0⟩⟩
 have b := FK o
 have hn : h.eN.next = h.next := rfl
 refine wj (fn := AP.f104) (h2 := h') (e := [(4, .str (Eo x k))]) rfl rfl rfl ?_ rfl rfl
 unfold Eo
 simp (disch := omega) only [go_sem, xX, AP.f104, uK, hn, ← eh1, r1', r2, b]
theorem Qr {k : IntKind} {i : Int} {n : Nat} (h : 0 ≤ i ∧ i < n) : dz (.int k i) n = some i.toNat := by simp [dz, pB, h]
def okB (b : Nat) : Bool := decide (97 ≤ b ∧ b ≤ 122 ∨ 48 ≤ b ∧ b ≤ 57 ∨ b = 46 ∨ b = 45 ∨ b = 95)
def zQ (s : ByteArray) : Nat → Nat → Bool
 | 0, _ => false
 | n + 1, i => decide (i = Ap s n) || zQ s n i
def Ly : ByteArray := ⟨#[97, 98, 99, 100, 101, 102, 103, 104, 105, 106, 107, 108, 109, 110, 111, 112, 113, 114, 115, 116, 117, 118, 119, 120, 121, 122, 48, 49, 50, 51, 52, 53, 54, 55, 56, 57, 46, 45, 95]⟩
def bT (P : Nat → Bool) : List AV := pf 256 fun i => .bool (P i)
theorem BE (P : Nat → Bool) : (bT P).length = 256 := by simp [bT]
theorem Mx (P : Nat → Bool) {i : Nat} (h : i < 256) : (bT P)[i]? = some (.bool (P i)) := gT h
theorem Mz (s : ByteArray) (n : Nat) : (bT (zQ s n)).set (Ap s n) (.bool true) = bT (zQ s (n + 1)) := by
 unfold bT
 rw [vS (Bc s n)]
 congr 1
 funext i
 have e : zQ s (n + 1) i = (decide (i = Ap s n) || zQ s n i) := rfl
 rw [e]
 unfold wq
 by_cases h : i = Ap s n
 · simp [h]
 · simp [h]
theorem Qv : bT (zQ Ly 39) = bT okB := by
 unfold bT pf
 refine List.map_congr_left fun i hi => ?_
 have hi' : i < 256 := List.mem_range.1 hi
 have : ∀ i, i < 256 → zQ Ly 39 i = okB i := by decide +kernel
 rw [this i hi']
theorem D4 (g : Nat → Option (List AV)) (fl n : Nat) (t : Bool) : ∀ l : List Bool, gK (snap g fl (n + 1) t) (l.map .bool) = some (l.map .bool)
 | [] => rfl
 | b :: l => by
   have := D4 g fl n t l
   simp only [TZ, gK, this]; rfl
theorem Ls (g : Nat → Option (List AV)) (fl n : Nat) (t : Bool) (P : Nat → Bool) : gK (snap g fl (n + 1) t) (bT P) = some (bT P) := by
 have e : bT P = ((List.range 256).map P).map .bool := by unfold bT pf; rw [List.map_map]; rfl
 rw [e]; exact D4 g fl n t _
theorem JB (e : Env) : bc e (.alloc [.bool false, .bool false, .bool false, .bool false, .bool false, .bool false, .bool false, .bool false, .bool false, .bool false, .bool false, .bool false, .bool false, .bool false, .bool false, .bool false, .bool false, .bool false, .bool false, .bool false, .bool false, .bool false, .bool false, .bool false, .bool false, .bool false, .bool false, .bool false, .bool false, .bool false, .bool false, .bool false, .bool false, .bool false, .bool false, .bool false, .bool false, .bool false, .bool false, .bool false, .bool false, .bool false, .bool false, .bool false, .bool false, .bool false, .bool false, .bool false, .bool false, .bool false, .bool false, .bool false, .bool false, .bool false, .bool false, .bool false, .bool false, .bool false, .bool false, .bool false, .bool false, .bool false, .bool false, .bool false, .bool false, .bool false, .bool false, .bool false, .bool false, .bool false, .bool false, .bool false, .bool false, .bool false, .bool false, .bool false, .bool false, .bool false, .bool false, .bool false, .bool false, .bool false, .bool false, .bool false, .bool false, .bool false, .bool false, .bool false, .bool false, .bool false, .bool false, .bool false, .bool false, .bool false, .bool false, .bool false, .bool false, .bool false, .bool false, .bool false, .bool false, .bool false, .bool false, .bool false, .bool false, .bool false, .bool false, .bool false, .bool false, .bool false, .bool false, .bool false, .bool false, .bool false, .bool false, .bool false, .bool false, .bool false, .bool false, .bool false, .bool false, .bool false, .bool false, .bool false, .bool false, .bool false, .bool false, .bool false, .bool false, .bool false, .bool false, .bool false, .bool false, .bool false, .bool false, .bool false, .bool false, .bool false, .bool false, .bool false, .bool false, .bool false, .bool false, .bool false, .bool false, .bool false, .bool false, .bool false, .bool false, .bool false, .bool false, .bool false, .bool false, .bool false, .bool false, .bool false, .bool false, .bool false, .bool false, .bool false, .bool false, .bool false, .bool false, .bool false, .bool false, .bool false, .bool false, .bool false, .bool false, .bool false, .bool false, .bool false, .bool false, .bool false, .bool false, .bool false, .bool false, .bool false, .bool false, .bool false, .bool false, .bool false, .bool false, .bool false, .bool false, .bool false, .bool false, .bool false, .bool false, .bool false, .bool false, .bool false, .bool false, .bool false, .bool false, .bool false, .bool false, .bool false, .bool false, .bool false, .bool false, .bool false, .bool false, .bool false, .bool false, .bool false, .bool false, .bool false, .bool false, .bool false, .bool false, .bool false, .bool false, .bool false, .bool false, .bool false, .bool false, .bool false, .bool false, .bool false, .bool false, .bool false, .bool false, .bool false, .bool false, .bool false, .bool false, .bool false, .bool false, .bool false, .bool false, .bool false, .bool false, .bool false, .bool false, .bool false, .bool false, .bool false, .bool false, .bool false, .bool false, .bool false, .bool false, .bool false, .bool false, .bool false, .bool false, .bool false, .bool false, .bool false, .bool false, .bool false, .bool false, .bool false, .bool false, .bool false]) = some (bT fun _ => false, fun i => .aF i 0) := rfl
theorem HZ (s : ByteArray) (hs : s.size < 100000) (h7 : ∀ i, i < s.size → Ap s i < 128) (id : Nat) : ∀ (m n : Nat) (h : H), n + m = s.size → h.get id = some (bT (zQ s n)) → h.floor ≤ id →
 ∃ e' h', Lp AP.A [0, 2, 4] AP.f127L0 [(0, .str s), (2, .aF id 0), (4, .int .i64 n)] h = some (.exit 0, e', h') ∧ look e' 2 = .aF id 0 ∧ h'.get id = some (bT (zQ s s.size)) ∧ h'.floor = h.floor
 | 0, n, h, hn, hg, hf => by
   obtain rfl : n = s.size := by omega
   refine ⟨[(0, .str s), (2, .aF id 0), (4, .int .i64 s.size), (9, .bool false)], h, vC ?_, rfl, hg, rfl⟩
   simp (disch := omega) only [go_sem, xX, AP.f127L0]
 | m + 1, n, h, hn, hg, hf => by
   have g2 : (h.set id (bT (zQ s (n + 1)))).get id = some (bT (zQ s (n + 1))) := by rw [yM rfl, hg]; rfl
   obtain ⟨e', h', r1, r2, r3, r4⟩ := HZ s hs h7 id m (n + 1) _ (by omega) g2 (by simpa using hf)
   have n1 : ((n + 1 : Nat) : Int) = (n : Int) + 1 := by omega
   have hb := Bc s n
   have hb7 := h7 n (by omega)
   have ia : dz (.int .u8 (Ap s n : Nat)) 256 = some (Ap s n) := by rw [Qr (by omega)]; rfl
   have st : wm h id (Ap s n) 1 [.bool true] (some (bT (zQ s n))) = some (h.set id (bT (zQ s (n + 1)))) := by rw [wM hf (by rw [BE]; exact hb) rfl, Mz]
   refine ⟨e', h', vD ?_ r1, r2, r3, by rw [r4]; simp⟩
   rw [n1]
   generalize bT (zQ s n) = T at *
   generalize bT (zQ s (n + 1)) = T2 at *
   simp (disch := omega) only [go_sem, xX, AP.f127L0, ia, hg, st]
theorem Bz {h : H} {id n : Nat} {v cs : List AV} (hf : h.floor ≤ id) (hv : v.length = n) (hc : cs.length = n) (hs : AV.aE v = true) : wm h id 0 n v (some cs) = some (h.set id v) := by
 rw [KF]
 have e : setFrom cs 0 v = v := by
  have := AK cs v [] [] (by omega)
  simpa using this
 simp [hf, hv, hc, hs, e, zg]
theorem LY (P : Nat → Bool) : AV.aE (bT P) = true := by
 have e : bT P = ((List.range 256).map P).map .bool := by unfold bT pf; rw [List.map_map]; rfl
 rw [e]
 generalize (List.range 256).map P = l
 induction l with
 | nil => rfl
 | cons b l ih => simp [ih]
theorem Qb (P : Nat → Bool) : iW true 256 (bT P) 0 = some (.agg (bT P)) := by
 simp only [iW, if_true]
 rw [if_pos (by rw [BE]; omega), TX, xI (by rw [BE]; omega)]
theorem Lu (h : H) (s : ByteArray) (hs : s.size < 100000) (h7 : ∀ i, i < s.size → Ap s i < 128) : aT AP.A 127 [.str s] h = some (.bW [.agg (bT (zQ s s.size)), .bool true], h) := by
 obtain ⟨h1, eh1⟩ : ∃ g, g = h.eN.alloc (bT fun _ => false) := ⟨_, rfl⟩
 have g1 : h1.get h.next = some (bT (zQ s 0)) := by rw [eh1, xY (by simp)]; rfl
 obtain ⟨e', h', r1, r2, r3, r4⟩ := HZ s hs h7 h.next s.size 0 h1 (by omega) g1 (by rw [eh1]; simp)
 have r1' : Lp AP.A [0, 2, 4] AP.f127L0 [(0, .str s), (2, .aF h.next 0), (4, .int .i64 0)] h1 = some (.exit 0, e', h') := r1
 clear r1
 obtain ⟨h2, eh2⟩ : ∃ g, g = h'.set h.next (bT (zQ s s.size)) := ⟨_, rfl⟩
 have st : wm h' h.next 0 256 (bT (zQ s s.size)) (some (bT (zQ s s.size))) = some h2 := by
  rw [Bz (by rw [r4, eh1]; simp) (BE _) (BE _) (LY _), eh2]
 have g2 : h2.get h.next = some (bT (zQ s s.size)) := by rw [eh2, yM rfl, r3]; rfl
 have hn : h.eN.next = h.next := rfl
 have rd := Qb (zQ s s.size)
 refine wj (fn := AP.f127) (h2 := h2) (e := [(2, .aF h.next 0), (3, .bool true)]) (vs := [.agg (bT (zQ s s.size)), .bool true]) rfl rfl rfl ?_ ?_ ?_
 · generalize bT (zQ s s.size) = T at *
   simp (disch := omega) only [go_sem, AP.f127, JB, hn, ← eh1, uK, r1', r2, r3, rd, st]
 · simp only [AP.f127, cW, oW, oK, td, g2, vu, rd, mY, ne_eq, Nat.reduceEqDiff, not_false_eq_true]
   rfl
 · show (gK (snap h2.get h.next 15 true) [.agg (bT (zQ s s.size)), .bool true]).bind _ = _
   have m1 : snap h2.get h.next 15 true (.agg (bT (zQ s s.size))) = some (.agg (bT (zQ s s.size))) := by
    unfold snap; rw [Ls]; rfl
   simp only [gK, m1]; rfl
theorem Ma (h : H) (id b : Nat) (P : Nat → Bool) (hg : h.get id = some (bT P)) (hb : b < 256) : aT AP.A 132 [.aF id 0, .int .u8 b] h = some (.bool (P b), h) := by
 have ia : dz (.int .u8 b) 256 = some b := by rw [Qr (by omega)]; congr 1
 have g := Mx P hb
 refine vP (fn := AP.f132) (h2 := h) (e := [(4, .bool (P b))]) (vs := [.bool (P b)]) rfl rfl rfl ?_ rfl
 generalize bT P = T at *
 simp (disch := omega) only [go_sem, xX, AP.f132, ia, hg, g]
theorem Jz {s : ByteArray} {n : Nat} (hn : n ≤ s.size) : pC (.str s) none (some (.int .i64 n)) = some (.str (s.extract 0 n)) := KT hn
theorem KU {s : ByteArray} {n : Nat} (hn : n ≤ s.size) : pC (.str s) (some (.int .i64 n)) none = some (.str (s.extract n s.size)) := by
 have : lU (.int .i64 n) s.size = some n := GJ hn
 simp [pC, aD, this]
theorem Dq {s : ByteArray} {a b i : Nat} (hb : b ≤ s.size) (hi : a + i < b) : Ap (s.extract a b) i = Ap s (a + i) := by
 have e : (s.extract a b)[i]? = s[a + i]? := by
  show (s.extract a b).data[i]? = s.data[a + i]?
  rw [ByteArray.data_extract, Array.getElem?_extract]
  have : s.data.size = s.size := rfl
  rw [if_pos (by omega)]
 unfold Ap; rw [e]
theorem Cs {s : ByteArray} {a b : Nat} (hb : b ≤ s.size) : (s.extract a b).size = b - a := by simp [ByteArray.size_extract]; omega
theorem HP (s : ByteArray) : s.extract 0 s.size = s := by
 apply ByteArray.ext
 rw [ByteArray.data_extract]
 exact Array.extract_size
theorem La (s : ByteArray) {n m : Nat} (hm : m ≤ n) : (s.extract 0 n).extract 0 m = s.extract 0 m := by
 apply ByteArray.ext
 rw [ByteArray.data_extract, ByteArray.data_extract, ByteArray.data_extract, Array.extract_extract]
 simp [hm]
theorem Ef (id : Nat) (P : Nat → Bool) (h : H) (hg : h.get id = some (bT P)) : ∀ (n : Nat) (s : ByteArray), s.size = n → n < 100000 →
 ∃ e' m, Lp AP.A [0, 1] AP.f129L0 [(0, .str s), (1, .aF id 0)] h = some (.exit 0, e', h) ∧ look e' 0 = .str (s.extract 0 m) ∧ m ≤ s.size ∧ (∀ i, m ≤ i → i < s.size → P (Ap s i) = true) ∧ (0 < m → P (Ap s (m - 1)) = false)
 | 0, s, hs, hn => by
   refine ⟨[(0, .str s), (1, .aF id 0), (7, .bool false)], 0, vC ?_, ?_, by omega, fun i h1 h2 => by omega, fun q => by omega⟩
   · simp (disch := omega) only [go_sem, xX, AP.f129L0]
   · show AV.str s = _
     congr 1
     have := HP s
     rw [hs] at this
     exact this.symm
 | n + 1, s, hs, hn => by
   have hb := Bc s n
   have k1 := Ma h id (Ap s n) P hg hb
   have n1 : (s.size : Int) - 1 = (n : Int) := by omega
   have sl := Jz (s := s) (n := n) (by omega)
   by_cases c : P (Ap s n) = true
   · rw [c] at k1
     obtain ⟨e', m, r1, r2, r3, r4, r5⟩ := Ef id P h hg n (s.extract 0 n) (by rw [Cs (by omega)]; omega) (by omega)
     rw [Cs (by omega)] at r3 r4
     refine ⟨e', m, vD ?_ r1, ?_, by omega, fun i h1 h2 => ?_, fun q => ?_⟩
     · simp (disch := omega) only [go_sem, xX, AP.f129L0, n1, k1, sl]
     · rw [r2]; congr 1; exact La s r3
     · by_cases hi : i = n
       · rw [hi]; exact c
       · have := r4 i h1 (by omega)
         rwa [Dq (by omega) (by omega), xp] at this
     · have := r5 q
       rwa [Dq (by omega) (by omega), xp] at this
   · have c' : P (Ap s n) = false := by simpa using c
     rw [c'] at k1
     refine ⟨[(0, .str s), (1, .aF id 0), (15, .bool true)], s.size, vC ?_, ?_, xc _, fun i h1 h2 => by omega, fun q => by rw [hs]; exact c'⟩
     · simp (disch := omega) only [go_sem, xX, AP.f129L0, n1, k1]
     · show AV.str s = _
       congr 1
       exact (HP s).symm
theorem Oc (s : ByteArray) {n : Nat} (h : s.size = n + 1) : (s.extract 1 s.size).size = n := by rw [Cs (xc _)]; omega
theorem EO (id : Nat) (P : Nat → Bool) (h : H) (hg : h.get id = some (bT P)) : ∀ (n : Nat) (s : ByteArray), s.size = n → n < 100000 → (0 < n → P (Ap s (n - 1)) = false) →
 ∃ e' r, Lp AP.A [0, 1] AP.f128L0 [(0, .str s), (1, .aF id 0)] h = some (.exit 0, e', h) ∧ look e' 0 = .str r ∧ (r.size = 0 ↔ n = 0)
 | 0, s, hs, hn, hp => by
   refine ⟨[(0, .str s), (1, .aF id 0), (7, .bool false)], s, vC ?_, rfl, by omega⟩
   simp (disch := omega) only [go_sem, xX, AP.f128L0]
 | n + 1, s, hs, hn, hp => by
   have hb := Bc s 0
   have k1 := Ma h id (Ap s 0) P hg hb
   have sl : pC (.str s) (some (.int .i64 1)) none = some (.str (s.extract 1 s.size)) := KU (s := s) (n := 1) (by omega)
   have ix : nQ (.str s) (.int .i64 0) = some (.int .u8 (Ap s 0 : Nat)) := Dr (by omega)
   by_cases c : P (Ap s 0) = true
   · rw [c] at k1
     have hn0 : n ≠ 0 := fun e => by subst e; have := hp (by omega); simp only [xp, Nat.sub_self] at this; rw [c] at this; cases this
     obtain ⟨e', r, r1, r2, r3⟩ := EO id P h hg n (s.extract 1 s.size) (Oc s hs) (by omega) (fun q => by
      rw [Dq (xc _) (by omega), show 1 + (n - 1) = n + 1 - 1 by omega]; exact hp (by omega))
     refine ⟨e', r, vD ?_ r1, r2, by omega⟩
     clear hp
     simp (disch := omega) only [go_sem, dt, df, BR, AP.f128L0, k1, sl, ix, TP, TW]
   · have c' : P (Ap s 0) = false := by simpa using c
     rw [c'] at k1
     refine ⟨[(0, .str s), (1, .aF id 0), (12, .bool true)], s, vC ?_, rfl, by omega⟩
     clear hp
     simp (disch := omega) only [go_sem, dt, df, BR, AP.f128L0, k1, sl, ix, TP, TW]
def BS (s : ByteArray) : Bool := (List.range s.size).all fun i => okB (Ap s i)
theorem D7 : Ly.size = 39 := rfl
theorem My : bT (zQ Ly Ly.size) = bT okB := Qv
theorem Tx (h : H) (s : ByteArray) (id : Nat) (P : Nat → Bool) (hg : h.get id = some (bT P)) (hs : s.size < 100000) (hp : 0 < s.size → P (Ap s (s.size - 1)) = false) : ∃ r, aT AP.A 128 [.str s, .aF id 0] h = some (.str r, h) ∧ (r.size = 0 ↔ s.size = 0) := by
 obtain ⟨e', r, r1, r2, r3⟩ := EO id P h hg s.size s rfl hs hp
 refine ⟨r, vP (fn := AP.f128) (h2 := h) (e := [(4, .str r)]) (vs := [.str r]) rfl rfl rfl ?_ rfl, r3⟩
 clear hp
 simp only [go_sem, AP.f128, uK, r1, r2]
theorem TA (h : H) (s : ByteArray) (id : Nat) (P : Nat → Bool) (hg : h.get id = some (bT P)) (hs : s.size < 100000) :
 ∃ m, aT AP.A 129 [.str s, .aF id 0] h = some (.str (s.extract 0 m), h) ∧ m ≤ s.size ∧ (∀ i, m ≤ i → i < s.size → P (Ap s i) = true) ∧ (0 < m → P (Ap s (m - 1)) = false) := by
 obtain ⟨e', m, r1, r2, r3, r4, r5⟩ := Ef id P h hg s.size s rfl hs
 refine ⟨m, vP (fn := AP.f129) (h2 := h) (e := [(4, .str (s.extract 0 m))]) (vs := [.str (s.extract 0 m)]) rfl rfl rfl ?_ rfl, r3, r4, r5⟩
 simp only [go_sem, AP.f129, uK, r1, r2]
theorem Ht {a b : ByteArray} (h : a ≠ b) : (a.data.toList == b.data.toList) = false := by
 rw [beq_eq_false_iff_ne]
 intro e
 apply h
 apply ByteArray.ext
 exact Array.toList_inj.1 e
theorem GP (a : ByteArray) : (a.data.toList == a.data.toList) = true := by simp
theorem Qj (h : H) (s : ByteArray) (h0 : 0 < s.size) (hs : s.size < 100000) : ∃ r, aT AP.A 124 [.str s, .str Ly] h = some (.str r, h) ∧ (r.size = 0 ↔ BS s = true) := by
 have m1 := Lu h.eN Ly (by rw [D7]; omega) (by rw [D7]; decide +kernel)
 rw [My] at m1
 obtain ⟨h1, eh1⟩ : ∃ g, g = h.eN.alloc (bT fun _ => false) := ⟨_, rfl⟩
 have hn : h.eN.next = h.next := rfl
 have g1 : h1.get h.next = some (bT fun _ => false) := by rw [eh1, xY (by simp)]
 obtain ⟨h2, eh2⟩ : ∃ g, g = h1.set h.next (bT okB) := ⟨_, rfl⟩
 have st : wm h1 h.next 0 256 (bT okB) (some (bT fun _ => false)) = some h2 := by
  rw [Bz (by rw [eh1]; simp) (BE _) (BE _) (LY _), eh2]
 have g2 : h2.get h.next = some (bT okB) := by rw [eh2, yM rfl, g1]; rfl
 obtain ⟨m, a1, a2, a3, a4⟩ := TA h2 s h.next okB g2 hs
 have sz := Cs (s := s) (a := 0) (b := m) a2
 obtain ⟨r, b1, b2⟩ := Tx h2 (s.extract 0 m) h.next okB g2 (by omega) (fun q => by
  rw [sz, Nat.sub_zero, Dq a2 (by omega), xp]; exact a4 (by omega))
 refine ⟨r, ?_, ?_⟩
 · have e1 : bE .eql (.str s) (.str ⟨#[]⟩) = some (.bool false) := by
    rw [Am, Ht]; intro e; rw [e] at h0; exact absurd h0 (by decide)
   have e2 : bE .eql (.str Ly) (.str ⟨#[]⟩) = some (.bool false) := by
    rw [Am, Ht]; intro e; have := D7; rw [e] at this; exact absurd this (by decide)
   have l2 : jQ true (.str Ly) = some (.int .i64 39) := rfl
   refine wj (fn := AP.f124) (h2 := h2) (e := [(4, .str r)]) rfl rfl rfl ?_ rfl rfl
   clear a3 a4
   generalize bT okB = T at *
   generalize hT : (bT fun _ => false) = T0 at *
   have ba : ∀ e : Env, bc e (.alloc [.bool false, .bool false, .bool false, .bool false, .bool false, .bool false, .bool false, .bool false, .bool false, .bool false, .bool false, .bool false, .bool false, .bool false, .bool false, .bool false, .bool false, .bool false, .bool false, .bool false, .bool false, .bool false, .bool false, .bool false, .bool false, .bool false, .bool false, .bool false, .bool false, .bool false, .bool false, .bool false, .bool false, .bool false, .bool false, .bool false, .bool false, .bool false, .bool false, .bool false, .bool false, .bool false, .bool false, .bool false, .bool false, .bool false, .bool false, .bool false, .bool false, .bool false, .bool false, .bool false, .bool false, .bool false, .bool false, .bool false, .bool false, .bool false, .bool false, .bool false, .bool false, .bool false, .bool false, .bool false, .bool false, .bool false, .bool false, .bool false, .bool false, .bool false, .bool false, .bool false, .bool false, .bool false, .bool false, .bool false, .bool false, .bool false, .bool false, .bool false, .bool false, .bool false, .bool false, .bool false, .bool false, .bool false, .bool false, .bool false, .bool false, .bool false, .bool false, .bool false, .bool false, .bool false, .bool false, .bool false, .bool false, .bool false, .bool false, .bool false, .bool false, .bool false, .bool false, .bool false, .bool false, .bool false, .bool false, .bool false, .bool false, .bool false, .bool false, .bool false, .bool false, .bool false, .bool false, .bool false, .bool false, .bool false, .bool false, .bool false, .bool false, .bool false, .bool false, .bool false, .bool false, .bool false, .bool false, .bool false, .bool false, .bool false, .bool false, .bool false, .bool false, .bool false, .bool false, .bool false, .bool false, .bool false, .bool false, .bool false, .bool false, .bool false, .bool false, .bool false, .bool false, .bool false, .bool false, .bool false, .bool false, .bool false, .bool false, .bool false, .bool false, .bool false, .bool false, .bool false, .bool false, .bool false, .bool false, .bool false, .bool false, .bool false, .bool false, .bool false, .bool false, .bool false, .bool false, .bool false, .bool false, .bool false, .bool false, .bool false, .bool false, .bool false, .bool false, .bool false, .bool false, .bool false, .bool false, .bool false, .bool false, .bool false, .bool false, .bool false, .bool false, .bool false, .bool false, .bool false, .bool false, .bool false, .bool false, .bool false, .bool false, .bool false, .bool false, .bool false, .bool false, .bool false, .bool false, .bool false, .bool false, .bool false, .bool false, .bool false, .bool false, .bool false, .bool false, .bool false, .bool false, .bool false, .bool false, .bool false, .bool false, .bool false, .bool false, .bool false, .bool false, .bool false, .bool false, .bool false, .bool false, .bool false, .bool false, .bool false, .bool false, .bool false, .bool false, .bool false, .bool false, .bool false, .bool false, .bool false, .bool false, .bool false, .bool false, .bool false, .bool false, .bool false, .bool false, .bool false, .bool false, .bool false, .bool false, .bool false, .bool false, .bool false, .bool false, .bool false, .bool false, .bool false, .bool false, .bool false, .bool false, .bool false, .bool false, .bool false]) = some (T0, fun i => .aF i 0) := fun e => by rw [JB, hT]
   simp (disch := omega) only [go_sem, AP.f124, ba, hn, ← eh1, e1, e2, l2, Tn, m1, g1, st, a1, b1]
 · rw [b2, sz]
   unfold BS
   rw [Uk]
   constructor
   · intro q i hi
     exact a3 i (by omega) (List.mem_range.1 hi)
   · intro q
     by_cases hm : m = 0
     · omega
     · have := a4 (by omega)
       rw [q (m - 1) (List.mem_range.2 (by omega))] at this
       cases this
def JQ : ByteArray := ⟨#[46]⟩
def F6 : ByteArray := ⟨#[46, 46]⟩
def zD (s : ByteArray) : Bool := decide (1 ≤ s.size) && (decide (s.size ≤ 8) && (BS s && (!(s.data.toList == JQ.data.toList) && !(s.data.toList == F6.data.toList))))
theorem P5 (h : H) (s : ByteArray) (hs : s.size < 1125899906842624) : aT AP.A 121 [.str s] h = some (.bool (zD s), h) := by
 refine wj (fn := AP.f121) (h2 := h.eN) (e := [(2, .bool (zD s))]) rfl rfl rfl ?_ rfl rfl
 unfold zD
 by_cases c1 : 1 ≤ s.size
 · by_cases c2 : s.size ≤ 8
   · obtain ⟨r, t1, t2⟩ := Qj h.eN s (by omega) (by omega)
     have t1' : aT AP.A 124 [.str s, .str ⟨#[97, 98, 99, 100, 101, 102, 103, 104, 105, 106, 107, 108, 109, 110, 111, 112, 113, 114, 115, 116, 117, 118, 119, 120, 121, 122, 48, 49, 50, 51, 52, 53, 54, 55, 56, 57, 46, 45, 95]⟩] h.eN = some (.str r, h.eN) := t1
     have e1 : bE .eql (.str r) (.str ⟨#[]⟩) = some (.bool (BS s)) := by
      rw [Am]
      by_cases q : BS s = true
      · rw [q]
        have : r = ⟨#[]⟩ := by
         apply ByteArray.ext
         exact Array.size_eq_zero_iff.1 (t2.2 q)
        rw [this, GP]
      · have q' : BS s = false := by simpa using q
        rw [q', Ht]
        intro e
        rw [e] at t2
        exact q (t2.1 rfl)
     have e2 : bE .neq (.str s) (.str ⟨#[46]⟩) = some (.bool (!(s.data.toList == JQ.data.toList))) := FH _ _
     have e3 : bE .neq (.str s) (.str ⟨#[46, 46]⟩) = some (.bool (!(s.data.toList == F6.data.toList))) := FH _ _
     clear t1 t2
     generalize (!(s.data.toList == JQ.data.toList)) = B2 at *
     generalize (!(s.data.toList == F6.data.toList)) = B3 at *
     generalize BS s = B1 at *
     cases B1 <;> cases B2 <;> cases B3 <;> simp (disch := omega) only [go_sem, xX, AP.f121, t1', e1, e2, e3]
   · simp (disch := omega) only [go_sem, xX, AP.f121]
 · simp (disch := omega) only [go_sem, xX, AP.f121]
theorem H8 (b : Nat) : okB b = true ↔ 97 ≤ b ∧ b ≤ 122 ∨ 48 ≤ b ∧ b ≤ 57 ∨ b = 46 ∨ b = 45 ∨ b = 95 := by simp [okB]
def zU (s : ByteArray) : Nat → Nat → Bool
 | 0, _ => true
 | n + 1, i => okB (Ap s i) && zU s n (i + 1)
theorem Dz (s : ByteArray) : ∀ n i, zU s n i = (List.range n).all fun j => okB (Ap s (i + j))
 | 0, _ => rfl
 | n + 1, i => by
   rw [zU, Dz s n (i + 1), List.range_succ_eq_map, List.all_cons, List.all_map]
   simp only [Nat.add_zero]
   congr 1
   refine Ue (fun f => (List.range n).all f) ?_
   funext j
   simp only [Function.comp, Nat.succ_eq_add_one]
   rw [show i + (j + 1) = i + 1 + j by omega]
theorem H0 (s : ByteArray) (hs : s.size < 100000) (h : H) : ∀ (n i : Nat), i + n = s.size →
 (∃ e', Lp AP.A [0, 3] AP.f173L0 [(0, .str s), (3, .int .i64 i)] h = some (.exit 0, e', h) ∧ zU s n i = true) ∨
 (∃ e', Lp AP.A [0, 3] AP.f173L0 [(0, .str s), (3, .int .i64 i)] h = some (.ret, e', h) ∧ look e' 2 = .bool false ∧ zU s n i = false)
 | 0, i, hi => by
   left
   refine ⟨[(0, .str s), (3, .int .i64 i), (24, .bool false)], vC ?_, rfl⟩
   simp (disch := omega) only [go_sem, xX, AP.f173L0]
 | n + 1, i, hi => by
   have hb := Bc s i
   have n1 : ((i + 1 : Nat) : Int) = (i : Int) + 1 := by omega
   have ix : nQ (.str s) (.int .i64 i) = some (.int .u8 (Ap s i : Nat)) := by rw [Dr (by omega), AE]
   by_cases c : okB (Ap s i) = true
   · have e : zU s (n + 1) i = zU s n (i + 1) := by simp [zU, c]
     rw [e]
     have ih := H0 s hs h n (i + 1) (by omega)
     rw [H8] at c
     generalize Ap s i = b at *
     have step : aN (aT AP.A) bI AP.f173L0 (az [(0, .str s), (3, .int .i64 i)] [0, 3]) h = some (.normal, [(0, .str s), (3, .int .i64 ((i : Int) + 1))], h) := by
      clear ih e
      rcases c with c | c | c | c | c
      · simp (disch := omega) only [go_sem, xX, AP.f173L0, ix]
      · simp (disch := omega) only [go_sem, xX, AP.f173L0, ix]
      · simp (disch := omega) only [go_sem, xX, AP.f173L0, ix]
      · simp (disch := omega) only [go_sem, xX, AP.f173L0, ix]
      · simp (disch := omega) only [go_sem, xX, AP.f173L0, ix]
     rw [n1] at ih
     rcases ih with ⟨e', r1, r2⟩ | ⟨e', r1, r2, r3⟩
     · exact .inl ⟨e', vD step r1, r2⟩
     · exact .inr ⟨e', vD step r1, r2, r3⟩
   · right
     refine ⟨[(2, .bool false)], vW ?_, rfl, by simp [zU, c]⟩
     rw [H8] at c
     generalize Ap s i = b at *
     have c1 : ¬ (97 ≤ b ∧ b ≤ 122) := by omega
     have c2 : ¬ (48 ≤ b ∧ b ≤ 57) := by omega
     have c3 : ¬ b = 46 := by omega
     have c4 : ¬ b = 45 := by omega
     have c5 : ¬ b = 95 := by omega
     clear c
     by_cases d1 : b < 97
     · by_cases d2 : b < 48
       · clear c1 c2; simp (disch := omega) only [go_sem, xX, AP.f173L0, ix]
       · have : 57 < b := by omega
         clear c1 c2; simp (disch := omega) only [go_sem, xX, AP.f173L0, ix]
     · have : 122 < b := by omega
       have d2 : ¬ b < 48 := by omega
       clear c1 c2; simp (disch := omega) only [go_sem, xX, AP.f173L0, ix]
theorem Lx (h : H) (s : ByteArray) (hs : s.size < 1125899906842624) : aT AP.A 173 [.str s] h = some (.bool (zD s), h) := by
 have e2 : bE .eql (.str s) (.str ⟨#[46]⟩) = some (.bool (s.data.toList == JQ.data.toList)) := Am _ _
 have e3 : bE .eql (.str s) (.str ⟨#[46, 46]⟩) = some (.bool (s.data.toList == F6.data.toList)) := Am _ _
 unfold zD
 generalize (s.data.toList == JQ.data.toList) = B2 at *
 generalize (s.data.toList == F6.data.toList) = B3 at *
 by_cases c1 : s.size < 1
 · refine wj (fn := AP.f173) (h2 := h.eN) (e := [(2, .bool false)]) rfl rfl rfl ?_ rfl (by rw [TL (show ¬ 1 ≤ s.size by omega)]; rfl)
   simp (disch := omega) only [go_sem, xX, AP.f173]
 by_cases c2 : 8 < s.size
 · refine wj (fn := AP.f173) (h2 := h.eN) (e := [(2, .bool false)]) rfl rfl rfl ?_ rfl (by rw [TL (show ¬ s.size ≤ 8 by omega), TV, TU]; rfl)
   simp (disch := omega) only [go_sem, xX, AP.f173]
 rw [TO (show 1 ≤ s.size by omega), TO (show s.size ≤ 8 by omega), Ub, Ub]
 cases B2 with
 | true =>
   refine wj (fn := AP.f173) (h2 := h.eN) (e := [(2, .bool false)]) rfl rfl rfl ?_ rfl (by rw [Bool.not_true, TV, TU]; rfl)
   simp (disch := omega) only [go_sem, xX, AP.f173, e2]
 | false =>
   cases B3 with
   | true =>
     refine wj (fn := AP.f173) (h2 := h.eN) (e := [(2, .bool false)]) rfl rfl rfl ?_ rfl (by rw [Bool.not_true, TU, TU]; rfl)
     simp (disch := omega) only [go_sem, xX, AP.f173, e2, e3]
   | false =>
     have ea : BS s = zU s s.size 0 := by rw [Dz]; simp [BS]
     rw [ea]
     rcases H0 s (by omega) h.eN s.size 0 (by omega) with ⟨e', r1, r2⟩ | ⟨e', r1, r2, r3⟩
     · have r1' : Lp AP.A [0, 3] AP.f173L0 [(0, .str s), (3, .int .i64 0)] h.eN = some (.exit 0, e', h.eN) := r1
       clear r1
       rw [r2]
       refine wj (fn := AP.f173) (h2 := h.eN) (e := [(2, .bool true)]) rfl rfl rfl ?_ rfl rfl
       simp (disch := omega) only [go_sem, xX, AP.f173, e2, e3, uK, r1']
     · have r1' : Lp AP.A [0, 3] AP.f173L0 [(0, .str s), (3, .int .i64 0)] h.eN = some (.ret, e', h.eN) := r1
       clear r1
       rw [r3]
       refine wj (fn := AP.f173) (h2 := h.eN) (e := e') (vs := [.bool false]) rfl rfl rfl ?_ (by simp only [AP.f173, cW, oW, r2]; rfl) rfl
       simp (disch := omega) only [go_sem, xX, AP.f173, e2, e3, uK, r1']
structure Tok where
 lit : Int
 len : Int
 TI : Int
deriving DecidableEq
def Ext (h g : H) : Prop := ∀ id c, h.get id = some c → g.get id = some c
theorem Ext.refl (h : H) : Ext h h := fun _ _ q => q
theorem Ext.trans {a b c : H} (x : Ext a b) (y : Ext b c) : Ext a c := fun i d q => y i d (x i d q)
theorem Ext.alloc {a h : H} (x : Ext a h) (cs : List AV) : Ext a (h.alloc cs) := fun i d q => by
 have := h.lt _ _ (x i d q)
 rw [H.aY, if_neg (by omega)]; exact x i d q
theorem Ext.set {a h : H} (x : Ext a h) {id : Nat} (hid : a.next ≤ id) (cs : List AV) : Ext a (h.set id cs) := fun i d q => by
 have := a.lt _ _ q
 rw [H.dW, if_neg (by omega)]; exact x i d q
def y0 (n : Int) : Bool := decide (0 ≤ n) && decide (n ≤ 1048576)
theorem HH (h : H) (n : Int) : aT AP.A 119 [.int .i64 n] h = some (.bool (y0 n), h) := by
 refine wj (fn := AP.f119) (h2 := h.eN) (e := [(2, .bool (y0 n))]) rfl rfl rfl ?_ rfl rfl
 unfold y0
 by_cases c1 : 0 ≤ n <;> by_cases c2 : n ≤ 1048576 <;> simp (disch := omega) only [go_sem, xX, AP.f119]
def D6 (n : Int) : Bool := decide (0 ≤ n) && decide (n < 4)
theorem P6 (h : H) (n : Int) : aT AP.A 120 [.int .i64 n] h = some (.bool (D6 n), h) := by
 refine wj (fn := AP.f120) (h2 := h.eN) (e := [(2, .bool (D6 n))]) rfl rfl rfl ?_ rfl rfl
 unfold D6
 by_cases c1 : 0 ≤ n <;> by_cases c2 : n < 4 <;> simp (disch := omega) only [go_sem, xX, AP.f120]
def Iv (v : AV) : Bool := match v with | .int .i64 n => !y0 n | _ => false
theorem Jm (h : H) (n : Int) : aT AP.A 123 [.int .i64 n] h = some (.bool (!y0 n), h) := by
 have k1 := HH h.eN n
 refine wj (fn := AP.f123) (h2 := h.eN) (e := [(2, .bool (!y0 n))]) rfl rfl rfl ?_ rfl rfl
 simp (disch := omega) only [go_sem, xX, AP.f123, k1]
def Ev (l : List Int) : Bool := decide (l.length = 4) && l.all y0
theorem CZ : ∀ l : List Int, (ints l).any Iv = !l.all y0
 | [] => rfl
 | n :: l => by
   have := CZ l
   simp only [ints, TZ, List.any_cons, List.all_cons, Bool.not_and] at *
   rw [this]; rfl
theorem Tc (h : H) (v : AV) (l : List Int) (rd : Rd h v (ints l)) (hl : l.length < 1125899906842624) : aT AP.A 117 [v] h = some (.bool (Ev l), h) := by
 have rd' := rd.mono (yg h)
 have ln := rd'.len
 rw [rF] at ln
 simp only [I] at ln
 refine wj (fn := AP.f117) (h2 := h.eN) (e := [(2, .bool (Ev l))]) rfl rfl rfl ?_ rfl rfl
 unfold Ev
 by_cases c : l.length = 4
 · have k1 := DL (fv := .fn 123 [] []) Iv (fun x hx g => by
    obtain ⟨n, hn, rfl⟩ := List.mem_map.1 hx
    rw [pF]; exact Jm g n) (by simp; omega) h.eN rd'
   rw [CZ] at k1
   have c' : (l.length : Int) = 4 := by omega
   simp (disch := omega) only [go_sem, xX, AP.f117, ln, k1, Bool.not_not]
 · have c' : ¬ (l.length : Int) = 4 := by omega
   simp (disch := omega) only [go_sem, xX, AP.f117, ln]
theorem Rd.zL {h : H} {v : AV} {l : List Int} (r : Rd h v (ints l)) : ∃ ad : Int → AV, (∀ i : Int, 0 ≤ i ∧ i < l.length → gV 1 v (.int .i64 i) = some (ad i)) ∧
 ∀ g : H, Ext h g → ∀ (i : Nat) (n : Int), l[i]? = some n → cf false 1 (ad i) g = some (.int .i64 n) := by
 have r2 := r.Jj
 rw [rF] at r2
 obtain ⟨ad, a1, _, _, a3⟩ := r2.at_
 refine ⟨fun i => ad i 0, a1, fun g hg i n hn => ?_⟩
 have hi : i < l.length := (w8.1 hn).1
 refine (a3 g hg).1 i 0 _ ⟨by omega, by omega⟩ ?_
 rw [AE, Uf, Nat.add_zero]
 exact ve hn
theorem Iz {v : AV} {l : List Int} (hl : l.length < 1125899906842624) (h : H) (rd : Rd h v (ints l)) : ∀ (q p : List Int), l = p ++ q →
 (∃ e', Lp AP.A [0, 3] AP.f172L0 [(0, v), (3, .int .i64 p.length)] h = some (.exit 0, e', h) ∧ look e' 0 = v ∧ q.all y0 = true) ∨
 (∃ e', Lp AP.A [0, 3] AP.f172L0 [(0, v), (3, .int .i64 p.length)] h = some (.ret, e', h) ∧ look e' 2 = .bool false ∧ q.all y0 = false)
 | [], p, hp => by
   left
   have ln := rd.len
   rw [rF] at ln
   simp only [I] at ln
   rw [TR] at hp; subst hp
   refine ⟨[(0, v), (3, .int .i64 l.length), (7, .bool false)], vC ?_, rfl, rfl⟩
   simp (disch := omega) only [go_sem, xX, AP.f172L0, ln]
 | n :: q, p, hp => by
   have ln := rd.len
   rw [rF] at ln
   simp only [I] at ln
   have hlen : l.length = p.length + (q.length + 1) := by rw [hp]; simp
   have hv : l[p.length]? = some n := by rw [hp]; simp
   obtain ⟨ad, a1, a2⟩ := rd.zL
   have b1 := a1 p.length ⟨by omega, by omega⟩
   have b2 := a2 h (Ext.refl h) _ _ hv
   have w1 : ((p.length : Int) + 1) = (((p ++ [n]).length : Nat) : Int) := by simp
   have ih := Iz hl h rd q (p ++ [n]) (by rw [hp]; simp)
   rw [← w1] at ih
   rw [List.all_cons]
   clear a1 a2
   by_cases c1 : n < 0
   · right
     refine ⟨[(2, .bool false)], vW ?_, rfl, by simp [y0]; omega⟩
     clear ih w1
     simp (disch := omega) only [go_sem, xX, AP.f172L0, ln, b1, b2]
   by_cases c2 : 1048576 < n
   · right
     refine ⟨[(2, .bool false)], vW ?_, rfl, by simp [y0]; omega⟩
     clear ih w1
     simp (disch := omega) only [go_sem, xX, AP.f172L0, ln, b1, b2]
   have cn : y0 n = true := by simp [y0]; omega
   rw [cn, Ub]
   have step : aN (aT AP.A) bI AP.f172L0 (az [(0, v), (3, .int .i64 p.length)] [0, 3]) h = some (.normal, [(0, v), (3, .int .i64 ((p.length : Int) + 1))], h) := by
    clear ih w1
    simp (disch := omega) only [go_sem, xX, AP.f172L0, ln, b1, b2]
   rcases ih with ⟨e', r1, r2, r3⟩ | ⟨e', r1, r2, r3⟩
   · exact .inl ⟨e', vD step r1, r2, r3⟩
   · exact .inr ⟨e', vD step r1, r2, r3⟩
theorem Ql (h : H) (v : AV) (l : List Int) (rd : Rd h v (ints l)) (hl : l.length < 1125899906842624) : aT AP.A 172 [v] h = some (.bool (Ev l), h) := by
 have rd' := rd.mono (yg h)
 have ln := rd'.len
 rw [rF] at ln
 simp only [I] at ln
 unfold Ev
 rcases Iz hl h.eN rd' l [] rfl with ⟨e', r1, r2, r3⟩ | ⟨e', r1, r2, r3⟩
 · have r1' : Lp AP.A [0, 3] AP.f172L0 [(0, v), (3, .int .i64 0)] h.eN = some (.exit 0, e', h.eN) := r1
   clear r1
   rw [r3, Bool.and_true]
   refine wj (fn := AP.f172) (h2 := h.eN) (e := [(2, .bool (decide (l.length = 4)))]) rfl rfl rfl ?_ rfl rfl
   by_cases c : l.length = 4
   · have c' : (l.length : Int) = 4 := by omega
     simp (disch := omega) only [go_sem, xX, AP.f172, ln, uK, r1', r2]
   · have c' : ¬ (l.length : Int) = 4 := by omega
     simp (disch := omega) only [go_sem, xX, AP.f172, ln, uK, r1', r2]
 · have r1' : Lp AP.A [0, 3] AP.f172L0 [(0, v), (3, .int .i64 0)] h.eN = some (.ret, e', h.eN) := r1
   clear r1
   rw [r3, TU]
   refine wj (fn := AP.f172) (h2 := h.eN) (e := e') (vs := [.bool false]) rfl rfl rfl ?_ (by simp only [AP.f172, cW, oW, r2]; rfl) rfl
   simp (disch := omega) only [go_sem, xX, AP.f172, ln, uK, r1', r2]
structure yR where
 name : ByteArray
 gone : Bool
 vec : List Int
 yu : Int
 node : Int
 method : Int
 packed : ByteArray
 size : Int
 A9 : Int
def ya (e : yR) (v : AV) : List AV := [.str e.name, .bool e.gone, v, .int .i64 e.yu, .int .i64 e.node, .int .i64 e.method, .str e.packed, .int .i64 e.size, .int .i64 e.A9]
def yQ (e : yR) : Bool := Ev e.vec && (decide (1 ≤ e.yu) && (y0 e.yu && D6 e.node))
structure PE (h : H) (p : AV) (cs : List AV) : Prop where
 nil : ∀ g : H, ko g p = some (p, g)
 vI : ∃ q : Nat → AV, (∀ k, fU k p = some (q k)) ∧ ∀ g : H, Ext h g → ∀ (k : Nat) (c : AV), cs[k]? = some c → cf false 1 (q k) g = some c
theorem J6 (h : H) (p v : AV) (e : yR) (pe : PE h p (ya e v)) (rd : Rd h v (ints e.vec)) (hl : e.vec.length < 1125899906842624) : aT AP.A 112 [p] h = some (.bool (yQ e), h) := by
 have nl := pe.nil
 obtain ⟨q, f1, f2⟩ := pe.vI
 have l2 := f2 h (Ext.refl h) 2 v rfl
 have l3 := f2 h (Ext.refl h) 3 _ rfl
 have l4 := f2 h (Ext.refl h) 4 _ rfl
 have k1 := Tc h v e.vec rd hl
 have k2 := HH h e.yu
 have k3 := P6 h e.node
 have c2 : y0 e.yu = true → 1 ≤ e.yu → True := fun _ _ => trivial
 refine vP (fn := AP.f112) (h2 := h) (e := [(2, .bool (yQ e))]) (vs := [.bool (yQ e)]) rfl rfl rfl ?_ rfl
 unfold yQ
 clear pe f2 rd c2
 generalize Ev e.vec = B1 at *
 generalize y0 e.yu = B2 at *
 generalize D6 e.node = B3 at *
 by_cases c1 : 1 ≤ e.yu <;> cases B1 <;> cases B2 <;> cases B3 <;> simp (disch := omega) only [go_sem, xX, AP.f112, nl, f1, l2, l3, l4, k1, k2, k3]
theorem HU (h : H) (v : AV) (e : yR) (rd : Rd h v (ints e.vec)) (hv : v.sc = true) (hl : e.vec.length < 1125899906842624) : aT AP.A 169 [.agg (ya e v)] h = some (.bool (yQ e), h) := by
 have hx : Ext h.eN (h.eN.alloc (ya e v)) := (Ext.refl _).alloc _
 have k1 := Ql (h.eN.alloc (ya e v)) v e.vec (rd.mono fun id c q => hx id c q) hl
 have g1 : (h.eN.alloc (ya e v)).get h.next = some (ya e v) := xY rfl
 have hn : h.eN.next = h.next := rfl
 refine wj (fn := AP.f169) (h2 := h.eN.alloc (ya e v)) (e := [(2, .bool (yQ e))]) rfl rfl rfl ?_ rfl rfl
 have hb : ∀ ev : Env, look ev 0 = .agg (ya e v) → bc ev (.box 9 (.t 0)) = some (ya e v, fun i => .aF i 0) := by
  intro ev q
  simp only [bc, uM, q, mM]
  rw [if_pos ⟨rfl, by simp [ya, hv]⟩]
 obtain ⟨h1, eh1⟩ : ∃ g, g = h.eN.alloc (ya e v) := ⟨_, rfl⟩
 rw [← eh1] at k1 g1 ⊢
 have hcnt : yQ e = (Ev e.vec && (decide (1 ≤ e.yu) && (decide (e.yu ≤ 1048576) && (decide (0 ≤ e.node) && decide (e.node < 4))))) := by
  unfold yQ y0 D6
  by_cases c1 : 1 ≤ e.yu
  · rw [TO (show 0 ≤ e.yu by omega)]; simp
  · simp [c1]
 rw [hcnt]
 clear hcnt rd hx
 generalize Ev e.vec = B1 at *
 simp only [oT, oU, AP.f169]
 rw [ux, uw, vp, jJ, hb _ rfl]
 simp only [nY, hn, ← eh1]
 simp only [ya] at g1
 cases B1 with
 | false => simp (disch := omega) only [go_sem, xX, k1, g1]
 | true =>
   by_cases c1 : 1 ≤ e.yu
   · by_cases c2 : e.yu ≤ 1048576
     · by_cases c3 : 0 ≤ e.node
       · by_cases c4 : e.node < 4 <;> simp (disch := omega) only [go_sem, xX, k1, g1]
       · simp (disch := omega) only [go_sem, xX, k1, g1]
     · simp (disch := omega) only [go_sem, xX, k1, g1]
   · simp (disch := omega) only [go_sem, xX, k1, g1]
def DV (s : ByteArray) : Bool := s.data.toList == (⟨#[]⟩ : ByteArray).data.toList
def zH (e : yR) : Bool :=
 if e.gone then decide (e.method = 0) && (DV e.packed && (decide (e.size = 0) && decide (e.A9 = 0)))
 else (decide (0 ≤ e.size) && (decide (e.size ≤ 300) && Ch e.A9)) && (decide (e.method = 0) && decide ((e.packed.size : Int) = e.size) || decide (e.method = 8) && decide (e.packed.size ≤ 300))
theorem IL (h : H) (p v : AV) (e : yR) (pe : PE h p (ya e v)) : aT AP.A 122 [p] h = some (.bool (zH e), h) := by
 have nl := pe.nil
 obtain ⟨q, f1, f2⟩ := pe.vI
 have l1 := f2 h (Ext.refl h) 1 _ rfl
 have l5 := f2 h (Ext.refl h) 5 _ rfl
 have l6 := f2 h (Ext.refl h) 6 _ rfl
 have l7 := f2 h (Ext.refl h) 7 _ rfl
 have l8 := f2 h (Ext.refl h) 8 _ rfl
 have k1 := SW h e.A9
 have e1 : bE .eql (.str e.packed) (.str ⟨#[]⟩) = some (.bool (DV e.packed)) := Am _ _
 refine vP (fn := AP.f122) (h2 := h) (e := [(2, .bool (zH e))]) (vs := [.bool (zH e)]) rfl rfl rfl ?_ rfl
 unfold zH
 clear pe f2
 generalize DV e.packed = B1 at *
 generalize Ch e.A9 = B2 at *
 cases hg : e.gone with
 | true =>
   rw [hg] at l1
   rw [if_pos rfl]
   by_cases c1 : e.method = 0
   · cases B1 with
     | false => simp (disch := omega) only [go_sem, xX, AP.f122, nl, f1, l1, l5, l6, l7, l8, e1]
     | true =>
       by_cases c2 : e.size = 0
       · by_cases c3 : e.A9 = 0 <;> simp (disch := omega) only [go_sem, xX, AP.f122, nl, f1, l1, l5, l6, l7, l8, e1]
       · simp (disch := omega) only [go_sem, xX, AP.f122, nl, f1, l1, l5, l6, l7, l8, e1]
   · simp (disch := omega) only [go_sem, xX, AP.f122, nl, f1, l1, l5, l6, l7, l8, e1]
 | false =>
   rw [hg] at l1
   rw [if_neg (by decide)]
   by_cases c1 : e.method = 0
   · have c1' : ¬ e.method = 8 := by omega
     by_cases c2 : (e.packed.size : Int) = e.size
     · by_cases c3 : 0 ≤ e.size
       · by_cases c4 : e.size ≤ 300
         · cases B2 <;> simp (disch := omega) only [go_sem, xX, AP.f122, nl, f1, l1, l5, l6, l7, l8, e1, k1]
         · simp (disch := omega) only [go_sem, xX, AP.f122, nl, f1, l1, l5, l6, l7, l8, e1, k1]
       · exfalso; omega
     · simp (disch := omega) only [go_sem, xX, AP.f122, nl, f1, l1, l5, l6, l7, l8, e1, k1]
   · by_cases c0 : e.method = 8
     · by_cases c2 : e.packed.size ≤ 300
       · by_cases c3 : 0 ≤ e.size
         · by_cases c4 : e.size ≤ 300
           · cases B2 <;> simp (disch := omega) only [go_sem, xX, AP.f122, nl, f1, l1, l5, l6, l7, l8, e1, k1]
           · simp (disch := omega) only [go_sem, xX, AP.f122, nl, f1, l1, l5, l6, l7, l8, e1, k1]
         · simp (disch := omega) only [go_sem, xX, AP.f122, nl, f1, l1, l5, l6, l7, l8, e1, k1]
       · simp (disch := omega) only [go_sem, xX, AP.f122, nl, f1, l1, l5, l6, l7, l8, e1, k1]
     · simp (disch := omega) only [go_sem, xX, AP.f122, nl, f1, l1, l5, l6, l7, l8, e1, k1]
def Ay (prev : Option yR) (e : yR) : Bool := zD e.name && ((match prev with | none => true | some p => Op.bytesLess p.name.toList e.name.toList) && (yQ e && zH e))
theorem Fo (e : yR) : Ay none e = (zD e.name && (yQ e && zH e)) := by simp [Ay]
theorem K8 (p e : yR) : Ay (some p) e = (zD e.name && (Op.bytesLess p.name.toList e.name.toList && (yQ e && zH e))) := rfl
def A6 : Option yR → List yR → Bool
 | _, [] => true
 | p, e :: r => Ay p e && A6 (some e) r
abbrev yC := yR × AV
def Oa (x : yC) : List AV := ya x.1 x.2
def yx (l : List yC) : List AV := l.flatMap Oa
theorem B9 (x : yC) : (Oa x).length = 9 := rfl
theorem Br (l : List yC) : (yx l).length = l.length * 9 := Hl B9 l
structure y8 (h : H) (x : yC) : Prop where
 vec : Rd h x.2 (ints x.1.vec)
 vl : x.1.vec.length < 1125899906842624
 nl : x.1.name.size < 1125899906842624
 pl : x.1.packed.size < 1125899906842624
theorem y8.mono {h g : H} {x : yC} (o : y8 h x) (e : Ext h g) : y8 g x := ⟨o.vec.mono fun i c q => e i c q, o.vl, o.nl, o.pl⟩
theorem IC {v : AV} {l : List yC} (hn : l.length < 1125899906842624) (h : H) (b : Nat) (hb : h.get b = some [v]) (rd : zk 9 h v l.length (yx l)) (hv : ∀ x ∈ l, y8 h x) : ∀ (q p : List yC), l = p ++ q →
 (∃ e', Lp AP.A [1, 7, 8] AP.f113L0 [(1, .aF b 0), (7, .int .i64 l.length), (8, .int .i64 p.length)] h = some (.exit 0, e', h) ∧ look e' 1 = .aF b 0 ∧ A6 (p.getLast?.map (·.1)) (q.map (·.1)) = true) ∨
 (∃ e', Lp AP.A [1, 7, 8] AP.f113L0 [(1, .aF b 0), (7, .int .i64 l.length), (8, .int .i64 p.length)] h = some (.ret, e', h) ∧ look e' 2 = .bool false ∧ A6 (p.getLast?.map (·.1)) (q.map (·.1)) = false)
 | [], p, hp => by
   left
   rw [TR] at hp; subst hp
   refine ⟨[(1, .aF b 0), (7, .int .i64 l.length), (8, .int .i64 l.length), (9, .bool false)], vC ?_, rfl, rfl⟩
   simp (disch := omega) only [go_sem, xX, AP.f113L0]
 | x :: q, p, hp => by
   have hlen : l.length = p.length + (q.length + 1) := by rw [hp]; simp
   have hx : l[p.length]? = some x := by rw [hp]; simp
   have ho := hv x (by rw [hp]; simp)
   obtain ⟨ad, a1, a2, a4, a3⟩ := rd.at_
   have hI : (0 : Int) ≤ (p.length : Int) ∧ (p.length : Int) < l.length := ⟨by omega, by omega⟩
   have b1 := a1 _ hI
   have pe : PE h (ad p.length 0) (ya x.1 x.2) := by
    refine ⟨fun g => a4 _ 0 g hI, fun k => ad p.length (0 + k), fun k => a2 _ 0 k hI, fun g hg k c hc => ?_⟩
    have hk : k < 9 := (w8.1 hc).1
    refine (a3 g hg).1 _ _ _ hI ?_
    rw [AE, xp, show yx l = l.flatMap Oa from rfl, CG B9 hx hk]; exact hc
   have k1 := P5 h x.1.name ho.nl
   have k2 := J6 h _ _ x.1 pe ho.vec ho.vl
   have k3 := IL h _ _ x.1 pe
   have nl := pe.nil
   obtain ⟨qq, f1, f2⟩ := pe.vI
   have l0 := f2 h (Ext.refl h) 0 _ rfl
   have ih := IC hn h b hb rd hv q (p ++ [x]) (by rw [hp]; simp)
   have w1 : (((p ++ [x]).length : Nat) : Int) = (p.length : Int) + 1 := by simp
   rw [w1, List.getLast?_concat] at ih
   have step : aN (aT AP.A) bI AP.f113L0 (az [(1, .aF b 0), (7, .int .i64 l.length), (8, .int .i64 p.length)] [1, 7, 8]) h = if Ay (p.getLast?.map (·.1)) x.1 then some (.normal, [(1, .aF b 0), (7, .int .i64 l.length), (8, .int .i64 ((p.length : Int) + 1))], h) else some (.ret, [(2, .bool false)], h) := by
    cases hl : p.getLast? with
    | none =>
      have hp0 : p = [] := List.getLast?_eq_none_iff.1 hl
      have hp1 : p.length = 0 := by rw [hp0]; rfl
      clear ih w1 pe f2 a1 a2 a3 a4 hl hv hp ho hx
      rw [TW, Fo]
      generalize zD x.1.name = B1 at *
      generalize yQ x.1 = B3 at *
      generalize zH x.1 = B4 at *
      cases B1 with
      | false =>
        rw [TV, if_neg (by decide)]
        simp (disch := omega) only [go_sem, xX, AP.f113L0, hb, b1, nl, f1, l0, k1, k2, k3]
      | true =>
        cases B3 with
        | false =>
          rw [TV, TU, if_neg (by decide)]
          simp (disch := omega) only [go_sem, xX, AP.f113L0, hb, b1, nl, f1, l0, k1, k2, k3]
        | true =>
          cases B4 with
          | false =>
            rw [TU, TU, if_neg (by decide)]
            simp (disch := omega) only [go_sem, xX, AP.f113L0, hb, b1, nl, f1, l0, k1, k2, k3]
          | true =>
            rw [Uj, Uj, if_pos rfl]
            simp (disch := omega) only [go_sem, xX, AP.f113L0, hb, b1, nl, f1, l0, k1, k2, k3]
    | some y =>
      obtain ⟨p', rfl⟩ : ∃ p', p = p' ++ [y] := List.getLast?_eq_some_iff.1 hl
      have hpl : (p' ++ [y]).length = p'.length + 1 := by simp
      have hy : l[p'.length]? = some y := by rw [hp]; simp
      have hJ : (0 : Int) ≤ (p'.length : Int) ∧ (p'.length : Int) < l.length := ⟨by omega, by omega⟩
      have bj := a1 _ hJ
      have fj := a2 _ 0 0 hJ
      have lj := (a3 h (Ext.refl h)).1 p'.length (0 + 0) (.str y.1.name) hJ (by
       rw [AE, show yx l = l.flatMap Oa from rfl, xp, CG B9 hy (by omega)]; rfl)
      have cmp : bE .geq (.str y.1.name) (.str x.1.name) = some (.bool (!(Op.bytesLess y.1.name.toList x.1.name.toList))) := rfl
      have n2 : (((p' ++ [y]).length : Nat) : Int) - 1 = (p'.length : Int) := by rw [hpl]; omega
      clear ih w1 pe f2 a1 a2 a3 a4 hl hv hp ho hx hy
      rw [TP, K8]
      simp only [Nat.add_zero] at fj lj
      generalize Op.bytesLess y.1.name.toList x.1.name.toList = B2 at *
      generalize zD x.1.name = B1 at *
      generalize yQ x.1 = B3 at *
      generalize zH x.1 = B4 at *
      generalize (p' ++ [y]).length = pl at *
      cases B1 with
      | false =>
        rw [TV, if_neg (by decide)]
        simp (disch := omega) only [go_sem, xX, AP.f113L0, hb, b1, nl, f1, l0, k1, k2, k3, bj, fj, lj, cmp, n2]
      | true =>
        cases B2 with
        | false =>
          rw [TV, TU, if_neg (by decide)]
          simp (disch := omega) only [go_sem, xX, AP.f113L0, hb, b1, nl, f1, l0, k1, k2, k3, bj, fj, lj, cmp, n2]
        | true =>
          cases B3 with
          | false =>
            rw [TV, TU, TU, if_neg (by decide)]
            simp (disch := omega) only [go_sem, xX, AP.f113L0, hb, b1, nl, f1, l0, k1, k2, k3, bj, fj, lj, cmp, n2]
          | true =>
            cases B4 with
            | false =>
              rw [TU, TU, TU, if_neg (by decide)]
              simp (disch := omega) only [go_sem, xX, AP.f113L0, hb, b1, nl, f1, l0, k1, k2, k3, bj, fj, lj, cmp, n2]
            | true =>
              rw [Uj, Uj, Uj, if_pos rfl]
              simp (disch := omega) only [go_sem, xX, AP.f113L0, hb, b1, nl, f1, l0, k1, k2, k3, bj, fj, lj, cmp, n2]
   have hmay : A6 (p.getLast?.map (·.1)) ((x :: q).map (·.1)) = (Ay (p.getLast?.map (·.1)) x.1 && A6 (some x.1) (q.map (·.1))) := rfl
   rw [hmay]
   by_cases hok : Ay (p.getLast?.map (·.1)) x.1 = true
   · rw [if_pos hok] at step
     rw [hok, Ub]
     rcases ih with ⟨e', r1, r2, r3⟩ | ⟨e', r1, r2, r3⟩
     · exact .inl ⟨e', vD step r1, r2, r3⟩
     · exact .inr ⟨e', vD step r1, r2, r3⟩
   · have hok' : Ay (p.getLast?.map (·.1)) x.1 = false := by simpa using hok
     rw [if_neg hok] at step
     rw [hok', TV]
     exact .inr ⟨_, vW step, rfl, rfl⟩
def zN (l : List yR) : Bool := A6 none l && decide (l.length ≤ 6)
theorem KP (h : H) (v : AV) (l : List yC) (hvs : v.sc = true) (hn : l.length < 1125899906842624) (rd : zk 9 h v l.length (yx l)) (hv : ∀ x ∈ l, y8 h x) : aT AP.A 113 [.agg [v]] h = some (.bool (zN (l.map (·.1))), h) := by
 obtain ⟨h1, eh1⟩ : ∃ g, g = h.eN.alloc [v] := ⟨_, rfl⟩
 have hx : Ext h.eN h1 := by rw [eh1]; exact (Ext.refl _).alloc _
 have hx0 : Ext h h1 := fun i c q => hx i c q
 have hn0 : h.eN.next = h.next := rfl
 have g1 : h1.get h.next = some [v] := by rw [eh1]; exact xY rfl
 have rd1 := rd.mono fun i c q => hx0 i c q
 have ln := rd1.len
 have hb : ∀ ev : Env, look ev 0 = .agg [v] → bc ev (.box 1 (.t 0)) = some ([v], fun i => .aF i 0) := by
  intro ev q
  simp only [bc, uM, q, mM]
  rw [if_pos ⟨rfl, by simp [hvs]⟩]
 unfold zN
 rcases IC hn h1 h.next g1 rd1 (fun x hx => (hv x hx).mono hx0) l [] rfl with ⟨e', r1, r2, r3⟩ | ⟨e', r1, r2, r3⟩
 · have r1' : Lp AP.A [1, 7, 8] AP.f113L0 [(1, .aF h.next 0), (7, .int .i64 l.length), (8, .int .i64 0)] h1 = some (.exit 0, e', h1) := r1
   clear r1
   have r3' : A6 none (l.map (·.1)) = true := r3
   rw [r3', Ub, TQ]
   refine wj (fn := AP.f113) (h2 := h1) (e := [(2, .bool (decide (l.length ≤ 6)))]) rfl rfl rfl ?_ rfl rfl
   clear rd rd1 hv hx hx0 r3 r3'
   simp only [oT, oU, AP.f113]
   rw [ux, uw, vp, jJ, hb _ rfl]
   simp only [nY, hn0, ← eh1]
   by_cases c : l.length ≤ 6
   · simp (disch := omega) only [go_sem, xX, g1, ln, uK, r1', r2]
   · simp (disch := omega) only [go_sem, xX, g1, ln, uK, r1', r2]
 · have r1' : Lp AP.A [1, 7, 8] AP.f113L0 [(1, .aF h.next 0), (7, .int .i64 l.length), (8, .int .i64 0)] h1 = some (.ret, e', h1) := r1
   clear r1
   have r3' : A6 none (l.map (·.1)) = false := r3
   rw [r3', TV]
   refine wj (fn := AP.f113) (h2 := h1) (e := e') (vs := [.bool false]) rfl rfl rfl ?_ (by simp only [AP.f113, cW, oW, r2]; rfl) rfl
   clear rd rd1 hv hx hx0 r3 r3'
   simp only [oT, oU, AP.f113]
   rw [ux, uw, vp, jJ, hb _ rfl]
   simp only [nY, hn0, ← eh1]
   simp (disch := omega) only [go_sem, xX, g1, ln, uK, r1']
def Ao (method : Int) (s : ByteArray) (size : Int) : Option ByteArray :=
 if size < 0 ∨ 300 < size then none
 else if method = 0 then (if (s.size : Int) = size then some s else none)
 else if method = 8 then (match zK s size with
  | .ok (o, took) => if (o.length : Int) = size ∧ took = s.size then some (bytesOf o) else none
  | .error _ => none)
 else none
theorem Cu {m : Int} {s : ByteArray} {z : Int} {t : ByteArray} (h : Ao m s z = some t) : (t.size : Int) = z ∧ 0 ≤ z ∧ z ≤ 300 := by
 unfold Ao at h
 split at h
 · cases h
 · rename_i q
   split at h
   · split at h
     · rename_i q2; obtain rfl := wU h; omega
     · cases h
   · split at h
     · split at h
       · split at h
         · rename_i q2
           obtain rfl := wU h
           rw [yD]; omega
         · cases h
       · cases h
     · cases h
def Jn : Option ByteArray → AV
 | some t => .bW [.str t, .int .i64 0]
 | none => .bW [.str ⟨#[]⟩, .int .i64 900]
theorem KM (h : H) (hf : h.floor ≤ h.next) (m : Int) (s : ByteArray) (z : Int) (hs : s.size < 1125899906842624) : aT AP.A 114 [.int .i64 m, .str s, .int .i64 z] h = some (Jn (Ao m s z), h) := by
 unfold Ao
 by_cases c1 : z < 0
 · rw [if_pos (.inl c1)]
   refine wj (fn := AP.f114) (h2 := h.eN) (e := [(6, .str ⟨#[]⟩), (7, .int .i64 900)]) rfl rfl rfl ?_ rfl rfl
   simp (disch := omega) only [go_sem, xX, AP.f114]
 by_cases c2 : 300 < z
 · rw [if_pos (.inr c2)]
   refine wj (fn := AP.f114) (h2 := h.eN) (e := [(6, .str ⟨#[]⟩), (7, .int .i64 900)]) rfl rfl rfl ?_ rfl rfl
   simp (disch := omega) only [go_sem, xX, AP.f114]
 rw [if_neg (by omega)]
 by_cases c3 : m = 0
 · rw [if_pos c3]
   by_cases c4 : (s.size : Int) = z
   · rw [if_pos c4]
     refine wj (fn := AP.f114) (h2 := h.eN) (e := [(6, .str s), (7, .int .i64 0)]) rfl rfl rfl ?_ rfl rfl
     simp (disch := omega) only [go_sem, xX, AP.f114]
   · rw [if_neg c4]
     refine wj (fn := AP.f114) (h2 := h.eN) (e := [(6, .str ⟨#[]⟩), (7, .int .i64 900)]) rfl rfl rfl ?_ rfl rfl
     simp (disch := omega) only [go_sem, xX, AP.f114]
 rw [if_neg c3]
 by_cases c5 : m = 8
 · rw [if_pos c5]
   have k1 := I8 h.eN (by simp) s z hs
   simp only [I] at k1
   cases hi : zK s z with
   | error k =>
     rw [hi] at k1
     simp only [I7, I] at k1
     have hk := Cg hi
     have hk' : ¬ k = 0 := by rcases hk with rfl | rfl <;> decide
     clear hk
     refine wj (fn := AP.f114) (h2 := h.eN) (e := [(6, .str ⟨#[]⟩), (7, .int .i64 900)]) rfl rfl rfl ?_ rfl rfl
     simp (disch := omega) only [go_sem, xX, AP.f114, k1]
   | ok r =>
     obtain ⟨o, took⟩ := r
     rw [hi] at k1
     simp only [I7, I] at k1
     dsimp only
     have sz := yD o
     by_cases c6 : (o.length : Int) = z
     · by_cases c7 : took = s.size
       · rw [if_pos ⟨c6, c7⟩]
         refine wj (fn := AP.f114) (h2 := h.eN) (e := [(6, .str (bytesOf o)), (7, .int .i64 0)]) rfl rfl rfl ?_ rfl rfl
         simp (disch := omega) only [go_sem, xX, AP.f114, k1, sz]
       · rw [if_neg (fun q => c7 q.2)]
         refine wj (fn := AP.f114) (h2 := h.eN) (e := [(6, .str ⟨#[]⟩), (7, .int .i64 900)]) rfl rfl rfl ?_ rfl rfl
         simp (disch := omega) only [go_sem, xX, AP.f114, k1, sz]
     · rw [if_neg (fun q => c6 q.1)]
       refine wj (fn := AP.f114) (h2 := h.eN) (e := [(6, .str ⟨#[]⟩), (7, .int .i64 900)]) rfl rfl rfl ?_ rfl rfl
       simp (disch := omega) only [go_sem, xX, AP.f114, k1, sz]
 · rw [if_neg c5]
   refine wj (fn := AP.f114) (h2 := h.eN) (e := [(6, .str ⟨#[]⟩), (7, .int .i64 900)]) rfl rfl rfl ?_ rfl rfl
   simp (disch := omega) only [go_sem, xX, AP.f114]
theorem Jo (h : H) (m : Int) (s : ByteArray) (z : Int) (hs : s.size < 1125899906842624) : aT AP.A 164 [.int .i64 m, .str s, .int .i64 z] h = some (Jn (Ao m s z), h) := by
 unfold Ao
 by_cases c1 : z < 0
 · rw [if_pos (.inl c1)]
   refine wj (fn := AP.f164) (h2 := h.eN) (e := [(6, .str ⟨#[]⟩), (7, .int .i64 900)]) rfl rfl rfl ?_ rfl rfl
   simp (disch := omega) only [go_sem, xX, AP.f164]
 by_cases c2 : 300 < z
 · rw [if_pos (.inr c2)]
   refine wj (fn := AP.f164) (h2 := h.eN) (e := [(6, .str ⟨#[]⟩), (7, .int .i64 900)]) rfl rfl rfl ?_ rfl rfl
   simp (disch := omega) only [go_sem, xX, AP.f164]
 rw [if_neg (by omega)]
 by_cases c3 : m = 0
 · rw [if_pos c3]
   by_cases c4 : (s.size : Int) = z
   · rw [if_pos c4]
     refine wj (fn := AP.f164) (h2 := h.eN) (e := [(6, .str s), (7, .int .i64 0)]) rfl rfl rfl ?_ rfl rfl
     simp (disch := omega) only [go_sem, xX, AP.f164]
   · rw [if_neg c4]
     refine wj (fn := AP.f164) (h2 := h.eN) (e := [(6, .str ⟨#[]⟩), (7, .int .i64 900)]) rfl rfl rfl ?_ rfl rfl
     simp (disch := omega) only [go_sem, xX, AP.f164]
 rw [if_neg c3]
 by_cases c5 : m = 8
 · rw [if_pos c5]
   have k1 := Hd h.eN s z hs
   simp only [I] at k1
   cases hi : zK s z with
   | error k =>
     rw [hi] at k1
     simp only [I7, I] at k1
     have hk := Cg hi
     have hk' : ¬ k = 0 := by rcases hk with rfl | rfl <;> decide
     clear hk
     refine wj (fn := AP.f164) (h2 := h.eN) (e := [(6, .str ⟨#[]⟩), (7, .int .i64 900)]) rfl rfl rfl ?_ rfl rfl
     simp (disch := omega) only [go_sem, xX, AP.f164, k1]
   | ok r =>
     obtain ⟨o, took⟩ := r
     rw [hi] at k1
     simp only [I7, I] at k1
     dsimp only
     have sz := yD o
     by_cases c6 : (o.length : Int) = z
     · by_cases c7 : took = s.size
       · rw [if_pos ⟨c6, c7⟩]
         refine wj (fn := AP.f164) (h2 := h.eN) (e := [(6, .str (bytesOf o)), (7, .int .i64 0)]) rfl rfl rfl ?_ rfl rfl
         simp (disch := omega) only [go_sem, xX, AP.f164, k1, sz]
       · rw [if_neg (fun q => c7 q.2)]
         refine wj (fn := AP.f164) (h2 := h.eN) (e := [(6, .str ⟨#[]⟩), (7, .int .i64 900)]) rfl rfl rfl ?_ rfl rfl
         simp (disch := omega) only [go_sem, xX, AP.f164, k1, sz]
     · rw [if_neg (fun q => c6 q.1)]
       refine wj (fn := AP.f164) (h2 := h.eN) (e := [(6, .str ⟨#[]⟩), (7, .int .i64 900)]) rfl rfl rfl ?_ rfl rfl
       simp (disch := omega) only [go_sem, xX, AP.f164, k1, sz]
 · rw [if_neg c5]
   refine wj (fn := AP.f164) (h2 := h.eN) (e := [(6, .str ⟨#[]⟩), (7, .int .i64 900)]) rfl rfl rfl ?_ rfl rfl
   simp (disch := omega) only [go_sem, xX, AP.f164]
def Bq (e : yR) : Option ByteArray :=
 if zN [e] = false then none
 else if e.gone then some ⟨#[]⟩
 else match Ao e.method e.packed e.size with
  | some t => if (y9 t : Int) = e.A9 then some t else none
  | none => none
theorem Qi (h : H) (hf : h.floor ≤ h.next) (e : yR) (v : AV) (hv : v.sc = true) (ok : y8 h (e, v)) : ∃ t, aT AP.A 107 [.agg (ya e v)] h = some (.bW [.str t, .bool (Bq e).isSome], h) ∧ (∀ u, Bq e = some u → t = u) := by
 obtain ⟨h1, eh1⟩ : ∃ g, g = h.eN.alloc (ya e v) := ⟨_, rfl⟩
 obtain ⟨h2, eh2⟩ : ∃ g, g = h1.alloc (ya e v) := ⟨_, rfl⟩
 have hx1 : Ext h h1 := fun i c q => by rw [eh1]; exact ((Ext.refl h.eN).alloc _) i c q
 have hx2 : Ext h h2 := by rw [eh2]; exact hx1.alloc _
 have hn0 : h.eN.next = h.next := rfl
 have hn1 : h1.next = h.next + 1 := by rw [eh1]; simp
 have g1 : h2.get h.next = some (ya e v) := by rw [eh2, yq (by omega), eh1, xY (by simp)]
 have g0 : h1.get h.next = some (ya e v) := by rw [eh1, xY (by simp)]
 have o : zk 9 h2 (.aG (h.next + 1) 0 1 9) 1 (yx [(e, v)]) := by
  refine ⟨?_, rfl, fun _ => by simp⟩
  simp only [aU, if_true]
  rw [eh2, xY (by omega)]
  rfl
 have k1 := KP h2 (.aG (h.next + 1) 0 1 9) [(e, v)] rfl (by simp) o (fun x hx => by
  obtain rfl : x = (e, v) := by simpa using hx
  exact ok.mono hx2)
 have k1' : aT AP.A 113 [.agg [.aG (h.next + 1) 0 1 9]] h2 = some (.bool (zN [e]), h2) := k1
 have hf2 : h2.floor ≤ h2.next := by rw [eh2, eh1]; simp; omega
 have k2 := KM h2 hf2 e.method e.packed e.size ok.pl
 have rdA : iW true 9 (ya e v) 0 = some (.agg (ya e v)) := rfl
 have cr : ∀ t : ByteArray, t.size < 1125899906842624 → aT AP.A 115 [.str t] h2 = some (.int .i64 (y9 t : Nat), h2) := fun t ht => GB h2 t ht
 clear k1 o hx1 hx2
 unfold Bq
 simp only [ya] at *
 cases hm : zN [e] with
 | false =>
   rw [hm] at k1'
   refine ⟨⟨#[]⟩, ?_, fun u q => by simp at q⟩
   rw [if_pos rfl]
   refine wj (fn := AP.f107) (h2 := h2) (e := [(2, .str ⟨#[]⟩), (3, .bool false)]) rfl rfl rfl ?_ rfl rfl
   simp (disch := omega) only [go_sem, xX, AP.f107, hv, hn0, ← eh1, g0, rdA, hn1, ← eh2, k1']
 | true =>
   rw [hm] at k1'
   rw [if_neg (by decide)]
   cases hg : e.gone with
   | true =>
     rw [hg] at g1 g0 eh1 eh2 rdA
     refine ⟨⟨#[]⟩, ?_, fun u q => by simpa using q⟩
     refine wj (fn := AP.f107) (h2 := h2) (e := [(2, .str ⟨#[]⟩), (3, .bool true)]) rfl rfl rfl ?_ rfl rfl
     simp (disch := omega) only [go_sem, xX, AP.f107, hv, hn0, ← eh1, g0, g1, rdA, hn1, ← eh2, k1']
   | false =>
     rw [hg] at g1 g0 eh1 eh2 rdA
     rw [if_neg (by decide)]
     cases hu : Ao e.method e.packed e.size with
     | none =>
       rw [hu] at k2
       simp only [Jn] at k2
       refine ⟨⟨#[]⟩, ?_, fun u q => by simp at q⟩
       refine wj (fn := AP.f107) (h2 := h2) (e := [(2, .str ⟨#[]⟩), (3, .bool false)]) rfl rfl rfl ?_ rfl rfl
       simp (disch := omega) only [go_sem, xX, AP.f107, hv, hn0, ← eh1, g0, g1, rdA, hn1, ← eh2, k1', k2]
     | some t =>
       rw [hu] at k2
       simp only [Jn] at k2
       have kc := cr t (by have := Cu hu; omega)
       dsimp only
       by_cases c : (y9 t : Int) = e.A9
       · rw [if_pos c]
         refine ⟨t, ?_, fun u q => wU q⟩
         refine wj (fn := AP.f107) (h2 := h2) (e := [(2, .str t), (3, .bool true)]) rfl rfl rfl ?_ rfl rfl
         simp (disch := omega) only [go_sem, xX, AP.f107, hv, hn0, ← eh1, g0, g1, rdA, hn1, ← eh2, k1', k2, kc]
       · rw [if_neg c]
         refine ⟨t, ?_, fun u q => by simp at q⟩
         refine wj (fn := AP.f107) (h2 := h2) (e := [(2, .str t), (3, .bool false)]) rfl rfl rfl ?_ rfl rfl
         simp (disch := omega) only [go_sem, xX, AP.f107, hv, hn0, ← eh1, g0, g1, rdA, hn1, ← eh2, k1', k2, kc]
def zM (e : yR) : Bool := (Bq e).isSome
theorem JS (h : H) (hf : h.floor ≤ h.next) (e : yR) (v : AV) (hv : v.sc = true) (ok : y8 h (e, v)) : aT AP.A 96 [.agg (ya e v)] h = some (.bool (zM e), h) := by
 obtain ⟨h1, eh1⟩ : ∃ g, g = h.eN.alloc (ya e v) := ⟨_, rfl⟩
 have hx1 : Ext h h1 := fun i c q => by rw [eh1]; exact ((Ext.refl h.eN).alloc _) i c q
 have hn0 : h.eN.next = h.next := rfl
 have g0 : h1.get h.next = some (ya e v) := by rw [eh1, xY (by simp)]
 obtain ⟨t, k1, _⟩ := Qi h1 (by rw [eh1]; simp) e v hv (ok.mono hx1)
 have rdA : iW true 9 (ya e v) 0 = some (.agg (ya e v)) := rfl
 refine wj (fn := AP.f96) (h2 := h1) (e := [(2, .bool (zM e))]) rfl rfl rfl ?_ rfl rfl
 clear hx1
 unfold zM
 simp only [ya] at *
 simp (disch := omega) only [go_sem, xX, AP.f96, hv, hn0, ← eh1, g0, rdA, k1]
theorem Mb (e : yR) : zN [e] = (zD e.name && (yQ e && zH e)) := by
 unfold zN A6
 rw [Fo]
 simp [A6]
theorem J7 (h : H) (e : yR) (v : AV) (hv : v.sc = true) (ok : y8 h (e, v)) : aT AP.A 167 [.agg (ya e v)] h = some (.bool (zN [e]), h) := by
 obtain ⟨h1, eh1⟩ : ∃ g, g = h.eN.alloc (ya e v) := ⟨_, rfl⟩
 have hx1 : Ext h h1 := fun i c q => by rw [eh1]; exact ((Ext.refl h.eN).alloc _) i c q
 have hn0 : h.eN.next = h.next := rfl
 have g0 : h1.get h.next = some (ya e v) := by rw [eh1, xY (by simp)]
 have k1 := Lx h1 e.name ok.nl
 have k2 := HU h1 v e (ok.mono hx1).vec hv ok.vl
 have e1 : bE .eql (.str e.packed) (.str ⟨#[]⟩) = some (.bool (DV e.packed)) := Am _ _
 have rdA : iW true 9 (ya e v) 0 = some (.agg (ya e v)) := rfl
 rw [Mb]
 refine wj (fn := AP.f167) (h2 := h1) (e := [(2, .bool (zD e.name && (yQ e && zH e)))]) rfl rfl rfl ?_ rfl rfl
 clear hx1 ok
 unfold zH Ch
 generalize zD e.name = B1 at *
 generalize yQ e = B2 at *
 generalize DV e.packed = B3 at *
 simp only [ya] at *
 cases B1 with
 | false => simp (disch := omega) only [go_sem, xX, AP.f167, hv, hn0, ← eh1, g0, rdA, k1, k2]
 | true =>
   cases B2 with
   | false => simp (disch := omega) only [go_sem, xX, AP.f167, hv, hn0, ← eh1, g0, rdA, k1, k2]
   | true =>
     cases hg : e.gone with
     | true =>
       rw [hg] at g0 eh1 rdA k2
       rw [if_pos rfl]
       by_cases c1 : e.method = 0
       · cases B3 with
         | false => simp (disch := omega) only [go_sem, xX, AP.f167, hv, hn0, ← eh1, g0, rdA, k1, k2, e1]
         | true =>
           by_cases c2 : e.size = 0
           · by_cases c3 : e.A9 = 0 <;> simp (disch := omega) only [go_sem, xX, AP.f167, hv, hn0, ← eh1, g0, rdA, k1, k2, e1]
           · simp (disch := omega) only [go_sem, xX, AP.f167, hv, hn0, ← eh1, g0, rdA, k1, k2, e1]
       · simp (disch := omega) only [go_sem, xX, AP.f167, hv, hn0, ← eh1, g0, rdA, k1, k2, e1]
     | false =>
       rw [hg] at g0 eh1 rdA k2
       rw [if_neg (by decide)]
       by_cases c1 : 0 ≤ e.size
       · by_cases c2 : e.size ≤ 300
         · by_cases c3 : 0 ≤ e.A9
           · by_cases c4 : e.A9 ≤ 4294967295
             · by_cases c5 : e.method = 0
               · have c5' : ¬ e.method = 8 := by omega
                 by_cases c6 : (e.packed.size : Int) = e.size <;> simp (disch := omega) only [go_sem, xX, AP.f167, hv, hn0, ← eh1, g0, rdA, k1, k2, e1]
               · by_cases c7 : e.method = 8
                 · by_cases c8 : e.packed.size ≤ 300 <;> simp (disch := omega) only [go_sem, xX, AP.f167, hv, hn0, ← eh1, g0, rdA, k1, k2, e1]
                 · simp (disch := omega) only [go_sem, xX, AP.f167, hv, hn0, ← eh1, g0, rdA, k1, k2, e1]
             · have c4' : ¬ (0 ≤ e.A9 ∧ e.A9 ≤ 4294967295) := by omega
               simp (disch := omega) only [go_sem, xX, AP.f167, hv, hn0, ← eh1, g0, rdA, k1, k2, e1]
           · have c4' : ¬ (0 ≤ e.A9 ∧ e.A9 ≤ 4294967295) := by omega
             simp (disch := omega) only [go_sem, xX, AP.f167, hv, hn0, ← eh1, g0, rdA, k1, k2, e1]
         · simp (disch := omega) only [go_sem, xX, AP.f167, hv, hn0, ← eh1, g0, rdA, k1, k2, e1]
       · simp (disch := omega) only [go_sem, xX, AP.f167, hv, hn0, ← eh1, g0, rdA, k1, k2, e1]
theorem HO (h : H) (e : yR) (v : AV) (hv : v.sc = true) (ok : y8 h (e, v)) : aT AP.A 157 [.agg (ya e v)] h = some (.bool (zM e), h) := by
 obtain ⟨h1, eh1⟩ : ∃ g, g = h.eN.alloc (ya e v) := ⟨_, rfl⟩
 have hx1 : Ext h h1 := fun i c q => by rw [eh1]; exact ((Ext.refl h.eN).alloc _) i c q
 have hn0 : h.eN.next = h.next := rfl
 have g0 : h1.get h.next = some (ya e v) := by rw [eh1, xY (by simp)]
 have k1 := J7 h1 e v hv (ok.mono hx1)
 have k2 := Jo h1 e.method e.packed e.size ok.pl
 have rdA : iW true 9 (ya e v) 0 = some (.agg (ya e v)) := rfl
 have cr : ∀ t : ByteArray, t.size < 1125899906842624 → aT AP.A 101 [.str t] h1 = some (.int .i64 (y9 t : Nat), h1) := fun t ht => DM h1 t ht
 unfold zM Bq
 clear hx1 ok
 cases hm : zN [e] with
 | false =>
   rw [hm] at k1
   rw [if_pos rfl]
   refine wj (fn := AP.f157) (h2 := h1) (e := [(2, .bool false)]) rfl rfl rfl ?_ rfl rfl
   simp only [ya] at *
   simp (disch := omega) only [go_sem, xX, AP.f157, hv, hn0, ← eh1, g0, rdA, k1]
 | true =>
   rw [hm] at k1
   rw [if_neg (by decide)]
   cases hg : e.gone with
   | true =>
     refine wj (fn := AP.f157) (h2 := h1) (e := [(2, .bool true)]) rfl rfl rfl ?_ rfl rfl
     simp only [ya, hg] at *
     simp (disch := omega) only [go_sem, xX, AP.f157, hv, hn0, ← eh1, g0, rdA, k1]
   | false =>
     rw [if_neg (by decide)]
     cases hu : Ao e.method e.packed e.size with
     | none =>
       rw [hu] at k2
       simp only [Jn] at k2
       refine wj (fn := AP.f157) (h2 := h1) (e := [(2, .bool false)]) rfl rfl rfl ?_ rfl rfl
       simp only [ya, hg] at *
       simp (disch := omega) only [go_sem, xX, AP.f157, hv, hn0, ← eh1, g0, rdA, k1, k2]
     | some t =>
       rw [hu] at k2
       simp only [Jn] at k2
       have kc := cr t (by have := Cu hu; omega)
       dsimp only
       by_cases c : (y9 t : Int) = e.A9
       · rw [if_pos c]
         refine wj (fn := AP.f157) (h2 := h1) (e := [(2, .bool true)]) rfl rfl rfl ?_ rfl rfl
         simp only [ya, hg] at *
         simp (disch := omega) only [go_sem, xX, AP.f157, hv, hn0, ← eh1, g0, rdA, k1, k2, kc]
       · rw [if_neg c]
         refine wj (fn := AP.f157) (h2 := h1) (e := [(2, .bool false)]) rfl rfl rfl ?_ rfl rfl
         simp only [ya, hg] at *
         simp (disch := omega) only [go_sem, xX, AP.f157, hv, hn0, ← eh1, g0, rdA, k1, k2, kc]
theorem Rd.Tt {h : H} {v : AV} {cs : List AV} (r : Rd h v cs) (hc : cs ≠ []) : gJ 1 v .aR = some false := by
 obtain ⟨r, hs⟩ := r
 unfold aU at r
 split at r
 · obtain ⟨_, h2⟩ := wW (wU r); exact absurd h2.symm hc
 · exact absurd rfl (hs _)
 · rfl
 · rfl
 · cases r
theorem Cx {n : Nat} {h : H} {v : AV} {k : Nat} {cs : List AV} (r : zk n h v k cs) (hfn : h.floor ≤ h.next) (hn : 0 < n) (hk : 0 < k) {z : Nat} (hr : roomy z k = true) (hc : AV.aE cs = true) :
 mG (h.alloc []) n z (.aG h.next 0 0 n) v = some (.aG (h.next + 1) 0 k n, ((h.alloc []).del h.next).alloc cs) := by
 have r2 : zk n (h.alloc []) v k cs := r.mono fun i c q => by rw [H.aY, if_neg (by have := h.lt _ _ q; omega)]; exact q
 unfold mG
 rw [r2.1, w9]
 have hkn : 0 < k * n := Nat.mul_pos hk hn
 unfold eH
 rw [if_neg (by omega), if_neg (by simp [hc]; omega)]
 simp only [H.j6, hfn, and_self, if_true]
 rw [xY rfl, w9, if_neg (by simp; omega), if_pos ⟨by simp, by simpa using hr⟩]
 simp
theorem G3 {n : Nat} {h : H} {v : AV} {cs : List AV} (r : zk n h v 0 cs) {z : Nat} : mG (h.alloc []) n z (.aG h.next 0 0 n) v = some (.aG h.next 0 0 n, h.alloc []) := by
 have r2 : zk n (h.alloc []) v 0 cs := r.mono fun i c q => by rw [H.aY, if_neg (by have := h.lt _ _ q; omega)]; exact q
 unfold mG
 rw [r2.1, w9]
 rfl
theorem AA : ∀ l : List Int, AV.aE (ints l) = true
 | [] => rfl
 | n :: l => by
   have := AA l
   show AV.aE (I n :: ints l) = true
   rw [rX, this]; rfl
theorem K0 (h : H) (v : AV) (l : List Int) (rd : Rd h v (ints l)) (hl : 0 < l.length) (hb : l.length < 1000000) (hfn : h.floor ≤ h.next) : aT AP.A 118 [v] h = some (.aG (h.next + 1) 0 l.length 1, ((h.alloc []).del h.next).alloc (ints l)) := by
 have r2 := rd.Jj
 rw [rF] at r2
 have ap := Cx r2 hfn (by omega) hl (z := 8) (by simp [roomy]; omega) (AA l)
 have nn := rd.Tt (fun q => by
  have q2 : (ints l).length = 0 := by rw [q]; rfl
  rw [rF] at q2
  omega)
 refine vP (fn := AP.f118) (h2 := ((h.alloc []).del h.next).alloc (ints l)) (e := [(2, .aG (h.next + 1) 0 l.length 1)]) (vs := [.aG (h.next + 1) 0 l.length 1]) rfl rfl rfl ?_ rfl
 clear rd r2
 simp (disch := omega) only [go_sem, xX, AP.f118, nn, ap]
def Bn (l : List Int) : AV := Jk 1 l.length (ints l)
def F7 : yR := ⟨⟨#[]⟩, false, [], 0, 0, 0, ⟨#[]⟩, 0, 0⟩
theorem Ku {g : Nat → Option (List AV)} {fl n : Nat} {e : yR} {v v' : AV} (hv : snap g fl (n + 1) true v = some v') : snap g fl (n + 2) true (.agg (ya e v)) = some (.agg (ya e v')) := by
 unfold snap
 simp only [ya, gK, hv]
 rfl
abbrev Z9 : List AV := [.str ⟨#[]⟩, .bool false, .aR, .int .i64 0, .int .i64 0, .int .i64 0, .str ⟨#[]⟩, .int .i64 0, .int .i64 0]
def CV (name : ByteArray) (node : Nat) (yu : Int) (text : ByteArray) : yR := ⟨name, false, [0, 0, 0, 0].set node yu, yu, node, 0, text, text.size, y9 text⟩
theorem Qm {l : List Int} (h : l.length = 4) : Bn l = .aX false (ints l) 0 4 1 := by unfold Bn Jk; rw [h, if_neg (by omega)]
theorem LM (h : H) (name text : ByteArray) (node : Nat) (yu : Int) (hn : node < 4) (ht : text.size < 1125899906842624) :
 aT AP.A 99 [.str name, .int .i64 node, .int .i64 yu, .str text] h = some (.agg (ya (CV name node yu text) (Bn ([0, 0, 0, 0].set node yu))), h) := by
 obtain ⟨h1, eh1⟩ : ∃ g, g = h.eN.alloc (ya F7 .aR) := ⟨_, rfl⟩
 obtain ⟨h2, eh2⟩ : ∃ g, g = h1.alloc (ints [0, 0, 0, 0]) := ⟨_, rfl⟩
 obtain ⟨h3, eh3⟩ : ∃ g, g = h2.set (h.next + 1) (ints ([0, 0, 0, 0].set node yu)) := ⟨_, rfl⟩
 obtain ⟨h4, eh4⟩ : ∃ g, g = h3.set h.next (ya (CV name node yu text) (.aG (h.next + 1) 0 4 1)) := ⟨_, rfl⟩
 have n0 : h.eN.next = h.next := rfl
 have n1 : h1.next = h.next + 1 := by rw [eh1]; simp
 have f2 : h2.floor = h.next := by rw [eh2, eh1]; simp
 have f3 : h3.floor = h.next := by rw [eh3]; simp [f2]
 have g2 : h2.get (h.next + 1) = some (ints [0, 0, 0, 0]) := by rw [eh2, xY (by omega)]
 have gz3 : h3.get h.next = some (ya F7 .aR) := by rw [eh3, yA (by omega), eh2, yq (by omega), eh1, xY (by simp)]
 have g3 : h3.get (h.next + 1) = some (ints ([0, 0, 0, 0].set node yu)) := by rw [eh3, yM rfl, g2]; rfl
 have g4 : h4.get h.next = some (ya (CV name node yu text) (.aG (h.next + 1) 0 4 1)) := by rw [eh4, yM rfl, gz3]; rfl
 have g4' : h4.get (h.next + 1) = some (ints ([0, 0, 0, 0].set node yu)) := by rw [eh4, yA (by omega), g3]
 have st3 : wm h2 (h.next + 1) node 1 [.int .i64 yu] (some (ints [0, 0, 0, 0])) = some h3 := by
  rw [wM (by omega) (by simp; omega) rfl, eh3]
  congr 2
  match node, hn with
  | 0, _ => rfl
  | 1, _ => rfl
  | 2, _ => rfl
  | 3, _ => rfl
 have st4 : wm h3 h.next 0 9 [.str name, .bool false, .aG (h.next + 1) 0 4 1, .int .i64 yu, .int .i64 node, .int .i64 0, .str text, .int .i64 text.size, .int .i64 (y9 text : Nat)] (some (ya F7 .aR)) = some h4 := by
  rw [eh4]; exact Bz (by omega) rfl rfl rfl
 have e1 : h.eN.alloc [.str ⟨#[]⟩, .bool false, .aR, .int .i64 0, .int .i64 0, .int .i64 0, .str ⟨#[]⟩, .int .i64 0, .int .i64 0] = h1 := eh1.symm
 have e2 : h1.alloc (Ee 4 [.int .i64 0]) = h2 := eh2.symm
 have kc := DM h3 text ht
 have hlen : ([0, 0, 0, 0].set node yu : List Int).length = 4 := by simp
 have o : yI 1 h4 (.aG (h.next + 1) 0 4 1) 4 (ints ([0, 0, 0, 0].set node yu)) := ⟨by simp, .inr ⟨_, rfl, g4', by rw [eh4]; simp; omega, by omega⟩⟩
 have s1 : snap h4.get h.next 15 true (.aG (h.next + 1) 0 4 1) = some (Bn ([0, 0, 0, 0].set node yu)) := by
  have := o.Ar (fl := h.next) (m := 13) (t := true) (by rw [eh4]; simp; omega)
  rw [this]; unfold Bn; rw [hlen]
 have body : aN (aT AP.A) bI AP.f99.body (params 0 [.str name, .int .i64 node, .int .i64 yu, .str text]) h.eN = some (.ret, [(8, .aF h.next 0)], h4) := by
  clear o s1 g4 g4' g3
  have it : ((node : Nat) : Int).toNat = node := by omega
  simp (disch := omega) only [go_sem, xX, AP.f99, n0, e1, n1, e2, it, g2, st3, kc, gz3, st4]
 refine wj (fn := AP.f99) (h2 := h4) (e := [(8, .aF h.next 0)]) (vs := [.agg (ya (CV name node yu text) (.aG (h.next + 1) 0 4 1))]) rfl rfl rfl body ?_ ?_
 · simp only [AP.f99, cW, oW, oK, td, g4, vu]; rfl
 · exact Ku s1
theorem K4 (h : H) (hf : h.floor ≤ h.next) (e : yR) (v : AV) (hv : v.sc = true) (ok : y8 h (e, v)) (hb : e.vec.length < 20000000000000) :
 ∃ h' v', aT AP.A 92 [.agg (ya e v)] h = some (.agg (ya e v'), h') ∧ v' = (if e.vec = [] then .aG (h.next + 2) 0 0 1 else .aG (h.next + 3) 0 e.vec.length 1) ∧ Rd h' v' (ints e.vec) ∧ h'.floor = h.floor ∧ h.next + 3 ≤ h'.next ∧ Ext h h' ∧ (0 < e.vec.length → h'.get (h.next + 3) = some (ints e.vec)) := by
 obtain ⟨h1, eh1⟩ : ∃ g, g = h.alloc (ya e v) := ⟨_, rfl⟩
 obtain ⟨h2, eh2⟩ : ∃ g, g = h1.alloc (ya F7 .aR) := ⟨_, rfl⟩
 have n1 : h1.next = h.next + 1 := by rw [eh1]; simp
 have n2 : h2.next = h.next + 2 := by rw [eh2]; simp [n1]
 have f2 : h2.floor = h.floor := by rw [eh2, eh1]; simp
 have x2 : Ext h h2 := by rw [eh2, eh1]; exact ((Ext.refl h).alloc _).alloc _
 have ga2 : h2.get h.next = some (ya e v) := by rw [eh2, yq (by omega), eh1, xY rfl]
 have gz2 : h2.get (h.next + 1) = some (ya F7 .aR) := by rw [eh2, xY (by omega)]
 have r2 := (ok.vec.mono fun i c q => x2 i c q).Jj
 rw [rF] at r2
 obtain ⟨v', h3, ap, hv', hcl, hsc, hrd, g3, f3, n3, hget, x3⟩ : ∃ v' h3, mG (h2.alloc []) 1 8 (.aG h2.next 0 0 1) v = some (v', h3) ∧ v' = (if e.vec = [] then .aG (h.next + 2) 0 0 1 else .aG (h.next + 3) 0 e.vec.length 1) ∧ v'.cells = [v'] ∧ v'.sc = true ∧ Rd h3 v' (ints e.vec) ∧
  (∀ i, i < h.next + 2 → h3.get i = h2.get i) ∧ h3.floor = h.floor ∧ h.next + 3 ≤ h3.next ∧ (0 < e.vec.length → h3.get (h.next + 3) = some (ints e.vec)) ∧ Ext h h3 := by
  by_cases c : e.vec = []
  · rw [c] at r2
    have := G3 (z := 8) r2
    refine ⟨_, _, this, by rw [if_pos c, n2], rfl, rfl, ?_, fun i hi => ?_, by simp [f2], by simp [n2], fun q => by rw [c] at q; simp at q, x2.alloc _⟩
    · rw [c]
      refine ⟨?_, fun _ => by simp⟩
      simp only [aU, if_true]
      rw [xY (by omega)]; rfl
    · rw [yq (by omega)]
  · have hp : 0 < e.vec.length := List.length_pos_iff.2 c
    have := Cx r2 (by omega) (by omega) hp (z := 8) (by simp [roomy]; omega) (AA e.vec)
    refine ⟨_, _, this, by rw [if_neg c, n2], rfl, rfl, ?_, fun i hi => ?_, by simp [f2], by simp [n2], fun _ => ?_, fun i d q => ?_⟩
    · refine ⟨?_, fun _ => by simp⟩
      simp only [aU, if_true]
      rw [xY (by simp), w9, if_pos (by simp), TX, xI (by simp), rF]
    · rw [yq (by simp; omega), H.eR, if_neg (by omega), yq (by omega)]
    · rw [xY (by simp [n2])]
    · have := h.lt _ _ q
      rw [yq (by simp; omega), H.eR, if_neg (by omega), yq (by omega)]; exact x2 i d q
 obtain ⟨h4, eh4⟩ : ∃ g, g = h3.set h.next (ya e v') := ⟨_, rfl⟩
 obtain ⟨h5, eh5⟩ : ∃ g, g = h4.set (h.next + 1) (ya e v') := ⟨_, rfl⟩
 have ga3 : h3.get h.next = some (ya e v) := by rw [g3 _ (by omega), ga2]
 have gz3 : h3.get (h.next + 1) = some (ya F7 .aR) := by rw [g3 _ (by omega), gz2]
 have ga4 : h4.get h.next = some (ya e v') := by rw [eh4, yM rfl, ga3]; rfl
 have gz4 : h4.get (h.next + 1) = some (ya F7 .aR) := by rw [eh4, yA (by omega), gz3]
 have gz5 : h5.get (h.next + 1) = some (ya e v') := by rw [eh5, yM rfl, gz4]; rfl
 have st4 : wm h3 h.next 2 1 [v'] (some (ya e v)) = some h4 := by rw [wM (by omega) (by show 2 < 9; omega) hsc, eh4]; rfl
 have st5 : wm h4 (h.next + 1) 0 9 (ya e v') (some (ya F7 .aR)) = some h5 := by
  rw [eh5]; exact Bz (by rw [eh4]; simp; omega) rfl rfl (by simp [ya, hsc])
 have e1 : h.alloc (ya e v) = h1 := eh1.symm
 have e2 : h1.alloc [.str ⟨#[]⟩, .bool false, .aR, .int .i64 0, .int .i64 0, .int .i64 0, .str ⟨#[]⟩, .int .i64 0, .int .i64 0] = h2 := eh2.symm
 have rr : iW true 9 (ya e v') 0 = some (.agg (ya e v')) := rfl
 have lE : (ya e v).length = 9 := rfl
 have sE : AV.aE (ya e v) = true := by simp [ya, hv]
 have c2 : (ya e v)[2]? = some v := rfl
 have hg : ∀ i, i ≠ h.next → i ≠ h.next + 1 → h5.get i = h3.get i := fun i q1 q2 => by rw [eh5, yA q2, eh4, yA q1]
 have x5 : Ext h3 h5 → True := fun _ => trivial
 refine ⟨h5, v', vP (fn := AP.f92) (h2 := h5) (e := [(2, .aF (h.next + 1) 0)]) (vs := [.agg (ya e v')]) rfl rfl rfl ?_ ?_, hv', ?_, by rw [eh5, eh4]; simp [f3], by rw [eh5, eh4]; simpa using n3, ?_, fun q => by rw [hg _ (by omega) (by omega)]; exact hget q⟩
 · clear x5 hg x2 x3 g3 hrd hget r2 ok
   generalize ya e v = A at *
   generalize ya e v' = B at *
   simp (disch := omega) only [go_sem, xX, AP.f92, lE, sE, e1, n1, e2, ga2, yq, c2, ap, ga3, hcl, st4, ga4, rr, gz4, st5]
 · simp only [AP.f92, cW, oW, oK, td, gz5, vu]; rfl
 · obtain ⟨q1, q2⟩ := hrd
   refine ⟨?_, q2⟩
   rw [← q1]
   rw [hv']
   by_cases c : e.vec = []
   · rw [if_pos c]; simp only [aU, if_true]; rw [hg _ (by omega) (by omega)]
   · rw [if_neg c]; simp only [aU, if_true]; rw [hg _ (by omega) (by omega)]
 · intro i d q
   have := h.lt _ _ q
   rw [hg _ (by omega) (by omega)]; exact x3 i d q
theorem Ir {v w : AV} {a b : List Int} (hab : a.length = b.length) (hl : a.length < 1125899906842624) (h : H) (ra : Rd h v (ints a)) (rb : Rd h w (ints b)) : ∀ (p q r : List Int) (p' : List Int), a = p ++ q → b = p' ++ r → p.length = p'.length →
 (∃ e', Lp AP.A [0, 1, 5] AP.f106L0 [(0, v), (1, w), (5, .int .i64 p.length)] h = some (.exit 0, e', h) ∧ decide (q = r) = true) ∨
 (∃ e', Lp AP.A [0, 1, 5] AP.f106L0 [(0, v), (1, w), (5, .int .i64 p.length)] h = some (.ret, e', h) ∧ look e' 4 = .bool false ∧ decide (q = r) = false)
 | p, [], r, p', hp, hq, hpp => by
   have hr : r = [] := Ua (by rw [hp, hq] at hab; simp at hab; omega)
   left
   have ln := ra.len
   rw [rF] at ln
   simp only [I] at ln
   rw [TR] at hp
   refine ⟨[(0, v), (1, w), (5, .int .i64 p.length), (14, .bool false)], vC ?_, by rw [hr]; rfl⟩
   rw [hp] at ln
   clear hab hl ra rb
   simp (disch := omega) only [go_sem, xX, AP.f106L0, ln]
 | p, x :: q, [], p', hp, hq, hpp => by
   exfalso
   rw [hp, hq] at hab; simp at hab; omega
 | p, x :: q, y :: r, p', hp, hq, hpp => by
   have ln := ra.len
   rw [rF] at ln
   simp only [I] at ln
   have hlen : a.length = p.length + (q.length + 1) := by rw [hp]; simp
   have hx : a[p.length]? = some x := by rw [hp]; simp
   have hy : b[p.length]? = some y := by rw [hpp, hq]; simp
   obtain ⟨ad, a1, a2⟩ := ra.zL
   obtain ⟨bd, b1, b2⟩ := rb.zL
   have i1 := a1 p.length ⟨by omega, by omega⟩
   have i2 := b1 p.length ⟨by omega, by omega⟩
   have l1 := a2 h (Ext.refl h) _ _ hx
   have l2 := b2 h (Ext.refl h) _ _ hy
   have w1 : (((p ++ [x]).length : Nat) : Int) = (p.length : Int) + 1 := by simp
   have ih := Ir hab hl h ra rb (p ++ [x]) q r (p' ++ [y]) (by rw [hp]; simp) (by rw [hq]; simp) (by simp; omega)
   rw [w1] at ih
   clear a1 a2 b1 b2 ra rb w1
   by_cases c : x = y
   · have step : aN (aT AP.A) bI AP.f106L0 (az [(0, v), (1, w), (5, .int .i64 p.length)] [0, 1, 5]) h = some (.normal, [(0, v), (1, w), (5, .int .i64 ((p.length : Int) + 1))], h) := by
      clear ih hp hq
      simp (disch := omega) only [go_sem, xX, AP.f106L0, ln, i1, i2, l1, l2]
     have e : decide (x :: q = y :: r) = decide (q = r) := by simp [c]
     rw [e]
     rcases ih with ⟨e', r1, r2⟩ | ⟨e', r1, r2, r3⟩
     · exact .inl ⟨e', vD step r1, r2⟩
     · exact .inr ⟨e', vD step r1, r2, r3⟩
   · right
     refine ⟨[(4, .bool false)], vW ?_, rfl, by simp [c]⟩
     clear ih hp hq
     simp (disch := omega) only [go_sem, xX, AP.f106L0, ln, i1, i2, l1, l2]
theorem Cp (h : H) (v w : AV) (a b : List Int) (ra : Rd h v (ints a)) (rb : Rd h w (ints b)) (hl : a.length < 1125899906842624) : aT AP.A 106 [v, w] h = some (.bool (decide (a = b)), h) := by
 have ra' := ra.mono (yg h)
 have rb' := rb.mono (yg h)
 have la := ra'.len
 have lb := rb'.len
 rw [rF] at la lb
 simp only [I] at la lb
 by_cases c : a.length = b.length
 · rcases Ir c hl h.eN ra' rb' [] a b [] rfl rfl rfl with ⟨e', r1, r2⟩ | ⟨e', r1, r2, r3⟩
   · have r1' : Lp AP.A [0, 1, 5] AP.f106L0 [(0, v), (1, w), (5, .int .i64 0)] h.eN = some (.exit 0, e', h.eN) := r1
     clear r1
     rw [r2]
     refine wj (fn := AP.f106) (h2 := h.eN) (e := [(4, .bool true)]) rfl rfl rfl ?_ rfl rfl
     simp (disch := omega) only [go_sem, xX, AP.f106, la, lb, uK, r1']
   · have r1' : Lp AP.A [0, 1, 5] AP.f106L0 [(0, v), (1, w), (5, .int .i64 0)] h.eN = some (.ret, e', h.eN) := r1
     clear r1
     rw [r3]
     refine wj (fn := AP.f106) (h2 := h.eN) (e := e') (vs := [.bool false]) rfl rfl rfl ?_ (by simp only [AP.f106, cW, oW, r2]; rfl) rfl
     simp (disch := omega) only [go_sem, xX, AP.f106, la, lb, uK, r1']
 · have e : decide (a = b) = false := by rw [decide_eq_false_iff_not]; intro q; exact c (by rw [q])
   rw [e]
   refine wj (fn := AP.f106) (h2 := h.eN) (e := [(4, .bool false)]) rfl rfl rfl ?_ rfl rfl
   simp (disch := omega) only [go_sem, xX, AP.f106, la, lb]
def CR (a b : yR) : Bool := (a.name.data.toList == b.name.data.toList) && ((a.gone == b.gone) && (decide (a.vec = b.vec) && (decide (a.yu = b.yu) && (decide (a.node = b.node) && (decide (a.method = b.method) && ((a.packed.data.toList == b.packed.data.toList) && (decide (a.size = b.size) && decide (a.A9 = b.A9))))))))
theorem BN (a b : yR) : CR a b = true ↔ a = b := by
 have q : ∀ x y : ByteArray, (x.data.toList == y.data.toList) = true ↔ x = y := fun x y => by
  constructor
  · intro e; exact ByteArray.ext (Array.toList_inj.1 (eq_of_beq e))
  · rintro rfl; exact GP _
 obtain ⟨a1, a2, a3, a4, a5, a6, a7, a8, a9⟩ := a
 obtain ⟨b1, b2, b3, b4, b5, b6, b7, b8, b9⟩ := b
 simp only [CR, xe, T7, q, beq_iff_eq, yR.mk.injEq]
theorem LG (h : H) (a b : yR) (v w : AV) (sa : v.sc = true) (sb : w.sc = true) (ra : y8 h (a, v)) (rb : y8 h (b, w)) : aT AP.A 98 [.agg (ya a v), .agg (ya b w)] h = some (.bool (CR a b), h) := by
 obtain ⟨h1, eh1⟩ : ∃ g, g = h.eN.alloc (ya a v) := ⟨_, rfl⟩
 obtain ⟨h2, eh2⟩ : ∃ g, g = h1.alloc (ya b w) := ⟨_, rfl⟩
 have x1 : Ext h h1 := fun i c q => by rw [eh1]; exact ((Ext.refl h.eN).alloc _) i c q
 have x2 : Ext h h2 := by rw [eh2]; exact x1.alloc _
 have n0 : h.eN.next = h.next := rfl
 have n1 : h1.next = h.next + 1 := by rw [eh1]; simp
 have ga : h2.get h.next = some (ya a v) := by rw [eh2, yq (by omega), eh1, xY (by simp)]
 have gb : h2.get (h.next + 1) = some (ya b w) := by rw [eh2, xY (by omega)]
 have k1 := Cp h2 v w a.vec b.vec (ra.mono x2).vec (rb.mono x2).vec ra.vl
 have s1 : bE .eql (.str a.name) (.str b.name) = some (.bool (a.name.data.toList == b.name.data.toList)) := Am _ _
 have s2 : bE .eql (.str a.packed) (.str b.packed) = some (.bool (a.packed.data.toList == b.packed.data.toList)) := Am _ _
 have e1 : h.eN.alloc (ya a v) = h1 := eh1.symm
 have e2 : h1.alloc (ya b w) = h2 := eh2.symm
 refine wj (fn := AP.f98) (h2 := h2) (e := [(4, .bool (CR a b))]) rfl rfl rfl ?_ rfl rfl
 unfold CR
 clear x1 x2 ra rb eh1 eh2
 generalize (a.name.data.toList == b.name.data.toList) = B1 at *
 generalize (a.packed.data.toList == b.packed.data.toList) = B2 at *
 obtain ⟨B3, hB3⟩ : ∃ B, (a.gone == b.gone) = B := ⟨_, rfl⟩
 rw [hB3]
 generalize decide (a.vec = b.vec) = B4 at *
 simp only [ya] at *
 cases B1 with
 | false => simp (disch := omega) only [go_sem, xX, AP.f98, sa, sb, n0, e1, n1, e2, ga, gb, s1, s2, hB3, k1]
 | true =>
   cases B3 with
   | false => simp (disch := omega) only [go_sem, xX, AP.f98, sa, sb, n0, e1, n1, e2, ga, gb, s1, s2, hB3, k1]
   | true =>
     cases B4 with
     | false => simp (disch := omega) only [go_sem, xX, AP.f98, sa, sb, n0, e1, n1, e2, ga, gb, s1, s2, hB3, k1]
     | true =>
       by_cases c3 : a.yu = b.yu
       · by_cases c4 : a.node = b.node
         · by_cases c5 : a.method = b.method
           · cases B2 with
             | false => simp (disch := omega) only [go_sem, xX, AP.f98, sa, sb, n0, e1, n1, e2, ga, gb, s1, s2, hB3, k1]
             | true =>
               by_cases c7 : a.size = b.size
               · by_cases c8 : a.A9 = b.A9
                 · simp (disch := omega) only [go_sem, xX, AP.f98, sa, sb, n0, e1, n1, e2, ga, gb, s1, s2, hB3, k1]
                 · simp (disch := omega) only [go_sem, xX, AP.f98, sa, sb, n0, e1, n1, e2, ga, gb, s1, s2, hB3, k1]
               · simp (disch := omega) only [go_sem, xX, AP.f98, sa, sb, n0, e1, n1, e2, ga, gb, s1, s2, hB3, k1]
           · simp (disch := omega) only [go_sem, xX, AP.f98, sa, sb, n0, e1, n1, e2, ga, gb, s1, s2, hB3, k1]
         · simp (disch := omega) only [go_sem, xX, AP.f98, sa, sb, n0, e1, n1, e2, ga, gb, s1, s2, hB3, k1]
       · simp (disch := omega) only [go_sem, xX, AP.f98, sa, sb, n0, e1, n1, e2, ga, gb, s1, s2, hB3, k1]
def nA : ByteArray := ⟨#[97]⟩
def TG : ByteArray := ⟨#[104, 105]⟩
def eA : yR := CV nA 0 1 TG
def eG : yR := ⟨nA, true, [9, 0, 0, 0], 9, 0, 0, ⟨#[]⟩, 0, 0⟩
theorem y8.au {h : H} {e : yR} (hv : e.vec.length = 4) (nl : e.name.size < 1000000) (pl : e.packed.size < 1000000) : y8 h (e, Bn e.vec) :=
 ⟨by rw [show (e, Bn e.vec).2 = Bn e.vec from rfl, Qm hv]; have := Ad h e.vec; unfold yX at this; rw [hv] at this; exact this, by show e.vec.length < _; omega, by show e.name.size < _; omega, by show e.packed.size < _; omega⟩
theorem Rd.obj {h : H} {p n : Nat} {l : List Int} (hp : h.get p = some (ints l)) (hl : l.length = n) : Rd h (.aG p 0 n 1) (ints l) :=
 ⟨by subst hl; simp only [aU, if_true, hp, w9]; rw [if_pos (by simp), TX, xI (by simp), rF], fun s e => by cases e⟩
theorem y8.obj {h : H} {e : yR} {p n : Nat} {l : List Int} (hp : h.get p = some (ints l)) (hl : l.length = n) (he : e.vec = l := by rfl) (nl : e.name.size < 1125899906842624) (pl : e.packed.size < 1125899906842624) (hn : n < 1000000 := by decide) : y8 h (e, .aG p 0 n 1) :=
 ⟨by show Rd h _ (ints e.vec); rw [he]; exact Rd.obj hp hl, by show e.vec.length < _; rw [he]; omega, by show e.name.size < _; omega, by show e.packed.size < _; omega⟩
theorem Iy (l : List Int) : (Bn l).sc = true := by unfold Bn Jk; split <;> rfl
theorem Bg {e : yR} {v : AV} (h : v.sc = true) : AV.aE (ya e v) = true := by simp [ya, h]
def Gp : Ty := .int .i64
def Qh : Ty := .str
def C8 : Ty := .sl Gp 1 8
def N9 : Ty := .st [.str, .bool, C8, Gp, Gp, Gp, .str, Gp, Gp]
theorem CU {B : Nat} {as : List AV} (h : Sh B Gp as) : ∃ n, as = [.int .i64 n] ∧ (-9223372036854775808 ≤ n ∧ n < 9223372036854775808) := by
 cases h with
 | int h => exact ⟨_, rfl, vM h⟩
theorem LI {B : Nat} {as : List AV} (h : Sh B .bool as) : ∃ b, as = [.bool b] := by
 cases h with
 | bool b => exact ⟨b, rfl⟩
theorem Hr {as : List AV} (h : Sh reachBytes .str as) : ∃ s : ByteArray, as = [.str s] ∧ s.size < 140737488355328 := by
 cases h with
 | str h => exact ⟨_, rfl, wo h⟩
theorem LL {B : Nat} {as : List AV} {ess : List (List AV)} (h : ∀ es, es ∈ ess → Sh B Gp es) : ∃ l : List Int, l.length = ess.length ∧ ess.flatten = ints l := by
 induction ess with
 | nil => exact ⟨[], rfl, rfl⟩
 | cons x ess ih =>
   obtain ⟨n, rfl, _⟩ := CU (h x (by simp))
   obtain ⟨l, h1, h2⟩ := ih fun es q => h es (by simp [q])
   exact ⟨n :: l, by simp [h1], by rw [List.flatten_cons, h2]; rfl⟩
theorem FE {as : List AV} (h : Sh reachBytes C8 as) : ∃ (v : AV) (l : List Int), as = [v] ∧ v.sc = true ∧ (∀ g, Rd g v (ints l)) ∧ l.length < 20000000000000 := by
 cases h with
 | aR => exact ⟨.aR, [], rfl, rfl, fun g => ⟨rfl, fun s e => by cases e⟩, by simp⟩
 | aX ess h hz hb =>
   obtain ⟨l, h1, h2⟩ := LL (as := []) h
   rw [h2, ← h1]
   refine ⟨_, l, rfl, rfl, fun g => ?_, ?_⟩
   · have := Ad g l
     unfold yX at this; exact this
   · rw [h1]; unfold reachBytes at hb; omega
theorem zh {B : Nat} {f : Ty} {fs : List Ty} {as : List AV} (h : jM B (f :: fs) as) : ∃ a r, as = a ++ r ∧ Sh B f a ∧ jM B fs r := by
 cases h with
 | cons h hr => exact ⟨_, _, rfl, h, hr⟩
theorem Im {B : Nat} {as : List AV} (h : jM B [] as) : as = [] := by
 cases h; rfl
theorem Me {B : Nat} {fs : List Ty} {as : List AV} (h : Sh B (.st fs) as) : jM B fs as := by
 cases h with
 | st h => exact h
theorem Qe {as : List AV} (h : Sh reachBytes N9 as) : ∃ (e : yR) (v : AV), as = ya e v ∧ v.sc = true ∧ (∀ g, y8 g (e, v)) ∧ e.vec.length < 20000000000000 := by
 obtain ⟨a1, r1, rfl, s1, h1⟩ := zh (Me h)
 obtain ⟨a2, r2, rfl, s2, h2⟩ := zh h1
 obtain ⟨a3, r3, rfl, s3, h3⟩ := zh h2
 obtain ⟨a4, r4, rfl, s4, h4⟩ := zh h3
 obtain ⟨a5, r5, rfl, s5, h5⟩ := zh h4
 obtain ⟨a6, r6, rfl, s6, h6⟩ := zh h5
 obtain ⟨a7, r7, rfl, s7, h7⟩ := zh h6
 obtain ⟨a8, r8, rfl, s8, h8⟩ := zh h7
 obtain ⟨a9, r9, rfl, s9, h9⟩ := zh h8
 obtain rfl := Im h9
 obtain ⟨n, rfl, z1⟩ := Hr s1
 obtain ⟨g, rfl⟩ := LI s2
 obtain ⟨v, l, rfl, hv, rd, z3⟩ := FE s3
 obtain ⟨st, rfl, _⟩ := CU s4
 obtain ⟨no, rfl, _⟩ := CU s5
 obtain ⟨me, rfl, _⟩ := CU s6
 obtain ⟨pa, rfl, z7⟩ := Hr s7
 obtain ⟨si, rfl, _⟩ := CU s8
 obtain ⟨cr, rfl, _⟩ := CU s9
 exact ⟨⟨n, g, l, st, no, me, pa, si, cr⟩, v, rfl, hv, fun g => ⟨rd g, by show l.length < _; omega, by show n.size < _; omega, by show pa.size < _; omega⟩, z3⟩
theorem Tv {P : Ty × List AV → Prop} {a b c d : Ty} {r : List (Ty × List AV)} (h : r.map (·.1) = [a, b, c, d]) (hp : ∀ x ∈ r, P x) : ∃ x y z w, r = [(a, x), (b, y), (c, z), (d, w)] ∧ P (a, x) ∧ P (b, y) ∧ P (c, z) ∧ P (d, w) := by
 match r, h with
 | [(a', x), (b', y), (c', z), (d', w)], h => simp at h; obtain ⟨rfl, rfl, rfl, rfl⟩ := h; exact ⟨x, y, z, w, rfl, hp _ (by simp), hp _ (by simp), hp _ (by simp), hp _ (by simp)⟩
end Ab
