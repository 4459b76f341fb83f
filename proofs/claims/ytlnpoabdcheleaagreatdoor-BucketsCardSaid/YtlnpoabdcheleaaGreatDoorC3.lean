/- Part C3. -/
import Derived.Test.YtlnpoabdcheleaaGreatDoorC2
set_option linter.unusedSimpArgs false
set_option linter.unusedVariables false
set_option maxRecDepth 100000
namespace Ab
open Go
def Dx (s : ByteArray) : List Nat := s.data.toList.map (·.toNat)
theorem Iu (s : ByteArray) : (Dx s).length = s.size := by unfold Dx; rw [TQ, Array.length_toList]; rfl
theorem LP (a b : ByteArray) : Dx (a ++ b) = Dx a ++ Dx b := by simp [Dx]
theorem KL (s : ByteArray) : ∀ b ∈ Dx s, b < 256 := by
 intro b hb
 obtain ⟨x, _, rfl⟩ := List.mem_map.1 hb
 exact x.toNat_lt
theorem FX (s : ByteArray) : bytesOf (Dx s) = s := by
 unfold Dx bytesOf; rw [List.map_map]; apply ByteArray.ext; simp [Function.comp_def]
theorem GV {l : List Nat} (h : ∀ b ∈ l, b < 256) : Dx (bytesOf l) = l := by
 simp only [Dx, bytesOf, List.map_map]
 conv => rhs; rw [← List.map_id l]
 exact List.map_congr_left fun b hb => by simp [Function.comp, UInt8.toNat_ofNat_of_lt' (h b hb)]
theorem zX (a b : List Nat) : bytesOf a ++ bytesOf b = bytesOf (a ++ b) := by
 apply ByteArray.ext; simp [bytesOf]
theorem AJ (x k : Nat) : ∀ b ∈ ym x k, b < 256 := by
 intro b hb
 obtain ⟨i, _, rfl⟩ := List.mem_map.1 hb
 exact Nat.mod_lt _ (by omega)
theorem Du {a b : ByteArray} (h : a.size + b.size ≤ 9223372036854775807) : bE .add (.str a) (.str b) = some (.str (a ++ b)) := CY h
theorem yW {a b : List Nat} (h : a.length + b.length ≤ 9223372036854775807) : bE .add (.str (bytesOf a)) (.str (bytesOf b)) = some (.str (bytesOf (a ++ b))) := by
 rw [Du (by rw [yD, yD]; exact h), zX]
def F3 (c : Nat) (l : List Nat) : Nat := l.foldl Ai c
theorem KZ {s : ByteArray} {i : Nat} {p q : List Nat} {b : Nat} (h : Dx s = p ++ b :: q) (hi : p.length = i) : Ap s i = b := by
 have : (Dx s)[i]? = some b := by rw [h, ← hi]; simp
 unfold Ap
 unfold Dx at this
 rw [xC] at this
 have e : s[i]? = s.data.toList[i]? := by
  show s.data[i]? = _
  simp
 rw [e]
 cases hq : s.data.toList[i]? with
 | none => rw [hq] at this; cases this
 | some x => rw [hq] at this; simpa using this
theorem EF (s : ByteArray) : ∀ (q p : List Nat) (c : Nat), Dx s = p ++ q → zS s q.length p.length c = F3 c q
 | [], p, c, h => rfl
 | b :: q, p, c, h => by
   show zS s q.length (p.length + 1) (Ai c (Ap s p.length)) = _
   have := EF s q (p ++ [b]) (Ai c b) (by rw [h]; simp)
   rw [KZ h rfl]
   rw [xN] at this
   exact this
theorem Cj (a : Nat) (s : ByteArray) : zc a s = 4294967295 - F3 (4294967295 - a) (Dx s) := by
 unfold zc
 have := EF s (Dx s) [] (4294967295 - a) rfl
 rw [Iu] at this
 rw [← this]; rfl
theorem HI : ∀ (l : List Nat) {c : Nat}, c < 4294967296 → (∀ b ∈ l, b < 256) → F3 c l < 4294967296
 | [], _, h, _ => h
 | b :: l, _, h, hb => HI l (A4 h (hb b (by simp))) (fun x hx => hb x (by simp [hx]))
theorem Bw {a : Nat} (s t : ByteArray) : zc (zc a s) t = zc a (s ++ t) := by
 rw [Cj, Cj a, Cj a, LP]
 have := HI (Dx s) (c := 4294967295 - a) (by omega) (KL s)
 rw [show 4294967295 - (4294967295 - F3 (4294967295 - a) (Dx s)) = F3 (4294967295 - a) (Dx s) by omega]
 simp [F3]
def Ah (l : List Nat) : Nat := 4294967295 - F3 4294967295 l
theorem N8 (s : ByteArray) : y9 s = Ah (Dx s) := Cj 0 s
theorem A3 {l : List Nat} (h : ∀ b ∈ l, b < 256) : y9 (bytesOf l) = Ah l := by rw [N8, GV h]
def BQ (l : List Int) : List Nat := l.flatMap fun n => ym n.toNat 4
def CP (e : yR) : List Nat := ym 20592 2 ++ ym 22 2 ++ BQ e.vec ++ ym e.yu.toNat 4 ++ ym e.node.toNat 1 ++ ym (if e.gone then 1 else 0) 1
theorem Cv (l : List Int) : (BQ l).length = 4 * l.length := by
 induction l with
 | nil => rfl
 | cons n l ih => unfold BQ at *; rw [List.flatMap_cons, xN, yc, ih, TM]; omega
theorem Ix (l : List Int) : ∀ b ∈ BQ l, b < 256 := by
 intro b hb
 obtain ⟨n, _, hn⟩ := List.mem_flatMap.1 hb
 exact AJ _ _ b hn
theorem LD (e : yR) : ∀ b ∈ CP e, b < 256 := by
 intro b hb
 unfold CP at hb
 simp only [List.mem_append] at hb
 rcases hb with ((((hb | hb) | hb) | hb) | hb) | hb
 · exact AJ _ _ b hb
 · exact AJ _ _ b hb
 · exact Ix _ b hb
 · exact AJ _ _ b hb
 · exact AJ _ _ b hb
 · exact AJ _ _ b hb
def Ji (e : yR) : AV := if yQ e = true then .bW [.str (bytesOf (CP e)), .int .i64 0] else .bW [.str ⟨#[]⟩, .int .i64 1200]
theorem zC {e : yR} (h : yQ e = true) : e.vec.length = 4 ∧ (∀ n ∈ e.vec, 0 ≤ n ∧ n ≤ 1048576) ∧ (1 ≤ e.yu ∧ e.yu ≤ 1048576) ∧ (0 ≤ e.node ∧ e.node < 4) := by
 simp only [yQ, Ev, y0, D6, xe, T7, Uk] at h
 exact ⟨h.1.1, h.1.2, ⟨h.2.1, h.2.2.1.2⟩, h.2.2.2⟩
theorem GG {v P : AV} {l : List Int} (hl : l.length < 1000000) (hn : ∀ n ∈ l, 0 ≤ n ∧ n ≤ 1048576) (h : H) (rd : Rd h v (ints l)) : ∀ (q p : List Int) (acc : List Nat), l = p ++ q → acc.length + 4 * q.length < 100000000 →
 ∃ e', Lp AP.A [1, 4, 14, 15, 16] AP.f102L0 [(1, P), (4, .str (bytesOf acc)), (14, v), (15, .int .i64 l.length), (16, .int .i64 p.length)] h = some (.exit 0, e', h) ∧ look e' 1 = P ∧ look e' 4 = .str (bytesOf (acc ++ BQ q))
 | [], p, acc, hp, ha => by
   refine ⟨[(1, P), (4, .str (bytesOf acc)), (14, v), (15, .int .i64 l.length), (16, .int .i64 p.length), (17, .bool false)], vC ?_, rfl, by simp [BQ, look]⟩
   have e : l.length = p.length := by rw [hp]; simp
   rw [e]
   simp (disch := first | omega | (simp only [yH, TM, TN, xp, Nat.reduceAdd]; first | done | omega | fail) | (simp (disch := first | omega | (simp only [yH, TM, TN, xp, Nat.reduceAdd]; first | done | omega | fail) | fail) only [yH, AY, TP, TM, TN, xp, Nat.reduceAdd]; done) | fail) only [go_sem, xX, Ba, AP.f102L0]
 | n :: q, p, acc, hp, ha => by
   rw [TM] at ha
   obtain ⟨e', r1, r2, r3⟩ := GG (P := P) hl hn h rd q (p ++ [n]) (acc ++ ym n.toNat 4) (by rw [hp]; simp) (by rw [xN, yc]; omega)
   obtain ⟨ad, a1, a2⟩ := rd.zL
   have hlen : l.length = p.length + (q.length + 1) := by rw [hp]; simp
   have i1 := a1 (p.length : Int) ⟨by omega, by omega⟩
   have i2 := a2 h (Ext.refl h) p.length n (by rw [hp]; simp)
   have bn := hn n (by rw [hp]; simp)
   have k1 := fun g => BD g n.toNat 4 (by omega) (by omega)
   rw [show ((n.toNat : Nat) : Int) = n by omega] at k1
   have s1 : bE .add (.str (bytesOf acc)) (.str (Eo n.toNat 4)) = some (.str (bytesOf (acc ++ ym n.toNat 4))) := yW (by rw [yc]; omega)
   have n1 : ((p.length + 1 : Nat) : Int) = (p.length : Int) + 1 := by omega
   rw [xN, show [n].length = 1 from rfl, n1] at r1
   refine ⟨e', vD ?_ r1, r2, by rw [r3]; simp [BQ]⟩
   have k1' : ∀ g : H, aT AP.A 104 [.int .i64 n, .int .i64 4] g = some (.str (Eo n.toNat 4), g) := k1
   simp (disch := first | omega | (simp only [yH, TM, TN, xp, Nat.reduceAdd]; first | done | omega | fail) | (simp (disch := first | omega | (simp only [yH, TM, TN, xp, Nat.reduceAdd]; first | done | omega | fail) | fail) only [yH, AY, TP, TM, TN, xp, Nat.reduceAdd]; done) | fail) only [go_sem, xX, Ba, AP.f102L0, i1, i2, k1', s1]
theorem PE.obj {h : H} {id : Nat} {cs : List AV} (hg : h.get id = some cs) : PE h (.aF id 0) cs :=
 ⟨fun g => rfl, fun k => .aF id (0 + k), fun k => rfl, fun g hx k c hc => by
  show cf false 1 (.aF id (0 + k)) g = _
  rw [xp]
  simp only [cf, hx _ _ hg, w9, iW, hc]; rfl⟩
theorem Ob (h : H) (hf : h.floor ≤ h.next) (e : yR) (v : AV) (hv : v.sc = true) (ok : y8 h (e, v)) : aT AP.A 102 [.agg (ya e v)] h = some (Ji e, h) := by
 obtain ⟨A, hA⟩ : ∃ x, x = ya e v := ⟨_, rfl⟩
 have lA : A.length = 9 := by rw [hA]; rfl
 have cA : AV.aE A = true := by rw [hA]; exact Bg hv
 have g2 : A[2]? = some v := by rw [hA]; rfl
 have g1 : A[1]? = some (.bool e.gone) := by rw [hA]; rfl
 have g3 : A[3]? = some (.int .i64 e.yu) := by rw [hA]; rfl
 have g4 : A[4]? = some (.int .i64 e.node) := by rw [hA]; rfl
 have x1 : Ext h (h.eN.alloc A) := fun i c q => ((Ext.refl h.eN).alloc _) i c q
 have o1 := ok.mono x1
 have q1 : aT AP.A 112 [.aF h.next 0] (h.eN.alloc A) = some (.bool (yQ e), h.eN.alloc A) := by
  refine J6 (h.eN.alloc A) (.aF h.next 0) v e ?_ o1.vec o1.vl
  rw [← hA]; exact PE.obj (xY (by simp))
 unfold Ji
 cases hh : yQ e with
 | false =>
   rw [hh] at q1
   rw [if_neg (by decide)]
   refine wj (fn := AP.f102) (h2 := h.eN.alloc A) (e := [(2, .str ⟨#[]⟩), (3, .int .i64 1200)]) rfl rfl rfl ?_ rfl rfl
   rw [← hA]
   simp (disch := first | omega | (simp only [yH, TM, TN, xp, Nat.reduceAdd]; first | done | omega | fail) | (simp (disch := first | omega | (simp only [yH, TM, TN, xp, Nat.reduceAdd]; first | done | omega | fail) | fail) only [yH, AY, TP, TM, TN, xp, Nat.reduceAdd]; done) | fail) only [go_sem, xX, Ba, AP.f102, lA, cA, q1]
 | true =>
   rw [hh] at q1
   rw [if_pos rfl]
   obtain ⟨f1, f2, f3, f4⟩ := zC hh
   have k1 : ∀ g, aT AP.A 104 [.int .i64 20592, .int .i64 2] g = some (.str (bytesOf (ym 20592 2)), g) := fun g => BD g 20592 2 (by omega) (by omega)
   have k2 : ∀ g, aT AP.A 104 [.int .i64 22, .int .i64 2] g = some (.str (bytesOf (ym 22 2)), g) := fun g => BD g 22 2 (by omega) (by omega)
   have k3 : ∀ g, aT AP.A 104 [.int .i64 e.yu, .int .i64 4] g = some (.str (bytesOf (ym e.yu.toNat 4)), g) := fun g => by
    have := BD g e.yu.toNat 4 (by omega) (by omega)
    rw [show ((e.yu.toNat : Nat) : Int) = e.yu by omega] at this; exact this
   have k4 : ∀ g, aT AP.A 104 [.int .i64 e.node, .int .i64 1] g = some (.str (bytesOf (ym e.node.toNat 1)), g) := fun g => by
    have := BD g e.node.toNat 1 (by omega) (by omega)
    rw [show ((e.node.toNat : Nat) : Int) = e.node by omega] at this; exact this
   have k5 : ∀ g, aT AP.A 104 [.int .i64 0, .int .i64 1] g = some (.str (bytesOf (ym 0 1)), g) := fun g => BD g 0 1 (by omega) (by omega)
   have k6 : ∀ g, aT AP.A 104 [.int .i64 1, .int .i64 1] g = some (.str (bytesOf (ym 1 1)), g) := fun g => BD g 1 1 (by omega) (by omega)
   have ln := o1.vec.len
   rw [rF] at ln
   simp only [I] at ln
   obtain ⟨e', r1, r2, r3⟩ := GG (P := .aF h.next 0) (by omega) f2 (h.eN.alloc A) o1.vec e.vec [] (ym 20592 2 ++ ym 22 2) rfl (by rw [xN, yc, yc]; omega)
   have r1' : Lp AP.A [1, 4, 14, 15, 16] AP.f102L0 [(1, .aF h.next 0), (4, .str (bytesOf (ym 20592 2 ++ ym 22 2))), (14, v), (15, .int .i64 e.vec.length), (16, .int .i64 0)] (h.eN.alloc A) = some (.exit 0, e', h.eN.alloc A) := r1
   clear r1
   have vl := Cv e.vec
   have s1 : bE .add (.str (bytesOf (ym 20592 2))) (.str (bytesOf (ym 22 2))) = some (.str (bytesOf (ym 20592 2 ++ ym 22 2))) := yW (by rw [yc, yc]; omega)
   obtain ⟨L1, hL1⟩ : ∃ x, x = ym 20592 2 ++ ym 22 2 ++ BQ e.vec := ⟨_, rfl⟩
   have l1 : L1.length = 20 := by rw [hL1, xN, xN, yc, yc, vl, f1]
   obtain ⟨S1, h1⟩ : ∃ x, x = bytesOf L1 := ⟨_, rfl⟩
   obtain ⟨S2, h2⟩ : ∃ x, x = bytesOf (L1 ++ ym e.yu.toNat 4) := ⟨_, rfl⟩
   obtain ⟨S3, h3⟩ : ∃ x, x = bytesOf (L1 ++ ym e.yu.toNat 4 ++ ym e.node.toNat 1) := ⟨_, rfl⟩
   obtain ⟨S4, h4⟩ : ∃ x, x = bytesOf (L1 ++ ym e.yu.toNat 4 ++ ym e.node.toNat 1 ++ ym (if e.gone then 1 else 0) 1) := ⟨_, rfl⟩
   have s2 : bE .add (.str S1) (.str (bytesOf (ym e.yu.toNat 4))) = some (.str S2) := by rw [h1, h2]; exact yW (by rw [yc]; omega)
   have s3 : bE .add (.str S2) (.str (bytesOf (ym e.node.toNat 1))) = some (.str S3) := by rw [h2, h3]; exact yW (by rw [xN, yc, yc]; omega)
   have s4 : bE .add (.str S3) (.str (bytesOf (ym (if e.gone then 1 else 0) 1))) = some (.str S4) := by rw [h3, h4]; exact yW (by rw [xN, xN, yc, yc, yc]; omega)
   rw [show ym 20592 2 ++ ym 22 2 ++ BQ e.vec = L1 from hL1.symm, ← h1] at r3
   unfold CP
   rw [← hL1, ← hA, ← h4]
   clear hL1 o1 x1 ok h1 h2 h3 h4
   refine wj (fn := AP.f102) (h2 := h.eN.alloc A) (e := [(2, .str S4), (3, .int .i64 0)]) rfl rfl rfl ?_ rfl rfl
   cases hg : e.gone with
   | true =>
     rw [hg] at g1 s4
     rw [if_pos rfl] at s4
     simp (disch := first | omega | (simp only [yH, TM, TN, xp, Nat.reduceAdd]; first | done | omega | fail) | (simp (disch := first | omega | (simp only [yH, TM, TN, xp, Nat.reduceAdd]; first | done | omega | fail) | fail) only [yH, AY, TP, TM, TN, xp, Nat.reduceAdd]; done) | fail) only [go_sem, xX, Ba, AP.f102, lA, cA, q1, k1, k2, k3, k4, k5, k6, s1, s2, s3, s4, g1, g2, g3, g4, ln, uK, r1', r2, r3]
   | false =>
     rw [hg] at g1 s4
     rw [if_neg (by decide)] at s4
     simp (disch := first | omega | (simp only [yH, TM, TN, xp, Nat.reduceAdd]; first | done | omega | fail) | (simp (disch := first | omega | (simp only [yH, TM, TN, xp, Nat.reduceAdd]; first | done | omega | fail) | fail) only [yH, AY, TP, TM, TN, xp, Nat.reduceAdd]; done) | fail) only [go_sem, xX, Ba, AP.f102, lA, cA, q1, k1, k2, k3, k4, k5, k6, s1, s2, s3, s4, g1, g2, g3, g4, ln, uK, r1', r2, r3]
theorem E4 {v : AV} {b : Nat} {A : List AV} {l : List Int} (hl : l.length < 1000000) (hn : ∀ n ∈ l, 0 ≤ n ∧ n ≤ 1048576) (h : H) (rd : Rd h v (ints l)) (hg : h.get b = some A) (hA : A[2]? = some v) : ∀ (q p : List Int) (acc : List Nat), l = p ++ q → acc.length + 4 * q.length < 100000000 →
 ∃ e', Lp AP.A [1, 4, 5] AP.f160L0 [(1, .aF b 0), (4, .str (bytesOf acc)), (5, .int .i64 p.length)] h = some (.exit 0, e', h) ∧ look e' 1 = .aF b 0 ∧ look e' 4 = .str (bytesOf (acc ++ BQ q))
 | [], p, acc, hp, ha => by
   have ln := rd.len
   rw [rF] at ln
   simp only [I] at ln
   have e : l.length = p.length := by rw [hp]; simp
   rw [e] at ln
   refine ⟨[(1, .aF b 0), (4, .str (bytesOf acc)), (5, .int .i64 p.length), (17, .bool false)], vC ?_, rfl, by simp [BQ, look]⟩
   simp (disch := first | omega | (simp only [yH, TM, TN, xp, Nat.reduceAdd]; first | done | omega | fail) | (simp (disch := first | omega | (simp only [yH, TM, TN, xp, Nat.reduceAdd]; first | done | omega | fail) | fail) only [yH, AY, TP, TM, TN, xp, Nat.reduceAdd]; done) | fail) only [go_sem, xX, Ba, AP.f160L0, ln, hg, hA]
 | n :: q, p, acc, hp, ha => by
   rw [TM] at ha
   obtain ⟨e', r1, r2, r3⟩ := E4 hl hn h rd hg hA q (p ++ [n]) (acc ++ ym n.toNat 4) (by rw [hp]; simp) (by rw [xN, yc]; omega)
   obtain ⟨ad, a1, a2⟩ := rd.zL
   have hlen : l.length = p.length + (q.length + 1) := by rw [hp]; simp
   have ln := rd.len
   rw [rF] at ln
   simp only [I] at ln
   have i1 := a1 (p.length : Int) ⟨by omega, by omega⟩
   have i2 := a2 h (Ext.refl h) p.length n (by rw [hp]; simp)
   have bn := hn n (by rw [hp]; simp)
   have k1 : ∀ g : H, aT AP.A 161 [.int .i64 n, .int .i64 4] g = some (.str (Eo n.toNat 4), g) := fun g => by
    have := BW g n.toNat 4 (by omega)
    rw [show ((n.toNat : Nat) : Int) = n by omega] at this; exact this
   have s1 : bE .add (.str (bytesOf acc)) (.str (Eo n.toNat 4)) = some (.str (bytesOf (acc ++ ym n.toNat 4))) := yW (by rw [yc]; omega)
   have n1 : ((p.length + 1 : Nat) : Int) = (p.length : Int) + 1 := by omega
   rw [xN, show [n].length = 1 from rfl, n1] at r1
   refine ⟨e', vD ?_ r1, r2, by rw [r3]; simp [BQ]⟩
   simp (disch := first | omega | (simp only [yH, TM, TN, xp, Nat.reduceAdd]; first | done | omega | fail) | (simp (disch := first | omega | (simp only [yH, TM, TN, xp, Nat.reduceAdd]; first | done | omega | fail) | fail) only [yH, AY, TP, TM, TN, xp, Nat.reduceAdd]; done) | fail) only [go_sem, xX, Ba, AP.f160L0, ln, hg, hA, i1, i2, k1, s1]
theorem K9 (h : H) (e : yR) (v : AV) (hv : v.sc = true) (ok : y8 h (e, v)) : aT AP.A 160 [.agg (ya e v)] h = some (Ji e, h) := by
 obtain ⟨A, hA⟩ : ∃ x, x = ya e v := ⟨_, rfl⟩
 have lA : A.length = 9 := by rw [hA]; rfl
 have cA : AV.aE A = true := by rw [hA]; exact Bg hv
 have tA : List.take 9 A = A := by rw [hA]; rfl
 have g2 : A[2]? = some v := by rw [hA]; rfl
 have g1 : A[1]? = some (.bool e.gone) := by rw [hA]; rfl
 have g3 : A[3]? = some (.int .i64 e.yu) := by rw [hA]; rfl
 have g4 : A[4]? = some (.int .i64 e.node) := by rw [hA]; rfl
 have x1 : Ext h (h.eN.alloc A) := fun i c q => ((Ext.refl h.eN).alloc _) i c q
 have o1 := ok.mono x1
 have q1 : aT AP.A 169 [.agg A] (h.eN.alloc A) = some (.bool (yQ e), h.eN.alloc A) := by
  have := HU (h.eN.alloc A) v e o1.vec hv o1.vl
  rw [← hA] at this; exact this
 unfold Ji
 cases hh : yQ e with
 | false =>
   rw [hh] at q1
   rw [if_neg (by decide)]
   refine wj (fn := AP.f160) (h2 := h.eN.alloc A) (e := [(2, .str ⟨#[]⟩), (3, .int .i64 1200)]) rfl rfl rfl ?_ rfl rfl
   rw [← hA]
   simp (disch := first | omega | (simp only [yH, TM, TN, xp, Nat.reduceAdd]; first | done | omega | fail) | (simp (disch := first | omega | (simp only [yH, TM, TN, xp, Nat.reduceAdd]; first | done | omega | fail) | fail) only [yH, AY, TP, TM, TN, xp, Nat.reduceAdd]; done) | fail) only [go_sem, xX, Ba, AP.f160, lA, cA, tA, q1]
 | true =>
   rw [hh] at q1
   rw [if_pos rfl]
   obtain ⟨f1, f2, f3, f4⟩ := zC hh
   have kk : ∀ (g : H) (x k : Nat), k ≤ 8 → aT AP.A 161 [.int .i64 x, .int .i64 k] g = some (.str (bytesOf (ym x k)), g) := fun g x k hk => BW g x k hk
   have k1 : ∀ g, aT AP.A 161 [.int .i64 20592, .int .i64 2] g = some (.str (bytesOf (ym 20592 2)), g) := fun g => kk g 20592 2 (by omega)
   have k2 : ∀ g, aT AP.A 161 [.int .i64 22, .int .i64 2] g = some (.str (bytesOf (ym 22 2)), g) := fun g => kk g 22 2 (by omega)
   have k3 : ∀ g, aT AP.A 161 [.int .i64 e.yu, .int .i64 4] g = some (.str (bytesOf (ym e.yu.toNat 4)), g) := fun g => by
    have := kk g e.yu.toNat 4 (by omega)
    rw [show ((e.yu.toNat : Nat) : Int) = e.yu by omega] at this; exact this
   have k4 : ∀ g, aT AP.A 161 [.int .i64 e.node, .int .i64 1] g = some (.str (bytesOf (ym e.node.toNat 1)), g) := fun g => by
    have := kk g e.node.toNat 1 (by omega)
    rw [show ((e.node.toNat : Nat) : Int) = e.node by omega] at this; exact this
   have k5 : ∀ g, aT AP.A 161 [.int .i64 0, .int .i64 1] g = some (.str (bytesOf (ym 0 1)), g) := fun g => kk g 0 1 (by omega)
   have k6 : ∀ g, aT AP.A 161 [.int .i64 1, .int .i64 1] g = some (.str (bytesOf (ym 1 1)), g) := fun g => kk g 1 1 (by omega)
   clear kk
   obtain ⟨e', r1, r2, r3⟩ := E4 (b := h.next) (by omega) f2 (h.eN.alloc A) o1.vec (xY (by simp)) g2 e.vec [] (ym 20592 2 ++ ym 22 2) rfl (by rw [xN, yc, yc]; omega)
   have r1' : Lp AP.A [1, 4, 5] AP.f160L0 [(1, .aF h.next 0), (4, .str (bytesOf (ym 20592 2 ++ ym 22 2))), (5, .int .i64 0)] (h.eN.alloc A) = some (.exit 0, e', h.eN.alloc A) := r1
   clear r1
   have vl := Cv e.vec
   have s1 : bE .add (.str (bytesOf (ym 20592 2))) (.str (bytesOf (ym 22 2))) = some (.str (bytesOf (ym 20592 2 ++ ym 22 2))) := yW (by rw [yc, yc]; omega)
   obtain ⟨L1, hL1⟩ : ∃ x, x = ym 20592 2 ++ ym 22 2 ++ BQ e.vec := ⟨_, rfl⟩
   have l1 : L1.length = 20 := by rw [hL1, xN, xN, yc, yc, vl, f1]
   obtain ⟨S1, h1⟩ : ∃ x, x = bytesOf L1 := ⟨_, rfl⟩
   obtain ⟨S2, h2⟩ : ∃ x, x = bytesOf (L1 ++ ym e.yu.toNat 4) := ⟨_, rfl⟩
   obtain ⟨S3, h3⟩ : ∃ x, x = bytesOf (L1 ++ ym e.yu.toNat 4 ++ ym e.node.toNat 1) := ⟨_, rfl⟩
   obtain ⟨S4, h4⟩ : ∃ x, x = bytesOf (L1 ++ ym e.yu.toNat 4 ++ ym e.node.toNat 1 ++ ym (if e.gone then 1 else 0) 1) := ⟨_, rfl⟩
   have s2 : bE .add (.str S1) (.str (bytesOf (ym e.yu.toNat 4))) = some (.str S2) := by rw [h1, h2]; exact yW (by rw [yc]; omega)
   have s3 : bE .add (.str S2) (.str (bytesOf (ym e.node.toNat 1))) = some (.str S3) := by rw [h2, h3]; exact yW (by rw [xN, yc, yc]; omega)
   have s4 : bE .add (.str S3) (.str (bytesOf (ym (if e.gone then 1 else 0) 1))) = some (.str S4) := by rw [h3, h4]; exact yW (by rw [xN, xN, yc, yc, yc]; omega)
   rw [show ym 20592 2 ++ ym 22 2 ++ BQ e.vec = L1 from hL1.symm, ← h1] at r3
   unfold CP
   rw [← hL1, ← hA, ← h4]
   clear hL1 o1 x1 ok h1 h2 h3 h4
   refine wj (fn := AP.f160) (h2 := h.eN.alloc A) (e := [(2, .str S4), (3, .int .i64 0)]) rfl rfl rfl ?_ rfl rfl
   cases hg : e.gone with
   | true =>
     rw [hg] at g1 s4
     rw [if_pos rfl] at s4
     simp (disch := first | omega | (simp only [yH, TM, TN, xp, Nat.reduceAdd]; first | done | omega | fail) | (simp (disch := first | omega | (simp only [yH, TM, TN, xp, Nat.reduceAdd]; first | done | omega | fail) | fail) only [yH, AY, TP, TM, TN, xp, Nat.reduceAdd]; done) | fail) only [go_sem, xX, Ba, AP.f160, lA, cA, tA, q1, k1, k2, k3, k4, k5, k6, s1, s2, s3, s4, g1, g2, g3, g4, uK, r1', r2, r3]
   | false =>
     rw [hg] at g1 s4
     rw [if_neg (by decide)] at s4
     simp (disch := first | omega | (simp only [yH, TM, TN, xp, Nat.reduceAdd]; first | done | omega | fail) | (simp (disch := first | omega | (simp only [yH, TM, TN, xp, Nat.reduceAdd]; first | done | omega | fail) | fail) only [yH, AY, TP, TM, TN, xp, Nat.reduceAdd]; done) | fail) only [go_sem, xX, Ba, AP.f160, lA, cA, tA, q1, k1, k2, k3, k4, k5, k6, s1, s2, s3, s4, g1, g2, g3, g4, uK, r1', r2, r3]
def CE (e : yR) : List Nat := ym e.name.size 1 ++ Dx e.name ++ CP e ++ ym e.A9.toNat 4
def IP (e : yR) : Option Nat := if zM e = true then some (Ah (CE e)) else none
def LO : Option Nat → AV
 | some n => .bW [.int .i64 n, .int .i64 0]
 | none => .bW [.int .i64 0, .int .i64 1500]
theorem GQ (l : List Nat) : Ah l < 4294967296 := by unfold Ah; omega
theorem HJ (p : Nat) (ss : List ByteArray) (h : H) (hg : h.get p = some (ss.map AV.str)) (hs : ∀ s ∈ ss, s.size < 1125899906842624) (hl : ss.length < 1000000) : ∀ (q pr : List ByteArray) (a : Nat), ss = pr ++ q → a < 4294967296 →
 ∃ e', Lp AP.A [6, 7, 28, 29, 30] AP.f91L0 [(6, .fn 103 [] []), (7, .int .i64 a), (28, .aG p 0 ss.length 1), (29, .int .i64 ss.length), (30, .int .i64 pr.length)] h = some (.exit 0, e', h) ∧ look e' 7 = .int .i64 (q.foldl zc a : Nat)
 | [], pr, a, hp, ha => by
   have e : ss.length = pr.length := by rw [hp]; simp
   refine ⟨[(6, .fn 103 [] []), (7, .int .i64 a), (28, .aG p 0 ss.length 1), (29, .int .i64 ss.length), (30, .int .i64 pr.length), (31, .bool false)], vC ?_, rfl⟩
   rw [e]
   simp (disch := first | omega | (simp only [yH, TM, TN, xp, Nat.reduceAdd]; first | done | omega | fail) | (simp (disch := first | omega | (simp only [yH, TM, TN, xp, Nat.reduceAdd]; first | done | omega | fail) | fail) only [yH, AY, TP, TM, TN, xp, Nat.reduceAdd]; done) | fail) only [go_sem, xX, Ba, AP.f91L0]
 | s :: q, pr, a, hp, ha => by
   obtain ⟨e', r1, r2⟩ := HJ p ss h hg hs hl q (pr ++ [s]) (zc a s) (by rw [hp]; simp) (DW a s)
   have hlen : ss.length = pr.length + (q.length + 1) := by rw [hp]; simp
   have k1 := Ho h s a ha (hs s (by rw [hp]; simp))
   have g1 : (ss.map AV.str)[pr.length]? = some (.str s) := by rw [hp]; simp
   have n1 : ((pr.length + 1 : Nat) : Int) = (pr.length : Int) + 1 := by omega
   rw [xN, show [s].length = 1 from rfl, n1] at r1
   refine ⟨e', vD ?_ r1, r2⟩
   simp (disch := first | omega | (simp only [yH, TM, TN, xp, Nat.reduceAdd]; first | done | omega | fail) | (simp (disch := first | omega | (simp only [yH, TM, TN, xp, Nat.reduceAdd]; first | done | omega | fail) | fail) only [yH, AY, TP, TM, TN, xp, Nat.reduceAdd]; done) | fail) only [go_sem, xX, Ba, AP.f91L0, hg, k1, g1]
theorem P1 (a b c d : ByteArray) : [a, b, c, d].foldl zc 0 = y9 (a ++ b ++ c ++ d) := by
 show zc (zc (zc (zc 0 a) b) c) d = zc 0 _
 rw [Bw, Bw, Bw]
 congr 1
 simp only [ByteArray.append_assoc]
theorem I9 (s : ByteArray) : DV s = true ↔ s.size = 0 := by
 unfold DV
 rw [beq_iff_eq]
 constructor
 · intro h; rw [← Iu]; unfold Dx; rw [h]; rfl
 · intro h
   have : s.data.toList.length = 0 := by rw [Array.length_toList]; exact h
   rw [Ua this]
theorem EX {e : yR} (h : zM e = true) : yQ e = true ∧ (1 ≤ e.name.size ∧ e.name.size ≤ 8) ∧ 0 ≤ e.A9 ∧ e.A9 ≤ 4294967295 := by
 unfold zM Bq at h
 split at h
 · cases h
 · rename_i hm
   have hm : zN [e] = true := by cases q : zN [e] with | true => rfl | false => exact absurd q hm
   simp only [zN, A6, Fo, xe, Bool.and_true] at hm
   obtain ⟨⟨h1, h2, h3⟩, _⟩ := hm
   refine ⟨h2, ?_, ?_⟩
   · simp only [zD, xe, T7] at h1
     exact ⟨h1.1, h1.2.1⟩
   · unfold zH at h3
     split at h3
     · simp only [xe, T7] at h3; omega
     · simp only [xe, T7, Ch] at h3; omega
theorem HK (e : yR) : ∀ b ∈ CE e, b < 256 := by
 intro b hb
 unfold CE at hb
 simp only [List.mem_append] at hb
 rcases hb with ((hb | hb) | hb) | hb
 · exact AJ _ _ b hb
 · exact KL _ b hb
 · exact LD _ b hb
 · exact AJ _ _ b hb
theorem HL (e : yR) : bytesOf (ym e.name.size 1) ++ e.name ++ bytesOf (CP e) ++ bytesOf (ym e.A9.toNat 4) = bytesOf (CE e) := by
 unfold CE
 rw [← zX, ← zX, ← zX, FX]
theorem GF {e : yR} (h : yQ e = true) : (CP e).length = 26 := by
 obtain ⟨f1, _⟩ := zC h
 unfold CP
 simp only [xN, yc, Cv, f1]
set_option maxHeartbeats 1000000 in
theorem JK (h : H) (hf : h.floor ≤ h.next) (e : yR) (v : AV) (hv : v.sc = true) (ok : y8 h (e, v)) : aT AP.A 91 [.agg (ya e v)] h = some (LO (IP e), h) := by
 obtain ⟨A, hA⟩ : ∃ x, x = ya e v := ⟨_, rfl⟩
 have lA : A.length = 9 := by rw [hA]; rfl
 have cA : AV.aE A = true := by rw [hA]; exact Bg hv
 have tA : List.take 9 A = A := by rw [hA]; rfl
 have g0 : A[0]? = some (.str e.name) := by rw [hA]; rfl
 have g8 : A[8]? = some (.int .i64 e.A9) := by rw [hA]; rfl
 have x1 : Ext h (h.eN.alloc A) := fun i c q => ((Ext.refl h.eN).alloc _) i c q
 have o1 := ok.mono x1
 have f1 : (h.eN.alloc A).floor ≤ (h.eN.alloc A).next := by simp
 have q1 : aT AP.A 96 [.agg A] (h.eN.alloc A) = some (.bool (zM e), h.eN.alloc A) := by
  have := JS (h.eN.alloc A) f1 e v hv o1
  rw [← hA] at this; exact this
 unfold IP
 cases hm : zM e with
 | false =>
   rw [hm] at q1
   rw [if_neg (by decide)]
   refine wj (fn := AP.f91) (h2 := h.eN.alloc A) (e := [(2, .int .i64 0), (3, .int .i64 1500)]) rfl rfl rfl ?_ rfl rfl
   rw [← hA]
   simp (disch := first | omega | (simp only [yH, TM, TN, xp, Nat.reduceAdd]; first | done | omega | fail) | (simp (disch := first | omega | (simp only [yH, TM, TN, xp, Nat.reduceAdd]; first | done | omega | fail) | fail) only [yH, AY, TP, TM, TN, xp, Nat.reduceAdd]; done) | fail) only [go_sem, xX, Ba, AP.f91, lA, cA, tA, q1]
 | true =>
   rw [hm] at q1
   rw [if_pos rfl]
   obtain ⟨m1, m2, m3⟩ := EX hm
   have q2 : aT AP.A 102 [.agg A] (h.eN.alloc A) = some (.bW [.str (bytesOf (CP e)), .int .i64 0], h.eN.alloc A) := by
    have := Ob (h.eN.alloc A) f1 e v hv o1
    unfold Ji at this
    rw [if_pos m1, ← hA] at this; exact this
   have q3 : ∀ g, aT AP.A 104 [.int .i64 e.name.size, .int .i64 1] g = some (.str (bytesOf (ym e.name.size 1)), g) := fun g => BD g e.name.size 1 (by omega) (by omega)
   have q4 : ∀ g, aT AP.A 104 [.int .i64 e.A9, .int .i64 4] g = some (.str (bytesOf (ym e.A9.toNat 4)), g) := fun g => by
    have := BD g e.A9.toNat 4 (by omega) (by omega)
    rw [show ((e.A9.toNat : Nat) : Int) = e.A9 by omega] at this; exact this
   have pl := GF m1
   obtain ⟨T1, e1⟩ : ∃ x, x = bytesOf (ym e.name.size 1) := ⟨_, rfl⟩
   obtain ⟨T3, e3⟩ : ∃ x, x = bytesOf (CP e) := ⟨_, rfl⟩
   obtain ⟨T4, e4⟩ : ∃ x, x = bytesOf (ym e.A9.toNat 4) := ⟨_, rfl⟩
   have ds := HL e
   rw [← e1, ← e3, ← e4] at ds
   rw [← e3] at q2
   rw [← e1] at q3
   rw [← e4] at q4
   have t1 : T1.size = 1 := by rw [e1, yD, yc]
   have t3 : T3.size = 26 := by rw [e3, yD, pl]
   have t4 : T4.size = 4 := by rw [e4, yD, yc]
   obtain ⟨e', r1, r2⟩ := HJ (h.next + 1) [T1, e.name, T3, T4] ((h.eN.alloc A).alloc [.str T1, .str e.name, .str T3, .str T4]) (xY (by simp)) (by
    intro s hs
    simp only [xK, List.mem_nil_iff, or_false] at hs
    rcases hs with rfl | rfl | rfl | rfl <;> omega) (by simp) [T1, e.name, T3, T4] [] 0 rfl (by omega)
   rw [P1, ds, A3 (HK e)] at r2
   have r1' : Lp AP.A [6, 7, 28, 29, 30] AP.f91L0 [(6, .fn 103 [] []), (7, .int .i64 0), (28, .aG (h.next + 1) 0 4 1), (29, .int .i64 4), (30, .int .i64 0)] ((h.eN.alloc A).alloc [.str T1, .str e.name, .str T3, .str T4]) = some (.exit 0, e', (h.eN.alloc A).alloc [.str T1, .str e.name, .str T3, .str T4]) := r1
   clear r1
   refine wj (fn := AP.f91) (h2 := (h.eN.alloc A).alloc [.str T1, .str e.name, .str T3, .str T4]) (e := [(2, .int .i64 (Ah (CE e))), (3, .int .i64 0)]) rfl rfl rfl ?_ rfl rfl
   rw [← hA]
   clear ds e1 e3 e4 o1 x1 ok
   simp (disch := first | omega | (simp only [yH, TM, TN, xp, Nat.reduceAdd]; first | done | omega | fail) | (simp (disch := first | omega | (simp only [yH, TM, TN, xp, Nat.reduceAdd]; first | done | omega | fail) | fail) only [yH, AY, TP, TM, TN, xp, Nat.reduceAdd]; done) | fail) only [go_sem, xX, Ba, AP.f91, lA, cA, tA, q1, q2, q3, q4, g0, g8, uK, r1', r2]
theorem IQ (h : H) (e : yR) (v : AV) (hv : v.sc = true) (ok : y8 h (e, v)) : aT AP.A 151 [.agg (ya e v)] h = some (LO (IP e), h) := by
 obtain ⟨A, hA⟩ : ∃ x, x = ya e v := ⟨_, rfl⟩
 have lA : A.length = 9 := by rw [hA]; rfl
 have cA : AV.aE A = true := by rw [hA]; exact Bg hv
 have tA : List.take 9 A = A := by rw [hA]; rfl
 have g0 : A[0]? = some (.str e.name) := by rw [hA]; rfl
 have g8 : A[8]? = some (.int .i64 e.A9) := by rw [hA]; rfl
 have x1 : Ext h (h.eN.alloc A) := fun i c q => ((Ext.refl h.eN).alloc _) i c q
 have o1 := ok.mono x1
 have q1 : aT AP.A 157 [.agg A] (h.eN.alloc A) = some (.bool (zM e), h.eN.alloc A) := by
  have := HO (h.eN.alloc A) e v hv o1
  rw [← hA] at this; exact this
 unfold IP
 cases hm : zM e with
 | false =>
   rw [hm] at q1
   rw [if_neg (by decide)]
   refine wj (fn := AP.f151) (h2 := h.eN.alloc A) (e := [(2, .int .i64 0), (3, .int .i64 1500)]) rfl rfl rfl ?_ rfl rfl
   rw [← hA]
   simp (disch := first | omega | (simp only [yH, TM, TN, xp, Nat.reduceAdd]; first | done | omega | fail) | (simp (disch := first | omega | (simp only [yH, TM, TN, xp, Nat.reduceAdd]; first | done | omega | fail) | fail) only [yH, AY, TP, TM, TN, xp, Nat.reduceAdd]; done) | fail) only [go_sem, xX, Ba, AP.f151, lA, cA, tA, q1]
 | true =>
   rw [hm] at q1
   rw [if_pos rfl]
   obtain ⟨m1, m2, m3⟩ := EX hm
   have q2 : aT AP.A 160 [.agg A] (h.eN.alloc A) = some (.bW [.str (bytesOf (CP e)), .int .i64 0], h.eN.alloc A) := by
    have := K9 (h.eN.alloc A) e v hv o1
    unfold Ji at this
    rw [if_pos m1, ← hA] at this; exact this
   have q3 : ∀ g, aT AP.A 161 [.int .i64 e.name.size, .int .i64 1] g = some (.str (bytesOf (ym e.name.size 1)), g) := fun g => BW g e.name.size 1 (by omega)
   have q4 : ∀ g, aT AP.A 161 [.int .i64 e.A9, .int .i64 4] g = some (.str (bytesOf (ym e.A9.toNat 4)), g) := fun g => by
    have := BW g e.A9.toNat 4 (by omega)
    rw [show ((e.A9.toNat : Nat) : Int) = e.A9 by omega] at this; exact this
   have pl := GF m1
   obtain ⟨T1, e1⟩ : ∃ x, x = bytesOf (ym e.name.size 1) := ⟨_, rfl⟩
   obtain ⟨T3, e3⟩ : ∃ x, x = bytesOf (CP e) := ⟨_, rfl⟩
   obtain ⟨T4, e4⟩ : ∃ x, x = bytesOf (ym e.A9.toNat 4) := ⟨_, rfl⟩
   have ds := HL e
   rw [← e1, ← e3, ← e4] at ds
   rw [← e3] at q2
   rw [← e1] at q3
   rw [← e4] at q4
   have t1 : T1.size = 1 := by rw [e1, yD, yc]
   have t3 : T3.size = 26 := by rw [e3, yD, pl]
   have t4 : T4.size = 4 := by rw [e4, yD, yc]
   have s1 : bE .add (.str T1) (.str e.name) = some (.str (T1 ++ e.name)) := Du (by omega)
   have s2 : bE .add (.str (T1 ++ e.name)) (.str T3) = some (.str (T1 ++ e.name ++ T3)) := Du (by rw [Ug]; omega)
   have s3 : bE .add (.str (T1 ++ e.name ++ T3)) (.str T4) = some (.str (bytesOf (CE e))) := by rw [← ds]; exact Du (by rw [Ug, Ug]; omega)
   have zz : (bytesOf (CE e)).size < 1125899906842624 := by rw [← ds, Ug, Ug, Ug]; omega
   have k1 : ∀ g, aT AP.A 101 [.str (bytesOf (CE e))] g = some (.int .i64 (Ah (CE e)), g) := fun g => by rw [DM g _ zz, A3 (HK e)]
   refine wj (fn := AP.f151) (h2 := h.eN.alloc A) (e := [(2, .int .i64 (Ah (CE e))), (3, .int .i64 0)]) rfl rfl rfl ?_ rfl rfl
   rw [← hA]
   clear ds e1 e3 e4 o1 x1 ok zz
   generalize T1 ++ e.name ++ T3 = T6 at *
   generalize T1 ++ e.name = T5 at *
   simp (disch := first | omega | (simp only [yH, TM, TN, xp, Nat.reduceAdd]; first | done | omega | fail) | (simp (disch := first | omega | (simp only [yH, TM, TN, xp, Nat.reduceAdd]; first | done | omega | fail) | fail) only [yH, AY, TP, TM, TN, xp, Nat.reduceAdd]; done) | fail) only [go_sem, xX, Ba, AP.f151, lA, cA, tA, q1, q2, q3, q4, g0, g8, s1, s2, s3, k1]
def Af (l : List Int) : List Nat := l.flatMap fun n => ym n.toNat 4
def Da (l : List Int) : Option Nat := if l.all Ch = true then some (Ah (Af l)) else none
theorem Gz (l : List Int) : ∀ b ∈ Af l, b < 256 := Ix l
theorem EW {v : AV} {l : List Int} (hl : l.length < 1125899906842624) (h : H) (rd : Rd h v (ints l)) : ∀ (q p : List Int) (a : Nat), l = p ++ q → a < 4294967296 →
 (q.all Ch = true ∧ ∃ e', Lp AP.A [4, 7, 8, 9] AP.f93L0 [(4, .int .i64 a), (7, v), (8, .int .i64 l.length), (9, .int .i64 p.length)] h = some (.exit 0, e', h) ∧ look e' 4 = .int .i64 (zc a (bytesOf (Af q)) : Nat)) ∨
 (q.all Ch = false ∧ ∃ e', Lp AP.A [4, 7, 8, 9] AP.f93L0 [(4, .int .i64 a), (7, v), (8, .int .i64 l.length), (9, .int .i64 p.length)] h = some (.ret, e', h) ∧ look e' 2 = .int .i64 0 ∧ look e' 3 = .int .i64 1500)
 | [], p, a, hp, ha => by
   left
   have e : l.length = p.length := by rw [hp]; simp
   refine ⟨rfl, [(4, .int .i64 a), (7, v), (8, .int .i64 l.length), (9, .int .i64 p.length), (10, .bool false)], vC ?_, ?_⟩
   · rw [e]
     simp (disch := first | omega | (simp only [yH, TM, TN, xp, Nat.reduceAdd]; first | done | omega | fail) | (simp (disch := first | omega | (simp only [yH, TM, TN, xp, Nat.reduceAdd]; first | done | omega | fail) | fail) only [yH, AY, TP, TM, TN, xp, Nat.reduceAdd]; done) | fail) only [go_sem, xX, Ba, AP.f93L0]
   · show AV.int .i64 (a : Int) = .int .i64 ((zc a (bytesOf []) : Nat) : Int)
     rw [Cj]
     have : F3 (4294967295 - a) (Dx (bytesOf [])) = 4294967295 - a := rfl
     rw [this]; congr 1; omega
 | n :: q, p, a, hp, ha => by
   obtain ⟨ad, a1, a2⟩ := rd.zL
   have hlen : l.length = p.length + (q.length + 1) := by rw [hp]; simp
   have i1 := a1 (p.length : Int) ⟨by omega, by omega⟩
   have i2 := a2 h (Ext.refl h) p.length n (by rw [hp]; simp)
   have k1 := SW h n
   rw [List.all_cons]
   cases hn : Ch n with
   | false =>
     rw [hn] at k1
     right
     refine ⟨rfl, [(2, .int .i64 0), (3, .int .i64 1500)], vW ?_, rfl, rfl⟩
     simp (disch := first | omega | (simp only [yH, TM, TN, xp, Nat.reduceAdd]; first | done | omega | fail) | (simp (disch := first | omega | (simp only [yH, TM, TN, xp, Nat.reduceAdd]; first | done | omega | fail) | fail) only [yH, AY, TP, TM, TN, xp, Nat.reduceAdd]; done) | fail) only [go_sem, xX, Ba, AP.f93L0, i1, i2, k1]
   | true =>
     rw [hn] at k1
     rw [Ub]
     simp only [Ch, T7] at hn
     have k2 : ∀ g, aT AP.A 104 [.int .i64 n, .int .i64 4] g = some (.str (bytesOf (ym n.toNat 4)), g) := fun g => by
      have := BD g n.toNat 4 (by omega) (by omega)
      rw [show ((n.toNat : Nat) : Int) = n by omega] at this; exact this
     have k3 := Ho h (bytesOf (ym n.toNat 4)) a ha (by rw [yD, yc]; omega)
     have n1 : ((p.length + 1 : Nat) : Int) = (p.length : Int) + 1 := by omega
     have ih := EW hl h rd q (p ++ [n]) (zc a (bytesOf (ym n.toNat 4))) (by rw [hp]; simp) (DW _ _)
     rw [xN, show [n].length = 1 from rfl, n1, Bw, zX] at ih
     rcases ih with ⟨g1, e', r1, r2⟩ | ⟨g1, e', r1, r2⟩
     · left
       refine ⟨g1, e', vD ?_ r1, r2⟩
       simp (disch := first | omega | (simp only [yH, TM, TN, xp, Nat.reduceAdd]; first | done | omega | fail) | (simp (disch := first | omega | (simp only [yH, TM, TN, xp, Nat.reduceAdd]; first | done | omega | fail) | fail) only [yH, AY, TP, TM, TN, xp, Nat.reduceAdd]; done) | fail) only [go_sem, xX, Ba, AP.f93L0, i1, i2, k1, k2, k3]
     · right
       refine ⟨g1, e', vD ?_ r1, r2⟩
       simp (disch := first | omega | (simp only [yH, TM, TN, xp, Nat.reduceAdd]; first | done | omega | fail) | (simp (disch := first | omega | (simp only [yH, TM, TN, xp, Nat.reduceAdd]; first | done | omega | fail) | fail) only [yH, AY, TP, TM, TN, xp, Nat.reduceAdd]; done) | fail) only [go_sem, xX, Ba, AP.f93L0, i1, i2, k1, k2, k3]
theorem Kc (h : H) (v : AV) (l : List Int) (rd : Rd h v (ints l)) (hl : l.length < 1125899906842624) : aT AP.A 93 [v] h = some (LO (Da l), h) := by
 have rd' := rd.mono (yg h)
 have ln := rd'.len
 rw [rF] at ln
 simp only [I] at ln
 unfold Da
 rcases EW hl h.eN rd' l [] 0 rfl (by omega) with ⟨g1, e', r1, r2⟩ | ⟨g1, e', r1, r2, r3⟩
 · rw [if_pos g1]
   have r1' : Lp AP.A [4, 7, 8, 9] AP.f93L0 [(4, .int .i64 0), (7, v), (8, .int .i64 l.length), (9, .int .i64 0)] h.eN = some (.exit 0, e', h.eN) := r1
   have r2' : look e' 4 = .int .i64 (Ah (Af l)) := by rw [r2, ← A3 (Gz l)]; rfl
   refine wj (fn := AP.f93) (h2 := h.eN) (e := [(2, .int .i64 (Ah (Af l))), (3, .int .i64 0)]) rfl rfl rfl ?_ rfl rfl
   simp (disch := first | omega | (simp only [yH, TM, TN, xp, Nat.reduceAdd]; first | done | omega | fail) | (simp (disch := first | omega | (simp only [yH, TM, TN, xp, Nat.reduceAdd]; first | done | omega | fail) | fail) only [yH, AY, TP, TM, TN, xp, Nat.reduceAdd]; done) | fail) only [go_sem, xX, Ba, AP.f93, ln, uK, r1', r2']
 · rw [if_neg (by rw [g1]; decide)]
   have r1' : Lp AP.A [4, 7, 8, 9] AP.f93L0 [(4, .int .i64 0), (7, v), (8, .int .i64 l.length), (9, .int .i64 0)] h.eN = some (.ret, e', h.eN) := r1
   refine wj (fn := AP.f93) (h2 := h.eN) (e := e') rfl rfl rfl ?_ (by simp only [AP.f93, cW, oW, r2, r3]; rfl) rfl
   simp (disch := first | omega | (simp only [yH, TM, TN, xp, Nat.reduceAdd]; first | done | omega | fail) | (simp (disch := first | omega | (simp only [yH, TM, TN, xp, Nat.reduceAdd]; first | done | omega | fail) | fail) only [yH, AY, TP, TM, TN, xp, Nat.reduceAdd]; done) | fail) only [go_sem, xX, Ba, AP.f93, ln, uK, r1']
theorem S8 (h : H) (x : Int) : aT AP.A 162 [.int .i64 x] h = some (.bool (Ch x), h) := by
 refine wj (fn := AP.f162) (h2 := h.eN) (e := [(2, .bool (Ch x))]) rfl rfl rfl ?_ rfl rfl
 unfold Ch
 by_cases c1 : 0 ≤ x
 · by_cases c2 : x ≤ 4294967295
   · simp (disch := first | omega | (simp only [yH, TM, TN, xp, Nat.reduceAdd]; first | done | omega | fail) | (simp (disch := first | omega | (simp only [yH, TM, TN, xp, Nat.reduceAdd]; first | done | omega | fail) | fail) only [yH, AY, TP, TM, TN, xp, Nat.reduceAdd]; done) | fail) only [go_sem, xX, Ba, AP.f162]
   · simp (disch := first | omega | (simp only [yH, TM, TN, xp, Nat.reduceAdd]; first | done | omega | fail) | (simp (disch := first | omega | (simp only [yH, TM, TN, xp, Nat.reduceAdd]; first | done | omega | fail) | fail) only [yH, AY, TP, TM, TN, xp, Nat.reduceAdd]; done) | fail) only [go_sem, xX, Ba, AP.f162]
 · simp (disch := first | omega | (simp only [yH, TM, TN, xp, Nat.reduceAdd]; first | done | omega | fail) | (simp (disch := first | omega | (simp only [yH, TM, TN, xp, Nat.reduceAdd]; first | done | omega | fail) | fail) only [yH, AY, TP, TM, TN, xp, Nat.reduceAdd]; done) | fail) only [go_sem, xX, Ba, AP.f162]
theorem D3 {v : AV} {l : List Int} (hl : l.length < 281474976710656) (h : H) (rd : Rd h v (ints l)) : ∀ (q p : List Int) (acc : List Nat), l = p ++ q → acc.length + 4 * q.length < 1125899906842624 →
 (q.all Ch = true ∧ ∃ e', Lp AP.A [0, 4, 5] AP.f152L0 [(0, v), (4, .str (bytesOf acc)), (5, .int .i64 p.length)] h = some (.exit 0, e', h) ∧ look e' 4 = .str (bytesOf (acc ++ Af q))) ∨
 (q.all Ch = false ∧ ∃ e', Lp AP.A [0, 4, 5] AP.f152L0 [(0, v), (4, .str (bytesOf acc)), (5, .int .i64 p.length)] h = some (.ret, e', h) ∧ look e' 2 = .int .i64 0 ∧ look e' 3 = .int .i64 1500)
 | [], p, acc, hp, ha => by
   left
   have e : l.length = p.length := by rw [hp]; simp
   have ln := rd.len
   rw [rF] at ln
   simp only [I] at ln
   refine ⟨rfl, [(0, v), (4, .str (bytesOf acc)), (5, .int .i64 p.length), (9, .bool false)], vC ?_, by simp [Af, look]⟩
   rw [e] at ln
   simp (disch := first | omega | (simp only [yH, TM, TN, xp, Nat.reduceAdd]; first | done | omega | fail) | (simp (disch := first | omega | (simp only [yH, TM, TN, xp, Nat.reduceAdd]; first | done | omega | fail) | fail) only [yH, AY, TP, TM, TN, xp, Nat.reduceAdd]; done) | fail) only [go_sem, xX, Ba, AP.f152L0, ln]
 | n :: q, p, acc, hp, ha => by
   rw [TM] at ha
   have ln := rd.len
   rw [rF] at ln
   simp only [I] at ln
   obtain ⟨ad, a1, a2⟩ := rd.zL
   have hlen : l.length = p.length + (q.length + 1) := by rw [hp]; simp
   have i1 := a1 (p.length : Int) ⟨by omega, by omega⟩
   have i2 := a2 h (Ext.refl h) p.length n (by rw [hp]; simp)
   have k1 := S8 h n
   rw [List.all_cons]
   cases hn : Ch n with
   | false =>
     rw [hn] at k1
     right
     refine ⟨rfl, [(2, .int .i64 0), (3, .int .i64 1500)], vW ?_, rfl, rfl⟩
     simp (disch := first | omega | (simp only [yH, TM, TN, xp, Nat.reduceAdd]; first | done | omega | fail) | (simp (disch := first | omega | (simp only [yH, TM, TN, xp, Nat.reduceAdd]; first | done | omega | fail) | fail) only [yH, AY, TP, TM, TN, xp, Nat.reduceAdd]; done) | fail) only [go_sem, xX, Ba, AP.f152L0, ln, i1, i2, k1]
   | true =>
     rw [hn] at k1
     rw [Ub]
     simp only [Ch, T7] at hn
     have k2 : ∀ g, aT AP.A 161 [.int .i64 n, .int .i64 4] g = some (.str (bytesOf (ym n.toNat 4)), g) := fun g => by
      have := BW g n.toNat 4 (by omega)
      rw [show ((n.toNat : Nat) : Int) = n by omega] at this; exact this
     have s1 : bE .add (.str (bytesOf acc)) (.str (bytesOf (ym n.toNat 4))) = some (.str (bytesOf (acc ++ ym n.toNat 4))) := yW (by rw [yc]; omega)
     have n1 : ((p.length + 1 : Nat) : Int) = (p.length : Int) + 1 := by omega
     have ih := D3 hl h rd q (p ++ [n]) (acc ++ ym n.toNat 4) (by rw [hp]; simp) (by rw [xN, yc]; omega)
     rw [xN, show [n].length = 1 from rfl, n1] at ih
     rcases ih with ⟨g1, e', r1, r2⟩ | ⟨g1, e', r1, r2⟩
     · left
       refine ⟨g1, e', vD ?_ r1, by rw [r2]; simp [Af]⟩
       simp (disch := first | omega | (simp only [yH, TM, TN, xp, Nat.reduceAdd]; first | done | omega | fail) | (simp (disch := first | omega | (simp only [yH, TM, TN, xp, Nat.reduceAdd]; first | done | omega | fail) | fail) only [yH, AY, TP, TM, TN, xp, Nat.reduceAdd]; done) | fail) only [go_sem, xX, Ba, AP.f152L0, ln, i1, i2, k1, k2, s1]
     · right
       refine ⟨g1, e', vD ?_ r1, r2⟩
       simp (disch := first | omega | (simp only [yH, TM, TN, xp, Nat.reduceAdd]; first | done | omega | fail) | (simp (disch := first | omega | (simp only [yH, TM, TN, xp, Nat.reduceAdd]; first | done | omega | fail) | fail) only [yH, AY, TP, TM, TN, xp, Nat.reduceAdd]; done) | fail) only [go_sem, xX, Ba, AP.f152L0, ln, i1, i2, k1, k2, s1]
theorem HX (h : H) (v : AV) (l : List Int) (rd : Rd h v (ints l)) (hl : l.length < 140737488355328) : aT AP.A 152 [v] h = some (LO (Da l), h) := by
 have rd' := rd.mono (yg h)
 unfold Da
 rcases D3 (by omega) h.eN rd' l [] [] rfl (by rw [TN]; omega) with ⟨g1, e', r1, r2⟩ | ⟨g1, e', r1, r2, r3⟩
 · rw [if_pos g1]
   have r1' : Lp AP.A [0, 4, 5] AP.f152L0 [(0, v), (4, .str ⟨#[]⟩), (5, .int .i64 0)] h.eN = some (.exit 0, e', h.eN) := r1
   have zz : (bytesOf (Af l)).size < 1125899906842624 := by
    rw [yD]; have := Cv l; unfold BQ at this; unfold Af; rw [this]; omega
   have k1 : ∀ g, aT AP.A 101 [.str (bytesOf (Af l))] g = some (.int .i64 (Ah (Af l)), g) := fun g => by rw [DM g _ zz, A3 (Gz l)]
   rw [List.nil_append] at r2
   refine wj (fn := AP.f152) (h2 := h.eN) (e := [(2, .int .i64 (Ah (Af l))), (3, .int .i64 0)]) rfl rfl rfl ?_ rfl rfl
   simp (disch := first | omega | (simp only [yH, TM, TN, xp, Nat.reduceAdd]; first | done | omega | fail) | (simp (disch := first | omega | (simp only [yH, TM, TN, xp, Nat.reduceAdd]; first | done | omega | fail) | fail) only [yH, AY, TP, TM, TN, xp, Nat.reduceAdd]; done) | fail) only [go_sem, xX, Ba, AP.f152, uK, r1', r2, k1]
 · rw [if_neg (by rw [g1]; decide)]
   have r1' : Lp AP.A [0, 4, 5] AP.f152L0 [(0, v), (4, .str ⟨#[]⟩), (5, .int .i64 0)] h.eN = some (.ret, e', h.eN) := r1
   refine wj (fn := AP.f152) (h2 := h.eN) (e := e') rfl rfl rfl ?_ (by simp only [AP.f152, cW, oW, r2, r3]; rfl) rfl
   simp (disch := first | omega | (simp only [yH, TM, TN, xp, Nat.reduceAdd]; first | done | omega | fail) | (simp (disch := first | omega | (simp only [yH, TM, TN, xp, Nat.reduceAdd]; first | done | omega | fail) | fail) only [yH, AY, TP, TM, TN, xp, Nat.reduceAdd]; done) | fail) only [go_sem, xX, Ba, AP.f152, uK, r1']
def KQ (e : yR) : Nat := 128 + 2 * e.name.size + e.packed.size
def Ct : List yR → Nat
 | [] => 0
 | e :: l => KQ e + Ct l
theorem Dv (a b : List yR) : Ct (a ++ b) = Ct a + Ct b := by
 induction a with
 | nil => simp [Ct]
 | cons x a ih => rw [List.cons_append, Ct, Ct, ih]; omega
def zE (l : List yR) : Nat := 22 + Ct l
def yS (l : List yR) : Bool := zN l && l.all zM
theorem GA : ∀ {l : List yR} {p : Option yR}, A6 p l = true → ∀ e ∈ l, zD e.name = true ∧ yQ e = true ∧ zH e = true
 | [], _, _, e, h => by cases h
 | x :: l, p, hm, e, h => by
   rw [A6, xe] at hm
   rcases xK.1 h with rfl | h
   · have := hm.1
     unfold Ay at this
     simp only [xe] at this
     exact ⟨this.1, this.2.2.1, this.2.2.2⟩
   · exact GA hm.2 e h
theorem BI {e : yR} (h : zH e = true) : e.packed.size ≤ 300 := by
 unfold zH at h
 split at h
 · simp only [xe] at h
   have := (I9 _).1 h.2.1
   omega
 · simp only [xe, xG, T7] at h
   omega
theorem zT {s : ByteArray} (h : zD s = true) : 1 ≤ s.size ∧ s.size ≤ 8 := by
 unfold zD at h
 simp only [xe, T7] at h
 omega
theorem KJ : ∀ {l : List yR}, (∀ e ∈ l, zD e.name = true ∧ yQ e = true ∧ zH e = true) → Ct l ≤ 444 * l.length
 | [], _ => by simp [Ct]
 | e :: l, h => by
   have i := KJ (l := l) fun x hx => h x (by simp [hx])
   obtain ⟨h1, _, h3⟩ := h e (by simp)
   have := zT h1
   have := BI h3
   rw [Ct, TM]; unfold KQ; omega
theorem yJ {l : List yR} (h : zN l = true) : l.length ≤ 6 ∧ (∀ e ∈ l, zD e.name = true ∧ yQ e = true ∧ zH e = true) ∧ zE l ≤ 4096 := by
 unfold zN at h
 simp only [xe, T7] at h
 have a := GA h.1
 have := KJ a
 exact ⟨h.2, a, by unfold zE; omega⟩
def Dj (e : yR) : Nat := y9 e.name % 8
def JJ (e : yR) : Int := ((Ah (CE e) : Nat) : Int)
def y7 (l : List yR) (b : Nat) : List Int := (l.filter fun e => Dj e == b).map JJ
theorem EC (l : List yR) (e : yR) (b : Nat) : y7 (l ++ [e]) b = if Dj e = b then y7 l b ++ [JJ e] else y7 l b := by
 unfold y7
 rw [List.filter_append, T8]
 by_cases c : Dj e = b
 · rw [if_pos c]; simp [c]
 · rw [if_neg c]; simp [c]
theorem BU (l : List yR) (b : Nat) : (y7 l b).length ≤ l.length := by
 unfold y7; rw [TQ]; exact List.length_filter_le _ _
theorem HB (l : List yR) (b : Nat) : (y7 l b).all Ch = true := by
 unfold y7
 rw [List.all_map, Uk]
 intro e _
 have := GQ (CE e)
 simp [Function.comp, Ch, JJ]
 omega
def yK (l : List Int) : Int := ((Ah (Af l) : Nat) : Int)
theorem Gy {l : List Int} (h : l.all Ch = true) : Da l = some (Ah (Af l)) := by unfold Da; rw [if_pos h]
theorem Kb (l : List Int) : Ch (yK l) = true := by
 have := GQ (Af l)
 simp [Ch, yK]
 omega
def y6 (l : List yR) : List Int := (List.range 8).map fun b => yK (y7 l b)
theorem zy (l : List yR) : (y6 l).length = 8 := by simp [y6]
theorem JM (l : List yR) : (y6 l).all Ch = true := by
 unfold y6
 rw [List.all_map, Uk]
 exact fun b _ => Kb _
def Ax : Option Int → List Int → Bool
 | _, [] => true
 | p, b :: l => (decide (0 ≤ b) && (decide (b < 8) && (match p with | none => true | some q => decide (q < b)))) && Ax (some b) l
def zW (l : List Int) : Bool := Ax none l
theorem C3 : ∀ {l : List Int} {p : Option Int}, Ax p l = true → (∀ b ∈ l, 0 ≤ b ∧ b < 8 ∧ (match p with | none => True | some q => q < b)) ∧ l.Nodup
 | [], _, _ => ⟨fun b h => (by cases h), List.nodup_nil⟩
 | x :: l, p, h => by
   unfold Ax at h
   simp only [xe, T7] at h
   obtain ⟨h1, h2⟩ := h
   obtain ⟨i1, i2⟩ := C3 h2
   refine ⟨fun b hb => ?_, List.nodup_cons.2 ⟨fun q => ?_, i2⟩⟩
   · rcases xK.1 hb with rfl | hb
     · refine ⟨h1.1, h1.2.1, ?_⟩
       cases p with
       | none => trivial
       | some q => exact of_decide_eq_true h1.2.2
     · have := i1 b hb
       refine ⟨this.1, this.2.1, ?_⟩
       cases p with
       | none => trivial
       | some q =>
         have a : q < x := of_decide_eq_true h1.2.2
         have b' : x < b := this.2.2
         show q < b
         omega
   · have : x < x := (i1 x q).2.2
     omega
abbrev Mv := ByteArray × List Int
def yU (l : List yR) (bs : List Int) : List Mv := (l.filter fun e => bs.contains ((Dj e : Nat) : Int)).map fun e => (e.name, e.vec)
structure Bu (h : H) (A : Nat) (C : Nat → AV) (ls : Nat → List Int) : Prop where
 get : h.get A = some (pf 8 C)
 fl : h.floor ≤ A
 nx : h.floor ≤ h.next
 own : ∀ n, n < 8 → yI 1 h (C n) (ls n).length (ints (ls n))
 L6 : ∀ n m, n < 8 → m < 8 → n ≠ m → ∀ i, (C n).id? = some i → (C m).id? ≠ some i
 gt : ∀ n, n < 8 → ∀ i, (C n).id? = some i → A < i
theorem Bu.mono {h g : H} {A : Nat} {C : Nat → AV} {ls : Nat → List Int} (b : Bu h A C ls) (hf : g.floor = h.floor) (hn : h.next ≤ g.next) (hg : ∀ i, i < h.next → g.get i = h.get i) : Bu g A C ls :=
 ⟨by rw [hg A (h.lt _ _ b.get)]; exact b.get, by rw [hf]; exact b.fl, by rw [hf]; exact xL b.nx hn, fun n hn' => (b.own n hn').mono hf fun i q => hg i ((b.own n hn').lt q).2, b.L6, b.gt⟩
theorem Bu.push {h : H} {A : Nat} {C : Nat → AV} {ls : Nat → List Int} (b : Bu h A C ls) {n : Nat} (hn : n < 8) (hl : (ls n).length < 1000000) (x : Int) :
 ∃ v' h', mG (h.alloc [.int .i64 x]) 1 8 (C n) (.aG h.next 0 1 1) = some (v', h') ∧ v'.sc = true ∧ h'.get A = some (pf 8 C) ∧ h'.floor = h.floor ∧ h.next ≤ h'.next ∧
   Bu (h'.set A (pf 8 (wq C n v'))) A (wq C n v') (fun m => if m = n then ls n ++ [x] else ls m) ∧ ∀ i, i < A → h'.get i = h.get i := by
 have o := b.own n hn
 obtain ⟨v', h', p1, p2, p3, p4, p5, p6⟩ := o.push b.nx (z := 8) (m := 1) (by omega) (by omega) [.int .i64 x] rfl rfl (by simp [roomy]; omega)
 have hA := h.lt _ _ b.get
 have nA : (C n).id? ≠ some A := fun q => by have := b.gt n hn A q; omega
 have gA : h'.get A = some (pf 8 C) := by rw [p5 A nA hA]; exact b.get
 refine ⟨v', h', p1, p2.sc, gA, p3, by omega, ⟨by rw [yM rfl, gA]; rfl, by simp [p3, b.fl], by simp [p3]; have := b.nx; omega, fun m hm => ?_, fun m k hm hk hmk i q => ?_, fun m hm i q => ?_⟩, fun i hi => p5 i (fun q => by have := b.gt n hn i q; omega) (by omega)⟩
 · by_cases c : m = n
   · subst c
     have e : ints (ls m) ++ [.int .i64 x] = ints (ls m ++ [x]) := by simp [ints, I]
     rw [e] at p2
     simp only [wq, if_true, xN, List.length_singleton]
     exact p2.mono (by simp) fun i q => by rw [yA]; rw [p6] at q; have := wU q; omega
   · simp only [wq, if_neg c]
     refine (b.own m hm).mono (by simp [p3]) fun i q => ?_
     have h1 := ((b.own m hm).lt q).2
     have h2 := b.gt m hm i q
     rw [yA (by omega), p5 i (fun q2 => b.L6 m n hm hn c i q q2) h1]
 · unfold wq at q ⊢
   by_cases c1 : m = n
   · rw [if_pos c1, p6] at q
     have e := wU q
     rw [if_neg (by omega)]
     intro q2
     have := ((b.own k hk).lt q2).2
     omega
   · rw [if_neg c1] at q
     by_cases c2 : k = n
     · rw [if_pos c2, p6]
       intro q2
       have e := wU q2
       have := ((b.own m hm).lt q).2
       omega
     · rw [if_neg c2]
       exact b.L6 m k hm hk hmk i q
 · unfold wq at q
   by_cases c : m = n
   · rw [if_pos c, p6] at q
     have e := wU q
     omega
   · rw [if_neg c] at q
     exact b.gt m hm i q
theorem Bu.new {h : H} (hf : h.floor ≤ h.next) : Bu (h.alloc (pf 8 fun _ => .aR)) h.next (fun _ => .aR) (fun _ => []) :=
 ⟨xY rfl, by simpa using hf, by simp; omega, fun n _ => yI.nil, fun n m _ _ _ i q => (by cases q), fun n _ i q => (by cases q)⟩
theorem zk.Db {n : Nat} {h g : H} {v : AV} {k : Nat} {cs : List AV} (r : zk n h v k cs) (hg : ∀ i, v.id? = some i → g.get i = h.get i) : zk n g v k cs := by
 obtain ⟨r, hl, hs⟩ := r
 refine ⟨?_, hl, hs⟩
 unfold aU at r ⊢
 split at r
 · exact r
 · exact r
 · rename_i id off len s
   split at r
   · rename_i q
     rw [if_pos q, hg id rfl]; exact r
   · cases r
 · exact r
 · cases r
theorem Rd.Db {h g : H} {v : AV} {cs : List AV} (r : Rd h v cs) (hg : ∀ i, v.id? = some i → g.get i = h.get i) : Rd g v cs := by
 have := r.Jj.Db hg
 exact ⟨this.1, this.2.2⟩
theorem y8.Db {h g : H} {x : yC} (o : y8 h x) (hg : ∀ i, x.2.id? = some i → g.get i = h.get i) : y8 g x := ⟨o.vec.Db hg, o.vl, o.nl, o.pl⟩
theorem Hb (l : List yC) (x : yC) : yx (l ++ [x]) = yx l ++ ya x.1 x.2 := by simp [yx, Oa]
theorem zk.Jr {h : H} {v : AV} {l : List yC} (rd : zk 9 h v l.length (yx l)) : ∃ ad : Int → Nat → AV, (∀ i : Int, 0 ≤ i ∧ i < l.length → gV 9 v (.int .i64 i) = some (ad i 0)) ∧
 (∀ g, Ext h g → ∀ (i : Nat) (x : yC), l[i]? = some x → PE g (ad i 0) (ya x.1 x.2) ∧ cf true 9 (ad i 0) g = some (.agg (ya x.1 x.2))) := by
 obtain ⟨ad, a1, a2, a4, a3⟩ := rd.at_
 refine ⟨ad, a1, fun g hg i x hx => ?_⟩
 have hi : i < l.length := (w8.1 hx).1
 have hI : (0 : Int) ≤ (i : Int) ∧ (i : Int) < l.length := ⟨by omega, by omega⟩
 refine ⟨⟨fun g' => a4 _ 0 g' hI, fun k => ad i (0 + k), fun k => a2 _ 0 k hI, fun g' hg' k c hc => ?_⟩, ?_⟩
 · have hk : k < 9 := (w8.1 hc).1
   refine (a3 g' (fun id c q => hg' id c (hg id c q))).1 _ _ _ hI ?_
   rw [AE, xp, show yx l = l.flatMap Oa from rfl, CG B9 hx hk]; exact hc
 · rw [(a3 g hg).2 _ hI, AE, show yx l = l.flatMap Oa from rfl, HS B9 hx]; rfl
theorem ID {v : AV} {l : List yC} (h : H) (b : Nat) (hb : h.get b = some [v]) (rd : zk 9 h v l.length (yx l)) (hm : zN (l.map (·.1)) = true) : ∀ (q p : List yC), l = p ++ q →
 ∃ e', Lp AP.A [0, 3, 10, 11] AP.f192L0 [(0, .aF b 0), (3, .int .i64 (22 + Ct (p.map (·.1)) : Nat)), (10, .int .i64 l.length), (11, .int .i64 p.length)] h = some (.exit 0, e', h) ∧ look e' 3 = .int .i64 (zE (l.map (·.1)) : Nat)
 | [], p, hp => by
   rw [TR] at hp; subst hp
   refine ⟨[(0, .aF b 0), (3, .int .i64 (22 + Ct (l.map (·.1)) : Nat)), (10, .int .i64 l.length), (11, .int .i64 l.length), (12, .bool false)], vC ?_, rfl⟩
   simp (disch := omega) only [go_sem, xX, AP.f192L0]
 | x :: q, p, hp => by
   obtain ⟨m1, m2, m3⟩ := yJ hm
   have hx : l[p.length]? = some x := by rw [hp]; simp
   have hlen : l.length = p.length + (q.length + 1) := by rw [hp]; simp
   rw [TQ] at m1
   obtain ⟨_, _, c3⟩ := m2 x.1 (by rw [hp]; simp)
   have c1 := zT (m2 x.1 (by rw [hp]; simp)).1
   have c2 := BI c3
   obtain ⟨ad, a1, a2⟩ := rd.Jr
   have b1 := a1 p.length ⟨by omega, by omega⟩
   obtain ⟨pe, _⟩ := a2 h (Ext.refl h) p.length x hx
   have nl := pe.nil
   obtain ⟨qq, f1, f2⟩ := pe.vI
   have l0 := f2 h (Ext.refl h) 0 _ rfl
   have l6 := f2 h (Ext.refl h) 6 _ rfl
   obtain ⟨e', r1, r2⟩ := ID h b hb rd hm q (p ++ [x]) (by rw [hp]; simp)
   have sz : zE (l.map (·.1)) = 22 + (Ct (p.map (·.1)) + (KQ x.1 + Ct (q.map (·.1)))) := by unfold zE; rw [hp, T8, Dv, TZ, Ct]
   have e1 : 22 + Ct ((p ++ [x]).map (·.1)) = 22 + Ct (p.map (·.1)) + KQ x.1 := by rw [T8, Dv]; simp [Ct]; omega
   have n1 : ((p ++ [x]).length : Int) = (p.length : Int) + 1 := by simp
   rw [e1, n1] at r1
   have se : KQ x.1 = 128 + 2 * x.1.name.size + x.1.packed.size := rfl
   obtain ⟨N, hN⟩ : ∃ N, N = 22 + Ct (p.map (·.1)) := ⟨_, rfl⟩
   rw [← hN] at r1 ⊢
   have hN2 : N ≤ 4096 := by omega
   have w : (N : Int) + (76 + 2 * ((x.1.name.size : Int) + 26) + (x.1.packed.size : Int)) = ((N + KQ x.1 : Nat) : Int) := by omega
   refine ⟨e', vD ?_ r1, r2⟩
   clear r1 r2 e1 sz hN rd a1 a2 f2 pe m2 m3 hm hp n1
   simp (disch := omega) only [go_sem, xX, AP.f192L0, hb, b1, nl, f1, l0, l6, w]
theorem LR {v : AV} {l : List yC} (h : H) (b : Nat) (hb : h.get b = some [v]) (rd : zk 9 h v l.length (yx l)) (hm : zN (l.map (·.1)) = true) : aT AP.A 192 [.aF b 0] h = some (.int .i64 (zE (l.map (·.1)) : Nat), h) := by
 obtain ⟨e', r1, r2⟩ := ID h b hb rd hm l [] rfl
 have ln := rd.len
 have r1' : Lp AP.A [0, 3, 10, 11] AP.f192L0 [(0, .aF b 0), (3, .int .i64 22), (10, .int .i64 l.length), (11, .int .i64 0)] h = some (.exit 0, e', h) := r1
 clear rd r1 hm
 generalize zE (l.map (·.1)) = N at *
 refine vP (fn := AP.f192) (h2 := h) (e := [(2, .int .i64 N)]) (vs := [.int .i64 N]) rfl rfl rfl ?_ rfl
 simp (disch := omega) only [go_sem, xX, AP.f192, hb, ln, uK, r1', r2]
theorem AG (v : AV) : iW true 1 [v] 0 = some (.agg [v]) := rfl
theorem LQ (h : H) (v : AV) (l : List yC) (hvs : v.sc = true) (hn : l.length < 1125899906842624) (rd : zk 9 h v l.length (yx l)) (hv : ∀ x ∈ l, y8 h x) : aT AP.A 190 [.agg [v]] h = some (.int .i64 (if zN (l.map (·.1)) = true then (zE (l.map (·.1)) : Nat) else (0 : Nat) : Nat), h) := by
 obtain ⟨h1, eh1⟩ : ∃ g, g = h.eN.alloc [v] := ⟨_, rfl⟩
 have hx0 : Ext h h1 := by rw [eh1]; exact fun i c q => ((Ext.refl h.eN).alloc _) i c q
 have hn0 : h.eN.next = h.next := rfl
 have g1 : h1.get h.next = some [v] := by rw [eh1]; exact xY rfl
 have rd1 := rd.mono fun i c q => hx0 i c q
 have k1 := KP h1 v l hvs hn rd1 (fun x hx => (hv x hx).mono hx0)
 cases hm : zN (l.map (·.1)) with
 | false =>
   rw [hm] at k1
   refine wj (fn := AP.f190) (h2 := h1) (e := [(2, .int .i64 0)]) (vs := [.int .i64 0]) rfl rfl rfl ?_ rfl rfl
   clear rd rd1 hv hx0
   simp (disch := omega) only [go_sem, xX, AP.f190, hvs, hn0, ← eh1, g1, AG, k1]
 | true =>
   rw [hm] at k1
   have k2 := LR h1 h.next g1 rd1 hm
   refine wj (fn := AP.f190) (h2 := h1) (e := [(2, .int .i64 (zE (l.map (·.1)) : Nat))]) (vs := [.int .i64 (zE (l.map (·.1)) : Nat)]) rfl rfl rfl ?_ rfl rfl
   clear rd rd1 hv hx0
   simp (disch := omega) only [go_sem, xX, AP.f190, hvs, hn0, ← eh1, g1, AG, k1, k2]
theorem PX (h : H) (v : AV) (l : List yC) (hvs : v.sc = true) (hn : l.length < 1125899906842624) (rd : zk 9 h v l.length (yx l)) (hv : ∀ x ∈ l, y8 h x) : aT AP.A 186 [.agg [v]] h = some (.bool (zN (l.map (·.1))), h) := by
 obtain ⟨h1, eh1⟩ : ∃ g, g = h.eN.alloc [v] := ⟨_, rfl⟩
 have hx0 : Ext h h1 := by rw [eh1]; exact fun i c q => ((Ext.refl h.eN).alloc _) i c q
 have hn0 : h.eN.next = h.next := rfl
 have g1 : h1.get h.next = some [v] := by rw [eh1]; exact xY rfl
 have rd1 := rd.mono fun i c q => hx0 i c q
 have k1 := LQ h1 v l hvs hn rd1 (fun x hx => (hv x hx).mono hx0)
 cases hm : zN (l.map (·.1)) with
 | false =>
   rw [hm] at k1
   have k1' : aT AP.A 190 [.agg [v]] h1 = some (.int .i64 0, h1) := k1
   refine wj (fn := AP.f186) (h2 := h1) (e := [(2, .bool false)]) (vs := [.bool false]) rfl rfl rfl ?_ rfl rfl
   clear rd rd1 hv hx0
   simp (disch := omega) only [go_sem, xX, AP.f186, hvs, hn0, ← eh1, g1, AG, k1']
 | true =>
   rw [hm] at k1
   have k1' : aT AP.A 190 [.agg [v]] h1 = some (.int .i64 (zE (l.map (·.1)) : Nat), h1) := k1
   have m3 := (yJ hm).2.2
   have m4 : 22 ≤ zE (l.map (·.1)) := by unfold zE; omega
   generalize zE (l.map (·.1)) = N at *
   refine wj (fn := AP.f186) (h2 := h1) (e := [(2, .bool true)]) (vs := [.bool true]) rfl rfl rfl ?_ rfl rfl
   clear rd rd1 hv hx0 k1 hm
   simp (disch := omega) only [go_sem, xX, AP.f186, hvs, hn0, ← eh1, g1, AG, k1']
theorem Od (h : H) (hf : h.floor ≤ h.next) (e : yR) (v : AV) (hv : v.sc = true) (ok : y8 h (e, v)) : aT AP.A 188 [.agg (ya e v)] h = some (.bool (!zM e), h) := by
 obtain ⟨h1, eh1⟩ : ∃ g, g = h.eN.alloc (ya e v) := ⟨_, rfl⟩
 have hx1 : Ext h h1 := fun i c q => by rw [eh1]; exact ((Ext.refl h.eN).alloc _) i c q
 have hn0 : h.eN.next = h.next := rfl
 have g0 : h1.get h.next = some (ya e v) := by rw [eh1, xY (by simp)]
 have k1 := JS h1 (by rw [eh1]; simp) e v hv (ok.mono hx1)
 have rdA : iW true 9 (ya e v) 0 = some (.agg (ya e v)) := rfl
 refine wj (fn := AP.f188) (h2 := h1) (e := [(2, .bool (!zM e))]) rfl rfl rfl ?_ rfl rfl
 clear hx1
 simp only [ya] at *
 simp (disch := omega) only [go_sem, xX, AP.f188, hv, hn0, ← eh1, g0, rdA, k1]
theorem HV {v : AV} {l : List yC} (hl : l.length < 1000) (h : H) (hf : h.floor ≤ h.next) (rd : zk 9 h v l.length (yx l)) (hv : ∀ x ∈ l, y8 h x ∧ x.2.sc = true) : ∀ (q p : List yC), l = p ++ q →
 (∃ e', Lp AP.A [0, 1, 7, 8] AP.f191L0 [(0, v), (1, .fn 188 [] []), (7, .int .i64 l.length), (8, .int .i64 p.length)] h = some (.exit 0, e', h) ∧ (q.map (·.1)).all zM = true) ∨
 (∃ e', Lp AP.A [0, 1, 7, 8] AP.f191L0 [(0, v), (1, .fn 188 [] []), (7, .int .i64 l.length), (8, .int .i64 p.length)] h = some (.ret, e', h) ∧ (∃ k : Nat, look e' 4 = .int .i64 k) ∧ (q.map (·.1)).all zM = false)
 | [], p, hp => by
   rw [TR] at hp; subst hp
   refine .inl ⟨[(0, v), (1, .fn 188 [] []), (7, .int .i64 l.length), (8, .int .i64 l.length), (9, .bool false)], vC ?_, rfl⟩
   simp (disch := omega) only [go_sem, xX, AP.f191L0]
 | x :: q, p, hp => by
   have hx : l[p.length]? = some x := by rw [hp]; simp
   have hlen : l.length = p.length + (q.length + 1) := by rw [hp]; simp
   obtain ⟨ad, a1, a2⟩ := rd.Jr
   have b1 := a1 p.length ⟨by omega, by omega⟩
   obtain ⟨_, b2⟩ := a2 h (Ext.refl h) p.length x hx
   obtain ⟨ok, sc⟩ := hv x (by rw [hp]; simp)
   have k1 := Od h hf x.1 x.2 sc ok
   have n1 : ((p ++ [x]).length : Int) = (p.length : Int) + 1 := by simp
   have ih := HV hl h hf rd hv q (p ++ [x]) (by rw [hp]; simp)
   rw [n1] at ih
   rw [TZ, List.all_cons]
   cases hm : zM x.1 with
   | false =>
     rw [hm] at k1
     refine .inr ⟨[(4, .int .i64 p.length)], vW ?_, ⟨p.length, rfl⟩, rfl⟩
     clear ih rd a1 a2 hv hp
     generalize ya x.1 x.2 = E at *
     simp (disch := omega) only [go_sem, xX, AP.f191L0, b1, b2, k1]
   | true =>
     rw [hm] at k1
     rw [Ub]
     have step : aN (aT AP.A) bI AP.f191L0 (az [(0, v), (1, .fn 188 [] []), (7, .int .i64 l.length), (8, .int .i64 p.length)] [0, 1, 7, 8]) h = some (.normal, [(0, v), (1, .fn 188 [] []), (7, .int .i64 l.length), (8, .int .i64 ((p.length : Int) + 1))], h) := by
      clear ih rd a1 a2 hv hp
      generalize ya x.1 x.2 = E at *
      simp (disch := omega) only [go_sem, xX, AP.f191L0, b1, b2, k1]
     rcases ih with ⟨e', r1, r2⟩ | ⟨e', r1, r2, r3⟩
     · exact .inl ⟨e', vD step r1, r2⟩
     · exact .inr ⟨e', vD step r1, r2, r3⟩
theorem MC (h : H) (hf : h.floor ≤ h.next) (v : AV) (l : List yC) (hl : l.length < 1000) (rd : zk 9 h v l.length (yx l)) (hv : ∀ x ∈ l, y8 h x ∧ x.2.sc = true) : aT AP.A 187 [v, .fn 188 [] []] h = some (.bool (!(l.map (·.1)).all zM), h) := by
 have xf : Ext h h.eN := fun i c q => q
 have k1 : ∃ k : Int, aT AP.A 191 [v, .fn 188 [] []] h.eN = some (.int .i64 k, h.eN) ∧ (k < 0 ↔ (l.map (·.1)).all zM = true) := by
  have ln := rd.len
  rcases HV hl h.eN.eN (by simp) (rd.mono fun i c q => xf i c q) (fun x hx => ⟨(hv x hx).1.mono xf, (hv x hx).2⟩) l [] rfl with ⟨e', r1, r2⟩ | ⟨e', r1, ⟨k, r2⟩, r3⟩
  · have r1' : Lp AP.A [0, 1, 7, 8] AP.f191L0 [(0, v), (1, .fn 188 [] []), (7, .int .i64 l.length), (8, .int .i64 0)] h.eN.eN = some (.exit 0, e', h.eN.eN) := r1
    refine ⟨-1, wj (fn := AP.f191) (h2 := h.eN.eN) (e := [(4, .int .i64 (-1))]) rfl rfl rfl ?_ rfl rfl, by rw [r2]; simp⟩
    clear rd hv r1 r2
    simp (disch := omega) only [go_sem, xX, AP.f191, ln, uK, r1']
  · have r1' : Lp AP.A [0, 1, 7, 8] AP.f191L0 [(0, v), (1, .fn 188 [] []), (7, .int .i64 l.length), (8, .int .i64 0)] h.eN.eN = some (.ret, e', h.eN.eN) := r1
    refine ⟨k, wj (fn := AP.f191) (h2 := h.eN.eN) (e := e') (vs := [.int .i64 k]) rfl rfl rfl ?_ (by simp only [AP.f191, cW, oW, r2]; rfl) rfl, by rw [r3]; simp⟩
    clear rd hv r1 r2 r3
    simp (disch := omega) only [go_sem, xX, AP.f191, ln, uK, r1']
 obtain ⟨k, k1, k2⟩ := k1
 refine wj (fn := AP.f187) (h2 := h.eN) (e := [(4, .bool (!(l.map (·.1)).all zM))]) rfl rfl rfl ?_ rfl rfl
 cases ha : (l.map (·.1)).all zM with
 | true =>
   have : ¬ 0 ≤ k := by have := k2.2 ha; omega
   clear rd hv k2
   simp (disch := omega) only [go_sem, xX, AP.f187, k1]
 | false =>
   have : 0 ≤ k := by
    rw [ha] at k2
    have : ¬ k < 0 := fun q => by cases k2.1 q
    omega
   clear rd hv k2
   simp (disch := omega) only [go_sem, xX, AP.f187, k1]
theorem JZ (h : H) (v : AV) (l : List yC) (hvs : v.sc = true) (hn : l.length < 1125899906842624) (rd : zk 9 h v l.length (yx l)) (hv : ∀ x ∈ l, y8 h x ∧ x.2.sc = true) : aT AP.A 183 [.agg [v]] h = some (.bool (yS (l.map (·.1))), h) := by
 obtain ⟨h1, eh1⟩ : ∃ g, g = h.eN.alloc [v] := ⟨_, rfl⟩
 have hx0 : Ext h h1 := by rw [eh1]; exact fun i c q => ((Ext.refl h.eN).alloc _) i c q
 have hn0 : h.eN.next = h.next := rfl
 have g1 : h1.get h.next = some [v] := by rw [eh1]; exact xY rfl
 have rd1 := rd.mono fun i c q => hx0 i c q
 have k1 := PX h1 v l hvs hn rd1 (fun x hx => (hv x hx).1.mono hx0)
 refine wj (fn := AP.f183) (h2 := h1) (e := [(2, .bool (yS (l.map (·.1))))]) rfl rfl rfl ?_ rfl rfl
 unfold yS
 cases hm : zN (l.map (·.1)) with
 | false =>
   rw [hm] at k1
   clear rd rd1 hv hx0
   simp (disch := omega) only [go_sem, xX, AP.f183, hvs, hn0, ← eh1, g1, AG, k1]
 | true =>
   rw [hm] at k1
   have m1 := (yJ hm).1
   rw [TQ] at m1
   have k2 := MC h1 (by rw [eh1]; simp) v l (by omega) rd1 (fun x hx => ⟨(hv x hx).1.mono hx0, (hv x hx).2⟩)
   clear rd rd1 hv hx0
   generalize (l.map (·.1)).all zM = B at *
   cases B <;> simp (disch := omega) only [go_sem, xX, AP.f183, hvs, hn0, ← eh1, g1, AG, k1, k2]
def L7 : Ty := .sl N9 9 104
def Le : Ty := .st [L7]
theorem LJ {ess : List (List AV)} (h : ∀ es, es ∈ ess → Sh reachBytes N9 es) : ∃ l : List yC, l.length = ess.length ∧ ess.flatten = yx l ∧ ∀ x ∈ l, x.2.sc = true ∧ (∀ g, y8 g x) ∧ x.1.vec.length < 20000000000000 := by
 induction ess with
 | nil => exact ⟨[], rfl, rfl, fun x hx => by cases hx⟩
 | cons y ess ih =>
   obtain ⟨e, v, rfl, hv, ok, hl⟩ := Qe (h y (by simp))
   obtain ⟨l, h1, h2, h3⟩ := ih fun es q => h es (by simp [q])
   refine ⟨(e, v) :: l, by simp [h1], by rw [List.flatten_cons, h2]; rfl, fun x hx => ?_⟩
   rcases xK.1 hx with rfl | hx
   · exact ⟨hv, ok, hl⟩
   · exact h3 x hx
theorem LK {as : List AV} (h : Sh reachBytes L7 as) : ∃ (v : AV) (l : List yC), as = [v] ∧ v.sc = true ∧ (∀ g, zk 9 g v l.length (yx l)) ∧ (∀ x ∈ l, x.2.sc = true ∧ (∀ g, y8 g x) ∧ x.1.vec.length < 20000000000000) ∧ l.length < 1353300000000 := by
 cases h with
 | aR => exact ⟨.aR, [], rfl, rfl, fun g => ⟨rfl, rfl, fun s q => (by cases q)⟩, fun x hx => (by cases hx), by simp⟩
 | aX ess h hz hb =>
   obtain ⟨l, h1, h2, h3⟩ := LJ h
   have hl : ess.flatten.length = ess.length * 9 := by rw [h2, Br, h1]
   refine ⟨_, l, rfl, rfl, fun g => ?_, h3, ?_⟩
   · rw [h2, ← h1]
     refine ⟨?_, by rw [Br], fun s q => by cases q⟩
     simp only [aU, if_true, xp]
     rw [if_pos (by rw [Br]; exact xc _), TX, xI (by rw [Br]; exact xc _)]
   · rw [h1]; unfold reachBytes at hb; omega
theorem Qf {as : List AV} (h : Sh reachBytes Le as) : ∃ (v : AV) (l : List yC), as = [v] ∧ v.sc = true ∧ (∀ g, zk 9 g v l.length (yx l)) ∧ (∀ x ∈ l, x.2.sc = true ∧ (∀ g, y8 g x) ∧ x.1.vec.length < 20000000000000) ∧ l.length < 1353300000000 := by
 obtain ⟨a1, r1, rfl, s1, h1⟩ := zh (Me h)
 obtain rfl := Im h1
 obtain ⟨v, l, rfl, q⟩ := LK s1
 exact ⟨v, l, rfl, q⟩
structure LS (n : Nat) (h : H) (w : AV) (h' : H) (k : Nat) (cs : List AV) : Prop where
 own : yI n h' w k cs
 ext : Ext h h'
 fl : h'.floor = h.floor
 nx : h.next ≤ h'.next
 ge : ∀ i, w.id? = some i → h.next ≤ i
theorem BV (h : H) (s : ByteArray) (hs : s.size < 1125899906842624) : aT AP.A 179 [.str s] h = some (.int .i64 ((y9 s % 8 : Nat) : Int), h) := by
 have k1 := GB h.eN s hs
 have rm : bE .rem (.int .i64 (y9 s : Int)) (.int .i64 8) = some (.int .i64 ((y9 s % 8 : Nat) : Int)) := by
  show (if (8 : Int) = 0 then none else some (AV.int .i64 ((y9 s : Int).tmod 8))) = _
  rw [if_neg (by decide), Int.tmod_eq_emod_of_nonneg (by omega)]; rfl
 generalize ((y9 s % 8 : Nat) : Int) = M at *
 refine wj (fn := AP.f179) (h2 := h.eN) (e := [(2, .int .i64 M)]) rfl rfl rfl ?_ rfl rfl
 simp (disch := omega) only [go_sem, xX, AP.f179, k1, rm]
theorem Eg {v : AV} (h : v.sc = true) : v.cells = [v] := by cases v <;> first | rfl | cases h
theorem Hy {v : AV} {l : List yC} (h0 : H) (rd : zk 9 h0 v l.length (yx l)) (hv : ∀ x ∈ l, y8 h0 x ∧ x.2.sc = true) (hm : yS (l.map (·.1)) = true) (A : Nat) (hA : h0.next ≤ A) : ∀ (q p : List yC), l = p ++ q → ∀ (h : H) (C : Nat → AV), Ext h0 h → h0.next ≤ h.next → Bu h A C (y7 (p.map (·.1))) →
 ∃ e' h' C', Lp AP.A [4, 19, 20, 21] AP.f177L1 [(4, .aF A 0), (19, v), (20, .int .i64 l.length), (21, .int .i64 p.length)] h = some (.exit 0, e', h') ∧ look e' 4 = .aF A 0 ∧ Bu h' A C' (y7 (l.map (·.1))) ∧ Ext h0 h' ∧ h'.floor = h.floor ∧ h.next ≤ h'.next
 | [], p, hp, h, C, hx, hn, bu => by
   rw [TR] at hp; subst hp
   refine ⟨[(4, .aF A 0), (19, v), (20, .int .i64 l.length), (21, .int .i64 l.length), (22, .bool false)], h, C, vC ?_, rfl, bu, hx, rfl, xc _⟩
   simp (disch := omega) only [go_sem, xX, AP.f177L1]
 | x :: q, p, hp, h, C, hx, hn, bu => by
   unfold yS at hm
   have hm' := hm
   rw [xe] at hm
   obtain ⟨m1, m2, m3⟩ := yJ hm.1
   rw [TQ] at m1
   have hl : l[p.length]? = some x := by rw [hp]; simp
   have hlen : l.length = p.length + (q.length + 1) := by rw [hp]; simp
   have may : zM x.1 = true := Uk.1 hm.2 x.1 (by rw [hp]; simp)
   have nsz := zT (m2 x.1 (by rw [hp]; simp)).1
   obtain ⟨ad, a1, a2⟩ := rd.Jr
   have b1 := a1 p.length ⟨by omega, by omega⟩
   obtain ⟨_, b2⟩ := a2 h hx p.length x hl
   obtain ⟨ok, sc⟩ := hv x (by rw [hp]; simp)
   obtain ⟨E, hE⟩ : ∃ E, E = ya x.1 x.2 := ⟨_, rfl⟩
   have lE : E.length = 9 := by rw [hE]; rfl
   have cE : AV.aE E = true := by rw [hE]; exact Bg sc
   have rE : iW true 9 E 0 = some (.agg E) := by rw [hE]; rfl
   have E0 : E[0]? = some (.str x.1.name) := by rw [hE]; rfl
   obtain ⟨g0, eg0⟩ : ∃ g, g = h.alloc Z9 := ⟨_, rfl⟩
   obtain ⟨g1, eg1⟩ : ∃ g, g = g0.set h.next E := ⟨_, rfl⟩
   have z0 : g0.get h.next = some Z9 := by rw [eg0, xY rfl]
   have st : wm g0 h.next 0 9 E (some Z9) = some g1 := by rw [eg1]; exact Bz (by rw [eg0]; simp; exact bu.nx) lE rfl cE
   have z1 : g1.get h.next = some E := by rw [eg1, yM rfl, z0]; rfl
   have low : ∀ i, i < h.next → g1.get i = h.get i := fun i hi => by rw [eg1, yA (by omega), eg0, yq (by omega)]
   have f1 : g1.floor = h.floor := by rw [eg1, eg0]; simp
   have n1 : g1.next = h.next + 1 := by rw [eg1, eg0]; simp
   have x1 : Ext h0 g1 := fun i c q => by rw [low i (by have := h0.lt _ _ q; omega)]; exact hx i c q
   have bu1 := bu.mono f1 (by omega) low
   have k1 := JK g1 (by have := bu.nx; omega) x.1 x.2 sc (ok.mono x1)
   unfold IP at k1
   rw [if_pos may, ← hE] at k1
   have k1' : aT AP.A 91 [.agg E] g1 = some (.bW [.int .i64 (JJ x.1), .int .i64 0], g1) := k1
   have k2 := BV g1 x.1.name (by omega)
   obtain ⟨b, hb⟩ : ∃ b, b = y9 x.1.name % 8 := ⟨_, rfl⟩
   have hb8 : b < 8 := by omega
   rw [← hb] at k2
   obtain ⟨v', h', p1, p2, p3, p4, p5, p6, p7⟩ := bu1.push hb8 (by have := BU (p.map (·.1)) b; rw [TQ] at this; omega) (JJ x.1)
   have gC : (pf 8 C)[b]? = some (C b) := gT hb8
   have hc := Eg p2
   have gA1 := bu1.get
   have st2 : wm h' A b 1 [v'] (some (pf 8 C)) = some (h'.set A (pf 8 (wq C b v'))) := by
    rw [wM (by rw [p4]; exact bu1.fl) (by simp [hb8]) p2, vS hb8]
   have eb : (fun m => if m = b then y7 (p.map (·.1)) b ++ [JJ x.1] else y7 (p.map (·.1)) m) = y7 ((p ++ [x]).map (·.1)) := by
    funext m
    rw [T8, Ud, EC]
    have : Dj x.1 = b := hb.symm
    rw [this]
    by_cases c : m = b
    · subst c; simp
    · rw [if_neg c, if_neg (by omega)]
   rw [eb] at p6
   obtain ⟨e', h2, C2, r1, r2, r3, r4, r5, r6⟩ := Hy h0 rd hv hm' A hA q (p ++ [x]) (by rw [hp]; simp) (h'.set A (pf 8 (wq C b v'))) _ (fun i c q => by have := h0.lt _ _ q; rw [yA (by omega), p7 i (by omega)]; exact x1 i c q) (by simp; omega) p6
   have w1 : ((p ++ [x]).length : Int) = (p.length : Int) + 1 := by simp
   rw [w1] at r1
   refine ⟨e', h2, C2, vD ?_ r1, r2, r3, r4, by rw [r5]; simp [p4, f1], by simp at r6; omega⟩
   rw [← hE] at b2
   have a0 : h.alloc [.str ⟨#[]⟩, .bool false, .aR, .int .i64 0, .int .i64 0, .int .i64 0, .str ⟨#[]⟩, .int .i64 0, .int .i64 0] = g0 := eg0.symm
   have pI : (0 : Int) ≤ (b : Int) ∧ (b : Int) < 8 := ⟨by omega, by omega⟩
   clear r1 r2 r3 r4 r5 r6 p6 eb hE hv rd a1 a2 x1 low bu bu1 k1 hx hm hm' m2 hb may hp eg0 eg1
   generalize JJ x.1 = D at *
   generalize pf 8 (wq C b v') = T2 at *
   generalize pf 8 C = T1 at *
   simp (disch := omega) only [go_sem, xX, AP.f177L1, b1, b2, a0, z0, lE, cE, st, z1, rE, E0, k1', k2, gA1, gC, p1, hc, p3, st2]
theorem Ec {f : Nat → Int} (i : Nat) : (List.range (i + 1)).map f = (List.range i).map f ++ [f i] := by rw [List.range_succ, T8]; rfl
theorem FT (h0 : H) (C : Nat → AV) (ls : Nat → List Int) (hb : ∀ m, m < 8 → (ls m).all Ch = true ∧ (ls m).length < 1000000) : ∀ (n i : Nat), i + n = 8 → ∀ (h : H) (ov : AV), (∀ m, m < 8 → Rd h (C m) (ints (ls m))) → yI 1 h ov i (ints ((List.range i).map fun b => yK (ls b))) → h.floor ≤ h.next →
 (∀ m, m < 8 → ∀ j, (C m).id? = some j → ov.id? ≠ some j ∧ j < h.next) → Ext h0 h → h0.next ≤ h.next → (∀ j, ov.id? = some j → h0.next ≤ j) →
 ∃ e' h' ov', Lp AP.A [10, 42, 43] AP.f177L0 [(10, ov), (42, .agg (pf 8 C)), (43, .int .i64 i)] h = some (.exit 2, e', h') ∧ look e' 10 = ov' ∧ yI 1 h' ov' 8 (ints ((List.range 8).map fun b => yK (ls b))) ∧ Ext h0 h' ∧ h'.floor = h.floor ∧ h.next ≤ h'.next ∧ ∀ j, ov'.id? = some j → h0.next ≤ j
 | 0, i, hi, h, ov, iW, o, hf, sep, hx, hn, hge => by
   obtain rfl : i = 8 := by omega
   refine ⟨[(10, ov), (42, .agg (pf 8 C)), (43, .int .i64 8), (44, .bool false)], h, ov, vC ?_, rfl, o, hx, rfl, xc _, hge⟩
   generalize pf 8 C = T at *
   simp (disch := omega) only [go_sem, xX, AP.f177L0]
 | n + 1, i, hi, h, ov, iW, o, hf, sep, hx, hn, hge => by
   obtain ⟨ha, hl⟩ := hb i (by omega)
   have k1 := Kc h (C i) (ls i) (iW i (by omega)) (by omega)
   rw [Gy ha] at k1
   have k1' : aT AP.A 93 [C i] h = some (.bW [.int .i64 (yK (ls i)), .int .i64 0], h) := k1
   obtain ⟨v', h', p1, p2, p3, p4, p5, p6⟩ := o.push hf (z := 8) (m := 1) (by omega) (by omega) [.int .i64 (yK (ls i))] rfl rfl (by simp [roomy]; omega)
   have e : ints ((List.range i).map fun b => yK (ls b)) ++ [.int .i64 (yK (ls i))] = ints ((List.range (i + 1)).map fun b => yK (ls b)) := by rw [Ec]; simp [ints, I]
   rw [e] at p2
   have yY : ∀ j, j < h.next → ov.id? ≠ some j → h'.get j = h.get j := fun j a b => p5 j b a
   have gC : nP false 8 1 (.agg (pf 8 C)) (.int .i64 i) = some (C i) := by
    show (dz (.int .i64 (i : Int)) 8).bind _ = _
    rw [Qn ⟨by omega, by omega⟩, w9, AE, Uf]
    exact gT (by omega)
   obtain ⟨e', h2, ov', r1, r2⟩ := FT h0 C ls hb n (i + 1) (by omega) h' v' (fun m hm => (iW m hm).Db fun j q => yY j (sep m hm j q).2 (sep m hm j q).1) p2 (by rw [p3]; omega) (fun m hm j q => by
    have := (sep m hm j q).2
    rw [p6]
    exact ⟨fun q2 => by have := wU q2; omega, by omega⟩) (fun j c q => by
     have := h0.lt _ _ q
     rw [yY j (by omega) (fun q2 => by have := hge j q2; omega)]; exact hx j c q) (by omega) (fun j q => by rw [p6] at q; have := wU q; omega)
   have w1 : ((i + 1 : Nat) : Int) = (i : Int) + 1 := by omega
   rw [w1] at r1
   refine ⟨e', h2, ov', vD ?_ r1, r2.1, r2.2.1, r2.2.2.1, by rw [r2.2.2.2.1, p3], by have := r2.2.2.2.2.1; omega, r2.2.2.2.2.2⟩
   have scC : (C i).sc = true := by
    have := iW i (by omega)
    cases hc : C i with
    | bot => rw [hc] at this; cases this.1
    | agg _ => rw [hc] at this; cases this.1
    | bW _ => rw [hc] at this; cases this.1
    | _ => rfl
   clear r1 r2 yY iW o sep hx p2 e hb
   generalize yK (ls i) = D at *
   generalize pf 8 C = T at *
   generalize C i = Ci at *
   simp (disch := omega) only [go_sem, xX, AP.f177L0, gC, k1', p1, xa, xO]
theorem JL (l : List yR) : y6 l = (List.range 8).map fun b => yK (y7 l b) := rfl
theorem JN (h : H) (hf : h.floor ≤ h.next) (v : AV) (l : List yC) (hvs : v.sc = true) (hn : l.length < 1125899906842624) (rd : zk 9 h v l.length (yx l)) (hv : ∀ x ∈ l, y8 h x ∧ x.2.sc = true) :
 ∃ w h', aT AP.A 177 [.agg [v]] h = some (.bW [w, .int .i64 (if yS (l.map (·.1)) then 0 else 1600)], h') ∧ LS 1 h w h' (if yS (l.map (·.1)) then y6 (l.map (·.1)) else []).length (ints (if yS (l.map (·.1)) then y6 (l.map (·.1)) else [])) := by
 obtain ⟨g1, eg1⟩ : ∃ g, g = h.alloc [v] := ⟨_, rfl⟩
 have hx1 : Ext h g1 := by rw [eg1]; exact (Ext.refl h).alloc _
 have z1 : g1.get h.next = some [v] := by rw [eg1]; exact xY rfl
 have f1 : g1.floor = h.floor := by rw [eg1]; simp
 have n1 : g1.next = h.next + 1 := by rw [eg1]; simp
 have rd1 := rd.mono fun i c q => hx1 i c q
 have hv1 : ∀ x ∈ l, y8 g1 x ∧ x.2.sc = true := fun x hx => ⟨(hv x hx).1.mono hx1, (hv x hx).2⟩
 have k1 := JZ g1 v l hvs hn rd1 hv1
 have ln := rd1.len
 cases hm : yS (l.map (·.1)) with
 | false =>
   rw [hm] at k1
   refine ⟨.aR, g1, ?_, ⟨yI.nil, hx1, f1, by omega, fun i q => by cases q⟩⟩
   refine vP (fn := AP.f177) (h2 := g1) (e := [(2, .aR), (3, .int .i64 1600)]) (vs := [.aR, .int .i64 1600]) rfl rfl rfl ?_ rfl
   clear rd rd1 hv hv1 hx1
   simp (disch := omega) only [go_sem, xX, AP.f177, hvs, ← eg1, z1, AG, k1]
 | true =>
   rw [hm] at k1
   have m1 := hm
   unfold yS at m1
   rw [xe] at m1
   have m2 := (yJ m1.1).1
   rw [TQ] at m2
   obtain ⟨g2, eg2⟩ : ∃ g, g = g1.alloc (pf 8 fun _ => .aR) := ⟨_, rfl⟩
   have hx2 : Ext g1 g2 := by rw [eg2]; exact (Ext.refl g1).alloc _
   have z2 : g2.get h.next = some [v] := hx2 _ _ z1
   have bu := Bu.new (h := g1) (by omega)
   rw [← eg2] at bu
   obtain ⟨e', g3, C, r1, r2, r3, r4, r5, r6⟩ := Hy g1 rd1 hv1 hm g1.next (xc _) l [] rfl g2 (fun _ => .aR) hx2 (by rw [eg2]; simp) bu
   have r1' : Lp AP.A [4, 19, 20, 21] AP.f177L1 [(4, .aF (h.next + 1) 0), (19, v), (20, .int .i64 l.length), (21, .int .i64 0)] g2 = some (.exit 0, e', g3) := by rw [← n1]; exact r1
   rw [n1] at r2 r3
   have a2 : g1.alloc [.aR, .aR, .aR, .aR, .aR, .aR, .aR, .aR] = g2 := eg2.symm
   have z3 := r3.get
   have rT : iW true 8 (pf 8 C) 0 = some (.agg (pf 8 C)) := rfl
   have n2 : g2.next = h.next + 2 := by rw [eg2]; simp [n1]
   have f2 : g2.floor = h.floor := by rw [eg2]; simp [f1]
   obtain ⟨e2, g4, ov, s1, s2, s3, s4, s5, s6, s7⟩ := FT h C (y7 (l.map (·.1))) (fun m _ => ⟨HB _ _, by have := BU (l.map (·.1)) m; rw [TQ] at this; omega⟩) 8 0 rfl g3 .aR (fun m hm => by
    have o := (r3.own m hm).rd
    exact ⟨by have := o.1; rw [rF]; exact this, o.2.2⟩) yI.nil r3.nx (fun m hm j q => ⟨(fun q2 => by cases q2), ((r3.own m hm).lt q).2⟩) (fun i c q => r4 i c (hx1 i c q)) (by omega) (fun j q => by cases q)
   have s1' : Lp AP.A [10, 42, 43] AP.f177L0 [(10, .aR), (42, .agg (pf 8 C)), (43, .int .i64 0)] g3 = some (.exit 2, e2, g4) := s1
   refine ⟨ov, g4, ?_, ⟨by rw [if_pos rfl, zy, JL]; exact s3, s4, by rw [s5, r5, f2], by omega, s7⟩⟩
   rw [if_pos rfl]
   refine vP (fn := AP.f177) (h2 := g4) (e := [(2, ov), (3, .int .i64 0)]) (vs := [ov, .int .i64 0]) rfl rfl rfl ?_ rfl
   clear rd rd1 hv hv1 hx1 hx2 r1 s1 s3 s4 r3 bu eg2
   generalize pf 8 C = T at *
   simp (disch := omega) only [go_sem, xX, AP.f177, hvs, ← eg1, z1, n1, AG, k1, a2, z2, ln, uK, r1', r2, z3, rT, s1', s2]
def De (l : List Int) : AV := if l.all Ch && decide (l.length = 8) then .bW [.int .i64 (yK l), .int .i64 0] else .bW [.int .i64 0, .int .i64 1600]
theorem Hq (h : H) (v : AV) (l : List Int) (rd : Rd h v (ints l)) (hl : l.length < 1125899906842624) : aT AP.A 181 [v] h = some (De l, h) := by
 have xf : Ext h h.eN := fun i c q => q
 have k1 := Kc h.eN v l (rd.mono fun i c q => xf i c q) hl
 have r2 := (rd.mono fun i c q => xf i c q : Rd h.eN v (ints l)).Jj
 rw [rF] at r2
 have ln := r2.len
 unfold De
 unfold Da at k1
 cases ha : l.all Ch with
 | false =>
   rw [ha] at k1
   have k1' : aT AP.A 93 [v] h.eN = some (.bW [.int .i64 0, .int .i64 1500], h.eN) := k1
   refine wj (fn := AP.f181) (h2 := h.eN) (e := [(2, .int .i64 0), (3, .int .i64 1600)]) rfl rfl rfl ?_ rfl rfl
   clear rd r2 k1
   simp (disch := omega) only [go_sem, xX, AP.f181, k1', ln]
 | true =>
   rw [ha] at k1
   have k1' : aT AP.A 93 [v] h.eN = some (.bW [.int .i64 (yK l), .int .i64 0], h.eN) := k1
   by_cases c : l.length = 8
   · have c' : (l.length : Int) = 8 := by omega
     rw [dt c]
     refine wj (fn := AP.f181) (h2 := h.eN) (e := [(2, .int .i64 (yK l)), (3, .int .i64 0)]) rfl rfl rfl ?_ rfl rfl
     clear rd r2 k1
     generalize yK l = M at *
     simp (disch := omega) only [go_sem, xX, AP.f181, k1', ln]
   · have c' : ¬ (l.length : Int) = 8 := by omega
     rw [df c]
     refine wj (fn := AP.f181) (h2 := h.eN) (e := [(2, .int .i64 0), (3, .int .i64 1600)]) rfl rfl rfl ?_ rfl rfl
     clear rd r2 k1
     generalize yK l = M at *
     simp (disch := omega) only [go_sem, xX, AP.f181, k1', ln]
def KV (p : Option Int) (b : Int) : Bool := decide (0 ≤ b) && (decide (b < 8) && (match p with | none => true | some q => decide (q < b)))
theorem HA (p : Option Int) (b : Int) (l : List Int) : Ax p (b :: l) = (KV p b && Ax (some b) l) := by cases p <;> (rw [Ax]; rfl)
theorem Hz {v : AV} {l : List Int} (hl : l.length < 1125899906842624) (h : H) (rd : Rd h v (ints l)) : ∀ (q p : List Int), l = p ++ q →
 (∃ e', Lp AP.A [0, 5, 6, 7] AP.f184L0 [(0, v), (5, v), (6, .int .i64 l.length), (7, .int .i64 p.length)] h = some (.exit 0, e', h) ∧ Ax p.getLast? q = true) ∨
 (∃ e', Lp AP.A [0, 5, 6, 7] AP.f184L0 [(0, v), (5, v), (6, .int .i64 l.length), (7, .int .i64 p.length)] h = some (.ret, e', h) ∧ look e' 2 = .bool false ∧ Ax p.getLast? q = false)
 | [], p, hp => by
   rw [TR] at hp; subst hp
   refine .inl ⟨[(0, v), (5, v), (6, .int .i64 l.length), (7, .int .i64 l.length), (8, .bool false)], vC ?_, rfl⟩
   simp (disch := omega) only [go_sem, xX, AP.f184L0]
 | x :: q, p, hp => by
   have hlen : l.length = p.length + (q.length + 1) := by rw [hp]; simp
   have hx : l[p.length]? = some x := by rw [hp]; simp
   obtain ⟨ad, a1, a2⟩ := rd.zL
   have b1 := a1 p.length ⟨by omega, by omega⟩
   have b2 := a2 h (Ext.refl h) p.length x hx
   have ih := Hz hl h rd q (p ++ [x]) (by rw [hp]; simp)
   have w1 : ((p ++ [x]).length : Int) = (p.length : Int) + 1 := by simp
   rw [w1, List.getLast?_concat] at ih
   rw [HA]
   have step : aN (aT AP.A) bI AP.f184L0 (az [(0, v), (5, v), (6, .int .i64 l.length), (7, .int .i64 p.length)] [0, 5, 6, 7]) h = if KV p.getLast? x then some (.normal, [(0, v), (5, v), (6, .int .i64 l.length), (7, .int .i64 ((p.length : Int) + 1))], h) else some (.ret, [(2, .bool false)], h) := by
    unfold KV
    cases hq : p.getLast? with
    | none =>
      have hp0 : p = [] := List.getLast?_eq_none_iff.1 hq
      have hp1 : p.length = 0 := by rw [hp0]; rfl
      clear ih rd a1 a2 hp w1
      by_cases c1 : 0 ≤ x
      · by_cases c2 : x < 8
        · simp only [dt c1, dt c2, Uj, if_true]
          simp (disch := omega) only [go_sem, xX, AP.f184L0, b1, b2]
        · simp only [dt c1, df c2, TV, TU, xa, xO]
          simp (disch := omega) only [go_sem, xX, AP.f184L0, b1, b2]
      · simp only [df c1, TV, xa, xO]
        simp (disch := omega) only [go_sem, xX, AP.f184L0, b1, b2]
    | some y =>
      obtain ⟨p', rfl⟩ : ∃ p', p = p' ++ [y] := List.getLast?_eq_some_iff.1 hq
      have hpl : (p' ++ [y]).length = p'.length + 1 := by simp
      have hy : l[p'.length]? = some y := by rw [hp]; simp
      have bj := a1 p'.length ⟨by omega, by omega⟩
      have lj := a2 h (Ext.refl h) p'.length y hy
      have n2 : (((p' ++ [y]).length : Nat) : Int) - 1 = (p'.length : Int) := by rw [hpl]; omega
      have n3 : 0 < (((p' ++ [y]).length : Nat) : Int) := by rw [hpl]; omega
      clear ih rd a1 a2 hp w1 hx hy hq
      generalize (p' ++ [y]).length = pl at *
      by_cases c1 : 0 ≤ x
      · by_cases c2 : x < 8
        · by_cases c3 : y < x
          · rw [dt c1, dt c2]
            simp only [dt c3, Uj, if_true]
            simp (disch := omega) only [go_sem, xX, AP.f184L0, b1, b2, bj, lj, n2]
          · rw [dt c1, dt c2]
            simp only [df c3, TU, xa, xO]
            simp (disch := omega) only [go_sem, xX, AP.f184L0, b1, b2, bj, lj, n2]
        · simp only [dt c1, df c2, TV, TU, xa, xO]
          simp (disch := omega) only [go_sem, xX, AP.f184L0, b1, b2]
      · simp only [df c1, TV, xa, xO]
        simp (disch := omega) only [go_sem, xX, AP.f184L0, b1, b2]
   by_cases hok : KV p.getLast? x = true
   · rw [if_pos hok] at step
     rw [hok, Ub]
     rcases ih with ⟨e', r1, r2⟩ | ⟨e', r1, r2, r3⟩
     · exact .inl ⟨e', vD step r1, r2⟩
     · exact .inr ⟨e', vD step r1, r2, r3⟩
   · have hok' : KV p.getLast? x = false := by simpa using hok
     rw [if_neg hok] at step
     rw [hok', TV]
     exact .inr ⟨_, vW step, rfl, rfl⟩
theorem MA (h : H) (v : AV) (l : List Int) (rd : Rd h v (ints l)) (hl : l.length < 1125899906842624) : aT AP.A 184 [v] h = some (.bool (zW l), h) := by
 have xf : Ext h h.eN := fun i c q => q
 have rdf : Rd h.eN v (ints l) := rd.mono fun i c q => xf i c q
 have r2 := rdf.Jj
 rw [rF] at r2
 have ln := r2.len
 unfold zW
 rcases Hz hl h.eN rdf l [] rfl with ⟨e', r1, r3⟩ | ⟨e', r1, r3, r4⟩
 · have r1' : Lp AP.A [0, 5, 6, 7] AP.f184L0 [(0, v), (5, v), (6, .int .i64 l.length), (7, .int .i64 0)] h.eN = some (.exit 0, e', h.eN) := r1
   have r3' : Ax none l = true := r3
   rw [r3']
   refine wj (fn := AP.f184) (h2 := h.eN) (e := [(2, .bool true)]) rfl rfl rfl ?_ rfl rfl
   clear rd rdf r2 r1 r3
   simp (disch := omega) only [go_sem, xX, AP.f184, ln, uK, r1']
 · have r1' : Lp AP.A [0, 5, 6, 7] AP.f184L0 [(0, v), (5, v), (6, .int .i64 l.length), (7, .int .i64 0)] h.eN = some (.ret, e', h.eN) := r1
   have r4' : Ax none l = false := r4
   rw [r4']
   refine wj (fn := AP.f184) (h2 := h.eN) (e := e') (vs := [.bool false]) rfl rfl rfl ?_ (by simp only [AP.f184, cW, oW, r3]; rfl) rfl
   clear rd rdf r2 r1 r4
   simp (disch := omega) only [go_sem, xX, AP.f184, ln, uK, r1']
theorem HW {v : AV} {l : List Int} (hl : l.length < 1125899906842624) (h : H) (rd : Rd h v (ints l)) (y : Int) : ∀ (q p : List Int), l = p ++ q →
 (∃ e', Lp AP.A [0, 1, 7, 8] AP.f189L0 [(0, v), (1, .int .i64 y), (7, .int .i64 l.length), (8, .int .i64 p.length)] h = some (.exit 0, e', h) ∧ q.contains y = false) ∨
 (∃ e', Lp AP.A [0, 1, 7, 8] AP.f189L0 [(0, v), (1, .int .i64 y), (7, .int .i64 l.length), (8, .int .i64 p.length)] h = some (.ret, e', h) ∧ (∃ k : Nat, look e' 4 = .int .i64 k) ∧ q.contains y = true)
 | [], p, hp => by
   rw [TR] at hp; subst hp
   refine .inl ⟨[(0, v), (1, .int .i64 y), (7, .int .i64 l.length), (8, .int .i64 l.length), (9, .bool false)], vC ?_, rfl⟩
   simp (disch := omega) only [go_sem, xX, AP.f189L0]
 | x :: q, p, hp => by
   have hlen : l.length = p.length + (q.length + 1) := by rw [hp]; simp
   have hx : l[p.length]? = some x := by rw [hp]; simp
   obtain ⟨ad, a1, a2⟩ := rd.zL
   have b1 := a1 p.length ⟨by omega, by omega⟩
   have b2 := a2 h (Ext.refl h) p.length x hx
   have ih := HW hl h rd y q (p ++ [x]) (by rw [hp]; simp)
   have w1 : ((p ++ [x]).length : Int) = (p.length : Int) + 1 := by simp
   rw [w1] at ih
   by_cases c : y = x
   · refine .inr ⟨[(4, .int .i64 p.length)], vW ?_, ⟨p.length, rfl⟩, by simp [c]⟩
     clear ih rd a1 a2 hp w1
     simp (disch := omega) only [go_sem, xX, AP.f189L0, b1, b2, c]
   · have step : aN (aT AP.A) bI AP.f189L0 (az [(0, v), (1, .int .i64 y), (7, .int .i64 l.length), (8, .int .i64 p.length)] [0, 1, 7, 8]) h = some (.normal, [(0, v), (1, .int .i64 y), (7, .int .i64 l.length), (8, .int .i64 ((p.length : Int) + 1))], h) := by
      clear ih rd a1 a2 hp w1
      simp (disch := omega) only [go_sem, xX, AP.f189L0, b1, b2]
     have ec : (x :: q).contains y = q.contains y := by simp [c]
     rw [ec]
     rcases ih with ⟨e', r1, r2⟩ | ⟨e', r1, r2, r3⟩
     · exact .inl ⟨e', vD step r1, r2⟩
     · exact .inr ⟨e', vD step r1, r2, r3⟩
theorem I5 (h : H) (v : AV) (l : List Int) (y : Int) (rd : Rd h v (ints l)) (hl : l.length < 1125899906842624) : aT AP.A 185 [v, .int .i64 y] h = some (.bool (l.contains y), h) := by
 have xf : Ext h h.eN := fun i c q => q
 have rdf : Rd h.eN.eN v (ints l) := rd.mono fun i c q => xf i c q
 have r2 := rdf.Jj
 rw [rF] at r2
 have ln := r2.len
 have k1 : ∃ k : Int, aT AP.A 189 [v, .int .i64 y] h.eN = some (.int .i64 k, h.eN) ∧ (0 ≤ k ↔ l.contains y = true) := by
  rcases HW hl h.eN.eN rdf y l [] rfl with ⟨e', r1, r3⟩ | ⟨e', r1, ⟨k, r3⟩, r4⟩
  · have r1' : Lp AP.A [0, 1, 7, 8] AP.f189L0 [(0, v), (1, .int .i64 y), (7, .int .i64 l.length), (8, .int .i64 0)] h.eN.eN = some (.exit 0, e', h.eN.eN) := r1
    refine ⟨-1, wj (fn := AP.f189) (h2 := h.eN.eN) (e := [(4, .int .i64 (-1))]) rfl rfl rfl ?_ rfl rfl, by rw [r3]; simp⟩
    clear rd rdf r2 r1 r3
    simp (disch := omega) only [go_sem, xX, AP.f189, ln, uK, r1']
  · have r1' : Lp AP.A [0, 1, 7, 8] AP.f189L0 [(0, v), (1, .int .i64 y), (7, .int .i64 l.length), (8, .int .i64 0)] h.eN.eN = some (.ret, e', h.eN.eN) := r1
    refine ⟨k, wj (fn := AP.f189) (h2 := h.eN.eN) (e := e') (vs := [.int .i64 k]) rfl rfl rfl ?_ (by simp only [AP.f189, cW, oW, r3]; rfl) rfl, by rw [r4]; simp⟩
    clear rd rdf r2 r1 r4 r3
    simp (disch := omega) only [go_sem, xX, AP.f189, ln, uK, r1']
 obtain ⟨k, k1, k2⟩ := k1
 refine wj (fn := AP.f185) (h2 := h.eN) (e := [(4, .bool (l.contains y))]) rfl rfl rfl ?_ rfl rfl
 clear rd rdf r2
 cases hc : l.contains y with
 | true =>
   have := k2.2 hc
   clear k2
   simp (disch := omega) only [go_sem, xX, AP.f185, k1]
 | false =>
   have : ¬ 0 ≤ k := fun q => by rw [hc] at k2; cases k2.1 q
   clear k2
   simp (disch := omega) only [go_sem, xX, AP.f185, k1]
abbrev AF := Mv × AV
def Ti (x : AF) : List AV := [.str x.1.1, x.2]
def yV (l : List AF) : List AV := l.flatMap Ti
theorem Fi (x : AF) : (Ti x).length = 2 := rfl
theorem DG (l : List AF) (x : AF) : yV (l ++ [x]) = yV l ++ Ti x := by simp [yV]
structure GY (h0 h : H) (ov : AV) (x : AF) : Prop where
 ex : ∃ j, x.2 = .aG j 0 4 1 ∧ h.get j = some (ints x.1.2) ∧ h0.next ≤ j ∧ ov.id? ≠ some j ∧ h.floor ≤ j
 l4 : x.1.2.length = 4
theorem GY.mono {h0 h g : H} {ov ov' : AV} {x : AF} (b : GY h0 h ov x) (hf : g.floor = h.floor) (hg : ∀ j, j < h.next → ov.id? ≠ some j → g.get j = h.get j) (ho : ∀ j, j < h.next → ov.id? ≠ some j → ov'.id? ≠ some j) : GY h0 g ov' x := by
 obtain ⟨j, e1, e2, e3, e4, e5⟩ := b.ex
 have := h.lt _ _ e2
 exact ⟨⟨j, e1, by rw [hg j this e4]; exact e2, e3, ho j this e4, by rw [hf]; exact e5⟩, b.l4⟩
theorem C4 (l : List yR) (e : yR) (bs : List Int) : yU (l ++ [e]) bs = if bs.contains ((Dj e : Nat) : Int) then yU l bs ++ [(e.name, e.vec)] else yU l bs := by
 unfold yU
 rw [List.filter_append, T8]
 by_cases c : bs.contains ((Dj e : Nat) : Int) = true
 · rw [if_pos c, List.filter_cons, if_pos c]; rfl
 · rw [if_neg c, List.filter_cons, if_neg c]; simp
theorem BG (l : List yR) (bs : List Int) : (yU l bs).length ≤ l.length := by unfold yU; rw [TQ]; exact List.length_filter_le _ _
theorem Fj {v w : AV} {l : List yC} {bs : List Int} (h0 : H) (rd : zk 9 h0 v l.length (yx l)) (hv : ∀ x ∈ l, y8 h0 x ∧ x.2.sc = true) (hm : yS (l.map (·.1)) = true) (rdb : Rd h0 w (ints bs)) (hbs : bs.length < 1125899906842624) : ∀ (q p : List yC), l = p ++ q → ∀ (h : H) (ov : AV) (acc : List AF), Ext h0 h → h0.next ≤ h.next → h.floor ≤ h.next →
 yI 2 h ov acc.length (yV acc) → acc.map (·.1) = yU (p.map (·.1)) bs → (∀ x ∈ acc, GY h0 h ov x) → (∀ j, ov.id? = some j → h0.next ≤ j) →
 ∃ e' h' ov' acc', Lp AP.A [1, 6, 18, 19, 20] AP.f178L0 [(1, w), (6, ov), (18, v), (19, .int .i64 l.length), (20, .int .i64 p.length)] h = some (.exit 0, e', h') ∧ look e' 6 = ov' ∧ yI 2 h' ov' acc'.length (yV acc') ∧ acc'.map (·.1) = yU (l.map (·.1)) bs ∧ (∀ x ∈ acc', GY h0 h' ov' x) ∧ Ext h0 h' ∧ h'.floor = h.floor ∧ h.next ≤ h'.next ∧ ∀ j, ov'.id? = some j → h0.next ≤ j
 | [], p, hp, h, ov, acc, hx, hn, hf, o, ha, hb, hge => by
   rw [TR] at hp; subst hp
   refine ⟨[(1, w), (6, ov), (18, v), (19, .int .i64 l.length), (20, .int .i64 l.length), (21, .bool false)], h, ov, acc, vC ?_, rfl, o, ha, hb, hx, rfl, xc _, hge⟩
   simp (disch := omega) only [go_sem, xX, AP.f178L0]
 | x :: q, p, hp, h, ov, acc, hx, hn, hf, o, ha, hb, hge => by
   unfold yS at hm
   have hm' := hm
   rw [xe] at hm
   obtain ⟨m1, m2, m3⟩ := yJ hm.1
   rw [TQ] at m1
   have hl : l[p.length]? = some x := by rw [hp]; simp
   have hlen : l.length = p.length + (q.length + 1) := by rw [hp]; simp
   have may : zM x.1 = true := Uk.1 hm.2 x.1 (by rw [hp]; simp)
   have nsz := zT (m2 x.1 (by rw [hp]; simp)).1
   have v4 : x.1.vec.length = 4 := (zC (m2 x.1 (by rw [hp]; simp)).2.1).1
   obtain ⟨ad, a1, a2⟩ := rd.Jr
   have b1 := a1 p.length ⟨by omega, by omega⟩
   obtain ⟨_, b2⟩ := a2 h hx p.length x hl
   obtain ⟨ok, sc⟩ := hv x (by rw [hp]; simp)
   obtain ⟨E, hE⟩ : ∃ E, E = ya x.1 x.2 := ⟨_, rfl⟩
   have lE : E.length = 9 := by rw [hE]; rfl
   have cE : AV.aE E = true := by rw [hE]; exact Bg sc
   have E0 : E[0]? = some (.str x.1.name) := by rw [hE]; rfl
   have E2 : E[2]? = some x.2 := by rw [hE]; rfl
   obtain ⟨g0, eg0⟩ : ∃ g, g = h.alloc Z9 := ⟨_, rfl⟩
   obtain ⟨g1, eg1⟩ : ∃ g, g = g0.set h.next E := ⟨_, rfl⟩
   have z0 : g0.get h.next = some Z9 := by rw [eg0, xY rfl]
   have st : wm g0 h.next 0 9 E (some Z9) = some g1 := by rw [eg1]; exact Bz (by rw [eg0]; simp; exact hf) lE rfl cE
   have z1 : g1.get h.next = some E := by rw [eg1, yM rfl, z0]; rfl
   have low : ∀ i, i < h.next → g1.get i = h.get i := fun i hi => by rw [eg1, yA (by omega), eg0, yq (by omega)]
   have f1 : g1.floor = h.floor := by rw [eg1, eg0]; simp
   have n1 : g1.next = h.next + 1 := by rw [eg1, eg0]; simp
   have x1 : Ext h0 g1 := fun i c q => by rw [low i (by have := h0.lt _ _ q; omega)]; exact hx i c q
   have k2 := BV g1 x.1.name (by omega)
   have k3 := I5 g1 w bs ((Dj x.1 : Nat) : Int) (rdb.mono fun i c q => x1 i c q) hbs
   have a0 : h.alloc [.str ⟨#[]⟩, .bool false, .aR, .int .i64 0, .int .i64 0, .int .i64 0, .str ⟨#[]⟩, .int .i64 0, .int .i64 0] = g0 := eg0.symm
   have w1 : ((p ++ [x]).length : Int) = (p.length : Int) + 1 := by simp
   have k2' : aT AP.A 179 [.str x.1.name] g1 = some (.int .i64 ((Dj x.1 : Nat) : Int), g1) := k2
   have al := Ue List.length ha
   rw [TQ] at al
   have bl := BG (p.map (·.1)) bs
   rw [TQ] at bl
   have bs' := C4 (p.map (·.1)) x.1 bs
   cases hc : bs.contains ((Dj x.1 : Nat) : Int) with
   | false =>
     rw [hc] at k3
     rw [hc, if_neg (by decide)] at bs'
     obtain ⟨e', h2, ov', acc', r1, r2⟩ := Fj h0 rd hv hm' rdb hbs q (p ++ [x]) (by rw [hp]; simp) g1 ov acc x1 (by omega) (by omega) (o.mono f1 fun i q => low i (o.lt q).2) (by rw [T8, Ud, bs']; exact ha) (fun y hy => (hb y hy).mono f1 (fun j q1 _ => low j q1) (fun _ _ q => q)) hge
     rw [w1] at r1
     refine ⟨e', h2, ov', acc', vD ?_ r1, r2.1, r2.2.1, r2.2.2.1, r2.2.2.2.1, r2.2.2.2.2.1, by rw [r2.2.2.2.2.2.1, f1], by have := r2.2.2.2.2.2.2.1; omega, r2.2.2.2.2.2.2.2⟩
     rw [← hE] at b2
     clear r1 r2 hE hv rd a1 a2 x1 low hx hm hm' m2 may hp eg0 eg1 o hb ha rdb bs' k2 al bl
     generalize ((Dj x.1 : Nat) : Int) = B at *
     simp (disch := omega) only [go_sem, xX, AP.f178L0, b1, b2, a0, z0, lE, cE, st, z1, E0, E2, k2', k3]
   | true =>
     rw [hc] at k3
     rw [hc, if_pos rfl] at bs'
     have k4 := K0 g1 x.2 x.1.vec (ok.mono x1).vec (by omega) (by omega) (by omega)
     rw [v4] at k4
     obtain ⟨g2, eg2⟩ : ∃ g, g = ((g1.alloc []).del g1.next).alloc (ints x.1.vec) := ⟨_, rfl⟩
     rw [← eg2] at k4
     have low2 : ∀ i, i < g1.next → g2.get i = g1.get i := fun i hi => by rw [eg2, yq (by simp; omega), zI (by omega), yq (by omega)]
     have f2 : g2.floor = h.floor := by rw [eg2]; simp [f1]
     have n2 : g2.next = h.next + 3 := by rw [eg2]; simp [n1]
     have z2 : g2.get h.next = some E := by rw [low2 _ (by omega)]; exact z1
     have zv : g2.get (g1.next + 1) = some (ints x.1.vec) := by rw [eg2, xY (by simp)]
     have lo2 : ∀ i, i < h.next → g2.get i = h.get i := fun i hi => by rw [low2 i (by omega), low i hi]
     have x2 : Ext h0 g2 := fun i c q => by rw [lo2 i (by have := h0.lt _ _ q; omega)]; exact hx i c q
     have o2 : yI 2 g2 ov acc.length (yV acc) := o.mono f2 fun i q => lo2 i (o.lt q).2
     obtain ⟨v', h', p1, p2, p3, p4, p5, p6⟩ := o2.push (by omega) (z := 40) (m := 1) (by omega) (by omega) [.str x.1.name, .aG (g1.next + 1) 0 4 1] rfl rfl (by simp [roomy]; omega)
     have ea : yV acc ++ [.str x.1.name, .aG (g1.next + 1) 0 4 1] = yV (acc ++ [((x.1.name, x.1.vec), .aG (g1.next + 1) 0 4 1)]) := by rw [DG]; rfl
     rw [ea] at p2
     have ovl : ∀ j, ov.id? = some j → j < h.next := fun j q => (o.lt q).2
     obtain ⟨e', h2, ov', acc', r1, r2⟩ := Fj h0 rd hv hm' rdb hbs q (p ++ [x]) (by rw [hp]; simp) h' v' (acc ++ [((x.1.name, x.1.vec), .aG (g1.next + 1) 0 4 1)]) (fun i c q => by
      have := h0.lt _ _ q
      rw [p5 i (fun q2 => by have := hge i q2; omega) (by omega)]; exact x2 i c q) (by omega) (by omega) (by rw [xN, List.length_singleton]; exact p2) (by rw [T8, T8, Ud, Ud, bs', ha]) (fun y hy => by
      rcases List.mem_append.1 hy with hy | hy
      · refine (hb y hy).mono (by rw [p3, f2]) (fun j q1 q2 => by rw [p5 j q2 (by omega), lo2 j q1]) (fun j q1 _ => by rw [p6]; intro q2; have := wU q2; omega)
      · obtain rfl : y = _ := List.mem_singleton.1 hy
        refine ⟨⟨g1.next + 1, rfl, ?_, by omega, by rw [p6]; intro q2; have := wU q2; omega, by rw [p3, f2]; omega⟩, v4⟩
        rw [p5 _ (fun q2 => by have := ovl _ q2; omega) (by omega)]
        exact zv) (fun j q => by rw [p6] at q; have := wU q; omega)
     rw [w1] at r1
     refine ⟨e', h2, ov', acc', vD ?_ r1, r2.1, r2.2.1, r2.2.2.1, r2.2.2.2.1, r2.2.2.2.2.1, by rw [r2.2.2.2.2.2.1, p3, f2], by have := r2.2.2.2.2.2.2.1; omega, r2.2.2.2.2.2.2.2⟩
     rw [← hE] at b2
     clear r1 r2 hE hv rd a1 a2 x1 low hx hm hm' m2 may hp eg0 eg1 o o2 hb ha rdb bs' k2 al bl lo2 low2 x2 p2 ea zv eg2 ovl
     generalize ((Dj x.1 : Nat) : Int) = B at *
     simp (disch := omega) only [go_sem, xX, AP.f178L0, b1, b2, a0, z0, lE, cE, st, z1, z2, E0, E2, k2', k3, k4, p1]
theorem DF (h : H) (hf : h.floor ≤ h.next) (v w : AV) (l : List yC) (bs : List Int) (hvs : v.sc = true) (hn : l.length < 1125899906842624) (rd : zk 9 h v l.length (yx l)) (hv : ∀ x ∈ l, y8 h x ∧ x.2.sc = true) (rdb : Rd h w (ints bs)) (hbs : bs.length < 1125899906842624) :
 ∃ ov h' acc, aT AP.A 178 [.agg [v], w] h = some (.bW [ov, .int .i64 (if yS (l.map (·.1)) && zW bs then 0 else 1600)], h') ∧ LS 2 h ov h' acc.length (yV acc) ∧ acc.map (·.1) = (if yS (l.map (·.1)) && zW bs then yU (l.map (·.1)) bs else []) ∧ ∀ x ∈ acc, GY h h' ov x := by
 obtain ⟨g1, eg1⟩ : ∃ g, g = h.alloc [v] := ⟨_, rfl⟩
 have hx1 : Ext h g1 := by rw [eg1]; exact (Ext.refl h).alloc _
 have z1 : g1.get h.next = some [v] := by rw [eg1]; exact xY rfl
 have f1 : g1.floor = h.floor := by rw [eg1]; simp
 have n1 : g1.next = h.next + 1 := by rw [eg1]; simp
 have rd1 := rd.mono fun i c q => hx1 i c q
 have hv1 : ∀ x ∈ l, y8 g1 x ∧ x.2.sc = true := fun x hx => ⟨(hv x hx).1.mono hx1, (hv x hx).2⟩
 have rdb1 : Rd g1 w (ints bs) := rdb.mono fun i c q => hx1 i c q
 have k1 := JZ g1 v l hvs hn rd1 hv1
 have k2 := MA g1 w bs rdb1 hbs
 have ln := rd1.len
 cases hm : yS (l.map (·.1)) with
 | false =>
   rw [hm] at k1
   refine ⟨.aR, g1, [], ?_, ⟨yI.nil, hx1, f1, by omega, fun i q => by cases q⟩, rfl, fun x hx => by cases hx⟩
   refine vP (fn := AP.f178) (h2 := g1) (e := [(4, .aR), (5, .int .i64 1600)]) (vs := [.aR, .int .i64 1600]) rfl rfl rfl ?_ rfl
   clear rd rd1 hv hv1 hx1 rdb rdb1
   simp (disch := omega) only [go_sem, xX, AP.f178, hvs, ← eg1, z1, AG, k1, k2]
 | true =>
   rw [hm] at k1
   cases hb : zW bs with
   | false =>
     rw [hb] at k2
     refine ⟨.aR, g1, [], ?_, ⟨yI.nil, hx1, f1, by omega, fun i q => by cases q⟩, rfl, fun x hx => by cases hx⟩
     refine vP (fn := AP.f178) (h2 := g1) (e := [(4, .aR), (5, .int .i64 1600)]) (vs := [.aR, .int .i64 1600]) rfl rfl rfl ?_ rfl
     clear rd rd1 hv hv1 hx1 rdb rdb1
     simp (disch := omega) only [go_sem, xX, AP.f178, hvs, ← eg1, z1, AG, k1, k2]
   | true =>
     rw [hb] at k2
     obtain ⟨e', g2, ov, acc, r1, r2, r3, r4, r5, r6, r7, r8, r9⟩ := Fj g1 rd1 hv1 hm rdb1 hbs l [] rfl g1 .aR [] (Ext.refl _) (xc _) (by omega) yI.nil rfl (fun x hx => by cases hx) (fun j q => by cases q)
     have r1' : Lp AP.A [1, 6, 18, 19, 20] AP.f178L0 [(1, w), (6, .aR), (18, v), (19, .int .i64 l.length), (20, .int .i64 0)] g1 = some (.exit 0, e', g2) := r1
     refine ⟨ov, g2, acc, ?_, ⟨r3, fun i c q => r6 i c (hx1 i c q), by rw [r7, f1], by omega, fun j q => by have := r9 j q; omega⟩, r4, fun x hx => ?_⟩
     · refine vP (fn := AP.f178) (h2 := g2) (e := [(4, ov), (5, .int .i64 0)]) (vs := [ov, .int .i64 0]) rfl rfl rfl ?_ rfl
       clear rd rd1 hv hv1 hx1 rdb rdb1 r1 r3 r4 r5 r6
       simp (disch := omega) only [go_sem, xX, AP.f178, hvs, ← eg1, z1, AG, k1, k2, ln, uK, r1', r2]
     · have b := r5 x hx
       obtain ⟨j, q1, q2, q3, q4, q5⟩ := b.ex
       exact ⟨⟨j, q1, q2, by omega, q4, q5⟩, b.l4⟩
theorem JO (h : H) (hf : h.floor ≤ h.next) (v : AV) (l : List yC) (hvs : v.sc = true) (hn : l.length < 1125899906842624) (rd : zk 9 h v l.length (yx l)) (hv : ∀ x ∈ l, y8 h x ∧ x.2.sc = true) (hm : yS (l.map (·.1)) = true) :
 ∃ i h', aT AP.A 177 [.agg [v]] h = some (.bW [.aG i 0 8 1, .int .i64 0], h') ∧ h'.get i = some (ints (y6 (l.map (·.1)))) ∧ Ext h h' ∧ h'.floor = h.floor ∧ h.next ≤ h'.next ∧ h.next ≤ i := by
 obtain ⟨w, h', k, g⟩ := JN h hf v l hvs hn rd hv
 simp only [hm, if_true] at k g
 rw [zy] at g
 obtain ⟨_, ⟨_, q⟩ | ⟨i, q1, q2, _⟩⟩ := g.own
 · cases q
 · subst q1; exact ⟨i, h', k, q2, g.ext, g.fl, g.nx, g.ge i rfl⟩
theorem JE (h : H) (hf : h.floor ≤ h.next) (v w : AV) (l : List yC) (bs : List Int) (hvs : v.sc = true) (hn : l.length < 1125899906842624) (rd : zk 9 h v l.length (yx l)) (hv : ∀ x ∈ l, y8 h x ∧ x.2.sc = true) (rdb : Rd h w (ints bs)) (hbs : bs.length < 1125899906842624) (hm : (yS (l.map (·.1)) && zW bs) = true) :
 ∃ ov h' acc, aT AP.A 178 [.agg [v], w] h = some (.bW [ov, .int .i64 0], h') ∧ LS 2 h ov h' acc.length (yV acc) ∧ acc.map (·.1) = yU (l.map (·.1)) bs ∧ ∀ x ∈ acc, GY h h' ov x := by
 have := DF h hf v w l bs hvs hn rd hv rdb hbs
 simpa only [hm, if_true] using this
theorem JD (h : H) (hf : h.floor ≤ h.next) (v w : AV) (l : List yC) (bs : List Int) (hvs : v.sc = true) (hn : l.length < 1125899906842624) (rd : zk 9 h v l.length (yx l)) (hv : ∀ x ∈ l, y8 h x ∧ x.2.sc = true) (rdb : Rd h w (ints bs)) (hbs : bs.length < 1125899906842624) (hm : (yS (l.map (·.1)) && zW bs) = false) :
 ∃ h', aT AP.A 178 [.agg [v], w] h = some (.bW [.aR, .int .i64 1600], h') ∧ Ext h h' ∧ h'.floor = h.floor ∧ h.next ≤ h'.next := by
 obtain ⟨ov, h', acc, k, g, q, _⟩ := DF h hf v w l bs hvs hn rd hv rdb hbs
 simp only [hm, xa, xO] at k q
 have : acc = [] := by simpa using q
 subst this
 obtain ⟨_, ⟨q, _⟩ | ⟨i, _, _, _, q⟩⟩ := g.own
 · subst q; exact ⟨h', k, g.ext, g.fl, g.nx⟩
 · simp at q
theorem G8 {A : bq} {f g : Nat} (e : A f = A g) (args : List AV) (h : H) : ∀ n, aV A n f args h = aV A n g args h
 | 0 => rfl
 | n + 1 => by simp only [aV, e]
theorem G9 {A : bq} {f g : Nat} (e : A f = A g) (args : List AV) (h : H) {r} (k : aT A g args h = some r) : aT A f args h = some r := by
 obtain ⟨n, hn⟩ := fD k
 exact ot (n := n) (by rw [G8 e]; exact hn)
theorem Hs (h : H) (name text : ByteArray) (node : Nat) (yu : Int) (hn : node < 4) (ht : text.size < 1125899906842624) :
 aT AP.A 180 [.str name, .int .i64 node, .int .i64 yu, .str text] h = some (.agg (ya (CV name node yu text) (Bn ([0, 0, 0, 0].set node yu))), h) :=
 G9 (show AP.A 180 = AP.A 99 from rfl) _ _ (LM h name text node yu hn ht)
structure Mw (h0 h : H) (ov : AV) (x : yC) : Prop where
 ok : y8 h x
 sc : x.2.sc = true
 id : ∀ i, x.2.id? = some i → h0.next ≤ i ∧ i < h.next ∧ ov.id? ≠ some i ∧ h.floor ≤ i
 wr : ∃ i cs, x.2 = .aG i 0 x.1.vec.length 1 ∧ h.get i = some cs ∧ (0 < x.1.vec.length → cs = ints x.1.vec)
theorem Mw.mono {h0 h g : H} {ov ov' : AV} {x : yC} (b : Mw h0 h ov x) (hf : g.floor = h.floor) (hn : h.next ≤ g.next) (hg : ∀ j c, ov.id? ≠ some j → h.get j = some c → g.get j = some c) (ho : ∀ j, j < h.next → ov.id? ≠ some j → ov'.id? ≠ some j) : Mw h0 g ov' x := by
 obtain ⟨i, cs, e1, e2, e3⟩ := b.wr
 have q := b.id i (by rw [e1]; rfl)
 have e4 := hg i cs q.2.2.1 e2
 exact ⟨b.ok.Db fun k q' => (by rw [e1] at q'; obtain rfl := wU q'; rw [e4, e2]), b.sc, fun i q => ⟨(b.id i q).1, by have := (b.id i q).2.1; omega, ho i (b.id i q).2.1 (b.id i q).2.2.1, by rw [hf]; exact (b.id i q).2.2.2⟩, ⟨i, cs, e1, e4, e3⟩⟩
theorem HE {v : AV} {l : List yC} (hn0 : l.length < 1353300000000) (h0 : H) (rd : zk 9 h0 v l.length (yx l)) (hv : ∀ x ∈ l, y8 h0 x ∧ x.2.sc = true ∧ x.1.vec.length < 20000000000000) : ∀ (q p : List yC), l = p ++ q → ∀ (h : H) (ov : AV) (acc : List yC), Ext h0 h → h0.next ≤ h.next → h.floor ≤ h.next →
 yI 9 h ov acc.length (yx acc) → acc.map (·.1) = p.map (·.1) → (∀ x ∈ acc, Mw h0 h ov x) → (∀ j, ov.id? = some j → h0.next ≤ j) → h0.floor = h.floor →
 ∃ e' h' ov' acc', Lp AP.A [0, 3, 4] AP.f204L0 [(0, v), (3, ov), (4, .int .i64 p.length)] h = some (.exit 0, e', h') ∧ look e' 3 = ov' ∧ yI 9 h' ov' acc'.length (yx acc') ∧ acc'.map (·.1) = l.map (·.1) ∧ (∀ x ∈ acc', Mw h0 h' ov' x) ∧ Ext h0 h' ∧ h'.floor = h.floor ∧ h.next ≤ h'.next ∧ ∀ j, ov'.id? = some j → h0.next ≤ j
 | [], p, hp, h, ov, acc, hx, hn, hf, o, ha, hb, hge, hfl => by
   rw [TR] at hp; subst hp
   have ln := (rd.mono fun i c q => hx i c q).len
   refine ⟨[(0, v), (3, ov), (4, .int .i64 l.length), (8, .bool false)], h, ov, acc, vC ?_, rfl, o, ha, hb, hx, rfl, xc _, hge⟩
   simp (disch := omega) only [go_sem, xX, AP.f204L0, ln]
 | x :: q, p, hp, h, ov, acc, hx, hn, hf, o, ha, hb, hge, hfl => by
   have hl : l[p.length]? = some x := by rw [hp]; simp
   have hlen : l.length = p.length + (q.length + 1) := by rw [hp]; simp
   have ln := (rd.mono fun i c q => hx i c q).len
   obtain ⟨ad, a1, a2⟩ := rd.Jr
   have b1 := a1 p.length ⟨by omega, by omega⟩
   obtain ⟨_, b2⟩ := a2 h hx p.length x hl
   obtain ⟨ok, sc, vl⟩ := hv x (by rw [hp]; simp)
   obtain ⟨g1, u, k1, hu, ru, f1, n1, x1, gu⟩ := K4 h hf x.1 x.2 sc (ok.mono hx) vl
   have scu : u.sc = true := by rw [hu]; split <;> rfl
   have idu : ∃ j cs, u = .aG j 0 x.1.vec.length 1 ∧ h.next ≤ j ∧ g1.get j = some cs ∧ (0 < x.1.vec.length → cs = ints x.1.vec) := by
    by_cases c : x.1.vec = []
    · rw [if_pos c] at hu
      have r := ru.1
      rw [hu] at r
      simp only [aU, if_true] at r
      cases hg : g1.get (h.next + 2) with
      | none => rw [hg] at r; cases r
      | some cs => exact ⟨h.next + 2, cs, by rw [hu, c]; rfl, by omega, hg, fun q => by rw [c] at q; simp at q⟩
    · rw [if_neg c] at hu
      exact ⟨h.next + 3, _, hu, by omega, gu (List.length_pos_iff.2 c), fun _ => rfl⟩
   obtain ⟨j, cs, ej, hj, gj, hcs⟩ := idu
   have jn := g1.lt _ _ gj
   have o1 : yI 9 g1 ov acc.length (yx acc) := o.mono f1 fun i q => by
    obtain ⟨_, o⟩ := o
    rcases o with ⟨rfl, _⟩ | ⟨i', rfl, o1, _⟩
    · cases q
    · obtain rfl := wU q; rw [o1]; exact x1 _ _ o1
   obtain ⟨E, hE⟩ : ∃ E, E = ya x.1 u := ⟨_, rfl⟩
   have lE : E.length = 9 := by rw [hE]; rfl
   have cE : AV.aE E = true := by rw [hE]; exact Bg scu
   have fE : setFrom Z9 0 E = E := by rw [hE]; rfl
   have al := Ue List.length ha
   rw [TQ, TQ] at al
   obtain ⟨v', h', p1, p2, p3, p4, p5, p6⟩ := o1.push (by omega) (z := 104) (m := 1) (by omega) (by omega) E (by rw [lE]) cE (by simp [roomy]; omega)
   have ea : yx acc ++ E = yx (acc ++ [(x.1, u)]) := by rw [Hb, hE]
   rw [ea] at p2
   obtain ⟨e', h2, ov', acc', r1, r2⟩ := HE hn0 h0 rd hv q (p ++ [x]) (by rw [hp]; simp) h' v' (acc ++ [(x.1, u)]) (fun i c q => by
    have := h0.lt _ _ q
    rw [p5 i (fun q2 => by have := hge i q2; omega) (by omega)]; exact x1 _ _ (hx i c q)) (by omega) (by omega) (by rw [xN, List.length_singleton]; exact p2) (by rw [T8, T8, ha]; rfl) (fun y hy => by
    rcases List.mem_append.1 hy with hy | hy
    · refine (hb y hy).mono (by rw [p3, f1]) (by omega) (fun j c q1 q2 => by rw [p5 j q1 (by have := h.lt _ _ q2; omega)]; exact x1 _ _ q2) (fun j q1 _ => by rw [p6]; intro q2; have := wU q2; omega)
    · obtain rfl : y = _ := List.mem_singleton.1 hy
      have gj' : h'.get j = g1.get j := p5 j (fun q2 => by have := (o.lt q2).2; omega) jn
      refine ⟨⟨?_, ok.vl, ok.nl, ok.pl⟩, scu, fun i q => ?_, ⟨j, cs, ej, by rw [gj']; exact gj, hcs⟩⟩
      · exact ru.Db fun i q => by rw [ej] at q; obtain rfl := wU q; exact gj'
      · rw [show ((x.1, u) : yC).2 = u from rfl, ej] at q
        obtain rfl := wU q
        exact ⟨by omega, by omega, by rw [p6]; intro q2; have := wU q2; omega, by rw [p3, f1]; omega⟩) (fun j q => by rw [p6] at q; have := wU q; omega) (by rw [p3, f1, hfl])
   have w1 : ((p ++ [x]).length : Int) = (p.length : Int) + 1 := by simp
   rw [w1] at r1
   refine ⟨e', h2, ov', acc', vD ?_ r1, r2.1, r2.2.1, r2.2.2.1, r2.2.2.2.1, r2.2.2.2.2.1, by rw [r2.2.2.2.2.2.1, p3, f1], by have := r2.2.2.2.2.2.2.1; omega, r2.2.2.2.2.2.2.2⟩
   rw [← hE] at k1
   clear r1 r2 hv rd a1 a2 x1 hx hp o o1 hb ha ea p2 gu ru
   generalize ya x.1 x.2 = F at *
   simp (disch := omega) only [go_sem, xX, AP.f204L0, ln, b1, b2, k1, lE, cE, fE, p1]
theorem JI (h : H) (hf : h.floor ≤ h.next) (v : AV) (l : List yC) (hn0 : l.length < 1353300000000) (rd : zk 9 h v l.length (yx l)) (hv : ∀ x ∈ l, y8 h x ∧ x.2.sc = true ∧ x.1.vec.length < 20000000000000) :
 ∃ w h' acc, aT AP.A 204 [v] h = some (w, h') ∧ LS 9 h w h' acc.length (yx acc) ∧ acc.map (·.1) = l.map (·.1) ∧ ∀ x ∈ acc, Mw h h' w x := by
 obtain ⟨e', h', ov', acc, r1, r2, r3, r4, r5, r6, r7, r8, r9⟩ := HE hn0 h rd hv l [] rfl h .aR [] (Ext.refl h) (xc _) hf yI.nil rfl (fun x hx => by cases hx) (fun j q => by cases q) rfl
 have r1' : Lp AP.A [0, 3, 4] AP.f204L0 [(0, v), (3, .aR), (4, .int .i64 0)] h = some (.exit 0, e', h') := r1
 refine ⟨ov', h', acc, ?_, ⟨r3, r6, r7, r8, r9⟩, r4, r5⟩
 refine vP (fn := AP.f204) (h2 := h') (e := [(2, ov')]) (vs := [ov']) rfl rfl rfl ?_ rfl
 clear rd hv r1 r3 r4 r5 r6
 simp (disch := omega) only [go_sem, xX, AP.f204, uK, r1', r2]
theorem K5 (h : H) (hf : h.floor ≤ h.next) (v : AV) (l : List yC) (hvs : v.sc = true) (hn0 : l.length < 1353300000000) (rd : zk 9 h v l.length (yx l)) (hv : ∀ x ∈ l, y8 h x ∧ x.2.sc = true ∧ x.1.vec.length < 20000000000000) :
 ∃ w h' acc, aT AP.A 196 [.agg [v]] h = some (.agg [w], h') ∧ LS 9 h w h' acc.length (yx acc) ∧ acc.map (·.1) = l.map (·.1) ∧ ∀ x ∈ acc, Mw h h' w x := by
 obtain ⟨g1, eg1⟩ : ∃ g, g = h.alloc [v] := ⟨_, rfl⟩
 obtain ⟨g2, eg2⟩ : ∃ g, g = g1.alloc [.aR] := ⟨_, rfl⟩
 have n1 : g1.next = h.next + 1 := by rw [eg1]; simp
 have n2 : g2.next = h.next + 2 := by rw [eg2]; simp [n1]
 have f2 : g2.floor = h.floor := by rw [eg2, eg1]; simp
 have x2 : Ext h g2 := by rw [eg2, eg1]; exact ((Ext.refl h).alloc _).alloc _
 have z1 : g2.get h.next = some [v] := by rw [eg2, yq (by omega), eg1, xY rfl]
 have z2 : g2.get (h.next + 1) = some [.aR] := by rw [eg2, xY (by omega)]
 obtain ⟨w, g3, acc, k1, gen, ha, hb⟩ := JI g2 (by omega) v l hn0 (rd.mono fun i c q => x2 i c q) (fun x hx => ⟨(hv x hx).1.mono x2, (hv x hx).2⟩)
 have z3 := gen.ext _ _ z2
 have hw := gen.own.sc
 have cw := Eg hw
 obtain ⟨g4, eg4⟩ : ∃ g, g = g3.set (h.next + 1) [w] := ⟨_, rfl⟩
 have st : wm g3 (h.next + 1) 0 1 [w] (some [.aR]) = some g4 := by rw [wM (by rw [gen.fl, f2]; omega) (by simp) hw, eg4]; rfl
 have z4 : g4.get (h.next + 1) = some [w] := by rw [eg4, yM rfl, z3]; rfl
 have yY : ∀ i, i ≠ h.next + 1 → g4.get i = g3.get i := fun i hi => by rw [eg4, yA hi]
 have gn := gen.nx
 refine ⟨w, g4, acc, ?_, ⟨gen.own.mono (by rw [eg4]; simp) (fun i q => yY i (by have := gen.ge i q; omega)), fun i c q => ?_, by rw [eg4]; simp [gen.fl, f2], by rw [eg4]; simp; omega, fun i q => by have := gen.ge i q; omega⟩, ha, fun x hx => ?_⟩
 · refine vP (fn := AP.f196) (h2 := g4) (e := [(2, .aF (h.next + 1) 0)]) (vs := [.agg [w]]) rfl rfl rfl ?_ (by simp only [AP.f196, cW, oW, oK, td, z4, vu]; rfl)
   clear rd hv hb ha gen yY x2
   simp (disch := omega) only [go_sem, xX, AP.f196, hvs, ← eg1, n1, ← eg2, z1, k1, z3, hw, cw, st]
 · have := h.lt _ _ q
   rw [yY i (by omega)]; exact gen.ext _ _ (x2 _ _ q)
 · have b := hb x hx
   obtain ⟨j, cs, q1, q2, q3⟩ := b.wr
   have q4 := b.id j (by rw [q1]; rfl)
   exact ⟨b.ok.Db fun i q => yY i (by have := (b.id i q).1; omega), b.sc, fun i q => ⟨by have := (b.id i q).1; omega, by rw [eg4]; simp; exact (b.id i q).2.1, (b.id i q).2.2.1, by rw [eg4]; simp; exact (b.id i q).2.2.2⟩, ⟨j, cs, q1, by rw [yY j (by omega)]; exact q2, q3⟩⟩
structure IE (h : H) (v : AV) (l : List AF) : Prop where
 rd : zk 2 h v l.length (yV l)
 vec : ∀ x ∈ l, Rd h x.2 (ints x.1.2) ∧ x.1.2.length < 1125899906842624
theorem IE.mono {h g : H} {v : AV} {l : List AF} (r : IE h v l) (e : Ext h g) : IE g v l := ⟨r.rd.mono fun i c q => e i c q, fun x hx => ⟨(r.vec x hx).1.mono fun i c q => e i c q, (r.vec x hx).2⟩⟩
theorem IE.at_ {h : H} {v : AV} {l : List AF} (r : IE h v l) : ∃ ad : Int → Nat → AV, (∀ i : Int, 0 ≤ i ∧ i < l.length → gV 2 v (.int .i64 i) = some (ad i 0) ∧ fU 0 (ad i 0) = some (ad i 0) ∧ fU 1 (ad i 0) = some (ad i 1)) ∧
 (∀ (i : Nat) (x : AF), l[i]? = some x → cf false 1 (ad i 0) h = some (.str x.1.1) ∧ cf false 1 (ad i 1) h = some x.2) := by
 obtain ⟨ad, a1, a2, a4, a3⟩ := r.rd.at_
 refine ⟨ad, fun i hi => ⟨a1 i hi, a2 i 0 0 hi, a2 i 0 1 hi⟩, fun i x hx => ?_⟩
 have hi : i < l.length := (w8.1 hx).1
 have g := fun k (hk : k < 2) => CG (f := k) Fi hx hk
 refine ⟨(a3 h fun _ _ q => q).1 i 0 _ ⟨by omega, by omega⟩ ?_, (a3 h fun _ _ q => q).1 i 1 _ ⟨by omega, by omega⟩ ?_⟩
 · rw [AE]; exact g 0 (by omega)
 · rw [AE]; exact g 1 (by omega)
theorem Ik {v w : AV} {a b : List AF} (hab : a.length = b.length) (hl : a.length < 1000000) (h : H) (ra : IE h v a) (rb : IE h w b) : ∀ (q r p p' : List AF), a = p ++ q → b = p' ++ r → p.length = p'.length →
 (∃ e', Lp AP.A [0, 1, 5] AP.f182L0 [(0, v), (1, w), (5, .int .i64 p.length)] h = some (.exit 0, e', h) ∧ q.map (·.1) = r.map (·.1)) ∨
 (∃ e', Lp AP.A [0, 1, 5] AP.f182L0 [(0, v), (1, w), (5, .int .i64 p.length)] h = some (.ret, e', h) ∧ look e' 4 = .bool false ∧ q.map (·.1) ≠ r.map (·.1))
 | [], r, p, p', ha, hb, hp => by
   rw [TR] at ha; subst ha
   have hr : r = [] := by
    have : b.length = p'.length + r.length := by rw [hb]; simp
    exact Ua (by omega)
   have ln := ra.rd.len
   refine .inl ⟨[(0, v), (1, w), (5, .int .i64 a.length), (14, .bool false)], vC ?_, by rw [hr]⟩
   simp (disch := omega) only [go_sem, xX, AP.f182L0, ln]
 | x :: q, [], p, p', ha, hb, hp => by
   exfalso
   have h1 : a.length = p.length + (q.length + 1) := by rw [ha]; simp
   have h2 : b.length = p'.length := by rw [hb]; simp
   omega
 | x :: q, y :: r, p, p', ha, hb, hp => by
   have h1 : a.length = p.length + (q.length + 1) := by rw [ha]; simp
   have hx : a[p.length]? = some x := by rw [ha]; simp
   have hy : b[p.length]? = some y := by rw [hb, hp]; simp
   have ln := ra.rd.len
   obtain ⟨ad, a1, a2⟩ := ra.at_
   obtain ⟨bd, b1, b2⟩ := rb.at_
   obtain ⟨a3, a4, a5⟩ := a1 p.length ⟨by omega, by omega⟩
   obtain ⟨b3, b4, b5⟩ := b1 p.length ⟨by omega, by omega⟩
   obtain ⟨a6, a7⟩ := a2 p.length x hx
   obtain ⟨b6, b7⟩ := b2 p.length y hy
   obtain ⟨vx, lx⟩ := ra.vec x (by rw [ha]; simp)
   obtain ⟨vy, ly⟩ := rb.vec y (by rw [hb]; simp)
   have k1 := Cp h x.2 y.2 x.1.2 y.1.2 vx vy lx
   have en : bE .neq (.str x.1.1) (.str y.1.1) = some (.bool (!(x.1.1.data.toList == y.1.1.data.toList))) := FH _ _
   have ih := Ik hab hl h ra rb q r (p ++ [x]) (p' ++ [y]) (by rw [ha]; simp) (by rw [hb]; simp) (by simp [hp])
   have w1 : ((p ++ [x]).length : Int) = (p.length : Int) + 1 := by simp
   rw [w1] at ih
   obtain ⟨B1, hB1⟩ : ∃ B, B = (x.1.1.data.toList == y.1.1.data.toList) := ⟨_, rfl⟩
   rw [← hB1] at en
   have key : x.1 = y.1 ↔ B1 = true ∧ x.1.2 = y.1.2 := by
    constructor
    · intro e; rw [hB1, e]; simp
    · rintro ⟨e1, e2⟩
      have e3 : x.1.1 = y.1.1 := by
       rw [hB1, beq_iff_eq] at e1
       have e4 : x.1.1.data = y.1.1.data := Array.ext' e1
       cases h1 : x.1.1; cases h2 : y.1.1; rw [h1, h2] at e4; simp_all
      exact Prod.ext e3 e2
   by_cases hk : x.1 = y.1
   · obtain ⟨k2, k3⟩ := key.1 hk
     rw [k2] at en
     rw [dt k3] at k1
     have step : aN (aT AP.A) bI AP.f182L0 (az [(0, v), (1, w), (5, .int .i64 p.length)] [0, 1, 5]) h = some (.normal, [(0, v), (1, w), (5, .int .i64 ((p.length : Int) + 1))], h) := by
      clear ih ra rb a1 a2 b1 b2 vx vy ha hb key
      simp (disch := omega) only [go_sem, xX, AP.f182L0, ln, a3, a4, a5, a6, a7, b3, b4, b5, b6, b7, en, k1]
     rw [TZ, TZ]
     rcases ih with ⟨e', r1, r2⟩ | ⟨e', r1, r2, r3⟩
     · exact .inl ⟨e', vD step r1, by rw [hk, r2]⟩
     · exact .inr ⟨e', vD step r1, r2, fun q => r3 (List.cons.inj q).2⟩
   · refine .inr ⟨[(4, .bool false)], vW ?_, rfl, fun q => hk (List.cons.inj q).1⟩
     cases B1 with
     | false =>
       clear ih ra rb a1 a2 b1 b2 vx vy ha hb key
       simp (disch := omega) only [go_sem, xX, AP.f182L0, ln, a3, a4, a5, a6, a7, b3, b4, b5, b6, b7, en, k1]
     | true =>
       rw [df (fun q => hk (key.2 ⟨rfl, q⟩))] at k1
       clear ih ra rb a1 a2 b1 b2 vx vy ha hb key
       simp (disch := omega) only [go_sem, xX, AP.f182L0, ln, a3, a4, a5, a6, a7, b3, b4, b5, b6, b7, en, k1]
theorem Ij (h : H) (v w : AV) (a b : List AF) (ra : IE h v a) (rb : IE h w b) (hl : a.length < 1000000) : aT AP.A 182 [v, w] h = some (.bool (decide (a.map (·.1) = b.map (·.1))), h) := by
 have xf : Ext h h.eN := fun i c q => q
 have l1 := (ra.mono xf).rd.len
 have l2 := (rb.mono xf).rd.len
 by_cases c : a.length = b.length
 · have c' : (a.length : Int) = b.length := by omega
   rcases Ik c hl h.eN (ra.mono xf) (rb.mono xf) a b [] [] rfl rfl rfl with ⟨e', r1, r2⟩ | ⟨e', r1, r2, r3⟩
   · have r1' : Lp AP.A [0, 1, 5] AP.f182L0 [(0, v), (1, w), (5, .int .i64 0)] h.eN = some (.exit 0, e', h.eN) := r1
     rw [dt r2]
     refine wj (fn := AP.f182) (h2 := h.eN) (e := [(4, .bool true)]) rfl rfl rfl ?_ rfl rfl
     clear ra rb r1 r2
     simp (disch := omega) only [go_sem, xX, AP.f182, l1, l2, uK, r1']
   · have r1' : Lp AP.A [0, 1, 5] AP.f182L0 [(0, v), (1, w), (5, .int .i64 0)] h.eN = some (.ret, e', h.eN) := r1
     rw [df r3]
     refine wj (fn := AP.f182) (h2 := h.eN) (e := e') (vs := [.bool false]) rfl rfl rfl ?_ (by simp only [AP.f182, cW, oW, r2]; rfl) rfl
     clear ra rb r1 r3
     simp (disch := omega) only [go_sem, xX, AP.f182, l1, l2, uK, r1']
 · have c' : ¬ (a.length : Int) = b.length := by omega
   have e : a.map (·.1) ≠ b.map (·.1) := fun q => c (by have := Ue List.length q; simpa using this)
   rw [df e]
   refine wj (fn := AP.f182) (h2 := h.eN) (e := [(4, .bool false)]) rfl rfl rfl ?_ rfl rfl
   clear ra rb
   simp (disch := omega) only [go_sem, xX, AP.f182, l1, l2]
theorem LS.Qy {h h' : H} {ov : AV} {acc : List AF} (g : LS 2 h ov h' acc.length (yV acc)) (b : ∀ x ∈ acc, GY h h' ov x) : IE h' ov acc :=
 ⟨g.own.rd, fun x hx => by
  obtain ⟨j, e1, e2, _⟩ := (b x hx).ex
  have := (b x hx).l4
  exact ⟨by rw [e1]; exact Rd.obj e2 this, by omega⟩⟩
theorem J0 : yS [eA] = true := by decide +kernel
theorem Lf : yS [] = true := by decide +kernel
theorem G6 : (y6 [eA])[y9 nA % 8]? = some (yK (y7 [eA] (y9 nA % 8))) ∧ yK (y7 [eA] (y9 nA % 8)) ≠ 0 ∧ yK (y6 [eA]) ≠ 0 ∧ y6 [] = [0, 0, 0, 0, 0, 0, 0, 0] ∧ yU [eA] [((y9 nA % 8 : Nat) : Int)] = [(nA, [1, 0, 0, 0])] ∧ zW [((y9 nA % 8 : Nat) : Int)] = true ∧ zW [8] = false := by decide +kernel
theorem P9 {g : H} {n : Nat} {E : List AV} (hg : g.get n = some E) (hE : E.length = 9) : zk 9 g (.aG n 0 1 9) 1 E := by
 refine ⟨?_, by omega, fun _ => by simp⟩
 simp only [aU, if_true, hg, w9, xp, Nat.one_mul]
 rw [if_pos (by omega), TX, xI (by omega)]
theorem Ig {g : H} {n : Nat} {x : Int} (hg : g.get n = some [.int .i64 x]) : Rd g (.aG n 0 1 1) (ints [x]) := Rd.obj (l := [x]) hg rfl
set_option maxHeartbeats 4000000 in
theorem IH (h : H) : aT AP.A 176 [] h = some (.bool true, h) := by
 obtain ⟨a1, a2, a3, a4, a5, a6, a7⟩ := G6
 obtain ⟨b, hb⟩ : ∃ b, b = y9 nA % 8 := ⟨_, rfl⟩
 have hb8 : b < 8 := by omega
 rw [← hb] at a1 a2 a5 a6
 obtain ⟨E, hE⟩ : ∃ E, E = ya eA (Bn [1, 0, 0, 0]) := ⟨_, rfl⟩
 have lE : E.length = 9 := by rw [hE]; rfl
 have cE : AV.aE E = true := by rw [hE]; exact Bg (Iy _)
 have fE : setFrom Z9 0 E = E := by rw [hE]; rfl
 have okE : ∀ g, y8 g (eA, Bn [1, 0, 0, 0]) := fun g => y8.au (e := eA) rfl (by decide) (by decide)
 have hv : ∀ g, ∀ x ∈ [((eA, Bn [1, 0, 0, 0]) : yC)], y8 g x ∧ x.2.sc = true := fun g x hx => by obtain rfl := List.mem_singleton.1 hx; exact ⟨okE g, Iy [1, 0, 0, 0]⟩
 have eE : yx [((eA, Bn [1, 0, 0, 0]) : yC)] = E := by rw [hE]; rfl
 have rd1 : ∀ (g : H) (n : Nat), g.get n = some E → zk 9 g (.aG n 0 1 9) [((eA, Bn [1, 0, 0, 0]) : yC)].length (yx [((eA, Bn [1, 0, 0, 0]) : yC)]) := fun g n hg => by rw [eE]; exact P9 hg lE
 have k0 : ∀ g, aT AP.A 180 [.str ⟨#[97]⟩, .int .i64 0, .int .i64 1, .str ⟨#[104, 105]⟩] g = some (.agg E, g) := fun g => by rw [hE]; exact Hs g nA TG 0 1 (by omega) (by decide)
 obtain ⟨G, hG⟩ : ∃ G, G = ((h.eN.alloc E).alloc [.aR]).set (h.next + 1) [.aG h.next 0 1 9] := ⟨_, rfl⟩
 have g1 : G.get h.next = some E := by rw [hG]; simp (disch := first | omega | (simp only [yH, TM, TN, xp, Nat.reduceAdd]; first | done | omega | fail) | fail) only [yH, AY, TP, TM, TN, xp, Nat.reduceAdd]
 have g2 : G.get (h.next + 1) = some [.aG h.next 0 1 9] := by rw [hG]; simp (disch := first | omega | (simp only [yH, TM, TN, xp, Nat.reduceAdd]; first | done | omega | fail) | fail) only [yH, AY, TP, TM, TN, xp, Nat.reduceAdd]
 have gf : G.floor = h.next := by rw [hG]; simp
 have gn : G.next = h.next + 1 + 1 := by rw [hG]; simp
 obtain ⟨i1, h1, k1, o1, e1, f1, n1, ge1⟩ := JO G (by omega) _ _ rfl (by simp) (rd1 G h.next g1) (hv G) J0
 have z11 := e1 _ _ g1
 have z12 := e1 _ _ g2
 obtain ⟨i2, h2, k2, o2, e2, f2, n2, ge2⟩ := JO h1 (by omega) .aR [] rfl (by simp) ⟨rfl, rfl, fun s q => by cases q⟩ (fun x hx => by cases hx) Lf
 have o2' : h2.get i2 = some (ints [0, 0, 0, 0, 0, 0, 0, 0]) := by rw [← a4]; exact o2
 have z21 := e2 _ _ z11
 have z22 := e2 _ _ z12
 have o12 : h2.get i1 = some (ints (y6 [eA])) := e2 _ _ o1
 have k3 := Hq h2 (.aG i1 0 8 1) (y6 [eA]) (Rd.obj o12 (zy _)) (by rw [zy]; omega)
 have r3 : De (y6 [eA]) = .bW [.int .i64 (yK (y6 [eA])), .int .i64 0] := by unfold De; rw [JM, zy]; rfl
 rw [r3] at k3
 have k4 := fun g => BV g nA (by decide)
 rw [← hb] at k4
 obtain ⟨H3, hH3⟩ : ∃ g, g = h2.alloc [.int .i64 b] := ⟨_, rfl⟩
 have x3 : Ext h2 H3 := by rw [hH3]; exact (Ext.refl h2).alloc _
 have z31 := x3 _ _ z21
 have z32 := x3 _ _ z22
 have f3 : H3.floor = h.next := by rw [hH3]; simp [f2, f1, gf]
 have n3 : H3.next = h2.next + 1 := by rw [hH3]; simp
 obtain ⟨v5, h5, acc, k5, e5, q5, b5⟩ := JE H3 (by omega) _ (.aG h2.next 0 1 1) _ [(b : Int)] rfl (by simp) (rd1 H3 h.next z31) (hv H3) (Ig (by rw [hH3, xY rfl])) (by simp) (by rw [a6, Bool.and_true]; exact J0)
 have q5' : acc.map (·.1) = [(nA, [1, 0, 0, 0])] := q5.trans a5
 have z51 := e5.ext _ _ z31
 have z52 := e5.ext _ _ z32
 have f5 := e5.fl
 have n5 := e5.nx
 obtain ⟨H6, hH6⟩ : ∃ g, g = h5.alloc [.int .i64 8] := ⟨_, rfl⟩
 have x6 : Ext h5 H6 := by rw [hH6]; exact (Ext.refl h5).alloc _
 have z61 := x6 _ _ z51
 have f6 : H6.floor = h.next := by rw [hH6]; simp [f5, f3]
 have n6 : H6.next = h5.next + 1 := by rw [hH6]; simp
 obtain ⟨h7, k7, e7, f7, n7⟩ := JD H6 (by omega) _ (.aG h5.next 0 1 1) _ [8] rfl (by simp) (rd1 H6 h.next z61) (hv H6) (Ig (by rw [hH6, xY rfl])) (by simp) (by rw [a7, TU])
 have k8 : ∀ g, aT AP.A 181 [.aR] g = some (.bW [.int .i64 0, .int .i64 1600], g) := fun g => Hq g .aR [] ⟨rfl, fun s q => by cases q⟩ (by simp)
 have up : Ext h2 h7 := fun i c q => e7 _ _ (x6 _ _ (e5.ext _ _ (x3 _ _ q)))
 have o17 := up _ _ o12
 have o27 := up _ _ o2'
 have z72 : h7.get (h.next + 1) = some [.aG h.next 0 1 9] := up _ _ z22
 have rb7 : IE h7 v5 acc := (e5.Qy b5).mono fun i c q => e7 _ _ (x6 _ _ q)
 obtain ⟨Y, hY⟩ : ∃ g, g = h7.alloc [.int .i64 0, .int .i64 0, .int .i64 0, .int .i64 0, .int .i64 0, .int .i64 0, .int .i64 0, .int .i64 0] := ⟨_, rfl⟩
 have k9 : aT AP.A 106 [.aG i2 0 8 1, .aG h7.next 0 8 1] Y = some (.bool true, Y) := by
  have y1 : Ext h7 Y := by rw [hY]; exact (Ext.refl h7).alloc _
  have := Cp Y (.aG i2 0 8 1) (.aG h7.next 0 8 1) [0, 0, 0, 0, 0, 0, 0, 0] [0, 0, 0, 0, 0, 0, 0, 0] (Rd.obj (y1 _ _ o27) rfl) (Rd.obj (l := [0, 0, 0, 0, 0, 0, 0, 0]) (by rw [hY, xY rfl]; rfl) rfl) (by simp)
  rw [dt rfl] at this; exact this
 have yn : Y.next = h7.next + 1 := by rw [hY]; simp
 have yi : Y.get i1 = some (ints (y6 [eA])) := by rw [hY, yq (by have := h7.lt _ _ o17; omega)]; exact o17
 obtain ⟨W, hW⟩ : ∃ g, g = (Y.alloc [.int .i64 1, .int .i64 0, .int .i64 0, .int .i64 0]).alloc [.str ⟨#[97]⟩, .aG (h7.next + 1) 0 4 1] := ⟨_, rfl⟩
 have k10 : aT AP.A 182 [v5, .aG (h7.next + 1 + 1) 0 1 2] W = some (.bool true, W) := by
  have xw : Ext h7 W := by rw [hW, hY]; exact (((Ext.refl h7).alloc _).alloc _).alloc _
  have := Ij W v5 (.aG (h7.next + 1 + 1) 0 1 2) acc [((nA, [1, 0, 0, 0]), .aG (h7.next + 1) 0 4 1)] (rb7.mono xw) ⟨⟨by simp only [aU, if_true]; rw [hW, xY (by simp; omega)]; rfl, rfl, fun _ => by simp⟩, fun x hx => by
   obtain rfl := List.mem_singleton.1 hx
   exact ⟨Rd.obj (l := [1, 0, 0, 0]) (by rw [hW, yq (by simp; omega), xY (by omega)]; rfl) rfl, by simp⟩⟩ (by have := Ue List.length q5'; rw [TQ] at this; simp at this; omega)
  rw [dt (by rw [q5']; rfl)] at this; exact this
 have k11 := fun (g : H) n => Md g n
 simp only [I] at k11
 have ld : (ints (y6 [eA]))[b]? = some (.int .i64 (yK (y7 [eA] b))) := ve a1
 obtain ⟨D, hD⟩ : ∃ D, D = yK (y7 [eA] b) := ⟨_, rfl⟩
 obtain ⟨R, hR⟩ : ∃ R, R = yK (y6 [eA]) := ⟨_, rfl⟩
 rw [← hD] at ld a2
 rw [← hR] at k3 a3
 have ne1 : (D != 0) = true := by rw [bne_iff_ne]; exact a2
 have ne2 : (R != 0) = true := by rw [bne_iff_ne]; exact a3
 have iL := rF (y6 [eA])
 rw [zy] at iL
 have k1' : aT AP.A 177 [.agg [.aG h.next 0 1 9]] G = some (.bW [.aG i1 0 8 1, .int .i64 0], h1) := k1
 have k2' : aT AP.A 177 [.agg [.aR]] h1 = some (.bW [.aG i2 0 8 1, .int .i64 0], h2) := k2
 have k5' : aT AP.A 178 [.agg [.aG h.next 0 1 9], .aG h2.next 0 1 1] H3 = some (.bW [v5, .int .i64 0], h5) := k5
 have k7' : aT AP.A 178 [.agg [.aG h.next 0 1 9], .aG h5.next 0 1 1] H6 = some (.bW [.aR, .int .i64 1600], h7) := k7
 have k4' : ∀ g, aT AP.A 179 [.str ⟨#[97]⟩] g = some (.int .i64 b, g) := k4
 have gg := hG.symm
 have hh3 := hH3.symm
 have hh6 := hH6.symm
 have hy := hY.symm
 have hw := hW.symm
 have hbI : (0 : Int) ≤ (b : Int) ∧ (b : Int) < 8 := ⟨by omega, by omega⟩
 obtain ⟨hF, hh⟩ : ∃ hF, aN (aT AP.A) bI AP.f176.body (params 0 []) h.eN = some (.ret, [(0, .bool true)], hF) := by
  clear e1 e2 e5 e7 b5 q5 q5' rb7 up x3 x6 hv okE rd1 hE hb hD hR a1 a4 a5 a6 a7 k1 k2 k5 k7 k4 r3 hG hH3 hH6 hY hW eE
  generalize ints (y6 [eA]) = L at *
  refine ⟨?_, ?_⟩
  rotate_left
  simp (disch := first | omega | (simp only [yH, TM, TN, xp, Nat.reduceAdd]; first | done | omega | fail) | (simp (disch := first | omega | (simp only [yH, TM, TN, xp, Nat.reduceAdd]; first | done | omega | fail) | fail) only [yH, AY, TP, TM, TN, xp, Nat.reduceAdd, g2, z12, z22, z32, z52, z72, gn, n3, n6, yn, yi]; done) | fail) only [go_sem, xX, Ba, AP.f176, k0, lE, cE, fE, gg, g2, k1', z12, k2', z22, k3, k4', hh3, z32, n3, k5', z52, hh6, n6, k7', k8, hy, k9, yi, ld, iL, hw, k10, k11, ne1, ne2, Ee, eu, yn, AG]
  rfl
 exact wj (fn := AP.f176) (h2 := hF) (e := [(0, .bool true)]) rfl rfl rfl hh rfl rfl
def Aa (l : List Int) : List AV := ints l ++ [.int .i64 (-7777), .int .i64 (-8888)]
theorem CK (l : List Int) : (Aa l).length = l.length + 2 := by simp [Aa]
theorem P3 (h : H) (hf : h.floor ≤ h.next) (v : AV) (l : List Int) (rd : Rd h v (ints l)) (hl : l.length < 20000000000000) :
 ∃ h' q, aT AP.A 150 [v] h = some (.aG q 0 l.length 1, h') ∧ h'.get q = some (Aa l) ∧ h'.floor = h.floor ∧ q < h'.next ∧ h.next ≤ q ∧ ∀ i, i < h.next → h'.get i = h.get i := by
 have ln := rd.len
 rw [rF] at ln
 simp only [I] at ln
 have al := AA l
 have ll := rF l
 have lc := CK l
 by_cases c : l = []
 · subst c
   have sr : ∀ g : H, Ext h g → aU g 1 v = some (0, []) := fun g x => (rd.mono (fun i c q => x i c q)).1
   have x1 : Ext h (h.alloc []) := (Ext.refl h).alloc _
   have s1 := sr _ x1
   have k1 : aT AP.A 159 [v] h = some (.aG h.next 0 0 1, h.alloc []) := by
    refine vP (fn := AP.f159) (e := [(2, .aG h.next 0 0 1)]) (vs := [.aG h.next 0 0 1]) rfl rfl rfl ?_ rfl
    simp (disch := first | omega | (simp only [yH, TM, TN, xp, Nat.reduceAdd]; first | done | omega | fail) | (simp (disch := first | omega | (simp only [yH, TM, TN, xp, Nat.reduceAdd]; first | done | omega | fail) | fail) only [yH, AY, TP, TM, TN, xp, Nat.reduceAdd]; done) | fail) only [go_sem, xX, Ba, AP.f159, s1]
   refine ⟨(((h.alloc []).alloc [.int .i64 (-7777), .int .i64 (-8888)]).del h.next).alloc [.int .i64 (-7777), .int .i64 (-8888)], h.next + 1 + 1, ?_, ?_, by simp, by simp, by omega, fun i hi => ?_⟩
   · have hg : ((((h.alloc []).alloc [.int .i64 (-7777), .int .i64 (-8888)]).del h.next).alloc [.int .i64 (-7777), .int .i64 (-8888)]).get (h.next + 1 + 1) = some [.int .i64 (-7777), .int .i64 (-8888)] := xY (by simp)
     have sh := Ks (n := 1) (o := 0) (k := 2) (m := 0) hg (by omega) (by simp) (by simp)
     refine vP (fn := AP.f150) (e := [(2, .aG (h.next + 1 + 1) 0 0 1)]) (vs := [.aG (h.next + 1 + 1) 0 0 1]) rfl rfl rfl ?_ rfl
     have ln' : jQ false v = some (.int .i64 0) := ln
     simp (disch := first | omega | (simp only [yH, TM, TN, xp, Nat.reduceAdd]; first | done | omega | fail) | (simp (disch := first | omega | (simp only [yH, TM, TN, xp, Nat.reduceAdd]; first | done | omega | fail) | fail) only [yH, AY, TP, TM, TN, xp, Nat.reduceAdd]; done) | fail) only [go_sem, xX, Ba, AP.f150, k1, ln', sh]
   · exact xY (by simp)
   · rw [yq (by simp; omega), zI (by omega), yq (by simp; omega), yq (by omega)]
 · have hp : 0 < l.length := List.length_pos_iff.2 c
   have x1 : Ext h (h.alloc []) := (Ext.refl h).alloc _
   have s1 : aU (h.alloc []) 1 v = some (l.length, ints l) := by have := (rd.mono (fun i c q => x1 i c q)).1; rw [ll] at this; exact this
   have k1 : aT AP.A 159 [v] h = some (.aG (h.next + 1) 0 l.length 1, ((h.alloc []).del h.next).alloc (ints l)) := by
    refine vP (fn := AP.f159) (e := [(2, .aG (h.next + 1) 0 l.length 1)]) (vs := [.aG (h.next + 1) 0 l.length 1]) rfl rfl rfl ?_ rfl
    simp (disch := first | omega | (simp only [yH, TM, TN, xp, Nat.reduceAdd]; first | done | omega | fail) | (simp (disch := first | omega | (simp only [yH, TM, TN, xp, Nat.reduceAdd]; first | done | omega | fail) | fail) only [yH, AY, TP, TM, TN, xp, Nat.reduceAdd]; done) | fail) only [go_sem, xX, Ba, AP.f159, s1, al, ll]
   refine ⟨(((((h.alloc []).del h.next).alloc (ints l)).alloc [.int .i64 (-7777), .int .i64 (-8888)]).del (h.next + 1)).alloc (Aa l), h.next + 1 + 1 + 1, ?_, ?_, by simp, by simp, by omega, fun i hi => ?_⟩
   · have hg : ((((((h.alloc []).del h.next).alloc (ints l)).alloc [.int .i64 (-7777), .int .i64 (-8888)]).del (h.next + 1)).alloc (Aa l)).get (h.next + 1 + 1 + 1) = some (Aa l) := xY (by simp)
     have sh := Ks (n := 1) (o := 0) (k := l.length + 2) (m := (l.length : Int)) hg (by omega) (by rw [lc]; omega) (by rw [lc]; simp)
     have hc : Aa l = ints l ++ [.int .i64 (-7777), .int .i64 (-8888)] := rfl
     rw [Uc] at sh
     refine vP (fn := AP.f150) (e := [(2, .aG (h.next + 1 + 1 + 1) 0 l.length 1)]) (vs := [.aG (h.next + 1 + 1 + 1) 0 l.length 1]) rfl rfl rfl ?_ rfl
     simp (disch := first | omega | (simp only [yH, TM, TN, xp, Nat.reduceAdd]; first | done | omega | fail) | (simp (disch := first | omega | (simp only [yH, TM, TN, xp, Nat.reduceAdd]; first | done | omega | fail) | fail) only [yH, AY, TP, TM, TN, xp, Nat.reduceAdd]; done) | fail) only [go_sem, xX, Ba, AP.f150, k1, ln, al, ll, ← hc, sh]
   · exact xY (by simp)
   · rw [yq (by simp; omega), zI (by omega), yq (by simp; omega), yq (by simp; omega), zI (by omega), yq (by omega)]
theorem P2 (h : H) (q : Nat) (w : AV) (l : List Int) (hq : h.get q = some (Aa l)) (rd : Rd h w (ints l)) (hl : l.length < 20000000000000) : aT AP.A 153 [.aG q 0 l.length 1, w] h = some (.bool true, h) := by
 have ln := rd.len
 rw [rF] at ln
 simp only [I] at ln
 have lc := CK l
 have rq : Rd h (.aG q 0 l.length 1) (ints l) := by
  refine ⟨?_, fun s e => by cases e⟩
  simp only [aU, if_true, hq, w9]
  rw [if_pos (by rw [lc]; omega), TX, Uf, rF]
  have : List.take l.length (Aa l) = ints l := by
   unfold Aa; rw [List.take_append_of_le_length (by simp), xI (by simp)]
  rw [this]
 have k1 := Cp h _ w l l rq rd (by omega)
 rw [show decide (l = l) = true by simp] at k1
 have sh := Ks (n := 1) (o := 0) (k := l.length) (m := (l.length : Int) + 2) hq (by omega) (by rw [lc]; omega) (by rw [lc]; simp; omega)
 rw [show ((l.length : Int) + 2).toNat = l.length + 2 by omega] at sh
 have g1 : (Aa l)[l.length]? = some (.int .i64 (-7777)) := by unfold Aa; rw [List.getElem?_append_right (by simp)]; simp
 have g2 : (Aa l)[l.length + 1]? = some (.int .i64 (-8888)) := by unfold Aa; rw [List.getElem?_append_right (by simp)]; simp
 have tn1 : ((l.length : Int) + 1).toNat = l.length + 1 := by omega
 have tn2 : ((l.length : Int)).toNat = l.length := by omega
 refine vP (fn := AP.f153) (e := [(4, .bool true)]) (vs := [.bool true]) rfl rfl rfl ?_ rfl
 simp (disch := first | omega | (simp only [yH, TM, TN, xp, Nat.reduceAdd]; first | done | omega | fail) | (simp (disch := first | omega | (simp only [yH, TM, TN, xp, Nat.reduceAdd]; first | done | omega | fail) | fail) only [yH, AY, TP, TM, TN, xp, Nat.reduceAdd]; done) | fail) only [go_sem, xX, Ba, AP.f153, ln, k1, sh, hq, g1, g2, tn1, tn2]
theorem DY : ∀ (a b : List UInt8), Op.bytesLess b a = !(Op.bytesLess a b || a == b)
 | [], [] => rfl
 | [], _ :: _ => rfl
 | _ :: _, [] => rfl
 | x :: a, y :: b => by
   have ih := DY a b
   simp only [Op.bytesLess]
   rw [ih]
   by_cases h1 : x < y
   · have h2 : ¬ y < x := fun q => absurd (UInt8.lt_trans h1 q) (UInt8.lt_irrefl _)
     have h3 : ¬ y = x := fun q => by subst q; exact absurd h1 (UInt8.lt_irrefl _)
     simp [h1, h2, h3]
   · by_cases h2 : y < x
     · have h3 : ¬ x = y := fun q => by subst q; exact absurd h2 (UInt8.lt_irrefl _)
       simp [h1, h2, h3]
     · have h3 : x = y := UInt8.le_antisymm (UInt8.not_lt.1 h2) (UInt8.not_lt.1 h1)
       subst h3
       simp [h1]
def Ea (p : Option yR) (e : yR) : Bool := match p with | none => true | some q => Op.bytesLess q.name.toList e.name.toList
theorem JT (p : Option yR) (e : yR) : Ay p e = (zN [e] && Ea p e) := by
 rw [Mb]
 unfold Ay Ea
 cases zD e.name <;> cases yQ e <;> cases zH e <;> cases p <;> simp
theorem IA {v : AV} {l : List yC} (hl : l.length ≤ 6) (h : H) (b : Nat) (hb : h.get b = some [v]) (rd : zk 9 h v l.length (yx l)) (hv : ∀ x ∈ l, y8 h x ∧ x.2.sc = true) : ∀ (q p : List yC), l = p ++ q →
 (∃ e', Lp AP.A [1, 3] AP.f212L0 [(1, .aF b 0), (3, .int .i64 p.length)] h = some (.exit 0, e', h) ∧ A6 (p.getLast?.map (·.1)) (q.map (·.1)) = true) ∨
 (∃ e', Lp AP.A [1, 3] AP.f212L0 [(1, .aF b 0), (3, .int .i64 p.length)] h = some (.ret, e', h) ∧ look e' 2 = .bool false ∧ A6 (p.getLast?.map (·.1)) (q.map (·.1)) = false)
 | [], p, hp => by
   rw [TR] at hp; subst hp
   have ln := rd.len
   refine .inl ⟨[(1, .aF b 0), (3, .int .i64 l.length), (12, .bool false)], vC ?_, rfl⟩
   simp (disch := omega) only [go_sem, xX, AP.f212L0, hb, ln]
 | x :: q, p, hp => by
   have hlen : l.length = p.length + (q.length + 1) := by rw [hp]; simp
   have hx : l[p.length]? = some x := by rw [hp]; simp
   have ln := rd.len
   obtain ⟨ad, a1, a2⟩ := rd.Jr
   have b1 := a1 p.length ⟨by omega, by omega⟩
   obtain ⟨pe, b2⟩ := a2 h (Ext.refl h) p.length x hx
   obtain ⟨qq, f1, f2⟩ := pe.vI
   have l0 := f2 h (Ext.refl h) 0 _ rfl
   obtain ⟨ok, sc⟩ := hv x (by rw [hp]; simp)
   have k1 := J7 h x.1 x.2 sc ok
   have ih := IA hl h b hb rd hv q (p ++ [x]) (by rw [hp]; simp)
   have w1 : ((p ++ [x]).length : Int) = (p.length : Int) + 1 := by simp
   rw [w1, List.getLast?_concat] at ih
   have step : aN (aT AP.A) bI AP.f212L0 (az [(1, .aF b 0), (3, .int .i64 p.length)] [1, 3]) h = if Ay (p.getLast?.map (·.1)) x.1 then some (.normal, [(1, .aF b 0), (3, .int .i64 ((p.length : Int) + 1))], h) else some (.ret, [(2, .bool false)], h) := by
    rw [JT]
    generalize zN [x.1] = B at *
    cases hq : p.getLast? with
    | none =>
      have hp0 : p = [] := List.getLast?_eq_none_iff.1 hq
      have hp1 : p.length = 0 := by rw [hp0]; rfl
      clear ih rd a1 a2 hp w1 pe f2 hv ok
      rw [TW, show Ea none x.1 = true from rfl, Bool.and_true]
      generalize ya x.1 x.2 = E at *
      cases B with
      | false =>
        rw [if_neg (by decide)]
        simp (disch := omega) only [go_sem, xX, AP.f212L0, hb, ln, b1, b2, f1, l0, k1]
      | true =>
        rw [if_pos rfl]
        simp (disch := omega) only [go_sem, xX, AP.f212L0, hb, ln, b1, b2, f1, l0, k1]
    | some y =>
      obtain ⟨p', rfl⟩ : ∃ p', p = p' ++ [y] := List.getLast?_eq_some_iff.1 hq
      have hpl : (p' ++ [y]).length = p'.length + 1 := by simp
      have hy : l[p'.length]? = some y := by rw [hp]; simp
      have bj := a1 p'.length ⟨by omega, by omega⟩
      obtain ⟨pj, _⟩ := a2 h (Ext.refl h) p'.length y hy
      obtain ⟨qj, fj1, fj2⟩ := pj.vI
      have lj := fj2 h (Ext.refl h) 0 _ rfl
      have n2 : (((p' ++ [y]).length : Nat) : Int) - 1 = (p'.length : Int) := by rw [hpl]; omega
      have n3 : 0 < (((p' ++ [y]).length : Nat) : Int) := by rw [hpl]; omega
      have cmp : bE .leq (.str x.1.name) (.str y.1.name) = some (.bool (!(Ea (some y.1) x.1))) := by
       show _ = some (AV.bool (!(Op.bytesLess y.1.name.toList x.1.name.toList)))
       rw [DY x.1.name.toList y.1.name.toList, Bool.not_not]; rfl
      clear ih rd a1 a2 hp w1 hx hy hq pe f2 pj fj2 hv ok
      rw [TP]
      generalize ya x.1 x.2 = E at *
      generalize Ea (some y.1) x.1 = B2 at *
      generalize (p' ++ [y]).length = pl at *
      cases B with
      | false =>
        rw [TV, if_neg (by decide)]
        simp (disch := omega) only [go_sem, xX, AP.f212L0, hb, ln, b1, b2, f1, l0, k1]
      | true =>
        cases B2 with
        | false =>
          rw [TU, if_neg (by decide)]
          simp (disch := omega) only [go_sem, xX, AP.f212L0, hb, ln, b1, b2, f1, l0, k1, bj, fj1, lj, n2, cmp]
        | true =>
          rw [Uj, if_pos rfl]
          simp (disch := omega) only [go_sem, xX, AP.f212L0, hb, ln, b1, b2, f1, l0, k1, bj, fj1, lj, n2, cmp]
   have hmay : A6 (p.getLast?.map (·.1)) ((x :: q).map (·.1)) = (Ay (p.getLast?.map (·.1)) x.1 && A6 (some x.1) (q.map (·.1))) := rfl
   rw [hmay]
   by_cases hok : Ay (p.getLast?.map (·.1)) x.1 = true
   · rw [if_pos hok] at step
     rw [hok, Ub]
     rcases ih with ⟨e', r1, r2⟩ | ⟨e', r1, r2, r3⟩
     · exact .inl ⟨e', vD step r1, r2⟩
     · exact .inr ⟨e', vD step r1, r2, r3⟩
   · have hok' : Ay (p.getLast?.map (·.1)) x.1 = false := by simpa using hok
     rw [if_neg hok] at step
     rw [hok', TV]
     exact .inr ⟨_, vW step, rfl, rfl⟩
theorem KN (h : H) (v : AV) (l : List yC) (hvs : v.sc = true) (hn : l.length < 1125899906842624) (rd : zk 9 h v l.length (yx l)) (hv : ∀ x ∈ l, y8 h x ∧ x.2.sc = true) : aT AP.A 212 [.agg [v]] h = some (.bool (zN (l.map (·.1))), h) := by
 obtain ⟨h1, eh1⟩ : ∃ g, g = h.eN.alloc [v] := ⟨_, rfl⟩
 have hx0 : Ext h h1 := by rw [eh1]; exact fun i c q => ((Ext.refl h.eN).alloc _) i c q
 have hn0 : h.eN.next = h.next := rfl
 have g1 : h1.get h.next = some [v] := by rw [eh1]; exact xY rfl
 have rd1 := rd.mono fun i c q => hx0 i c q
 have ln := rd1.len
 unfold zN
 rw [TQ]
 by_cases c : l.length ≤ 6
 · have c' : ¬ (6 : Int) < l.length := by omega
   rw [dt c, Bool.and_true]
   rcases IA c h1 h.next g1 rd1 (fun x hx => ⟨(hv x hx).1.mono hx0, (hv x hx).2⟩) l [] rfl with ⟨e', r1, r2⟩ | ⟨e', r1, r2, r3⟩
   · have r1' : Lp AP.A [1, 3] AP.f212L0 [(1, .aF h.next 0), (3, .int .i64 0)] h1 = some (.exit 0, e', h1) := r1
     have r2' : A6 none (l.map (·.1)) = true := r2
     rw [r2']
     refine wj (fn := AP.f212) (h2 := h1) (e := [(2, .bool true)]) rfl rfl rfl ?_ rfl rfl
     clear rd rd1 hv hx0 r1 r2 r2'
     simp (disch := omega) only [go_sem, xX, AP.f212, hvs, hn0, ← eh1, g1, ln, uK, r1']
   · have r1' : Lp AP.A [1, 3] AP.f212L0 [(1, .aF h.next 0), (3, .int .i64 0)] h1 = some (.ret, e', h1) := r1
     have r3' : A6 none (l.map (·.1)) = false := r3
     rw [r3']
     refine wj (fn := AP.f212) (h2 := h1) (e := e') (vs := [.bool false]) rfl rfl rfl ?_ (by simp only [AP.f212, cW, oW, r2]; rfl) rfl
     clear rd rd1 hv hx0 r1 r3 r3'
     simp (disch := omega) only [go_sem, xX, AP.f212, hvs, hn0, ← eh1, g1, ln, uK, r1']
 · have c' : (6 : Int) < l.length := by omega
   rw [df c, TU]
   refine wj (fn := AP.f212) (h2 := h1) (e := [(2, .bool false)]) rfl rfl rfl ?_ rfl rfl
   clear rd rd1 hv hx0
   simp (disch := omega) only [go_sem, xX, AP.f212, hvs, hn0, ← eh1, g1, ln]
theorem HN {v : AV} {l : List yC} (h : H) (b : Nat) (hb : h.get b = some [v]) (rd : zk 9 h v l.length (yx l)) (hm : zN (l.map (·.1)) = true) : ∀ (q p : List yC), l = p ++ q →
 ∃ e', Lp AP.A [1, 3, 4] AP.f213L0 [(1, .aF b 0), (3, .int .i64 (22 + Ct (p.map (·.1)) : Nat)), (4, .int .i64 p.length)] h = some (.exit 0, e', h) ∧ look e' 3 = .int .i64 (zE (l.map (·.1)) : Nat)
 | [], p, hp => by
   rw [TR] at hp; subst hp
   have ln := rd.len
   refine ⟨[(1, .aF b 0), (3, .int .i64 (22 + Ct (l.map (·.1)) : Nat)), (4, .int .i64 l.length), (12, .bool false)], vC ?_, rfl⟩
   simp (disch := omega) only [go_sem, xX, AP.f213L0, hb, ln]
 | x :: q, p, hp => by
   obtain ⟨m1, m2, m3⟩ := yJ hm
   have hx : l[p.length]? = some x := by rw [hp]; simp
   have hlen : l.length = p.length + (q.length + 1) := by rw [hp]; simp
   rw [TQ] at m1
   obtain ⟨_, _, c3⟩ := m2 x.1 (by rw [hp]; simp)
   have c1 := zT (m2 x.1 (by rw [hp]; simp)).1
   have c2 := BI c3
   have ln := rd.len
   obtain ⟨ad, a1, a2⟩ := rd.Jr
   have b1 := a1 p.length ⟨by omega, by omega⟩
   obtain ⟨pe, _⟩ := a2 h (Ext.refl h) p.length x hx
   obtain ⟨qq, f1, f2⟩ := pe.vI
   have l0 := f2 h (Ext.refl h) 0 _ rfl
   have l6 := f2 h (Ext.refl h) 6 _ rfl
   obtain ⟨e', r1, r2⟩ := HN h b hb rd hm q (p ++ [x]) (by rw [hp]; simp)
   have sz : zE (l.map (·.1)) = 22 + (Ct (p.map (·.1)) + (KQ x.1 + Ct (q.map (·.1)))) := by unfold zE; rw [hp, T8, Dv, TZ, Ct]
   have e1 : 22 + Ct ((p ++ [x]).map (·.1)) = 22 + Ct (p.map (·.1)) + KQ x.1 := by rw [T8, Dv]; simp [Ct]; omega
   have n1 : ((p ++ [x]).length : Int) = (p.length : Int) + 1 := by simp
   rw [e1, n1] at r1
   have se : KQ x.1 = 128 + 2 * x.1.name.size + x.1.packed.size := rfl
   obtain ⟨N, hN⟩ : ∃ N, N = 22 + Ct (p.map (·.1)) := ⟨_, rfl⟩
   rw [← hN] at r1 ⊢
   have hN2 : N ≤ 4096 := by omega
   have w : (N : Int) + 76 + 2 * (x.1.name.size : Int) + 52 + (x.1.packed.size : Int) = ((N + KQ x.1 : Nat) : Int) := by omega
   refine ⟨e', vD ?_ r1, r2⟩
   clear r1 r2 e1 sz hN rd a1 a2 f2 pe m2 m3 hm hp n1
   simp (disch := omega) only [go_sem, xX, AP.f213L0, hb, ln, b1, f1, l0, l6, w]
theorem K7 (h : H) (v : AV) (l : List yC) (hvs : v.sc = true) (hn : l.length < 1125899906842624) (rd : zk 9 h v l.length (yx l)) (hv : ∀ x ∈ l, y8 h x ∧ x.2.sc = true) (hm : zN (l.map (·.1)) = true) : aT AP.A 213 [.agg [v]] h = some (.int .i64 (zE (l.map (·.1)) : Nat), h) := by
 obtain ⟨h1, eh1⟩ : ∃ g, g = h.eN.alloc [v] := ⟨_, rfl⟩
 have hx0 : Ext h h1 := by rw [eh1]; exact fun i c q => ((Ext.refl h.eN).alloc _) i c q
 have hn0 : h.eN.next = h.next := rfl
 have g1 : h1.get h.next = some [v] := by rw [eh1]; exact xY rfl
 have rd1 := rd.mono fun i c q => hx0 i c q
 have k1 := KN h1 v l hvs hn rd1 (fun x hx => ⟨(hv x hx).1.mono hx0, (hv x hx).2⟩)
 rw [hm] at k1
 obtain ⟨e', r1, r2⟩ := HN h1 h.next g1 rd1 hm l [] rfl
 have r1' : Lp AP.A [1, 3, 4] AP.f213L0 [(1, .aF h.next 0), (3, .int .i64 22), (4, .int .i64 0)] h1 = some (.exit 0, e', h1) := r1
 clear r1 hm
 generalize zE (l.map (·.1)) = N at *
 refine wj (fn := AP.f213) (h2 := h1) (e := [(2, .int .i64 N)]) (vs := [.int .i64 N]) rfl rfl rfl ?_ rfl rfl
 clear rd rd1 hv hx0
 simp (disch := omega) only [go_sem, xX, AP.f213, hvs, hn0, ← eh1, g1, AG, k1, uK, r1', r2]
theorem HR {v : AV} {l : List yC} (hl : l.length ≤ 6) (h : H) (b : Nat) (hb : h.get b = some [v]) (rd : zk 9 h v l.length (yx l)) (hv : ∀ x ∈ l, y8 h x ∧ x.2.sc = true) : ∀ (q p : List yC), l = p ++ q →
 (∃ e', Lp AP.A [1, 3] AP.f205L0 [(1, .aF b 0), (3, .int .i64 p.length)] h = some (.exit 0, e', h) ∧ (q.map (·.1)).all zM = true) ∨
 (∃ e', Lp AP.A [1, 3] AP.f205L0 [(1, .aF b 0), (3, .int .i64 p.length)] h = some (.ret, e', h) ∧ look e' 2 = .bool false ∧ (q.map (·.1)).all zM = false)
 | [], p, hp => by
   rw [TR] at hp; subst hp
   have ln := rd.len
   refine .inl ⟨[(1, .aF b 0), (3, .int .i64 l.length), (16, .bool false)], vC ?_, rfl⟩
   simp (disch := omega) only [go_sem, xX, AP.f205L0, hb, ln]
 | x :: q, p, hp => by
   have hlen : l.length = p.length + (q.length + 1) := by rw [hp]; simp
   have hx : l[p.length]? = some x := by rw [hp]; simp
   have ln := rd.len
   obtain ⟨ad, a1, a2⟩ := rd.Jr
   have b1 := a1 p.length ⟨by omega, by omega⟩
   obtain ⟨_, b2⟩ := a2 h (Ext.refl h) p.length x hx
   obtain ⟨ok, sc⟩ := hv x (by rw [hp]; simp)
   have k1 := HO h x.1 x.2 sc ok
   have ih := HR hl h b hb rd hv q (p ++ [x]) (by rw [hp]; simp)
   have w1 : ((p ++ [x]).length : Int) = (p.length : Int) + 1 := by simp
   rw [w1] at ih
   rw [TZ, List.all_cons]
   cases hm : zM x.1 with
   | false =>
     rw [hm] at k1
     refine .inr ⟨[(2, .bool false)], vW ?_, rfl, rfl⟩
     clear ih rd a1 a2 hv hp ok
     generalize ya x.1 x.2 = E at *
     simp (disch := omega) only [go_sem, xX, AP.f205L0, hb, ln, b1, b2, k1]
   | true =>
     rw [hm] at k1
     rw [Ub]
     have step : aN (aT AP.A) bI AP.f205L0 (az [(1, .aF b 0), (3, .int .i64 p.length)] [1, 3]) h = some (.normal, [(1, .aF b 0), (3, .int .i64 ((p.length : Int) + 1))], h) := by
      clear ih rd a1 a2 hv hp ok
      generalize ya x.1 x.2 = E at *
      simp (disch := omega) only [go_sem, xX, AP.f205L0, hb, ln, b1, b2, k1]
     rcases ih with ⟨e', r1, r2⟩ | ⟨e', r1, r2, r3⟩
     · exact .inl ⟨e', vD step r1, r2⟩
     · exact .inr ⟨e', vD step r1, r2, r3⟩
theorem HT (h : H) (v : AV) (l : List yC) (hvs : v.sc = true) (hn : l.length < 1125899906842624) (rd : zk 9 h v l.length (yx l)) (hv : ∀ x ∈ l, y8 h x ∧ x.2.sc = true) : aT AP.A 205 [.agg [v]] h = some (.bool (yS (l.map (·.1))), h) := by
 obtain ⟨h1, eh1⟩ : ∃ g, g = h.eN.alloc [v] := ⟨_, rfl⟩
 have hx0 : Ext h h1 := by rw [eh1]; exact fun i c q => ((Ext.refl h.eN).alloc _) i c q
 have hn0 : h.eN.next = h.next := rfl
 have g1 : h1.get h.next = some [v] := by rw [eh1]; exact xY rfl
 have rd1 := rd.mono fun i c q => hx0 i c q
 have hv1 : ∀ x ∈ l, y8 h1 x ∧ x.2.sc = true := fun x hx => ⟨(hv x hx).1.mono hx0, (hv x hx).2⟩
 have k1 := KN h1 v l hvs hn rd1 hv1
 unfold yS
 cases hm : zN (l.map (·.1)) with
 | false =>
   rw [hm] at k1
   rw [TV]
   refine wj (fn := AP.f205) (h2 := h1) (e := [(2, .bool false)]) rfl rfl rfl ?_ rfl rfl
   clear rd rd1 hv hv1 hx0
   simp (disch := omega) only [go_sem, xX, AP.f205, hvs, hn0, ← eh1, g1, AG, k1]
 | true =>
   rw [hm] at k1
   rw [Ub]
   have k2 := K7 h1 v l hvs hn rd1 hv1 hm
   obtain ⟨m1, _, m3⟩ := yJ hm
   rw [TQ] at m1
   generalize zE (l.map (·.1)) = N at *
   rcases HR m1 h1 h.next g1 rd1 hv1 l [] rfl with ⟨e', r1, r2⟩ | ⟨e', r1, r2, r3⟩
   · have r1' : Lp AP.A [1, 3] AP.f205L0 [(1, .aF h.next 0), (3, .int .i64 0)] h1 = some (.exit 0, e', h1) := r1
     rw [r2]
     refine wj (fn := AP.f205) (h2 := h1) (e := [(2, .bool true)]) rfl rfl rfl ?_ rfl rfl
     clear rd rd1 hv hv1 hx0 r1 r2
     simp (disch := omega) only [go_sem, xX, AP.f205, hvs, hn0, ← eh1, g1, AG, k1, k2, uK, r1']
   · have r1' : Lp AP.A [1, 3] AP.f205L0 [(1, .aF h.next 0), (3, .int .i64 0)] h1 = some (.ret, e', h1) := r1
     rw [r3]
     refine wj (fn := AP.f205) (h2 := h1) (e := e') (vs := [.bool false]) rfl rfl rfl ?_ (by simp only [AP.f205, cW, oW, r2]; rfl) rfl
     clear rd rd1 hv hv1 hx0 r1 r3
     simp (disch := omega) only [go_sem, xX, AP.f205, hvs, hn0, ← eh1, g1, AG, k1, k2, uK, r1']
theorem Cz (h : H) (s : ByteArray) (hs : s.size < 1125899906842624) : aT AP.A 200 [.str s] h = some (.int .i64 ((y9 s % 8 : Nat) : Int), h) := by
 have k1 := DM h.eN s hs
 have rm : bE .rem (.int .i64 (y9 s : Int)) (.int .i64 8) = some (.int .i64 ((y9 s % 8 : Nat) : Int)) := by
  show (if (8 : Int) = 0 then none else some (AV.int .i64 ((y9 s : Int).tmod 8))) = _
  rw [if_neg (by decide), Int.tmod_eq_emod_of_nonneg (by omega)]; rfl
 generalize ((y9 s % 8 : Nat) : Int) = M at *
 refine wj (fn := AP.f200) (h2 := h.eN) (e := [(2, .int .i64 M)]) rfl rfl rfl ?_ rfl rfl
 simp (disch := omega) only [go_sem, xX, AP.f200, k1, rm]
theorem DP {v : AV} {l : List yC} (m : Nat) (hm : yS (l.map (·.1)) = true) (h0 : H) (b : Nat) (hb : h0.get b = some [v]) (rd : zk 9 h0 v l.length (yx l)) (hv : ∀ x ∈ l, y8 h0 x ∧ x.2.sc = true) (outv : AV) : ∀ (q p : List yC), l = p ++ q → ∀ (h : H) (ov : AV), Ext h0 h → h.floor ≤ h.next → h0.next ≤ h.next →
 yI 1 h ov (y7 (p.map (·.1)) m).length (ints (y7 (p.map (·.1)) m)) → (∀ j, ov.id? = some j → h0.next ≤ j) →
 ∃ e' h' ov', Lp AP.A [1, 4, 5, 6, 7] AP.f197L0 [(1, .aF b 0), (4, outv), (5, .int .i64 m), (6, ov), (7, .int .i64 p.length)] h = some (.exit 2, e', h') ∧ look e' 1 = .aF b 0 ∧ look e' 4 = outv ∧ look e' 5 = .int .i64 m ∧ look e' 6 = ov' ∧
   yI 1 h' ov' (y7 (l.map (·.1)) m).length (ints (y7 (l.map (·.1)) m)) ∧ Ext h0 h' ∧ h'.floor = h.floor ∧ h.next ≤ h'.next ∧ ∀ j, ov'.id? = some j → h0.next ≤ j
 | [], p, hp, h, ov, hx, hf, hn, o, hge => by
   rw [TR] at hp; subst hp
   have gb := hx _ _ hb
   have ln := (rd.mono fun i c q => hx i c q).len
   refine ⟨[(1, .aF b 0), (4, outv), (5, .int .i64 m), (6, ov), (7, .int .i64 l.length), (23, .bool false)], h, ov, vC ?_, rfl, rfl, rfl, rfl, o, hx, rfl, xc _, hge⟩
   simp (disch := omega) only [go_sem, xX, AP.f197L0, gb, ln]
 | x :: q, p, hp, h, ov, hx, hf, hn, o, hge => by
   have hm' := hm
   unfold yS at hm'
   rw [xe] at hm'
   obtain ⟨m1, m2, m3⟩ := yJ hm'.1
   rw [TQ] at m1
   have gb := hx _ _ hb
   have hlx : l[p.length]? = some x := by rw [hp]; simp
   have hlen : l.length = p.length + (q.length + 1) := by rw [hp]; simp
   have may : zM x.1 = true := Uk.1 hm'.2 x.1 (by rw [hp]; simp)
   have ln := (rd.mono fun i c q => hx i c q).len
   obtain ⟨ad, a1, a2⟩ := rd.Jr
   have b1 := a1 p.length ⟨by omega, by omega⟩
   obtain ⟨pe, b2⟩ := a2 h hx p.length x hlx
   obtain ⟨qq, f1, f2⟩ := pe.vI
   have l0 := f2 h (Ext.refl h) 0 _ rfl
   obtain ⟨ok, sc⟩ := hv x (by rw [hp]; simp)
   have k1 := Cz h x.1.name ok.nl
   have k1' : aT AP.A 200 [.str x.1.name] h = some (.int .i64 ((Dj x.1 : Nat) : Int), h) := k1
   have k2 := IQ h x.1 x.2 sc (ok.mono hx)
   unfold IP at k2
   rw [if_pos may] at k2
   have k2' : aT AP.A 151 [.agg (ya x.1 x.2)] h = some (.bW [.int .i64 (JJ x.1), .int .i64 0], h) := k2
   have w1 : ((p ++ [x]).length : Int) = (p.length : Int) + 1 := by simp
   have bs := EC (p.map (·.1)) x.1 m
   have bl := BU (p.map (·.1)) m
   rw [TQ] at bl
   by_cases c : Dj x.1 = m
   · rw [if_pos c] at bs
     rw [c] at k1'
     obtain ⟨v', h', p1, p2, p3, p4, p5, p6⟩ := o.push hf (z := 8) (m := 1) (by omega) (by omega) [.int .i64 (JJ x.1)] rfl rfl (by simp [roomy]; omega)
     have ea : ints (y7 (p.map (·.1)) m) ++ [.int .i64 (JJ x.1)] = ints (y7 ((p ++ [x]).map (·.1)) m) := by rw [T8, Ud, bs]; simp [ints, I]
     have el : (y7 (p.map (·.1)) m).length + 1 = (y7 ((p ++ [x]).map (·.1)) m).length := by rw [T8, Ud, bs]; simp
     rw [ea, el] at p2
     obtain ⟨e', h2, ov', r1, r2⟩ := DP m hm h0 b hb rd hv outv q (p ++ [x]) (by rw [hp]; simp) h' v' (fun i c q => by
      have := h0.lt _ _ q
      rw [p5 i (fun q2 => by have := hge i q2; omega) (by omega)]; exact hx i c q) (by omega) (by omega) p2 (fun j q => by rw [p6] at q; have := wU q; omega)
     rw [w1] at r1
     refine ⟨e', h2, ov', vD ?_ r1, r2.1, r2.2.1, r2.2.2.1, r2.2.2.2.1, r2.2.2.2.2.1, r2.2.2.2.2.2.1, by rw [r2.2.2.2.2.2.2.1, p3], by have := r2.2.2.2.2.2.2.2.1; omega, r2.2.2.2.2.2.2.2.2⟩
     clear r1 r2 rd hv a1 a2 o bs ea el p2 pe f2 hm hm' m2 k2
     generalize ya x.1 x.2 = F at *
     generalize JJ x.1 = D at *
     simp (disch := omega) only [go_sem, xX, AP.f197L0, gb, ln, b1, b2, f1, l0, k1', k2', p1]
   · rw [if_neg c] at bs
     have c' : ¬ ((Dj x.1 : Nat) : Int) = (m : Int) := by omega
     obtain ⟨e', h2, ov', r1, r2⟩ := DP m hm h0 b hb rd hv outv q (p ++ [x]) (by rw [hp]; simp) h ov hx hf hn (by rw [T8, Ud, bs]; exact o) hge
     rw [w1] at r1
     refine ⟨e', h2, ov', vD ?_ r1, r2⟩
     clear r1 r2 rd hv a1 a2 o bs pe f2 hm hm' m2 k2 k1
     generalize ya x.1 x.2 = F at *
     generalize ((Dj x.1 : Nat) : Int) = B at *
     simp (disch := omega) only [go_sem, xX, AP.f197L0, gb, ln, b1, b2, f1, l0, k1']
theorem F5 {v : AV} {l : List yC} (hm : yS (l.map (·.1)) = true) (h0 : H) (b : Nat) (hb : h0.get b = some [v]) (rd : zk 9 h0 v l.length (yx l)) (hv : ∀ x ∈ l, y8 h0 x ∧ x.2.sc = true) : ∀ (n i : Nat), i + n = 8 → ∀ (h : H) (ov : AV), Ext h0 h → h.floor ≤ h.next → h0.next ≤ h.next →
 yI 1 h ov i (ints ((List.range i).map fun b => yK (y7 (l.map (·.1)) b))) → (∀ j, ov.id? = some j → h0.next ≤ j) →
 ∃ e' h' ov', Lp AP.A [1, 4, 5] AP.f197L1 [(1, .aF b 0), (4, ov), (5, .int .i64 i)] h = some (.exit 0, e', h') ∧ look e' 4 = ov' ∧ yI 1 h' ov' 8 (ints (y6 (l.map (·.1)))) ∧ h'.floor = h.floor
 | 0, i, hi, h, ov, hx, hf, hn, o, hge => by
   obtain rfl : i = 8 := by omega
   refine ⟨[(1, .aF b 0), (4, ov), (5, .int .i64 8), (16, .bool false)], h, ov, vC ?_, rfl, o, rfl⟩
   simp (disch := omega) only [go_sem, xX, AP.f197L1]
 | n + 1, i, hi, h, ov, hx, hf, hn, o, hge => by
   obtain ⟨e1, h1, dv, r1, r2, r3, r4, r5, r6, r7, r8, r9, r10⟩ := DP i hm h b (hx _ _ hb) (rd.mono fun i c q => hx i c q) (fun x hx' => ⟨(hv x hx').1.mono hx, (hv x hx').2⟩) ov l [] rfl h .aR (Ext.refl h) hf (xc _) yI.nil (fun j q => by cases q)
   have r1' : Lp AP.A [1, 4, 5, 6, 7] AP.f197L0 [(1, .aF b 0), (4, ov), (5, .int .i64 i), (6, .aR), (7, .int .i64 0)] h = some (.exit 2, e1, h1) := r1
   have bl := BU (l.map (·.1)) i
   have hm' := hm
   unfold yS at hm'
   rw [xe] at hm'
   have m1 := (yJ hm'.1).1
   have k1 := HX h1 dv (y7 (l.map (·.1)) i) (by have := r6.rd; exact ⟨by rw [rF]; exact this.1, this.2.2⟩) (by omega)
   rw [Gy (HB _ _)] at k1
   have k1' : aT AP.A 152 [dv] h1 = some (.bW [.int .i64 (yK (y7 (l.map (·.1)) i)), .int .i64 0], h1) := k1
   have o1 : yI 1 h1 ov i (ints ((List.range i).map fun b => yK (y7 (l.map (·.1)) b))) := o.mono r8 fun j q => by
    obtain ⟨_, ⟨q1, _⟩ | ⟨j', q1, q2, _⟩⟩ := o
    · rw [q1] at q; cases q
    · rw [q1] at q; obtain rfl := wU q; rw [q2]; exact r7 _ _ q2
   obtain ⟨v', h', p1, p2, p3, p4, p5, p6⟩ := o1.push (by omega) (z := 8) (m := 1) (by omega) (by omega) [.int .i64 (yK (y7 (l.map (·.1)) i))] rfl rfl (by simp [roomy]; omega)
   have e : ints ((List.range i).map fun b => yK (y7 (l.map (·.1)) b)) ++ [.int .i64 (yK (y7 (l.map (·.1)) i))] = ints ((List.range (i + 1)).map fun b => yK (y7 (l.map (·.1)) b)) := by rw [Ec]; simp [ints, I]
   rw [e] at p2
   obtain ⟨e', h2, ov', s1, s2, s3, s4⟩ := F5 hm h0 b hb rd hv n (i + 1) (by omega) h' v' (fun j c q => by
    have := h0.lt _ _ q
    rw [p5 j (fun q2 => by have := hge j q2; omega) (by omega)]; exact r7 _ _ (hx j c q)) (by omega) (by omega) p2 (fun j q => by rw [p6] at q; have := wU q; omega)
   have w1 : ((i + 1 : Nat) : Int) = (i : Int) + 1 := by omega
   rw [w1] at s1
   refine ⟨e', h2, ov', vD ?_ s1, s2, s3, by rw [s4, p3, r8]⟩
   clear r1 r6 r7 s1 s3 o o1 e p2 rd hv hx hm hm' k1
   generalize yK (y7 (l.map (·.1)) i) = D at *
   simp (disch := omega) only [go_sem, xX, AP.f197L1, uK, r1', r2, r3, r4, r5, k1', p1]
def HM (l : List yR) : AV := if yS l then .bW [yX (y6 l), .int .i64 0] else .bW [.aR, .int .i64 1600]
theorem K6 (h : H) (v : AV) (l : List yC) (hvs : v.sc = true) (hn : l.length < 1125899906842624) (rd : zk 9 h v l.length (yx l)) (hv : ∀ x ∈ l, y8 h x ∧ x.2.sc = true) : aT AP.A 197 [.agg [v]] h = some (HM (l.map (·.1)), h) := by
 obtain ⟨h1, eh1⟩ : ∃ g, g = h.eN.alloc [v] := ⟨_, rfl⟩
 have hx0 : Ext h h1 := by rw [eh1]; exact fun i c q => ((Ext.refl h.eN).alloc _) i c q
 have hn0 : h.eN.next = h.next := rfl
 have f1 : h1.floor = h.next := by rw [eh1]; simp
 have n1 : h1.next = h.next + 1 := by rw [eh1]; simp
 have g1 : h1.get h.next = some [v] := by rw [eh1]; exact xY rfl
 have rd1 := rd.mono fun i c q => hx0 i c q
 have hv1 : ∀ x ∈ l, y8 h1 x ∧ x.2.sc = true := fun x hx => ⟨(hv x hx).1.mono hx0, (hv x hx).2⟩
 have k1 := HT h1 v l hvs hn rd1 hv1
 unfold HM
 cases hm : yS (l.map (·.1)) with
 | false =>
   rw [hm] at k1
   refine wj (fn := AP.f197) (h2 := h1) (e := [(2, .aR), (3, .int .i64 1600)]) (vs := [.aR, .int .i64 1600]) rfl rfl rfl ?_ rfl rfl
   clear rd rd1 hv hv1 hx0
   simp (disch := omega) only [go_sem, xX, AP.f197, hvs, hn0, ← eh1, g1, AG, k1]
 | true =>
   rw [hm] at k1
   obtain ⟨e', h2, ov, r1, r2, r3, r4⟩ := F5 hm h1 h.next g1 rd1 hv1 8 0 rfl h1 .aR (Ext.refl _) (by omega) (xc _) yI.nil (fun j q => by cases q)
   have r1' : Lp AP.A [1, 4, 5] AP.f197L1 [(1, .aF h.next 0), (4, .aR), (5, .int .i64 0)] h1 = some (.exit 0, e', h2) := r1
   refine wj (fn := AP.f197) (h2 := h2) (e := [(2, ov), (3, .int .i64 0)]) (vs := [ov, .int .i64 0]) rfl rfl rfl ?_ rfl ?_
   · clear rd rd1 hv hv1 hx0 r1 r3
     simp (disch := omega) only [go_sem, xX, AP.f197, hvs, hn0, ← eh1, g1, AG, k1, uK, r1', r2]
   · have s := r3.Ar (fl := h.next) (m := 13) (t := true) (by rw [r4, f1]; exact xc _)
     have e : Jk 1 8 (ints (y6 (l.map (·.1)))) = yX (y6 (l.map (·.1))) := by unfold Jk yX; rw [zy]; rfl
     rw [e] at s
     show (gK (snap h2.get h.next 15 true) [ov, .int .i64 0]).bind _ = _
     simp only [gK, s, w9]
     rfl
theorem LF (h : H) (v : AV) (l : List Int) (rd : Rd h v (ints l)) (hl : l.length < 140737488355328) : aT AP.A 198 [v] h = some (De l, h) := by
 have xf : Ext h h.eN := fun i c q => q
 have k1 := HX h.eN v l (rd.mono fun i c q => xf i c q) hl
 have r2 := (rd.mono fun i c q => xf i c q : Rd h.eN v (ints l)).Jj
 rw [rF] at r2
 have ln := r2.len
 unfold De
 unfold Da at k1
 cases ha : l.all Ch with
 | false =>
   rw [ha] at k1
   have k1' : aT AP.A 152 [v] h.eN = some (.bW [.int .i64 0, .int .i64 1500], h.eN) := k1
   refine wj (fn := AP.f198) (h2 := h.eN) (e := [(2, .int .i64 0), (3, .int .i64 1600)]) rfl rfl rfl ?_ rfl rfl
   clear rd r2 k1
   by_cases c : l.length = 8
   · have c' : (l.length : Int) = 8 := by omega
     simp (disch := omega) only [go_sem, xX, AP.f198, k1', ln]
   · have c' : ¬ (l.length : Int) = 8 := by omega
     simp (disch := omega) only [go_sem, xX, AP.f198, k1', ln]
 | true =>
   rw [ha] at k1
   have k1' : aT AP.A 152 [v] h.eN = some (.bW [.int .i64 (yK l), .int .i64 0], h.eN) := k1
   by_cases c : l.length = 8
   · have c' : (l.length : Int) = 8 := by omega
     rw [dt c]
     refine wj (fn := AP.f198) (h2 := h.eN) (e := [(2, .int .i64 (yK l)), (3, .int .i64 0)]) rfl rfl rfl ?_ rfl rfl
     clear rd r2 k1
     generalize yK l = M at *
     simp (disch := omega) only [go_sem, xX, AP.f198, k1', ln]
   · have c' : ¬ (l.length : Int) = 8 := by omega
     rw [df c]
     refine wj (fn := AP.f198) (h2 := h.eN) (e := [(2, .int .i64 0), (3, .int .i64 1600)]) rfl rfl rfl ?_ rfl rfl
     clear rd r2 k1
     generalize yK l = M at *
     simp (disch := omega) only [go_sem, xX, AP.f198, k1', ln]
theorem FU {v : AV} {l : List Int} (hl : l.length < 1125899906842624) (h : H) (rd : Rd h v (ints l)) : ∀ (q p : List Int), l = p ++ q →
 (∃ e', Lp AP.A [0, 3] AP.f206L0 [(0, v), (3, .int .i64 p.length)] h = some (.exit 0, e', h) ∧ Ax p.getLast? q = true) ∨
 (∃ e', Lp AP.A [0, 3] AP.f206L0 [(0, v), (3, .int .i64 p.length)] h = some (.ret, e', h) ∧ look e' 2 = .bool false ∧ Ax p.getLast? q = false)
 | [], p, hp => by
   rw [TR] at hp; subst hp
   have r2 := rd.Jj
   rw [rF] at r2
   have ln := r2.len
   refine .inl ⟨[(0, v), (3, .int .i64 l.length), (7, .bool false)], vC ?_, rfl⟩
   simp (disch := omega) only [go_sem, xX, AP.f206L0, ln]
 | x :: q, p, hp => by
   have r2 := rd.Jj
   rw [rF] at r2
   have ln := r2.len
   have hlen : l.length = p.length + (q.length + 1) := by rw [hp]; simp
   have hx : l[p.length]? = some x := by rw [hp]; simp
   obtain ⟨ad, a1, a2⟩ := rd.zL
   have b1 := a1 p.length ⟨by omega, by omega⟩
   have b2 := a2 h (Ext.refl h) p.length x hx
   have ih := FU hl h rd q (p ++ [x]) (by rw [hp]; simp)
   have w1 : ((p ++ [x]).length : Int) = (p.length : Int) + 1 := by simp
   rw [w1, List.getLast?_concat] at ih
   rw [HA]
   have step : aN (aT AP.A) bI AP.f206L0 (az [(0, v), (3, .int .i64 p.length)] [0, 3]) h = if KV p.getLast? x then some (.normal, [(0, v), (3, .int .i64 ((p.length : Int) + 1))], h) else some (.ret, [(2, .bool false)], h) := by
    unfold KV
    cases hq : p.getLast? with
    | none =>
      have hp0 : p = [] := List.getLast?_eq_none_iff.1 hq
      have hp1 : p.length = 0 := by rw [hp0]; rfl
      clear ih rd r2 a1 a2 hp w1
      by_cases c1 : 0 ≤ x
      · by_cases c2 : x < 8
        · simp only [dt c1, dt c2, Uj, if_true]
          simp (disch := omega) only [go_sem, xX, AP.f206L0, ln, b1, b2]
        · simp only [dt c1, df c2, TV, TU, xa, xO]
          simp (disch := omega) only [go_sem, xX, AP.f206L0, ln, b1, b2]
      · simp only [df c1, TV, xa, xO]
        simp (disch := omega) only [go_sem, xX, AP.f206L0, ln, b1, b2]
    | some y =>
      obtain ⟨p', rfl⟩ : ∃ p', p = p' ++ [y] := List.getLast?_eq_some_iff.1 hq
      have hpl : (p' ++ [y]).length = p'.length + 1 := by simp
      have hy : l[p'.length]? = some y := by rw [hp]; simp
      have bj := a1 p'.length ⟨by omega, by omega⟩
      have lj := a2 h (Ext.refl h) p'.length y hy
      have n2 : (((p' ++ [y]).length : Nat) : Int) - 1 = (p'.length : Int) := by rw [hpl]; omega
      have n3 : 0 < (((p' ++ [y]).length : Nat) : Int) := by rw [hpl]; omega
      clear ih rd r2 a1 a2 hp w1 hx hy hq
      generalize (p' ++ [y]).length = pl at *
      by_cases c1 : 0 ≤ x
      · by_cases c2 : x < 8
        · by_cases c3 : y < x
          · rw [dt c1, dt c2]
            simp only [dt c3, Uj, if_true]
            simp (disch := omega) only [go_sem, xX, AP.f206L0, ln, b1, b2, bj, lj, n2]
          · rw [dt c1, dt c2]
            simp only [df c3, TU, xa, xO]
            simp (disch := omega) only [go_sem, xX, AP.f206L0, ln, b1, b2, bj, lj, n2]
        · simp only [dt c1, df c2, TV, TU, xa, xO]
          simp (disch := omega) only [go_sem, xX, AP.f206L0, ln, b1, b2]
      · simp only [df c1, TV, xa, xO]
        simp (disch := omega) only [go_sem, xX, AP.f206L0, ln, b1, b2]
   by_cases hok : KV p.getLast? x = true
   · rw [if_pos hok] at step
     rw [hok, Ub]
     rcases ih with ⟨e', r1, r2⟩ | ⟨e', r1, r2, r3⟩
     · exact .inl ⟨e', vD step r1, r2⟩
     · exact .inr ⟨e', vD step r1, r2, r3⟩
   · have hok' : KV p.getLast? x = false := by simpa using hok
     rw [if_neg hok] at step
     rw [hok', TV]
     exact .inr ⟨_, vW step, rfl, rfl⟩
theorem KX (h : H) (v : AV) (l : List Int) (rd : Rd h v (ints l)) (hl : l.length < 1125899906842624) : aT AP.A 206 [v] h = some (.bool (zW l), h) := by
 have xf : Ext h h.eN := fun i c q => q
 have rdf : Rd h.eN v (ints l) := rd.mono fun i c q => xf i c q
 unfold zW
 rcases FU hl h.eN rdf l [] rfl with ⟨e', r1, r3⟩ | ⟨e', r1, r3, r4⟩
 · have r1' : Lp AP.A [0, 3] AP.f206L0 [(0, v), (3, .int .i64 0)] h.eN = some (.exit 0, e', h.eN) := r1
   have r3' : Ax none l = true := r3
   rw [r3']
   refine wj (fn := AP.f206) (h2 := h.eN) (e := [(2, .bool true)]) rfl rfl rfl ?_ rfl rfl
   clear rd rdf r1 r3
   simp (disch := omega) only [go_sem, xX, AP.f206, uK, r1']
 · have r1' : Lp AP.A [0, 3] AP.f206L0 [(0, v), (3, .int .i64 0)] h.eN = some (.ret, e', h.eN) := r1
   have r4' : Ax none l = false := r4
   rw [r4']
   refine wj (fn := AP.f206) (h2 := h.eN) (e := e') (vs := [.bool false]) rfl rfl rfl ?_ (by simp only [AP.f206, cW, oW, r3]; rfl) rfl
   clear rd rdf r1 r4
   simp (disch := omega) only [go_sem, xX, AP.f206, uK, r1']
def Jq (e : yR) (bs : List Int) : List Mv := List.replicate (bs.count ((Dj e : Nat) : Int)) (e.name, e.vec)
theorem JC (e : yR) (p : List Int) (y : Int) : Jq e (p ++ [y]) = if ((Dj e : Nat) : Int) = y then Jq e p ++ [(e.name, e.vec)] else Jq e p := by
 unfold Jq
 rw [List.count_append, List.count_singleton]
 by_cases c : ((Dj e : Nat) : Int) = y
 · rw [if_pos c, if_pos (by simp [c]), List.replicate_succ']
 · rw [if_neg c, if_neg (by simpa using fun q => c q.symm)]; rfl
theorem II {e : yR} {bs : List Int} (h : bs.Nodup) : Jq e bs = if bs.contains ((Dj e : Nat) : Int) then [(e.name, e.vec)] else [] := by
 unfold Jq
 by_cases c : ((Dj e : Nat) : Int) ∈ bs
 · rw [if_pos (by simpa using c), List.Nodup.count h, if_pos c]; rfl
 · rw [if_neg (by simpa using c), List.count_eq_zero_of_not_mem c]; rfl
theorem DO {v w : AV} {l : List yC} {bs : List Int} (h0 : H) (b : Nat) (hb : h0.get b = some [v]) (rd : zk 9 h0 v l.length (yx l)) (rdb : Rd h0 w (ints bs)) (hbs : bs.length ≤ 8) (i : Nat) (x : yC) (hi : i < l.length) (hl : l[i]? = some x) (ok : y8 h0 x) (v4 : x.1.vec.length = 4) (A0 : List Mv) (hA : A0.length ≤ 100) : ∀ (q p : List Int), bs = p ++ q → ∀ (h : H) (ov : AV) (acc : List AF), Ext h0 h → h.floor ≤ h.next → h0.next ≤ h.next →
 yI 2 h ov acc.length (yV acc) → acc.map (·.1) = A0 ++ Jq x.1 p → (∀ y ∈ acc, GY h0 h ov y) → (∀ j, ov.id? = some j → h0.next ≤ j) → h0.floor = h.floor → h.floor ≤ h0.next →
 ∃ e' h' ov' acc', Lp AP.A [1, 2, 6, 7, 8] AP.f199L0 [(1, w), (2, .aF b 0), (6, ov), (7, .int .i64 i), (8, .int .i64 p.length)] h = some (.exit 2, e', h') ∧ look e' 1 = w ∧ look e' 2 = .aF b 0 ∧ look e' 6 = ov' ∧ look e' 7 = .int .i64 i ∧
   yI 2 h' ov' acc'.length (yV acc') ∧ acc'.map (·.1) = A0 ++ Jq x.1 bs ∧ (∀ y ∈ acc', GY h0 h' ov' y) ∧ Ext h0 h' ∧ h'.floor = h.floor ∧ h.next ≤ h'.next ∧ ∀ j, ov'.id? = some j → h0.next ≤ j
 | [], p, hp, h, ov, acc, hx, hf, hn, o, ha, hbk, hge, hfl, hf0 => by
   rw [TR] at hp; subst hp
   have r2 := (rdb.mono fun i c q => hx i c q : Rd h w (ints bs)).Jj
   rw [rF] at r2
   have lnb := r2.len
   refine ⟨[(1, w), (2, .aF b 0), (6, ov), (7, .int .i64 i), (8, .int .i64 bs.length), (27, .bool false)], h, ov, acc, vC ?_, rfl, rfl, rfl, rfl, o, ha, hbk, hx, rfl, xc _, hge⟩
   simp (disch := omega) only [go_sem, xX, AP.f199L0, lnb]
 | y :: q, p, hp, h, ov, acc, hx, hf, hn, o, ha, hbk, hge, hfl, hf0 => by
   have r2 := (rdb.mono fun i c q => hx i c q : Rd h w (ints bs)).Jj
   rw [rF] at r2
   have lnb := r2.len
   have hlen : bs.length = p.length + (q.length + 1) := by rw [hp]; simp
   have hy : bs[p.length]? = some y := by rw [hp]; simp
   have gb := hx _ _ hb
   obtain ⟨ad, a1, a2⟩ := rd.Jr
   have b1 := a1 i ⟨by omega, by omega⟩
   obtain ⟨pe, _⟩ := a2 h hx i x hl
   obtain ⟨qq, f1, f2⟩ := pe.vI
   have l0 := f2 h (Ext.refl h) 0 _ rfl
   have l2 := f2 h (Ext.refl h) 2 _ rfl
   obtain ⟨bd, c1, c2⟩ := rdb.zL
   have c3 := c1 p.length ⟨by omega, by omega⟩
   have c4 := c2 h hx p.length y hy
   have k1 := Cz h x.1.name ok.nl
   have k1' : aT AP.A 200 [.str x.1.name] h = some (.int .i64 ((Dj x.1 : Nat) : Int), h) := k1
   have w1 : ((p ++ [y]).length : Int) = (p.length : Int) + 1 := by simp
   have bs' := JC x.1 p y
   have al := Ue List.length ha
   rw [TQ, xN] at al
   have cl : (Jq x.1 p).length ≤ p.length := by unfold Jq; rw [T9]; exact List.count_le_length
   by_cases c : ((Dj x.1 : Nat) : Int) = y
   · rw [if_pos c] at bs'
     rw [c] at k1'
     obtain ⟨g2, eg2⟩ : ∃ g, g = ((h.alloc []).del h.next).alloc (ints x.1.vec) := ⟨_, rfl⟩
     have rv := (ok.vec.mono fun i c q => hx i c q : Rd h x.2 (ints x.1.vec)).Jj
     rw [rF] at rv
     have ap := Cx rv hf (by omega) (by omega) (z := 8) (by simp [roomy]; omega) (AA x.1.vec)
     rw [v4, ← eg2] at ap
     have low2 : ∀ i, i < h.next → g2.get i = h.get i := fun i hi => by rw [eg2, yq (by simp; omega), zI (by omega), yq (by omega)]
     have fl2 : g2.floor = h.floor := by rw [eg2]; simp
     have n2 : g2.next = h.next + 2 := by rw [eg2]; simp
     have zv : g2.get (h.next + 1) = some (ints x.1.vec) := by rw [eg2, xY (by simp)]
     have x2 : Ext h0 g2 := fun i c q => by rw [low2 i (by have := h0.lt _ _ q; omega)]; exact hx i c q
     have gb2 := x2 _ _ hb
     have xA : Ext h (h.alloc []) := (Ext.refl h).alloc _
     have gbA := xA _ _ gb
     have l2A := f2 (h.alloc []) xA 2 _ rfl
     have xB : Ext h (g2.alloc [.str x.1.name, .aG (h.next + 1) 0 4 1]) := fun i c q => (Ext.refl g2).alloc _ _ _ (by rw [low2 i (h.lt _ _ q)]; exact q)
     have gbB := xB _ _ gb
     have l0B := f2 _ xB 0 _ rfl
     obtain ⟨pe2, _⟩ := a2 g2 x2 i x hl
     have l0' := f2 g2 (fun i c q => by rw [low2 i (h.lt _ _ q)]; exact q) 0 _ rfl
     have o2 : yI 2 g2 ov acc.length (yV acc) := o.mono fl2 fun i q => low2 i (o.lt q).2
     obtain ⟨v', h', p1, p2, p3, p4, p5, p6⟩ := o2.push (by omega) (z := 40) (m := 1) (by omega) (by omega) [.str x.1.name, .aG (h.next + 1) 0 4 1] rfl rfl (by simp [roomy]; omega)
     have ea : yV acc ++ [.str x.1.name, .aG (h.next + 1) 0 4 1] = yV (acc ++ [((x.1.name, x.1.vec), .aG (h.next + 1) 0 4 1)]) := by rw [DG]; rfl
     rw [ea] at p2
     have ovl : ∀ j, ov.id? = some j → j < h.next := fun j q => (o.lt q).2
     obtain ⟨e', h2, ov', acc', r1, r2⟩ := DO h0 b hb rd rdb hbs i x hi hl ok v4 A0 hA q (p ++ [y]) (by rw [hp]; simp) h' v' (acc ++ [((x.1.name, x.1.vec), .aG (h.next + 1) 0 4 1)]) (fun i c q => by
      have := h0.lt _ _ q
      rw [p5 i (fun q2 => by have := hge i q2; omega) (by omega)]; exact x2 i c q) (by omega) (by omega) (by rw [xN, List.length_singleton]; exact p2) (by rw [T8, Ud, bs', ha, List.append_assoc]) (fun z hz => by
      rcases List.mem_append.1 hz with hz | hz
      · refine (hbk z hz).mono (by rw [p3, fl2]) (fun j q1 q2 => by rw [p5 j q2 (by omega), low2 j q1]) (fun j q1 _ => by rw [p6]; intro q2; have := wU q2; omega)
      · obtain rfl : z = _ := List.mem_singleton.1 hz
        refine ⟨⟨h.next + 1, rfl, ?_, by omega, by rw [p6]; intro q2; have := wU q2; omega, by rw [p3, fl2]; omega⟩, v4⟩
        rw [p5 _ (fun q2 => by have := ovl _ q2; omega) (by omega)]
        exact zv) (fun j q => by rw [p6] at q; have := wU q; omega) (by rw [p3, fl2, hfl]) (by rw [p3, fl2]; exact hf0)
     rw [w1] at r1
     refine ⟨e', h2, ov', acc', vD ?_ r1, r2.1, r2.2.1, r2.2.2.1, r2.2.2.2.1, r2.2.2.2.2.1, r2.2.2.2.2.2.1, r2.2.2.2.2.2.2.1, r2.2.2.2.2.2.2.2.1, by rw [r2.2.2.2.2.2.2.2.2.1, p3, fl2], by have := r2.2.2.2.2.2.2.2.2.2.1; omega, r2.2.2.2.2.2.2.2.2.2.2⟩
     clear r1 r2 rd a1 a2 pe pe2 f2 hx x2 xA xB o o2 hbk ha ea p2 rdb c1 c2 ok rv bs' k1 low2 zv eg2 ovl
     subst c
     generalize ((Dj x.1 : Nat) : Int) = B at *
     simp (disch := omega) only [go_sem, xX, AP.f199L0, lnb, gb, b1, f1, l0, l2, k1', c3, c4, gbA, l2A, ap, gbB, l0B, p1]
   · rw [if_neg c] at bs'
     obtain ⟨e', h2, ov', acc', r1, r2⟩ := DO h0 b hb rd rdb hbs i x hi hl ok v4 A0 hA q (p ++ [y]) (by rw [hp]; simp) h ov acc hx hf hn o (by rw [bs']; exact ha) hbk hge hfl hf0
     rw [w1] at r1
     refine ⟨e', h2, ov', acc', vD ?_ r1, r2⟩
     clear r1 r2 rd a1 a2 pe f2 hx o hbk ha rdb c1 c2 ok bs' k1
     generalize ((Dj x.1 : Nat) : Int) = B at *
     simp (disch := omega) only [go_sem, xX, AP.f199L0, lnb, gb, b1, f1, l0, l2, k1', c3, c4]
theorem Fk (l : List yR) (e : yR) {bs : List Int} (h : bs.Nodup) : yU (l ++ [e]) bs = yU l bs ++ Jq e bs := by
 rw [C4, II h]
 split <;> simp
theorem F4 {v w : AV} {l : List yC} {bs : List Int} (hm : yS (l.map (·.1)) = true) (h0 : H) (b : Nat) (hb : h0.get b = some [v]) (rd : zk 9 h0 v l.length (yx l)) (hv : ∀ x ∈ l, y8 h0 x ∧ x.2.sc = true) (rdb : Rd h0 w (ints bs)) (hbs : bs.length ≤ 8) (nd : bs.Nodup) : ∀ (q p : List yC), l = p ++ q → ∀ (h : H) (ov : AV) (acc : List AF), Ext h0 h → h.floor ≤ h.next → h0.next ≤ h.next →
 yI 2 h ov acc.length (yV acc) → acc.map (·.1) = yU (p.map (·.1)) bs → (∀ y ∈ acc, GY h0 h ov y) → (∀ j, ov.id? = some j → h0.next ≤ j) → h.floor ≤ h0.next → h0.floor = h.floor →
 ∃ e' h' ov' acc', Lp AP.A [1, 2, 6, 7] AP.f199L1 [(1, w), (2, .aF b 0), (6, ov), (7, .int .i64 p.length)] h = some (.exit 0, e', h') ∧ look e' 6 = ov' ∧ yI 2 h' ov' acc'.length (yV acc') ∧ acc'.map (·.1) = yU (l.map (·.1)) bs ∧ (∀ y ∈ acc', GY h0 h' ov' y) ∧ h'.floor = h.floor
 | [], p, hp, h, ov, acc, hx, hf, hn, o, ha, hbk, hge, hf0, hfl => by
   rw [TR] at hp; subst hp
   have gb := hx _ _ hb
   have ln := (rd.mono fun i c q => hx i c q).len
   refine ⟨[(1, w), (2, .aF b 0), (6, ov), (7, .int .i64 l.length), (21, .bool false)], h, ov, acc, vC ?_, rfl, o, ha, hbk, rfl⟩
   simp (disch := omega) only [go_sem, xX, AP.f199L1, gb, ln]
 | x :: q, p, hp, h, ov, acc, hx, hf, hn, o, ha, hbk, hge, hf0, hfl => by
   have hm' := hm
   unfold yS at hm'
   rw [xe] at hm'
   obtain ⟨m1, m2, m3⟩ := yJ hm'.1
   rw [TQ] at m1
   have gb := hx _ _ hb
   have hlx : l[p.length]? = some x := by rw [hp]; simp
   have hlen : l.length = p.length + (q.length + 1) := by rw [hp]; simp
   have ln := (rd.mono fun i c q => hx i c q).len
   have v4 : x.1.vec.length = 4 := (zC (m2 x.1 (by rw [hp]; simp)).2.1).1
   obtain ⟨ok, sc⟩ := hv x (by rw [hp]; simp)
   have bl := BG (p.map (·.1)) bs
   rw [TQ] at bl
   have al := Ue List.length ha
   rw [TQ] at al
   obtain ⟨e1, h1, ov1, acc1, r1, r2, r3, r4, r5, r6, r7, r8, r9, r10, r11, r12⟩ := DO h0 b hb rd rdb hbs p.length x (by omega) hlx ok v4 (yU (p.map (·.1)) bs) (by omega) bs [] rfl h ov acc hx hf hn o (by rw [ha]; unfold Jq; simp) hbk hge hfl hf0
   rw [← Fk _ _ nd] at r7
   have r1' : Lp AP.A [1, 2, 6, 7, 8] AP.f199L0 [(1, w), (2, .aF b 0), (6, ov), (7, .int .i64 p.length), (8, .int .i64 0)] h = some (.exit 2, e1, h1) := r1
   obtain ⟨e', h', ov', acc', s1, s2⟩ := F4 hm h0 b hb rd hv rdb hbs nd q (p ++ [x]) (by rw [hp]; simp) h1 ov1 acc1 r9 (by omega) (by omega) r6 (by rw [T8, Ud]; exact r7) r8 r12 (by omega) (by rw [r10]; exact hfl)
   have w1 : ((p ++ [x]).length : Int) = (p.length : Int) + 1 := by simp
   rw [w1] at s1
   refine ⟨e', h', ov', acc', vD ?_ s1, s2.1, s2.2.1, s2.2.2.1, s2.2.2.2.1, by rw [s2.2.2.2.2, r10]⟩
   clear r1 s1 s2 rd hv rdb r6 r7 r8 r9 o ha hbk hm hm' m2 hx ok
   simp (disch := omega) only [go_sem, xX, AP.f199L1, gb, ln, uK, r1', r2, r3, r4, r5]
def I6 (b : Mv) : AF := (b, yX b.2)
def FW (l : List Mv) : AV := Jk 2 l.length (yV (l.map I6))
theorem Cy (l : List AF) : (yV l).length = l.length * 2 := Hl Fi l
theorem E6 {h : H} {fl : Nat} {h0 : H} {ov : AV} (hfl : fl ≤ h0.next) (m : Nat) : ∀ {acc : List AF}, (∀ y ∈ acc, GY h0 h ov y) → gK (snap h.get fl (m + 3) false) (yV acc) = some (yV ((acc.map (·.1)).map I6))
 | [], _ => rfl
 | y :: acc, hb => by
   obtain ⟨j, e1, e2, e3, e4, e5⟩ := (hb y (by simp)).ex
   have l4 := (hb y (by simp)).l4
   have ih := E6 (ov := ov) hfl m (acc := acc) fun z hz => hb z (by simp [hz])
   have s1 : snap h.get fl (m + 3) false y.2 = some (yX y.1.2) := by
    have o : yI 1 ⟨h.next, fl, h.cO, h.len⟩ (.aG j 0 4 1) 4 (ints y.1.2) := ⟨by rw [rF]; omega, .inr ⟨j, rfl, e2, by show fl ≤ j; omega, by omega⟩⟩
    have := o.Ar (fl := fl) (m := m + 1) (t := false) (xc _)
    rw [e1]
    have e : Jk 1 4 (ints y.1.2) = yX y.1.2 := by unfold Jk yX; rw [l4]; rfl
    rw [e] at this; exact this
   show gK (snap h.get fl (m + 3) false) (.str y.1.1 :: y.2 :: yV acc) = _
   have s0 : snap h.get fl (m + 3) false (.str y.1.1) = some (.str y.1.1) := rfl
   simp only [gK, s0, s1, ih, w9]
   rfl
def KY (l : List yR) (bs : List Int) : AV := if yS l && zW bs then .bW [FW (yU l bs), .int .i64 0] else .bW [.aR, .int .i64 1600]
theorem JF (g : H) {l : List Mv} (hl : ∀ b ∈ l, b.2.length < 1125899906842624) : IE g (FW l) (l.map I6) := by
 refine ⟨?_, fun x hx => ?_⟩
 · unfold FW
   have := Qa (n := 2) (k := l.length) (h := g) (cs := yV (l.map I6)) (by rw [Cy, TQ])
   rw [TQ]; exact this
 · obtain ⟨b, hb, rfl⟩ := List.mem_map.1 hx
   exact ⟨Ad g b.2, hl b hb⟩
theorem IJ (h : H) (v w : AV) (l : List yC) (bs : List Int) (hvs : v.sc = true) (hn : l.length < 1125899906842624) (rd : zk 9 h v l.length (yx l)) (hv : ∀ x ∈ l, y8 h x ∧ x.2.sc = true) (rdb : Rd h w (ints bs)) (hbs : bs.length < 1125899906842624) : aT AP.A 199 [.agg [v], w] h = some (KY (l.map (·.1)) bs, h) := by
 obtain ⟨h1, eh1⟩ : ∃ g, g = h.eN.alloc [v] := ⟨_, rfl⟩
 have hx0 : Ext h h1 := by rw [eh1]; exact fun i c q => ((Ext.refl h.eN).alloc _) i c q
 have hn0 : h.eN.next = h.next := rfl
 have f1 : h1.floor = h.next := by rw [eh1]; simp
 have n1 : h1.next = h.next + 1 := by rw [eh1]; simp
 have g1 : h1.get h.next = some [v] := by rw [eh1]; exact xY rfl
 have rd1 := rd.mono fun i c q => hx0 i c q
 have hv1 : ∀ x ∈ l, y8 h1 x ∧ x.2.sc = true := fun x hx => ⟨(hv x hx).1.mono hx0, (hv x hx).2⟩
 have rdb1 : Rd h1 w (ints bs) := rdb.mono fun i c q => hx0 i c q
 have k1 := HT h1 v l hvs hn rd1 hv1
 have k2 := KX h1 w bs rdb1 hbs
 unfold KY
 cases hm : yS (l.map (·.1)) with
 | false =>
   rw [hm] at k1
   refine wj (fn := AP.f199) (h2 := h1) (e := [(4, .aR), (5, .int .i64 1600)]) (vs := [.aR, .int .i64 1600]) rfl rfl rfl ?_ rfl rfl
   clear rd rd1 hv hv1 hx0 rdb rdb1
   simp (disch := omega) only [go_sem, xX, AP.f199, hvs, hn0, ← eh1, g1, AG, k1, k2]
 | true =>
   rw [hm] at k1
   cases hb : zW bs with
   | false =>
     rw [hb] at k2
     refine wj (fn := AP.f199) (h2 := h1) (e := [(4, .aR), (5, .int .i64 1600)]) (vs := [.aR, .int .i64 1600]) rfl rfl rfl ?_ rfl rfl
     clear rd rd1 hv hv1 hx0 rdb rdb1
     simp (disch := omega) only [go_sem, xX, AP.f199, hvs, hn0, ← eh1, g1, AG, k1, k2]
   | true =>
     rw [hb] at k2
     obtain ⟨bf, nd⟩ := C3 hb
     have b8 : bs.length ≤ 8 := by
      have sub : bs.Subset [0, 1, 2, 3, 4, 5, 6, 7] := fun y hy => by
       have := bf y hy
       simp only [xK, List.not_mem_nil, or_false]
       omega
      have := List.Nodup.length_le_of_subset nd sub
      simpa using this
     obtain ⟨e', h2, ov, acc, r1, r2, r3, r4, r5, r6⟩ := F4 hm h1 h.next g1 rd1 hv1 rdb1 b8 nd l [] rfl h1 .aR [] (Ext.refl _) (by omega) (xc _) yI.nil rfl (fun y hy => by cases hy) (fun j q => by cases q) (by omega) rfl
     have r1' : Lp AP.A [1, 2, 6, 7] AP.f199L1 [(1, w), (2, .aF h.next 0), (6, .aR), (7, .int .i64 0)] h1 = some (.exit 0, e', h2) := r1
     refine wj (fn := AP.f199) (h2 := h2) (e := [(4, ov), (5, .int .i64 0)]) (vs := [ov, .int .i64 0]) rfl rfl rfl ?_ rfl ?_
     · clear rd rd1 hv hv1 hx0 rdb rdb1 r1 r3 r4 r5
       simp (disch := omega) only [go_sem, xX, AP.f199, hvs, hn0, ← eh1, g1, AG, k1, k2, uK, r1', r2]
     · have al := Ue List.length r4
       rw [TQ] at al
       have s : snap h2.get h.next 15 true ov = some (FW (yU (l.map (·.1)) bs)) := by
        unfold FW Jk
        obtain ⟨q0, ⟨q1, q2⟩ | ⟨j, q1, q2, q3, q4⟩⟩ := r3
        · rw [q1, ← al, q2]; rfl
        · rw [q1, if_neg (by omega)]
          show (if j < h.next then _ else _) = _
          rw [if_neg (by rw [r6, f1] at q3; omega), q2, w9, if_pos (by rw [Cy]; omega), TX, xI (by rw [Cy]; exact xc _)]
          have := E6 (h := h2) (fl := h.next) (h0 := h1) (ov := ov) (by omega) 11 r5
          rw [this, r4, al]; rfl
       show (gK (snap h2.get h.next 15 true) [ov, .int .i64 0]).bind _ = _
       simp only [gK, s, w9]
       rfl
instance : DecidableEq yR := fun a b => decidable_of_iff _ (BN a b)
theorem Il {v w : AV} {a b : List yC} (hab : a.length = b.length) (hl : a.length < 1125899906842624) (h : H) (ra : zk 9 h v a.length (yx a)) (rb : zk 9 h w b.length (yx b)) (ha : ∀ x ∈ a, y8 h x ∧ x.2.sc = true) (hb : ∀ x ∈ b, y8 h x ∧ x.2.sc = true) : ∀ (q r p p' : List yC), a = p ++ q → b = p' ++ r → p.length = p'.length →
 (∃ e', Lp AP.A [0, 1, 5] AP.f207L0 [(0, v), (1, w), (5, .int .i64 p.length)] h = some (.exit 0, e', h) ∧ q.map (·.1) = r.map (·.1)) ∨
 (∃ e', Lp AP.A [0, 1, 5] AP.f207L0 [(0, v), (1, w), (5, .int .i64 p.length)] h = some (.ret, e', h) ∧ look e' 4 = .bool false ∧ q.map (·.1) ≠ r.map (·.1))
 | [], r, p, p', hp, hr, hpp => by
   rw [TR] at hp; subst hp
   have h1 : b.length = p'.length + r.length := by rw [hr]; simp
   have hr0 : r = [] := Ua (by omega)
   have ln := ra.len
   refine .inl ⟨[(0, v), (1, w), (5, .int .i64 a.length), (14, .bool false)], vC ?_, by rw [hr0]⟩
   simp (disch := omega) only [go_sem, xX, AP.f207L0, ln]
 | x :: q, [], p, p', hp, hr, hpp => by
   exfalso
   have h1 : a.length = p.length + (q.length + 1) := by rw [hp]; simp
   have h2 : b.length = p'.length := by rw [hr]; simp
   omega
 | x :: q, y :: r, p, p', hp, hr, hpp => by
   have h1 : a.length = p.length + (q.length + 1) := by rw [hp]; simp
   have hx : a[p.length]? = some x := by rw [hp]; simp
   have hy : b[p.length]? = some y := by rw [hr, hpp]; simp
   have ln := ra.len
   obtain ⟨ad, a1, a2⟩ := ra.Jr
   obtain ⟨bd, b1, b2⟩ := rb.Jr
   have a3 := a1 p.length ⟨by omega, by omega⟩
   have b3 := b1 p.length ⟨by omega, by omega⟩
   obtain ⟨_, a4⟩ := a2 h (Ext.refl h) p.length x hx
   obtain ⟨_, b4⟩ := b2 h (Ext.refl h) p.length y hy
   obtain ⟨ox, sx⟩ := ha x (by rw [hp]; simp)
   obtain ⟨oy, sy⟩ := hb y (by rw [hr]; simp)
   have k1 := LG h x.1 y.1 x.2 y.2 sx sy ox oy
   have ih := Il hab hl h ra rb ha hb q r (p ++ [x]) (p' ++ [y]) (by rw [hp]; simp) (by rw [hr]; simp) (by simp [hpp])
   have w1 : ((p ++ [x]).length : Int) = (p.length : Int) + 1 := by simp
   rw [w1] at ih
   rw [TZ, TZ]
   cases hk : CR x.1 y.1 with
   | true =>
     rw [hk] at k1
     have e := (BN _ _).1 hk
     have step : aN (aT AP.A) bI AP.f207L0 (az [(0, v), (1, w), (5, .int .i64 p.length)] [0, 1, 5]) h = some (.normal, [(0, v), (1, w), (5, .int .i64 ((p.length : Int) + 1))], h) := by
      clear ih ra rb a1 a2 b1 b2 ha hb ox oy hp hr e
      generalize ya x.1 x.2 = E at *
      generalize ya y.1 y.2 = F at *
      simp (disch := omega) only [go_sem, xX, AP.f207L0, ln, a3, a4, b3, b4, k1]
     rcases ih with ⟨e', r1, r2⟩ | ⟨e', r1, r2, r3⟩
     · exact .inl ⟨e', vD step r1, by rw [e, r2]⟩
     · exact .inr ⟨e', vD step r1, r2, fun q => r3 (List.cons.inj q).2⟩
   | false =>
     rw [hk] at k1
     refine .inr ⟨[(4, .bool false)], vW ?_, rfl, fun q => by
      have := (BN x.1 y.1).2 (List.cons.inj q).1
      rw [hk] at this; cases this⟩
     clear ih ra rb a1 a2 b1 b2 ha hb ox oy hp hr
     generalize ya x.1 x.2 = E at *
     generalize ya y.1 y.2 = F at *
     simp (disch := omega) only [go_sem, xX, AP.f207L0, ln, a3, a4, b3, b4, k1]
theorem Km (h : H) (v w : AV) (a b : List yC) (hl : a.length < 1125899906842624) (ra : zk 9 h v a.length (yx a)) (rb : zk 9 h w b.length (yx b)) (ha : ∀ x ∈ a, y8 h x ∧ x.2.sc = true) (hb : ∀ x ∈ b, y8 h x ∧ x.2.sc = true) : aT AP.A 207 [v, w] h = some (.bool (decide (a.map (·.1) = b.map (·.1))), h) := by
 have xf : Ext h h.eN := fun i c q => q
 have ra' := ra.mono fun i c q => xf i c q
 have rb' := rb.mono fun i c q => xf i c q
 have l1 := ra'.len
 have l2 := rb'.len
 by_cases c : a.length = b.length
 · have c' : (a.length : Int) = b.length := by omega
   rcases Il c hl h.eN ra' rb' (fun x hx => ⟨(ha x hx).1.mono xf, (ha x hx).2⟩) (fun x hx => ⟨(hb x hx).1.mono xf, (hb x hx).2⟩) a b [] [] rfl rfl rfl with ⟨e', r1, r2⟩ | ⟨e', r1, r2, r3⟩
   · have r1' : Lp AP.A [0, 1, 5] AP.f207L0 [(0, v), (1, w), (5, .int .i64 0)] h.eN = some (.exit 0, e', h.eN) := r1
     rw [dt r2]
     refine wj (fn := AP.f207) (h2 := h.eN) (e := [(4, .bool true)]) rfl rfl rfl ?_ rfl rfl
     clear ra rb ra' rb' ha hb r1 r2
     simp (disch := omega) only [go_sem, xX, AP.f207, l1, l2, uK, r1']
   · have r1' : Lp AP.A [0, 1, 5] AP.f207L0 [(0, v), (1, w), (5, .int .i64 0)] h.eN = some (.ret, e', h.eN) := r1
     rw [df r3]
     refine wj (fn := AP.f207) (h2 := h.eN) (e := e') (vs := [.bool false]) rfl rfl rfl ?_ (by simp only [AP.f207, cW, oW, r2]; rfl) rfl
     clear ra rb ra' rb' ha hb r1 r3
     simp (disch := omega) only [go_sem, xX, AP.f207, l1, l2, uK, r1']
 · have c' : ¬ (a.length : Int) = b.length := by omega
   have e : a.map (·.1) ≠ b.map (·.1) := fun q => c (by have := Ue List.length q; simpa using this)
   rw [df e]
   refine wj (fn := AP.f207) (h2 := h.eN) (e := [(4, .bool false)]) rfl rfl rfl ?_ rfl rfl
   clear ra rb ra' rb' ha hb
   simp (disch := omega) only [go_sem, xX, AP.f207, l1, l2]
theorem LH (h : H) (v w : AV) (a b : List yC) (hvs : v.sc = true) (hws : w.sc = true) (hl : a.length < 1125899906842624) (ra : zk 9 h v a.length (yx a)) (rb : zk 9 h w b.length (yx b)) (ha : ∀ x ∈ a, y8 h x ∧ x.2.sc = true) (hb : ∀ x ∈ b, y8 h x ∧ x.2.sc = true) : aT AP.A 202 [.agg [v], .agg [w]] h = some (.bool (decide (a.map (·.1) = b.map (·.1))), h) := by
 obtain ⟨h1, eh1⟩ : ∃ g, g = h.eN.alloc [v] := ⟨_, rfl⟩
 obtain ⟨h2, eh2⟩ : ∃ g, g = h1.alloc [w] := ⟨_, rfl⟩
 have hx2 : Ext h h2 := by rw [eh2, eh1]; exact fun i c q => (((Ext.refl h.eN).alloc _).alloc _) i c q
 have hn0 : h.eN.next = h.next := rfl
 have n1 : h1.next = h.next + 1 := by rw [eh1]; simp
 have g1 : h2.get h.next = some [v] := by rw [eh2, yq (by omega), eh1]; exact xY rfl
 have g2 : h2.get (h.next + 1) = some [w] := by rw [eh2, xY (by omega)]
 have k1 := Km h2 v w a b hl (ra.mono fun i c q => hx2 i c q) (rb.mono fun i c q => hx2 i c q) (fun x hx => ⟨(ha x hx).1.mono hx2, (ha x hx).2⟩) (fun x hx => ⟨(hb x hx).1.mono hx2, (hb x hx).2⟩)
 generalize decide (a.map (·.1) = b.map (·.1)) = B at *
 refine wj (fn := AP.f202) (h2 := h2) (e := [(4, .bool B)]) rfl rfl rfl ?_ rfl rfl
 clear ra rb ha hb hx2
 simp (disch := omega) only [go_sem, xX, AP.f202, hvs, hws, hn0, ← eh1, n1, ← eh2, g1, g2, k1]
theorem It (i : Nat) : ∀ (n k : Nat) (l : List Int) (h : H), k + n = l.length → l.length < 1000000 → h.get i = some (ints l) → h.floor ≤ i →
 ∃ e' l', Lp AP.A [0, 2] AP.f168L0 [(0, .aG i 0 l.length 1), (2, .int .i64 k)] h = some (.exit 0, e', h.set i (ints l')) ∧ l'.length = l.length
 | 0, k, l, h, hk, hl, hg, hf => by
   obtain rfl : k = l.length := by omega
   refine ⟨[(0, .aG i 0 l.length 1), (2, .int .i64 l.length), (6, .bool false)], l, ?_, rfl⟩
   rw [H.kz hg]
   refine vC ?_
   simp (disch := omega) only [go_sem, xX, AP.f168L0]
 | n + 1, k, l, h, hk, hl, hg, hf => by
   obtain ⟨x, hx⟩ : ∃ x, l[k]? = some x := ⟨l[k]'(by omega), by simp⟩
   have ix : (ints l)[k]? = some (.int .i64 x) := ve hx
   have st : (ints l).set k (.int .i64 (IntKind.wrap .i64 (-9 - x))) = ints (l.set k (IntKind.wrap .i64 (-9 - x))) := by simp [ints, I, List.map_set]
   obtain ⟨e', l', r1, r2⟩ := It i n (k + 1) (l.set k (IntKind.wrap .i64 (-9 - x))) (h.set i (ints (l.set k (IntKind.wrap .i64 (-9 - x))))) (by simp; omega) (by simp; exact hl) (by rw [yM rfl, hg]; rfl) (by simp; exact hf)
   rw [H.set_set, List.length_set] at r1
   have w1 : ((k + 1 : Nat) : Int) = (k : Int) + 1 := by omega
   rw [w1] at r1
   refine ⟨e', l', vD ?_ r1, by rw [r2]; simp⟩
   have il := rF l
   clear r1 hx
   simp (disch := first | omega | (simp only [yH, TM, TN, xp, Nat.reduceAdd]; first | done | omega | fail) | (simp (disch := first | omega | (simp only [yH, TM, TN, xp, Nat.reduceAdd]; first | done | omega | fail) | fail) only [yH, AY, TP, TM, TN, xp, Nat.reduceAdd]; done) | fail) only [go_sem, xX, Ba, AP.f168L0, hg, ix, il, st]
theorem GM {h : H} {i : Nat} {l : List Int} (hg : h.get i = some (ints l)) (hl : l.length < 1000000) (hf : h.floor ≤ i) : ∃ l', aT AP.A 168 [.aG i 0 l.length 1] h = some (.bW [], h.set i (ints l')) ∧ l'.length = l.length := by
 obtain ⟨e', l', r1, r2⟩ := It i l.length 0 l h (by omega) hl hg hf
 have r1' : Lp AP.A [0, 2] AP.f168L0 [(0, .aG i 0 l.length 1), (2, .int .i64 0)] h = some (.exit 0, e', h.set i (ints l')) := r1
 obtain ⟨e2, he⟩ : ∃ e2, aN (aT AP.A) bI AP.f168.body (params 0 [.aG i 0 l.length 1]) h = some (.normal, e2, h.set i (ints l')) := by
  refine ⟨?_, ?_⟩
  rotate_left
  · simp (disch := omega) only [go_sem, xX, AP.f168, uK, r1']
    rfl
 exact ⟨l', yG (fn := AP.f168) (e := e2) (vs := []) rfl rfl rfl he rfl, r2⟩
theorem Jl (h : H) : aT AP.A 168 [.aR] h = some (.bW [], h) := by
 have r : Lp AP.A [0, 2] AP.f168L0 [(0, .aR), (2, .int .i64 0)] h = some (.exit 0, [(0, .aR), (2, .int .i64 0), (6, .bool false)], h) := by
  refine vC ?_
  simp (disch := omega) only [go_sem, xX, AP.f168L0]
 obtain ⟨e2, he⟩ : ∃ e2, aN (aT AP.A) bI AP.f168.body (params 0 [.aR]) h = some (.normal, e2, h) := by
  refine ⟨?_, ?_⟩
  rotate_left
  · simp (disch := omega) only [go_sem, xX, AP.f168, uK, r]
    rfl
 exact yG (fn := AP.f168) (e := e2) (vs := []) rfl rfl rfl he rfl
structure SB (B : Nat) (h : H) (o n i : Nat) (cs : List AV) : Prop where
 get : h.get o = some cs
 len : cs.length = n * 2
 fl : h.floor ≤ o
 bo : B ≤ o
 el : ∀ k, k < n → ∃ (s : ByteArray) (j : Nat) (l : List Int), cs[k * 2]? = some (.str s) ∧ s.size ≤ 8 + (if k < i then 1 else 0) ∧ cs[k * 2 + 1]? = some (.aG j 0 4 1) ∧ h.get j = some (ints l) ∧ l.length = 4 ∧ B ≤ j ∧ j ≠ o ∧ h.floor ≤ j
theorem Cq (B o n : Nat) (hn : n ≤ 1000) : ∀ (m i : Nat), i + m = n → ∀ (h : H) (cs : List AV), SB B h o n i cs →
 ∃ e' h', Lp AP.A [0, 2] AP.f201L0 [(0, .aG o 0 n 2), (2, .int .i64 i)] h = some (.exit 0, e', h') ∧ (∀ k, k < B → h'.get k = h.get k) ∧ h'.floor = h.floor ∧ h'.next = h.next
 | 0, i, hi, h, cs, sb => by
   obtain rfl : i = n := by omega
   refine ⟨[(0, .aG o 0 i 2), (2, .int .i64 i), (6, .bool false)], h, vC ?_, fun k _ => rfl, rfl, rfl⟩
   simp (disch := omega) only [go_sem, xX, AP.f201L0]
 | m + 1, i, hi, h, cs, sb => by
   obtain ⟨s, j, l, e1, e2, e3, e4, e5, e6, e7, e8⟩ := sb.el i (by omega)
   rw [if_neg (Nat.lt_irrefl _)] at e2
   obtain ⟨l', k1, k2⟩ := GM e4 (by omega) e8
   rw [e5] at k1 k2
   obtain ⟨g, eg⟩ : ∃ g, g = h.set j (ints l') := ⟨_, rfl⟩
   rw [← eg] at k1
   have go : g.get o = some cs := by rw [eg, yA (fun q => e7 q.symm)]; exact sb.get
   have gf : g.floor = h.floor := by rw [eg]; simp
   obtain ⟨t, ht⟩ : ∃ t : ByteArray, t = s ++ ⟨#[33]⟩ := ⟨_, rfl⟩
   have tz : t.size = s.size + 1 := by rw [ht, Ug]; rfl
   have ad : bE .add (.str s) (.str ⟨#[33]⟩) = some (.str t) := by rw [ht]; exact CY (by have : (⟨#[33]⟩ : ByteArray).size = 1 := rfl; omega)
   have st : wm g o (i * 2) 1 [.str t] (some cs) = some (g.set o (cs.set (i * 2) (.str t))) := wM (by rw [gf]; exact sb.fl) (by rw [sb.len]; omega) rfl
   have sb2 : SB B (g.set o (cs.set (i * 2) (.str t))) o n (i + 1) (cs.set (i * 2) (.str t)) := by
    refine ⟨by rw [yM rfl, go]; rfl, by rw [List.length_set]; exact sb.len, by simp [gf]; exact sb.fl, sb.bo, fun k hk => ?_⟩
    obtain ⟨s', j', l2, a1, a2, a3, a4, a5, a6, a7, a8⟩ := sb.el k hk
    have b3 : (cs.set (i * 2) (.str t))[k * 2 + 1]? = some (.aG j' 0 4 1) := by rw [List.getElem?_set_ne (by omega)]; exact a3
    have b4 : ∃ l3, (g.set o (cs.set (i * 2) (.str t))).get j' = some (ints l3) ∧ l3.length = 4 := by
     by_cases c : j' = j
     · subst c; exact ⟨l', by rw [yA a7, eg, yM rfl, e4]; rfl, k2⟩
     · exact ⟨l2, by rw [yA a7, eg, yA c]; exact a4, a5⟩
    obtain ⟨l3, c4, c5⟩ := b4
    by_cases c : k = i
    · subst c
      refine ⟨t, j', l3, by rw [xH (by rw [sb.len]; omega)], by rw [tz, if_pos (by omega)]; omega, b3, c4, c5, a6, a7, by simp [gf]; exact a8⟩
    · refine ⟨s', j', l3, by rw [List.getElem?_set_ne (by omega)]; exact a1, ?_, b3, c4, c5, a6, a7, by simp [gf]; exact a8⟩
      by_cases c1 : k < i
      · rw [if_pos c1] at a2; rw [if_pos (by omega)]; exact a2
      · rw [if_neg c1] at a2; rw [if_neg (by omega)]; exact a2
   obtain ⟨e', h2, r1, r2, r3, r4⟩ := Cq B o n hn m (i + 1) (by omega) _ _ sb2
   have w1 : ((i + 1 : Nat) : Int) = (i : Int) + 1 := by omega
   rw [w1] at r1
   refine ⟨e', h2, vD ?_ r1, fun k hk => by rw [r2 k hk, yA (by have := sb.bo; omega), eg, yA (by omega)], by rw [r3]; simp [gf], by rw [r4, eg]; simp⟩
   have gh := sb.get
   have lc := sb.len
   clear r1 r2 r3 r4 sb2 sb ht
   generalize g.set o (cs.set (i * 2) (.str t)) = H2 at *
   simp (disch := omega) only [go_sem, xX, AP.f201L0, gh, e3, k1, go, e1, ad, st]
theorem Kw {h0 h : H} {ov : AV} {acc : List AF} (o : yI 2 h ov acc.length (yV acc)) (hb : ∀ x ∈ acc, GY h0 h ov x) (hs : ∀ x ∈ acc, x.1.1.size ≤ 8) (hn : acc.length ≤ 1000) (hge : ∀ i, ov.id? = some i → h0.next ≤ i) :
 ∃ h', aT AP.A 201 [ov] h = some (.bW [], h') ∧ (∀ k, k < h0.next → h'.get k = h.get k) ∧ h'.floor = h.floor ∧ h'.next = h.next := by
 obtain ⟨o1, ⟨rfl, o2⟩ | ⟨i, rfl, o2, o3, o4⟩⟩ := o
 · have r : Lp AP.A [0, 2] AP.f201L0 [(0, .aR), (2, .int .i64 0)] h = some (.exit 0, [(0, .aR), (2, .int .i64 0), (6, .bool false)], h) := by
    refine vC ?_
    simp (disch := omega) only [go_sem, xX, AP.f201L0]
   obtain ⟨e2, he⟩ : ∃ e2, aN (aT AP.A) bI AP.f201.body (params 0 [.aR]) h = some (.normal, e2, h) := by
    refine ⟨?_, ?_⟩
    rotate_left
    · simp (disch := omega) only [go_sem, xX, AP.f201, uK, r]
      rfl
   exact ⟨h, yG (fn := AP.f201) (e := e2) (vs := []) rfl rfl rfl he rfl, fun _ _ => rfl, rfl, rfl⟩
 · have sb : SB h0.next h i acc.length 0 (yV acc) := by
    refine ⟨o2, o1, o3, hge i rfl, fun k hk => ?_⟩
    obtain ⟨x, hx⟩ : ∃ x, acc[k]? = some x := ⟨acc[k], by simp⟩
    have hm := xm hx
    obtain ⟨j, a1, a2, a3, a4, a5⟩ := (hb x hm).ex
    have g := fun m (hm : m < 2) => CG (f := m) Fi hx hm
    refine ⟨x.1.1, j, x.1.2, g 0 (by omega), by have := hs x hm; omega, ?_, a2, (hb x hm).l4, a3, fun q => a4 (by rw [q]; rfl), a5⟩
    rw [← a1]; exact g 1 (by omega)
   obtain ⟨e', h', r1, r2, r3, r4⟩ := Cq h0.next i acc.length hn acc.length 0 (by omega) h _ sb
   have r1' : Lp AP.A [0, 2] AP.f201L0 [(0, .aG i 0 acc.length 2), (2, .int .i64 0)] h = some (.exit 0, e', h') := r1
   obtain ⟨e2, he⟩ : ∃ e2, aN (aT AP.A) bI AP.f201.body (params 0 [.aG i 0 acc.length 2]) h = some (.normal, e2, h') := by
    refine ⟨?_, ?_⟩
    rotate_left
    · simp (disch := omega) only [go_sem, xX, AP.f201, uK, r1']
      rfl
   exact ⟨h', yG (fn := AP.f201) (e := e2) (vs := []) rfl rfl rfl he rfl, r2, r3, r4⟩
theorem Kx {h h' : H} {w : AV} {l : List Int} (g : LS 1 h w h' l.length (ints l)) (hl : l.length < 1000000) : ∃ h2, aT AP.A 168 [w] h' = some (.bW [], h2) ∧ (∀ k, k < h.next → h2.get k = h'.get k) ∧ h2.floor = h'.floor ∧ h2.next = h'.next ∧ (∀ k, w.id? ≠ some k → h2.get k = h'.get k) := by
 obtain ⟨_, ⟨rfl, q⟩ | ⟨i, rfl, q1, q2, q3⟩⟩ := g.own
 · exact ⟨h', Jl h', fun _ _ => rfl, rfl, rfl, fun _ _ => rfl⟩
 · obtain ⟨l', k, _⟩ := GM q1 hl q2
   exact ⟨_, k, fun k hk => by rw [yA (by have := g.ge i rfl; omega)], by simp, by simp, fun k hk => by rw [yA (fun q => hk (by rw [q]; rfl))]⟩
set_option maxHeartbeats 4000000 in
theorem IK (h : H) (v wd wb : AV) (l : List yC) (name : ByteArray) (ds bs : List Int) (hvs : v.sc = true) (hn : l.length < 1353300000000) (rd : zk 9 h v l.length (yx l)) (hv : ∀ x ∈ l, y8 h x ∧ x.2.sc = true ∧ x.1.vec.length < 20000000000000) (hname : name.size < 1125899906842624)
 (rdd : Rd h wd (ints ds)) (hds : ds.length < 20000000000000) (rdb : Rd h wb (ints bs)) (hbs : bs.length < 20000000000000) : aT AP.A 193 [.agg [v], .str name, wd, wb] h = some (.bool true, h) := by
 obtain ⟨G, eG⟩ : ∃ g, g = h.eN.alloc [v] := ⟨_, rfl⟩
 have hx1 : Ext h G := fun i c q => by rw [eG]; exact ((Ext.refl h.eN).alloc _) i c q
 have hn0 : h.eN.next = h.next := rfl
 have z1 : G.get h.next = some [v] := by rw [eG]; exact xY rfl
 have fG : G.floor = h.next := by rw [eG]; simp
 have nG : G.next = h.next + 1 := by rw [eG]; simp
 have rd1 := rd.mono fun i c q => hx1 i c q
 have hv1 : ∀ x ∈ l, y8 G x ∧ x.2.sc = true := fun x hx => ⟨(hv x hx).1.mono hx1, (hv x hx).2.1⟩
 have k0 : ∀ g, aT AP.A 176 [] g = some (.bool true, g) := IH
 have k9 := fun (g : H) n => Md g n
 simp only [I] at k9
 obtain ⟨L, hL⟩ : ∃ L, L = l.map (·.1) := ⟨_, rfl⟩
 obtain ⟨xv, h1, acc, k1, e1, m1, c1⟩ := K5 G (by omega) v l hvs hn rd1 (fun x hx => ⟨(hv1 x hx).1, (hv1 x hx).2, (hv x hx).2.2⟩)
 have n1 := e1.nx
 have f1 := e1.fl
 have sx := e1.own.sc
 have cx := Eg sx
 obtain ⟨h2, q, k2, gq, f2, q2, q3, low2⟩ := P3 h1 (by omega) wb bs (rdb.mono fun i c q => e1.ext _ _ (hx1 i c q)) hbs
 have x2 : Ext h1 h2 := fun i c q => by rw [low2 i (h1.lt _ _ q)]; exact q
 have n2 : h1.next ≤ h2.next := by omega
 obtain ⟨H3, eH3⟩ : ∃ g, g = (h2.alloc [.aR]).set h2.next [xv] := ⟨_, rfl⟩
 have low3 : ∀ i, i < h2.next → H3.get i = h2.get i := fun i hi => by rw [eH3, yA (by omega), yq (by omega)]
 have x3 : Ext h2 H3 := fun i c q => by rw [low3 i (h2.lt _ _ q)]; exact q
 have xP : H3.get h2.next = some [xv] := by rw [eH3, yM rfl, xY rfl]; rfl
 have f3 : H3.floor = h.next := by rw [eH3]; simp [f2, f1, fG]
 have n3 : H3.next = h2.next + 1 := by rw [eH3]; simp
 have x13 : Ext h1 H3 := fun i c q => x3 _ _ (x2 _ _ q)
 have al := Ue List.length m1
 rw [TQ, TQ] at al
 have rdx : ∀ g, Ext H3 g → zk 9 g xv acc.length (yx acc) := fun g hg => e1.own.rd.mono fun i c q => hg _ _ (x13 _ _ q)
 have hvx : ∀ g, Ext H3 g → ∀ x ∈ acc, y8 g x ∧ x.2.sc = true := fun g hg x hx => ⟨(c1 x hx).ok.mono fun i c q => hg _ _ (x13 _ _ q), (c1 x hx).sc⟩
 obtain ⟨w4, h4, k4, e4⟩ := JN H3 (by omega) xv acc sx (by omega) (rdx H3 (Ext.refl _)) (hvx H3 (Ext.refl _))
 rw [m1, ← hL] at k4 e4
 obtain ⟨D, hD⟩ : ∃ D, D = if yS L then y6 L else [] := ⟨_, rfl⟩
 rw [← hD] at e4
 have Dl : D.length ≤ 8 := by rw [hD]; split; · rw [zy]; exact xc _
                              simp
 have x4 := e4.ext
 have f4 := e4.fl
 have n4 := e4.nx
 have xG4 : Ext G h4 := fun i c q => x4 _ _ (x13 _ _ (e1.ext _ _ q))
 obtain ⟨bv, hbv, rbv⟩ : ∃ bv, HM L = .bW [bv, .int .i64 (if yS L then 0 else 1600)] ∧ ∀ g, Rd g bv (ints D) := by
  unfold HM
  rw [hD]
  cases yS L with
  | true => exact ⟨_, rfl, fun g => Ad g _⟩
  | false => exact ⟨_, rfl, fun g => ⟨rfl, fun s q => by cases q⟩⟩
 have k5 := K6 h4 v l hvs (by omega) (rd1.mono fun i c q => xG4 i c q) (fun x hx => ⟨(hv1 x hx).1.mono xG4, (hv1 x hx).2⟩)
 rw [← hL, hbv] at k5
 obtain ⟨r1, r2, hr⟩ : ∃ r1 r2 : Int, De ds = .bW [.int .i64 r1, .int .i64 r2] := by unfold De; split <;> exact ⟨_, _, rfl⟩
 have rdd4 : Rd h4 wd (ints ds) := rdd.mono fun i c q => xG4 _ _ (hx1 i c q)
 have k6 := Hq h4 wd ds rdd4 (by omega)
 have k7 := LF h4 wd ds rdd4 (by omega)
 rw [hr] at k6 k7
 have gq4 : h4.get q = some (Aa bs) := x4 _ _ (x3 _ _ gq)
 have rdq : ∀ g : H, g.get q = some (Aa bs) → Rd g (.aG q 0 bs.length 1) (ints bs) := fun g hg => by
  refine ⟨?_, fun s => by simp⟩
  simp only [aU, if_true, hg, w9]
  rw [if_pos (by rw [CK]; omega), TX, rF]
  unfold Aa
  rw [List.take_append_of_le_length (by rw [rF]; omega), xI (by rw [rF]; omega)]
 obtain ⟨pv, h8, accB, k8, e8, q8, b8⟩ := DF h4 (by omega) xv (.aG q 0 bs.length 1) acc bs sx (by omega) (rdx h4 x4) (hvx h4 x4) (rdq h4 gq4) (by omega)
 rw [m1, ← hL] at k8 q8
 have f8 := e8.fl
 have n8 := e8.nx
 obtain ⟨D2, hD2⟩ : ∃ D2, D2 = if yS L && zW bs then yU L bs else [] := ⟨_, rfl⟩
 rw [← hD2] at q8
 have xG8 : Ext G h8 := fun i c q => e8.ext _ _ (xG4 i c q)
 have vs8 : ∀ b ∈ D2, b.1.size ≤ 8 ∧ b.2.length < 1000 := by
  intro b hb
  rw [hD2] at hb
  split at hb
  · rename_i hc
    rw [xe] at hc
    have hf := hc.1
    unfold yS at hf
    rw [xe] at hf
    obtain ⟨_, m2, _⟩ := yJ hf.1
    unfold yU at hb
    obtain ⟨e, he, rfl⟩ := List.mem_map.1 hb
    obtain ⟨t1, t2, _⟩ := m2 e ((List.mem_filter.1 he).1)
    have := zT t1
    have := (zC t2).1
    exact ⟨by show e.name.size ≤ 8; omega, by show e.vec.length < 1000; omega⟩
  · cases hb
 obtain ⟨qv, hqv, rqv⟩ : ∃ qv, KY L bs = .bW [qv, .int .i64 (if yS L && zW bs then 0 else 1600)] ∧ ∀ g, IE g qv (D2.map I6) := by
  unfold KY
  cases hc : yS L && zW bs with
  | true =>
    rw [hc, if_pos rfl] at hD2
    refine ⟨_, rfl, fun g => ?_⟩
    rw [hD2]
    exact JF g fun b hb => by have := (vs8 b (by rw [hD2]; exact hb)).2; omega
  | false =>
    rw [hc, if_neg (by decide)] at hD2
    refine ⟨_, rfl, fun g => ?_⟩
    rw [hD2]
    exact ⟨⟨rfl, rfl, fun s q => by cases q⟩, fun x hx => by cases hx⟩
 have k10 := IJ h8 v wb l bs hvs (by omega) (rd1.mono fun i c q => xG8 i c q) (fun x hx => ⟨(hv1 x hx).1.mono xG8, (hv1 x hx).2⟩) (rdb.mono fun i c q => xG8 _ _ (hx1 i c q)) (by omega)
 rw [← hL, hqv] at k10
 have rw4 : Rd h8 w4 (ints D) := by
  have o := e4.own.rd
  have : Rd h4 w4 (ints D) := ⟨by rw [rF]; exact o.1, o.2.2⟩
  exact this.mono fun i c q => e8.ext _ _ q
 have k11 := Cp h8 w4 bv D D rw4 (rbv h8) (by omega)
 rw [dt rfl] at k11
 have al8 := Ue List.length q8
 rw [TQ] at al8
 have aB : accB.length ≤ 6 := by
  rw [al8, hD2]
  split
  · rename_i hc
    rw [xe] at hc
    have hf := hc.1
    unfold yS at hf
    rw [xe] at hf
    have a1 := (yJ hf.1).1
    have a2 := BG L bs
    omega
  · simp
 have k12 := Ij h8 pv qv accB (D2.map I6) (e8.Qy b8) (rqv h8) (by omega)
 rw [dt (by rw [q8, List.map_map]; exact (List.map_id _).symm)] at k12
 have k13 := BV h8 name hname
 have k14 := Cz h8 name hname
 obtain ⟨h15, k15, s15, f15, n15, t15⟩ : ∃ h2, aT AP.A 168 [w4] h8 = some (.bW [], h2) ∧ (∀ k, k < H3.next → h2.get k = h8.get k) ∧ h2.floor = h8.floor ∧ h2.next = h8.next ∧ (∀ k, w4.id? ≠ some k → h2.get k = h8.get k) := by
  refine Kx (h := H3) (h' := h8) (w := w4) (l := D) ⟨e4.own.mono f8 (fun i q => ?_), fun i c q => e8.ext _ _ (x4 _ _ q), by rw [f8, f4], by omega, e4.ge⟩ (by omega)
  obtain ⟨_, ⟨p1, _⟩ | ⟨j, p1, p2, _⟩⟩ := e4.own
  · rw [p1] at q; cases q
  · rw [p1] at q; obtain rfl := wU q; rw [p2]; exact e8.ext _ _ p2
 have w4lt : ∀ k, w4.id? = some k → k < h4.next := fun k q => (e4.own.lt q).2
 have b15 : ∀ x ∈ accB, GY h4 h15 pv x := fun x hx => by
  obtain ⟨j, p1, p2, p3, p4, p5⟩ := (b8 x hx).ex
  exact ⟨⟨j, p1, by rw [t15 j (fun q => by have := w4lt j q; omega)]; exact p2, p3, p4, by rw [f15]; exact p5⟩, (b8 x hx).l4⟩
 obtain ⟨h16, k16, s16, f16, n16⟩ := Kw (h0 := h4) (h := h15) (ov := pv) (acc := accB) (e8.own.mono f15 fun i q => t15 i (fun q2 => by have := w4lt i q2; have := e8.ge i q; omega)) b15 (fun x hx => by
  have : x.1 ∈ accB.map (·.1) := List.mem_map.2 ⟨x, hx, rfl⟩
  rw [q8] at this
  exact (vs8 _ this).1) (by omega) e8.ge
 have yY : ∀ i c, H3.get i = some c → h16.get i = some c := fun i c q => by
  have := H3.lt _ _ q
  rw [s16 i (by omega), s15 i this]; exact e8.ext _ _ (x4 _ _ q)
 have xP16 := yY _ _ xP
 have z16 : h16.get h.next = some [v] := yY _ _ (x13 _ _ (e1.ext _ _ z1))
 have xG16 : Ext G h16 := fun i c q => yY _ _ (x13 _ _ (e1.ext _ _ q))
 have k17 := LH h16 xv v acc l sx hvs (by omega) (rdx h16 yY) (rd1.mono fun i c q => xG16 i c q) (hvx h16 yY) (fun x hx => ⟨(hv1 x hx).1.mono xG16, (hv1 x hx).2⟩)
 rw [dt m1] at k17
 have k18 := P2 h16 q wb bs (yY _ _ (x3 _ _ gq)) (rdb.mono fun i c q => xG16 _ _ (hx1 i c q)) hbs
 have xP4 := x4 _ _ xP
 have z4 := xG4 _ _ z1
 have z8 := xG8 _ _ z1
 have xP8 := e8.ext _ _ xP4
 have z1' := z1
 have hH3 := eH3.symm
 have ss : wm (h2.alloc [.aR]) h2.next 0 1 [xv] (some [.aR]) = some H3 := by rw [wM (by simp [f2, f1, fG]; omega) (by simp) sx, eH3]; rfl
 have gA : (h2.alloc [.aR]).get h2.next = some [.aR] := xY rfl
 refine wj (fn := AP.f193) (h2 := h16) (e := [(8, .bool true)]) rfl rfl rfl ?_ rfl rfl
 clear rd rd1 hv hv1 hx1 e1 c1 rdd rdb rdx hvx e4 x4 xG4 xG8 rbv rqv rw4 b8 b15 q8 yY xG16 rdq e8 low2 low3 x2 x3 x13 hD hD2 vs8 rdd4 s15 s16 t15 w4lt hbv hqv hr m1 al8
 generalize (if yS L = true then (0 : Int) else 1600) = C1 at *
 generalize (if (yS L && zW bs) = true then (0 : Int) else 1600) = C2 at *
 generalize ((y9 name % 8 : Nat) : Int) = CB at *
 simp (disch := omega) only [go_sem, xX, AP.f193, hvs, hn0, ← eG, z1, AG, k1, k2, gA, ss, sx, cx, xP, k4, z4, k5, k6, k7, xP4, k8, z8, k10, k11, k9, k12, k13, k14, k15, k16, xP16, z16, k17, k18, k0, Ts]
theorem Gq (r : List (Ty × List AV)) (h : r.map (·.1) = [Le, Qh, C8, C8]) (hp : ∀ x ∈ r, Sh reachBytes x.1 x.2) : aT AP.A 193 (r.map kR) H.empty = some (.bool true, H.empty) := by
 obtain ⟨x, y, z, w, rfl, h1, h2, h3, h4⟩ := Tv h hp
 obtain ⟨v, l, rfl, hv, rd, ok, hl⟩ := Qf h1
 obtain ⟨s, rfl, hs⟩ := Hr h2
 obtain ⟨wd, ds, rfl, _, rdd, hds⟩ := FE h3
 obtain ⟨wb, bs, rfl, _, rdb, hbs⟩ := FE h4
 exact IK H.empty v wd wb l s ds bs hv (by omega) (rd _) (fun x hx => ⟨(ok x hx).2.1 _, (ok x hx).1, (ok x hx).2.2⟩) (by omega) (rdd _) hds (rdb _) hbs
end Ab
