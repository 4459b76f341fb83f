/- Part C2. -/
import Derived.Test.YtlnpoabdcheleaaDoorC1
set_option linter.unusedSimpArgs false
set_option linter.unusedVariables false
set_option maxRecDepth 100000
namespace Ab
open Go
theorem Mx {k : IntKind} {i : Int} {n : Nat} (h : 0 ≤ i ∧ i < n) : dx (.int k i) n = some i.toNat := by simp [dx, pj, h]
def okB (b : Nat) : Bool := decide (97 ≤ b ∧ b ≤ 122 ∨ 48 ≤ b ∧ b ≤ 57 ∨ b = 46 ∨ b = 45 ∨ b = 95)
def yM (s : ByteArray) : Nat → Nat → Bool
 | 0, _ => false
 | n + 1, i => decide (i = zr s n) || yM s n i
def IA : ByteArray := ⟨#[97, 98, 99, 100, 101, 102, 103, 104, 105, 106, 107, 108, 109, 110, 111, 112, 113, 114, 115, 116, 117, 118, 119, 120, 121, 122, 48, 49, 50, 51, 52, 53, 54, 55, 56, 57, 46, 45, 95]⟩
def bT (P : Nat → Bool) : List AV := o7 256 fun i => .bool (P i)
theorem Av (P : Nat → Bool) : (bT P).length = 256 := by simp [bT]
theorem Jt (P : Nat → Bool) {i : Nat} (h : i < 256) : (bT P)[i]? = some (.bool (P i)) := gQ h
theorem Jv (s : ByteArray) (n : Nat) : (bT (yM s n)).set (zr s n) (.bool true) = bT (yM s (n + 1)) := by
 unfold bT
 rw [vJ (Ax s n)]
 congr 1
 funext i
 have e : yM s (n + 1) i = (decide (i = zr s n) || yM s n i) := rfl
 rw [e]
 unfold v9
 by_cases h : i = zr s n
 · simp [h]
 · simp [h]
theorem MB : bT (yM IA 39) = bT okB := by
 unfold bT o7
 refine List.map_congr_left fun i hi => ?_
 have hi' : i < 256 := List.mem_range.1 hi
 have : ∀ i, i < 256 → yM IA 39 i = okB i := by decide +kernel
 rw [this i hi']
theorem Cb (g : Nat → Option (List AV)) (fl n : Nat) (t : Bool) : ∀ l : List Bool, gH (snap g fl (n + 1) t) (l.map .bool) = some (l.map .bool)
 | [] => rfl
 | b :: l => by
   have := Cb g fl n t l
   simp only [O7, gH, this]; rfl
theorem Iw (g : Nat → Option (List AV)) (fl n : Nat) (t : Bool) (P : Nat → Bool) : gH (snap g fl (n + 1) t) (bT P) = some (bT P) := by
 have e : bT P = ((List.range 256).map P).map .bool := by unfold bT o7; rw [List.map_map]; rfl
 rw [e]; exact Cb g fl n t _
theorem GI (e : Env) : aZ e (.alloc [.bool false, .bool false, .bool false, .bool false, .bool false, .bool false, .bool false, .bool false, .bool false, .bool false, .bool false, .bool false, .bool false, .bool false, .bool false, .bool false, .bool false, .bool false, .bool false, .bool false, .bool false, .bool false, .bool false, .bool false, .bool false, .bool false, .bool false, .bool false, .bool false, .bool false, .bool false, .bool false, .bool false, .bool false, .bool false, .bool false, .bool false, .bool false, .bool false, .bool false, .bool false, .bool false, .bool false, .bool false, .bool false, .bool false, .bool false, .bool false, .bool false, .bool false, .bool false, .bool false, .bool false, .bool false, .bool false, .bool false, .bool false, .bool false, .bool false, .bool false, .bool false, .bool false, .bool false, .bool false, .bool false, .bool false, .bool false, .bool false, .bool false, .bool false, .bool false, .bool false, .bool false, .bool false, .bool false, .bool false, .bool false, .bool false, .bool false, .bool false, .bool false, .bool false, .bool false, .bool false, .bool false, .bool false, .bool false, .bool false, .bool false, .bool false, .bool false, .bool false, .bool false, .bool false, .bool false, .bool false, .bool false, .bool false, .bool false, .bool false, .bool false, .bool false, .bool false, .bool false, .bool false, .bool false, .bool false, .bool false, .bool false, .bool false, .bool false, .bool false, .bool false, .bool false, .bool false, .bool false, .bool false, .bool false, .bool false, .bool false, .bool false, .bool false, .bool false, .bool false, .bool false, .bool false, .bool false, .bool false, .bool false, .bool false, .bool false, .bool false, .bool false, .bool false, .bool false, .bool false, .bool false, .bool false, .bool false, .bool false, .bool false, .bool false, .bool false, .bool false, .bool false, .bool false, .bool false, .bool false, .bool false, .bool false, .bool false, .bool false, .bool false, .bool false, .bool false, .bool false, .bool false, .bool false, .bool false, .bool false, .bool false, .bool false, .bool false, .bool false, .bool false, .bool false, .bool false, .bool false, .bool false, .bool false, .bool false, .bool false, .bool false, .bool false, .bool false, .bool false, .bool false, .bool false, .bool false, .bool false, .bool false, .bool false, .bool false, .bool false, .bool false, .bool false, .bool false, .bool false, .bool false, .bool false, .bool false, .bool false, .bool false, .bool false, .bool false, .bool false, .bool false, .bool false, .bool false, .bool false, .bool false, .bool false, .bool false, .bool false, .bool false, .bool false, .bool false, .bool false, .bool false, .bool false, .bool false, .bool false, .bool false, .bool false, .bool false, .bool false, .bool false, .bool false, .bool false, .bool false, .bool false, .bool false, .bool false, .bool false, .bool false, .bool false, .bool false, .bool false, .bool false, .bool false, .bool false, .bool false, .bool false, .bool false, .bool false, .bool false, .bool false, .bool false, .bool false, .bool false, .bool false, .bool false, .bool false, .bool false, .bool false, .bool false, .bool false, .bool false, .bool false, .bool false, .bool false, .bool false, .bool false, .bool false, .bool false, .bool false]) = some (bT fun _ => false, fun i => .aE i 0) := rfl
theorem Fk (s : ByteArray) (hs : s.size < 100000) (h7 : ∀ i, i < s.size → zr s i < 128) (id : Nat) : ∀ (m n : Nat) (h : H), n + m = s.size → h.get id = some (bT (yM s n)) → h.floor ≤ id →
 ∃ e' h', Lp AP.A [0, 2, 4] AP.f127L0 [(0, .str s), (2, .aE id 0), (4, .int .i64 n)] h = some (.exit 0, e', h') ∧ look e' 2 = .aE id 0 ∧ h'.get id = some (bT (yM s s.size)) ∧ h'.floor = h.floor
 | 0, n, h, hn, hg, hf => by
   obtain rfl : n = s.size := by omega
   refine ⟨[(0, .str s), (2, .aE id 0), (4, .int .i64 s.size), (9, .bool false)], h, vo ?_, rfl, hg, rfl⟩
   simp (disch := omega) only [go_sem, xN, AP.f127L0]
 | m + 1, n, h, hn, hg, hf => by
   have g2 : (h.set id (bT (yM s (n + 1)))).get id = some (bT (yM s (n + 1))) := by rw [yu rfl, hg]; rfl
   obtain ⟨e', h', r1, r2, r3, r4⟩ := Fk s hs h7 id m (n + 1) _ (by omega) g2 (by simpa using hf)
   have n1 : ((n + 1 : Nat) : Int) = (n : Int) + 1 := by omega
   have hb := Ax s n
   have hb7 := h7 n (by omega)
   have ia : dx (.int .u8 (zr s n : Nat)) 256 = some (zr s n) := by rw [Mx (by omega)]; rfl
   have st : vZ h id (zr s n) 1 [.bool true] (some (bT (yM s n))) = some (h.set id (bT (yM s (n + 1)))) := by rw [wD hf (by rw [Av]; exact hb) rfl, Jv]
   refine ⟨e', h', vp ?_ r1, r2, r3, by rw [r4]; simp⟩
   rw [n1]
   generalize bT (yM s n) = T at *
   generalize bT (yM s (n + 1)) = T2 at *
   simp (disch := omega) only [go_sem, xN, AP.f127L0, ia, hg, st]
theorem A3 {h : H} {id n : Nat} {v cs : List AV} (hf : h.floor ≤ id) (hv : v.length = n) (hc : cs.length = n) (hs : AV.aD v = true) : vZ h id 0 n v (some cs) = some (h.set id v) := by
 rw [HG]
 have e : setFrom cs 0 v = v := by
  have := zg cs v [] [] (by omega)
  simpa using this
 simp [hf, hv, hc, hs, e, yB]
theorem I0 (P : Nat → Bool) : AV.aD (bT P) = true := by
 have e : bT P = ((List.range 256).map P).map .bool := by unfold bT o7; rw [List.map_map]; rfl
 rw [e]
 generalize (List.range 256).map P = l
 induction l with
 | nil => rfl
 | cons b l ih => simp [ih]
theorem Ma (P : Nat → Bool) : iT true 256 (bT P) 0 = some (.agg (bT P)) := by
 simp only [iT, if_true]
 rw [if_pos (by rw [Av]; omega), O0, xu (by rw [Av]; omega)]
theorem Iy (h : H) (s : ByteArray) (hs : s.size < 100000) (h7 : ∀ i, i < s.size → zr s i < 128) : aS AP.A 127 [.str s] h = some (.bV [.agg (bT (yM s s.size)), .bool true], h) := by
 obtain ⟨h1, eh1⟩ : ∃ g, g = h.eJ.alloc (bT fun _ => false) := ⟨_, rfl⟩
 have g1 : h1.get h.next = some (bT (yM s 0)) := by rw [eh1, xL (by simp)]; rfl
 obtain ⟨e', h', r1, r2, r3, r4⟩ := Fk s hs h7 h.next s.size 0 h1 (by omega) g1 (by rw [eh1]; simp)
 have r1' : Lp AP.A [0, 2, 4] AP.f127L0 [(0, .str s), (2, .aE h.next 0), (4, .int .i64 0)] h1 = some (.exit 0, e', h') := r1
 clear r1
 obtain ⟨h2, eh2⟩ : ∃ g, g = h'.set h.next (bT (yM s s.size)) := ⟨_, rfl⟩
 have st : vZ h' h.next 0 256 (bT (yM s s.size)) (some (bT (yM s s.size))) = some h2 := by
  rw [A3 (by rw [r4, eh1]; simp) (Av _) (Av _) (I0 _), eh2]
 have g2 : h2.get h.next = some (bT (yM s s.size)) := by rw [eh2, yu rfl, r3]; rfl
 have hn : h.eJ.next = h.next := rfl
 have rd := Ma (yM s s.size)
 refine vX (fn := AP.f127) (h2 := h2) (e := [(2, .aE h.next 0), (3, .bool true)]) (vs := [.agg (bT (yM s s.size)), .bool true]) rfl rfl rfl ?_ ?_ ?_
 · generalize bT (yM s s.size) = T at *
   simp (disch := omega) only [go_sem, AP.f127, GI, hn, ← eh1, uz, r1', r2, r3, rd, st]
 · simp only [AP.f127, cT, oS, oG, sS, g2, vh, rd, mU, ne_eq, Nat.reduceEqDiff, not_false_eq_true]
   rfl
 · show (gH (snap h2.get h.next 15 true) [.agg (bT (yM s s.size)), .bool true]).bind _ = _
   have m1 : snap h2.get h.next 15 true (.agg (bT (yM s s.size))) = some (.agg (bT (yM s s.size))) := by
    unfold snap; rw [Iw]; rfl
   simp only [gH, m1]; rfl
theorem I7 (h : H) (id b : Nat) (P : Nat → Bool) (hg : h.get id = some (bT P)) (hb : b < 256) : aS AP.A 132 [.aE id 0, .int .u8 b] h = some (.bool (P b), h) := by
 have ia : dx (.int .u8 b) 256 = some b := by rw [Mx (by omega)]; congr 1
 have g := Jt P hb
 refine vG (fn := AP.f132) (h2 := h) (e := [(4, .bool (P b))]) (vs := [.bool (P b)]) rfl rfl rfl ?_ rfl
 generalize bT P = T at *
 simp (disch := omega) only [go_sem, xN, AP.f132, ia, hg, g]
theorem GF {s : ByteArray} {n : Nat} (hn : n ≤ s.size) : po (.str s) none (some (.int .i64 n)) = some (.str (s.extract 0 n)) := HV hn
theorem HW {s : ByteArray} {n : Nat} (hn : n ≤ s.size) : po (.str s) (some (.int .i64 n)) none = some (.str (s.extract n s.size)) := by
 have : lL (.int .i64 n) s.size = some n := El hn
 simp [po, aC, this]
theorem Bt {s : ByteArray} {a b i : Nat} (hb : b ≤ s.size) (hi : a + i < b) : zr (s.extract a b) i = zr s (a + i) := by
 have e : (s.extract a b)[i]? = s[a + i]? := by
  show (s.extract a b).data[i]? = s.data[a + i]?
  rw [ByteArray.data_extract, Array.getElem?_extract]
  have : s.data.size = s.size := rfl
  rw [if_pos (by omega)]
 unfold zr; rw [e]
theorem A1 {s : ByteArray} {a b : Nat} (hb : b ≤ s.size) : (s.extract a b).size = b - a := by simp [ByteArray.size_extract]; omega
theorem Ff (s : ByteArray) : s.extract 0 s.size = s := by
 apply ByteArray.ext
 rw [ByteArray.data_extract]
 exact Array.extract_size
theorem Il (s : ByteArray) {n m : Nat} (hm : m ≤ n) : (s.extract 0 n).extract 0 m = s.extract 0 m := by
 apply ByteArray.ext
 rw [ByteArray.data_extract, ByteArray.data_extract, ByteArray.data_extract, Array.extract_extract]
 simp [hm]
theorem Cm (id : Nat) (P : Nat → Bool) (h : H) (hg : h.get id = some (bT P)) : ∀ (n : Nat) (s : ByteArray), s.size = n → n < 100000 →
 ∃ e' m, Lp AP.A [0, 1] AP.f129L0 [(0, .str s), (1, .aE id 0)] h = some (.exit 0, e', h) ∧ look e' 0 = .str (s.extract 0 m) ∧ m ≤ s.size ∧ (∀ i, m ≤ i → i < s.size → P (zr s i) = true) ∧ (0 < m → P (zr s (m - 1)) = false)
 | 0, s, hs, hn => by
   refine ⟨[(0, .str s), (1, .aE id 0), (7, .bool false)], 0, vo ?_, ?_, by omega, fun i h1 h2 => by omega, fun q => by omega⟩
   · simp (disch := omega) only [go_sem, xN, AP.f129L0]
   · show AV.str s = _
     congr 1
     have := Ff s
     rw [hs] at this
     exact this.symm
 | n + 1, s, hs, hn => by
   have hb := Ax s n
   have k1 := I7 h id (zr s n) P hg hb
   have n1 : (s.size : Int) - 1 = (n : Int) := by omega
   have sl := GF (s := s) (n := n) (by omega)
   by_cases c : P (zr s n) = true
   · rw [c] at k1
     obtain ⟨e', m, r1, r2, r3, r4, r5⟩ := Cm id P h hg n (s.extract 0 n) (by rw [A1 (by omega)]; omega) (by omega)
     rw [A1 (by omega)] at r3 r4
     refine ⟨e', m, vp ?_ r1, ?_, by omega, fun i h1 h2 => ?_, fun q => ?_⟩
     · simp (disch := omega) only [go_sem, xN, AP.f129L0, n1, k1, sl]
     · rw [r2]; congr 1; exact Il s r3
     · by_cases hi : i = n
       · rw [hi]; exact c
       · have := r4 i h1 (by omega)
         rwa [Bt (by omega) (by omega), w8] at this
     · have := r5 q
       rwa [Bt (by omega) (by omega), w8] at this
   · have c' : P (zr s n) = false := by simpa using c
     rw [c'] at k1
     refine ⟨[(0, .str s), (1, .aE id 0), (15, .bool true)], s.size, vo ?_, ?_, wV _, fun i h1 h2 => by omega, fun q => by rw [hs]; exact c'⟩
     · simp (disch := omega) only [go_sem, xN, AP.f129L0, n1, k1]
     · show AV.str s = _
       congr 1
       exact (Ff s).symm
theorem KH (s : ByteArray) {n : Nat} (h : s.size = n + 1) : (s.extract 1 s.size).size = n := by rw [A1 (wV _)]; omega
theorem CL (id : Nat) (P : Nat → Bool) (h : H) (hg : h.get id = some (bT P)) : ∀ (n : Nat) (s : ByteArray), s.size = n → n < 100000 → (0 < n → P (zr s (n - 1)) = false) →
 ∃ e' r, Lp AP.A [0, 1] AP.f128L0 [(0, .str s), (1, .aE id 0)] h = some (.exit 0, e', h) ∧ look e' 0 = .str r ∧ (r.size = 0 ↔ n = 0)
 | 0, s, hs, hn, hp => by
   refine ⟨[(0, .str s), (1, .aE id 0), (7, .bool false)], s, vo ?_, rfl, by omega⟩
   simp (disch := omega) only [go_sem, xN, AP.f128L0]
 | n + 1, s, hs, hn, hp => by
   have hb := Ax s 0
   have k1 := I7 h id (zr s 0) P hg hb
   have sl : po (.str s) (some (.int .i64 1)) none = some (.str (s.extract 1 s.size)) := HW (s := s) (n := 1) (by omega)
   have ix : nN (.str s) (.int .i64 0) = some (.int .u8 (zr s 0 : Nat)) := Dh (by omega)
   by_cases c : P (zr s 0) = true
   · rw [c] at k1
     have hn0 : n ≠ 0 := fun e => by subst e; have := hp (by omega); simp only [w8, Nat.sub_self] at this; rw [c] at this; cases this
     obtain ⟨e', r, r1, r2, r3⟩ := CL id P h hg n (s.extract 1 s.size) (KH s hs) (by omega) (fun q => by
      rw [Bt (wV _) (by omega), show 1 + (n - 1) = n + 1 - 1 by omega]; exact hp (by omega))
     refine ⟨e', r, vp ?_ r1, r2, by omega⟩
     clear hp
     simp (disch := omega) only [go_sem, dt, df, AG, AP.f128L0, k1, sl, ix, OW, O5]
   · have c' : P (zr s 0) = false := by simpa using c
     rw [c'] at k1
     refine ⟨[(0, .str s), (1, .aE id 0), (12, .bool true)], s, vo ?_, rfl, by omega⟩
     clear hp
     simp (disch := omega) only [go_sem, dt, df, AG, AP.f128L0, k1, sl, ix, OW, O5]
def BE (s : ByteArray) : Bool := (List.range s.size).all fun i => okB (zr s i)
theorem Cg : IA.size = 39 := rfl
theorem Ju : bT (yM IA IA.size) = bT okB := MB
theorem OA (h : H) (s : ByteArray) (id : Nat) (P : Nat → Bool) (hg : h.get id = some (bT P)) (hs : s.size < 100000) (hp : 0 < s.size → P (zr s (s.size - 1)) = false) : ∃ r, aS AP.A 128 [.str s, .aE id 0] h = some (.str r, h) ∧ (r.size = 0 ↔ s.size = 0) := by
 obtain ⟨e', r, r1, r2, r3⟩ := CL id P h hg s.size s rfl hs hp
 refine ⟨r, vG (fn := AP.f128) (h2 := h) (e := [(4, .str r)]) (vs := [.str r]) rfl rfl rfl ?_ rfl, r3⟩
 clear hp
 simp only [go_sem, AP.f128, uz, r1, r2]
theorem OC (h : H) (s : ByteArray) (id : Nat) (P : Nat → Bool) (hg : h.get id = some (bT P)) (hs : s.size < 100000) :
 ∃ m, aS AP.A 129 [.str s, .aE id 0] h = some (.str (s.extract 0 m), h) ∧ m ≤ s.size ∧ (∀ i, m ≤ i → i < s.size → P (zr s i) = true) ∧ (0 < m → P (zr s (m - 1)) = false) := by
 obtain ⟨e', m, r1, r2, r3, r4, r5⟩ := Cm id P h hg s.size s rfl hs
 refine ⟨m, vG (fn := AP.f129) (h2 := h) (e := [(4, .str (s.extract 0 m))]) (vs := [.str (s.extract 0 m)]) rfl rfl rfl ?_ rfl, r3, r4, r5⟩
 simp only [go_sem, AP.f129, uz, r1, r2]
theorem EY {a b : ByteArray} (h : a ≠ b) : (a.data.toList == b.data.toList) = false := by
 rw [beq_eq_false_iff_ne]
 intro e
 apply h
 apply ByteArray.ext
 exact Array.toList_inj.1 e
theorem HI (a : ByteArray) : (a.data.toList == a.data.toList) = true := by simp
theorem Ml (h : H) (s : ByteArray) (h0 : 0 < s.size) (hs : s.size < 100000) : ∃ r, aS AP.A 124 [.str s, .str IA] h = some (.str r, h) ∧ (r.size = 0 ↔ BE s = true) := by
 have m1 := Iy h.eJ IA (by rw [Cg]; omega) (by rw [Cg]; decide +kernel)
 rw [Ju] at m1
 obtain ⟨h1, eh1⟩ : ∃ g, g = h.eJ.alloc (bT fun _ => false) := ⟨_, rfl⟩
 have hn : h.eJ.next = h.next := rfl
 have g1 : h1.get h.next = some (bT fun _ => false) := by rw [eh1, xL (by simp)]
 obtain ⟨h2, eh2⟩ : ∃ g, g = h1.set h.next (bT okB) := ⟨_, rfl⟩
 have st : vZ h1 h.next 0 256 (bT okB) (some (bT fun _ => false)) = some h2 := by
  rw [A3 (by rw [eh1]; simp) (Av _) (Av _) (I0 _), eh2]
 have g2 : h2.get h.next = some (bT okB) := by rw [eh2, yu rfl, g1]; rfl
 obtain ⟨m, a1, a2, a3, a4⟩ := OC h2 s h.next okB g2 hs
 have sz := A1 (s := s) (a := 0) (b := m) a2
 obtain ⟨r, b1, b2⟩ := OA h2 (s.extract 0 m) h.next okB g2 (by omega) (fun q => by
  rw [sz, Nat.sub_zero, Bt a2 (by omega), w8]; exact a4 (by omega))
 refine ⟨r, ?_, ?_⟩
 · have e1 : bD .eql (.str s) (.str ⟨#[]⟩) = some (.bool false) := by
    rw [Bz, EY]; intro e; rw [e] at h0; exact absurd h0 (by decide)
   have e2 : bD .eql (.str IA) (.str ⟨#[]⟩) = some (.bool false) := by
    rw [Bz, EY]; intro e; have := Cg; rw [e] at this; exact absurd this (by decide)
   have l2 : jN true (.str IA) = some (.int .i64 39) := rfl
   refine vX (fn := AP.f124) (h2 := h2) (e := [(4, .str r)]) rfl rfl rfl ?_ rfl rfl
   clear a3 a4
   generalize bT okB = T at *
   generalize hT : (bT fun _ => false) = T0 at *
   have ba : ∀ e : Env, aZ e (.alloc [.bool false, .bool false, .bool false, .bool false, .bool false, .bool false, .bool false, .bool false, .bool false, .bool false, .bool false, .bool false, .bool false, .bool false, .bool false, .bool false, .bool false, .bool false, .bool false, .bool false, .bool false, .bool false, .bool false, .bool false, .bool false, .bool false, .bool false, .bool false, .bool false, .bool false, .bool false, .bool false, .bool false, .bool false, .bool false, .bool false, .bool false, .bool false, .bool false, .bool false, .bool false, .bool false, .bool false, .bool false, .bool false, .bool false, .bool false, .bool false, .bool false, .bool false, .bool false, .bool false, .bool false, .bool false, .bool false, .bool false, .bool false, .bool false, .bool false, .bool false, .bool false, .bool false, .bool false, .bool false, .bool false, .bool false, .bool false, .bool false, .bool false, .bool false, .bool false, .bool false, .bool false, .bool false, .bool false, .bool false, .bool false, .bool false, .bool false, .bool false, .bool false, .bool false, .bool false, .bool false, .bool false, .bool false, .bool false, .bool false, .bool false, .bool false, .bool false, .bool false, .bool false, .bool false, .bool false, .bool false, .bool false, .bool false, .bool false, .bool false, .bool false, .bool false, .bool false, .bool false, .bool false, .bool false, .bool false, .bool false, .bool false, .bool false, .bool false, .bool false, .bool false, .bool false, .bool false, .bool false, .bool false, .bool false, .bool false, .bool false, .bool false, .bool false, .bool false, .bool false, .bool false, .bool false, .bool false, .bool false, .bool false, .bool false, .bool false, .bool false, .bool false, .bool false, .bool false, .bool false, .bool false, .bool false, .bool false, .bool false, .bool false, .bool false, .bool false, .bool false, .bool false, .bool false, .bool false, .bool false, .bool false, .bool false, .bool false, .bool false, .bool false, .bool false, .bool false, .bool false, .bool false, .bool false, .bool false, .bool false, .bool false, .bool false, .bool false, .bool false, .bool false, .bool false, .bool false, .bool false, .bool false, .bool false, .bool false, .bool false, .bool false, .bool false, .bool false, .bool false, .bool false, .bool false, .bool false, .bool false, .bool false, .bool false, .bool false, .bool false, .bool false, .bool false, .bool false, .bool false, .bool false, .bool false, .bool false, .bool false, .bool false, .bool false, .bool false, .bool false, .bool false, .bool false, .bool false, .bool false, .bool false, .bool false, .bool false, .bool false, .bool false, .bool false, .bool false, .bool false, .bool false, .bool false, .bool false, .bool false, .bool false, .bool false, .bool false, .bool false, .bool false, .bool false, .bool false, .bool false, .bool false, .bool false, .bool false, .bool false, .bool false, .bool false, .bool false, .bool false, .bool false, .bool false, .bool false, .bool false, .bool false, .bool false, .bool false, .bool false, .bool false, .bool false, .bool false, .bool false, .bool false, .bool false, .bool false, .bool false, .bool false, .bool false, .bool false, .bool false, .bool false, .bool false, .bool false, .bool false, .bool false, .bool false, .bool false, .bool false]) = some (T0, fun i => .aE i 0) := fun e => by rw [GI, hT]
   simp (disch := omega) only [go_sem, AP.f124, ba, hn, ← eh1, e1, e2, l2, Oq, m1, g1, st, a1, b1]
 · rw [b2, sz]
   unfold BE
   rw [List.all_eq_true]
   constructor
   · intro q i hi
     exact a3 i (by omega) (List.mem_range.1 hi)
   · intro q
     by_cases hm : m = 0
     · omega
     · have := a4 (by omega)
       rw [q (m - 1) (List.mem_range.2 (by omega))] at this
       cases this
def Ky : ByteArray := ⟨#[46]⟩
def GR : ByteArray := ⟨#[46, 46]⟩
def zf (s : ByteArray) : Bool := decide (1 ≤ s.size) && (decide (s.size ≤ 8) && (BE s && (!(s.data.toList == Ky.data.toList) && !(s.data.toList == GR.data.toList))))
theorem LY (h : H) (s : ByteArray) (hs : s.size < 1125899906842624) : aS AP.A 121 [.str s] h = some (.bool (zf s), h) := by
 refine vX (fn := AP.f121) (h2 := h.eJ) (e := [(2, .bool (zf s))]) rfl rfl rfl ?_ rfl rfl
 unfold zf
 by_cases c1 : 1 ≤ s.size
 · by_cases c2 : s.size ≤ 8
   · obtain ⟨r, t1, t2⟩ := Ml h.eJ s (by omega) (by omega)
     have t1' : aS AP.A 124 [.str s, .str ⟨#[97, 98, 99, 100, 101, 102, 103, 104, 105, 106, 107, 108, 109, 110, 111, 112, 113, 114, 115, 116, 117, 118, 119, 120, 121, 122, 48, 49, 50, 51, 52, 53, 54, 55, 56, 57, 46, 45, 95]⟩] h.eJ = some (.str r, h.eJ) := t1
     have e1 : bD .eql (.str r) (.str ⟨#[]⟩) = some (.bool (BE s)) := by
      rw [Bz]
      by_cases q : BE s = true
      · rw [q]
        have : r = ⟨#[]⟩ := by
         apply ByteArray.ext
         exact Array.size_eq_zero_iff.1 (t2.2 q)
        rw [this, HI]
      · have q' : BE s = false := by simpa using q
        rw [q', EY]
        intro e
        rw [e] at t2
        exact q (t2.1 rfl)
     have e2 : bD .neq (.str s) (.str ⟨#[46]⟩) = some (.bool (!(s.data.toList == Ky.data.toList))) := BA _ _
     have e3 : bD .neq (.str s) (.str ⟨#[46, 46]⟩) = some (.bool (!(s.data.toList == GR.data.toList))) := BA _ _
     clear t1 t2
     generalize (!(s.data.toList == Ky.data.toList)) = B2 at *
     generalize (!(s.data.toList == GR.data.toList)) = B3 at *
     generalize BE s = B1 at *
     cases B1 <;> cases B2 <;> cases B3 <;> simp (disch := omega) only [go_sem, xN, AP.f121, t1', e1, e2, e3]
   · simp (disch := omega) only [go_sem, xN, AP.f121]
 · simp (disch := omega) only [go_sem, xN, AP.f121]
structure Tok where
 lit : Int
 len : Int
 OM : Int
deriving DecidableEq
def Ext (h g : H) : Prop := ∀ id c, h.get id = some c → g.get id = some c
theorem Ext.refl (h : H) : Ext h h := fun _ _ q => q
theorem Ext.trans {a b c : H} (x : Ext a b) (y : Ext b c) : Ext a c := fun i d q => y i d (x i d q)
theorem Ext.alloc {a h : H} (x : Ext a h) (cs : List AV) : Ext a (h.alloc cs) := fun i d q => by
 have := h.lt _ _ (x i d q)
 rw [H.aX, if_neg (by omega)]; exact x i d q
theorem Ext.set {a h : H} (x : Ext a h) {id : Nat} (hid : a.next ≤ id) (cs : List AV) : Ext a (h.set id cs) := fun i d q => by
 have := a.lt _ _ q
 rw [H.dU, if_neg (by omega)]; exact x i d q
def yU (n : Int) : Bool := decide (0 ≤ n) && decide (n ≤ 1048576)
theorem Fa (h : H) (n : Int) : aS AP.A 119 [.int .i64 n] h = some (.bool (yU n), h) := by
 refine vX (fn := AP.f119) (h2 := h.eJ) (e := [(2, .bool (yU n))]) rfl rfl rfl ?_ rfl rfl
 unfold yU
 by_cases c1 : 0 ≤ n <;> by_cases c2 : n ≤ 1048576 <;> simp (disch := omega) only [go_sem, xN, AP.f119]
def CR (n : Int) : Bool := decide (0 ≤ n) && decide (n < 4)
theorem LZ (h : H) (n : Int) : aS AP.A 120 [.int .i64 n] h = some (.bool (CR n), h) := by
 refine vX (fn := AP.f120) (h2 := h.eJ) (e := [(2, .bool (CR n))]) rfl rfl rfl ?_ rfl rfl
 unfold CR
 by_cases c1 : 0 ≤ n <;> by_cases c2 : n < 4 <;> simp (disch := omega) only [go_sem, xN, AP.f120]
def FD (v : AV) : Bool := match v with | .int .i64 n => !yU n | _ => false
theorem Gp (h : H) (n : Int) : aS AP.A 123 [.int .i64 n] h = some (.bool (!yU n), h) := by
 have k1 := Fa h.eJ n
 refine vX (fn := AP.f123) (h2 := h.eJ) (e := [(2, .bool (!yU n))]) rfl rfl rfl ?_ rfl rfl
 simp (disch := omega) only [go_sem, xN, AP.f123, k1]
def Gq (l : List Int) : Bool := decide (l.length = 4) && l.all yU
theorem Bg : ∀ l : List Int, (ints l).any FD = !l.all yU
 | [] => rfl
 | n :: l => by
   have := Bg l
   simp only [ints, O7, List.any_cons, List.all_cons, Bool.not_and] at *
   rw [this]; rfl
theorem Oc (h : H) (v : AV) (l : List Int) (rd : Rd h v (ints l)) (hl : l.length < 1125899906842624) : aS AP.A 117 [v] h = some (.bool (Gq l), h) := by
 have rd' := rd.mono (xP h)
 have ln := rd'.len
 rw [qZ] at ln
 simp only [I] at ln
 refine vX (fn := AP.f117) (h2 := h.eJ) (e := [(2, .bool (Gq l))]) rfl rfl rfl ?_ rfl rfl
 unfold Gq
 by_cases c : l.length = 4
 · have k1 := BR (fv := .fn 123 [] []) FD (fun x hx g => by
    obtain ⟨n, hn, rfl⟩ := List.mem_map.1 hx
    rw [pA]; exact Gp g n) (by simp; omega) h.eJ rd'
   rw [Bg] at k1
   have c' : (l.length : Int) = 4 := by omega
   simp (disch := omega) only [go_sem, xN, AP.f117, ln, k1, Bool.not_not]
 · have c' : ¬ (l.length : Int) = 4 := by omega
   simp (disch := omega) only [go_sem, xN, AP.f117, ln]
theorem Rd.Ai {h : H} {v : AV} {l : List Int} (r : Rd h v (ints l)) : ∃ ad : Int → AV, (∀ i : Int, 0 ≤ i ∧ i < l.length → gS 1 v (.int .i64 i) = some (ad i)) ∧
 ∀ g : H, Ext h g → ∀ (i : Nat) (n : Int), l[i]? = some n → bZ false 1 (ad i) g = some (.int .i64 n) := by
 have r2 := r.Ms
 rw [qZ] at r2
 obtain ⟨ad, a1, _, _, a3⟩ := r2.at_
 refine ⟨fun i => ad i 0, a1, fun g hg i n hn => ?_⟩
 have hi : i < l.length := (wR.1 hn).1
 refine (a3 g hg).1 i 0 _ ⟨by omega, by omega⟩ ?_
 rw [zq, Pd, Nat.add_zero]
 exact uW hn
structure yd where
 name : ByteArray
 gone : Bool
 vec : List Int
 xR : Int
 node : Int
 method : Int
 packed : ByteArray
 size : Int
 Dc : Int
def xW (e : yd) (v : AV) : List AV := [.str e.name, .bool e.gone, v, .int .i64 e.xR, .int .i64 e.node, .int .i64 e.method, .str e.packed, .int .i64 e.size, .int .i64 e.Dc]
def yL (e : yd) : Bool := Gq e.vec && (decide (1 ≤ e.xR) && (yU e.xR && CR e.node))
structure PE (h : H) (p : AV) (cs : List AV) : Prop where
 nil : ∀ g : H, kh g p = some (p, g)
 vz : ∃ q : Nat → AV, (∀ k, fS k p = some (q k)) ∧ ∀ g : H, Ext h g → ∀ (k : Nat) (c : AV), cs[k]? = some c → bZ false 1 (q k) g = some c
theorem G9 (h : H) (p v : AV) (e : yd) (pe : PE h p (xW e v)) (rd : Rd h v (ints e.vec)) (hl : e.vec.length < 1125899906842624) : aS AP.A 112 [p] h = some (.bool (yL e), h) := by
 have nl := pe.nil
 obtain ⟨q, f1, f2⟩ := pe.vz
 have l2 := f2 h (Ext.refl h) 2 v rfl
 have l3 := f2 h (Ext.refl h) 3 _ rfl
 have l4 := f2 h (Ext.refl h) 4 _ rfl
 have k1 := Oc h v e.vec rd hl
 have k2 := Fa h e.xR
 have k3 := LZ h e.node
 have c2 : yU e.xR = true → 1 ≤ e.xR → True := fun _ _ => trivial
 refine vG (fn := AP.f112) (h2 := h) (e := [(2, .bool (yL e))]) (vs := [.bool (yL e)]) rfl rfl rfl ?_ rfl
 unfold yL
 clear pe f2 rd c2
 generalize Gq e.vec = B1 at *
 generalize yU e.xR = B2 at *
 generalize CR e.node = B3 at *
 by_cases c1 : 1 ≤ e.xR <;> cases B1 <;> cases B2 <;> cases B3 <;> simp (disch := omega) only [go_sem, xN, AP.f112, nl, f1, l2, l3, l4, k1, k2, k3]
def D7 (s : ByteArray) : Bool := s.data.toList == (⟨#[]⟩ : ByteArray).data.toList
def y8 (e : yd) : Bool :=
 if e.gone then decide (e.method = 0) && (D7 e.packed && (decide (e.size = 0) && decide (e.Dc = 0)))
 else (decide (0 ≤ e.size) && (decide (e.size ≤ 300) && CI e.Dc)) && (decide (e.method = 0) && decide ((e.packed.size : Int) = e.size) || decide (e.method = 8) && decide (e.packed.size ≤ 300))
theorem FT (h : H) (p v : AV) (e : yd) (pe : PE h p (xW e v)) : aS AP.A 122 [p] h = some (.bool (y8 e), h) := by
 have nl := pe.nil
 obtain ⟨q, f1, f2⟩ := pe.vz
 have l1 := f2 h (Ext.refl h) 1 _ rfl
 have l5 := f2 h (Ext.refl h) 5 _ rfl
 have l6 := f2 h (Ext.refl h) 6 _ rfl
 have l7 := f2 h (Ext.refl h) 7 _ rfl
 have l8 := f2 h (Ext.refl h) 8 _ rfl
 have k1 := N3 h e.Dc
 have e1 : bD .eql (.str e.packed) (.str ⟨#[]⟩) = some (.bool (D7 e.packed)) := Bz _ _
 refine vG (fn := AP.f122) (h2 := h) (e := [(2, .bool (y8 e))]) (vs := [.bool (y8 e)]) rfl rfl rfl ?_ rfl
 unfold y8
 clear pe f2
 generalize D7 e.packed = B1 at *
 generalize CI e.Dc = B2 at *
 cases hg : e.gone with
 | true =>
   rw [hg] at l1
   rw [if_pos rfl]
   by_cases c1 : e.method = 0
   · cases B1 with
     | false => simp (disch := omega) only [go_sem, xN, AP.f122, nl, f1, l1, l5, l6, l7, l8, e1]
     | true =>
       by_cases c2 : e.size = 0
       · by_cases c3 : e.Dc = 0 <;> simp (disch := omega) only [go_sem, xN, AP.f122, nl, f1, l1, l5, l6, l7, l8, e1]
       · simp (disch := omega) only [go_sem, xN, AP.f122, nl, f1, l1, l5, l6, l7, l8, e1]
   · simp (disch := omega) only [go_sem, xN, AP.f122, nl, f1, l1, l5, l6, l7, l8, e1]
 | false =>
   rw [hg] at l1
   rw [if_neg (by decide)]
   by_cases c1 : e.method = 0
   · have c1' : ¬ e.method = 8 := by omega
     by_cases c2 : (e.packed.size : Int) = e.size
     · by_cases c3 : 0 ≤ e.size
       · by_cases c4 : e.size ≤ 300
         · cases B2 <;> simp (disch := omega) only [go_sem, xN, AP.f122, nl, f1, l1, l5, l6, l7, l8, e1, k1]
         · simp (disch := omega) only [go_sem, xN, AP.f122, nl, f1, l1, l5, l6, l7, l8, e1, k1]
       · exfalso; omega
     · simp (disch := omega) only [go_sem, xN, AP.f122, nl, f1, l1, l5, l6, l7, l8, e1, k1]
   · by_cases c0 : e.method = 8
     · by_cases c2 : e.packed.size ≤ 300
       · by_cases c3 : 0 ≤ e.size
         · by_cases c4 : e.size ≤ 300
           · cases B2 <;> simp (disch := omega) only [go_sem, xN, AP.f122, nl, f1, l1, l5, l6, l7, l8, e1, k1]
           · simp (disch := omega) only [go_sem, xN, AP.f122, nl, f1, l1, l5, l6, l7, l8, e1, k1]
         · simp (disch := omega) only [go_sem, xN, AP.f122, nl, f1, l1, l5, l6, l7, l8, e1, k1]
       · simp (disch := omega) only [go_sem, xN, AP.f122, nl, f1, l1, l5, l6, l7, l8, e1, k1]
     · simp (disch := omega) only [go_sem, xN, AP.f122, nl, f1, l1, l5, l6, l7, l8, e1, k1]
def zV (prev : Option yd) (e : yd) : Bool := zf e.name && ((match prev with | none => true | some p => Op.bytesLess p.name.toList e.name.toList) && (yL e && y8 e))
theorem Fe (e : yd) : zV none e = (zf e.name && (yL e && y8 e)) := by simp [zV]
theorem Ij (p e : yd) : zV (some p) e = (zf e.name && (Op.bytesLess p.name.toList e.name.toList && (yL e && y8 e))) := rfl
def zQ : Option yd → List yd → Bool
 | _, [] => true
 | p, e :: r => zV p e && zQ (some e) r
abbrev xZ := yd × AV
def KF (x : xZ) : List AV := xW x.1 x.2
def xV (l : List xZ) : List AV := l.flatMap KF
theorem AQ (x : xZ) : (KF x).length = 9 := rfl
theorem Af (l : List xZ) : (xV l).length = l.length * 9 := GY AQ l
structure zc (h : H) (x : xZ) : Prop where
 vec : Rd h x.2 (ints x.1.vec)
 vl : x.1.vec.length < 1125899906842624
 nl : x.1.name.size < 1125899906842624
 pl : x.1.packed.size < 1125899906842624
theorem zc.mono {h g : H} {x : xZ} (o : zc h x) (e : Ext h g) : zc g x := ⟨o.vec.mono fun i c q => e i c q, o.vl, o.nl, o.pl⟩
theorem FI {v : AV} {l : List xZ} (hn : l.length < 1125899906842624) (h : H) (b : Nat) (hb : h.get b = some [v]) (rd : zk 9 h v l.length (xV l)) (hv : ∀ x ∈ l, zc h x) : ∀ (q p : List xZ), l = p ++ q →
 (∃ e', Lp AP.A [1, 7, 8] AP.f113L0 [(1, .aE b 0), (7, .int .i64 l.length), (8, .int .i64 p.length)] h = some (.exit 0, e', h) ∧ look e' 1 = .aE b 0 ∧ zQ (p.getLast?.map (·.1)) (q.map (·.1)) = true) ∨
 (∃ e', Lp AP.A [1, 7, 8] AP.f113L0 [(1, .aE b 0), (7, .int .i64 l.length), (8, .int .i64 p.length)] h = some (.ret, e', h) ∧ look e' 2 = .bool false ∧ zQ (p.getLast?.map (·.1)) (q.map (·.1)) = false)
 | [], p, hp => by
   left
   rw [OZ] at hp; subst hp
   refine ⟨[(1, .aE b 0), (7, .int .i64 l.length), (8, .int .i64 l.length), (9, .bool false)], vo ?_, rfl, rfl⟩
   simp (disch := omega) only [go_sem, xN, AP.f113L0]
 | x :: q, p, hp => by
   have hlen : l.length = p.length + (q.length + 1) := by rw [hp]; simp
   have hx : l[p.length]? = some x := by rw [hp]; simp
   have ho := hv x (by rw [hp]; simp)
   obtain ⟨ad, a1, a2, a4, a3⟩ := rd.at_
   have hI : (0 : Int) ≤ (p.length : Int) ∧ (p.length : Int) < l.length := ⟨by omega, by omega⟩
   have b1 := a1 _ hI
   have pe : PE h (ad p.length 0) (xW x.1 x.2) := by
    refine ⟨fun g => a4 _ 0 g hI, fun k => ad p.length (0 + k), fun k => a2 _ 0 k hI, fun g hg k c hc => ?_⟩
    have hk : k < 9 := (wR.1 hc).1
    refine (a3 g hg).1 _ _ _ hI ?_
    rw [zq, w8, show xV l = l.flatMap KF from rfl, BV AQ hx hk]; exact hc
   have k1 := LY h x.1.name ho.nl
   have k2 := G9 h _ _ x.1 pe ho.vec ho.vl
   have k3 := FT h _ _ x.1 pe
   have nl := pe.nil
   obtain ⟨qq, f1, f2⟩ := pe.vz
   have l0 := f2 h (Ext.refl h) 0 _ rfl
   have ih := FI hn h b hb rd hv q (p ++ [x]) (by rw [hp]; simp)
   have w1 : (((p ++ [x]).length : Nat) : Int) = (p.length : Int) + 1 := by simp
   rw [w1, List.getLast?_concat] at ih
   have step : aM (aS AP.A) bH AP.f113L0 (az [(1, .aE b 0), (7, .int .i64 l.length), (8, .int .i64 p.length)] [1, 7, 8]) h = if zV (p.getLast?.map (·.1)) x.1 then some (.normal, [(1, .aE b 0), (7, .int .i64 l.length), (8, .int .i64 ((p.length : Int) + 1))], h) else some (.ret, [(2, .bool false)], h) := by
    cases hl : p.getLast? with
    | none =>
      have hp0 : p = [] := List.getLast?_eq_none_iff.1 hl
      have hp1 : p.length = 0 := by rw [hp0]; rfl
      clear ih w1 pe f2 a1 a2 a3 a4 hl hv hp ho hx
      rw [O5, Fe]
      generalize zf x.1.name = B1 at *
      generalize yL x.1 = B3 at *
      generalize y8 x.1 = B4 at *
      cases B1 with
      | false =>
        rw [O6, if_neg (by decide)]
        simp (disch := omega) only [go_sem, xN, AP.f113L0, hb, b1, nl, f1, l0, k1, k2, k3]
      | true =>
        cases B3 with
        | false =>
          rw [O6, O8, if_neg (by decide)]
          simp (disch := omega) only [go_sem, xN, AP.f113L0, hb, b1, nl, f1, l0, k1, k2, k3]
        | true =>
          cases B4 with
          | false =>
            rw [O8, O8, if_neg (by decide)]
            simp (disch := omega) only [go_sem, xN, AP.f113L0, hb, b1, nl, f1, l0, k1, k2, k3]
          | true =>
            rw [Bool.and_self, Bool.and_self, if_pos rfl]
            simp (disch := omega) only [go_sem, xN, AP.f113L0, hb, b1, nl, f1, l0, k1, k2, k3]
    | some y =>
      obtain ⟨p', rfl⟩ : ∃ p', p = p' ++ [y] := List.getLast?_eq_some_iff.1 hl
      have hpl : (p' ++ [y]).length = p'.length + 1 := by simp
      have hy : l[p'.length]? = some y := by rw [hp]; simp
      have hJ : (0 : Int) ≤ (p'.length : Int) ∧ (p'.length : Int) < l.length := ⟨by omega, by omega⟩
      have bj := a1 _ hJ
      have fj := a2 _ 0 0 hJ
      have lj := (a3 h (Ext.refl h)).1 p'.length (0 + 0) (.str y.1.name) hJ (by
       rw [zq, show xV l = l.flatMap KF from rfl, w8, BV AQ hy (by omega)]; rfl)
      have cmp : bD .geq (.str y.1.name) (.str x.1.name) = some (.bool (!(Op.bytesLess y.1.name.toList x.1.name.toList))) := rfl
      have n2 : (((p' ++ [y]).length : Nat) : Int) - 1 = (p'.length : Int) := by rw [hpl]; omega
      clear ih w1 pe f2 a1 a2 a3 a4 hl hv hp ho hx hy
      rw [OW, Ij]
      simp only [Nat.add_zero] at fj lj
      generalize Op.bytesLess y.1.name.toList x.1.name.toList = B2 at *
      generalize zf x.1.name = B1 at *
      generalize yL x.1 = B3 at *
      generalize y8 x.1 = B4 at *
      generalize (p' ++ [y]).length = pl at *
      cases B1 with
      | false =>
        rw [O6, if_neg (by decide)]
        simp (disch := omega) only [go_sem, xN, AP.f113L0, hb, b1, nl, f1, l0, k1, k2, k3, bj, fj, lj, cmp, n2]
      | true =>
        cases B2 with
        | false =>
          rw [O6, O8, if_neg (by decide)]
          simp (disch := omega) only [go_sem, xN, AP.f113L0, hb, b1, nl, f1, l0, k1, k2, k3, bj, fj, lj, cmp, n2]
        | true =>
          cases B3 with
          | false =>
            rw [O6, O8, O8, if_neg (by decide)]
            simp (disch := omega) only [go_sem, xN, AP.f113L0, hb, b1, nl, f1, l0, k1, k2, k3, bj, fj, lj, cmp, n2]
          | true =>
            cases B4 with
            | false =>
              rw [O8, O8, O8, if_neg (by decide)]
              simp (disch := omega) only [go_sem, xN, AP.f113L0, hb, b1, nl, f1, l0, k1, k2, k3, bj, fj, lj, cmp, n2]
            | true =>
              rw [Bool.and_self, Bool.and_self, Bool.and_self, if_pos rfl]
              simp (disch := omega) only [go_sem, xN, AP.f113L0, hb, b1, nl, f1, l0, k1, k2, k3, bj, fj, lj, cmp, n2]
   have hmay : zQ (p.getLast?.map (·.1)) ((x :: q).map (·.1)) = (zV (p.getLast?.map (·.1)) x.1 && zQ (some x.1) (q.map (·.1))) := rfl
   rw [hmay]
   by_cases hok : zV (p.getLast?.map (·.1)) x.1 = true
   · rw [if_pos hok] at step
     rw [hok, Bool.true_and]
     rcases ih with ⟨e', r1, r2, r3⟩ | ⟨e', r1, r2, r3⟩
     · exact .inl ⟨e', vp step r1, r2, r3⟩
     · exact .inr ⟨e', vp step r1, r2, r3⟩
   · have hok' : zV (p.getLast?.map (·.1)) x.1 = false := by simpa using hok
     rw [if_neg hok] at step
     rw [hok', O6]
     exact .inr ⟨_, vN step, rfl, rfl⟩
def zK (l : List yd) : Bool := zQ none l && decide (l.length ≤ 6)
theorem HS (h : H) (v : AV) (l : List xZ) (hvs : v.sc = true) (hn : l.length < 1125899906842624) (rd : zk 9 h v l.length (xV l)) (hv : ∀ x ∈ l, zc h x) : aS AP.A 113 [.agg [v]] h = some (.bool (zK (l.map (·.1))), h) := by
 obtain ⟨h1, eh1⟩ : ∃ g, g = h.eJ.alloc [v] := ⟨_, rfl⟩
 have hx : Ext h.eJ h1 := by rw [eh1]; exact (Ext.refl _).alloc _
 have hx0 : Ext h h1 := fun i c q => hx i c q
 have hn0 : h.eJ.next = h.next := rfl
 have g1 : h1.get h.next = some [v] := by rw [eh1]; exact xL rfl
 have rd1 := rd.mono fun i c q => hx0 i c q
 have ln := rd1.len
 have hb : ∀ ev : Env, look ev 0 = .agg [v] → aZ ev (.box 1 (.t 0)) = some ([v], fun i => .aE i 0) := by
  intro ev q
  simp only [aZ, uD, q, mJ]
  rw [if_pos ⟨rfl, by simp [hvs]⟩]
 unfold zK
 rcases FI hn h1 h.next g1 rd1 (fun x hx => (hv x hx).mono hx0) l [] rfl with ⟨e', r1, r2, r3⟩ | ⟨e', r1, r2, r3⟩
 · have r1' : Lp AP.A [1, 7, 8] AP.f113L0 [(1, .aE h.next 0), (7, .int .i64 l.length), (8, .int .i64 0)] h1 = some (.exit 0, e', h1) := r1
   clear r1
   have r3' : zQ none (l.map (·.1)) = true := r3
   rw [r3', Bool.true_and, OX]
   refine vX (fn := AP.f113) (h2 := h1) (e := [(2, .bool (decide (l.length ≤ 6)))]) rfl rfl rfl ?_ rfl rfl
   clear rd rd1 hv hx hx0 r3 r3'
   simp only [oP, oQ, AP.f113]
   rw [uh, uf, u9, jG, hb _ rfl]
   simp only [nV, hn0, ← eh1]
   by_cases c : l.length ≤ 6
   · simp (disch := omega) only [go_sem, xN, g1, ln, uz, r1', r2]
   · simp (disch := omega) only [go_sem, xN, g1, ln, uz, r1', r2]
 · have r1' : Lp AP.A [1, 7, 8] AP.f113L0 [(1, .aE h.next 0), (7, .int .i64 l.length), (8, .int .i64 0)] h1 = some (.ret, e', h1) := r1
   clear r1
   have r3' : zQ none (l.map (·.1)) = false := r3
   rw [r3', O6]
   refine vX (fn := AP.f113) (h2 := h1) (e := e') (vs := [.bool false]) rfl rfl rfl ?_ (by simp only [AP.f113, cT, oS, r2]; rfl) rfl
   clear rd rd1 hv hx hx0 r3 r3'
   simp only [oP, oQ, AP.f113]
   rw [uh, uf, u9, jG, hb _ rfl]
   simp only [nV, hn0, ← eh1]
   simp (disch := omega) only [go_sem, xN, g1, ln, uz, r1']
def Ao (method : Int) (s : ByteArray) (size : Int) : Option ByteArray :=
 if size < 0 ∨ 300 < size then none
 else if method = 0 then (if (s.size : Int) = size then some s else none)
 else if method = 8 then (match zE s size with
  | .ok (o, took) => if (o.length : Int) = size ∧ took = s.size then some (bytesOf o) else none
  | .error _ => none)
 else none
theorem DA {m : Int} {s : ByteArray} {z : Int} {t : ByteArray} (h : Ao m s z = some t) : (t.size : Int) = z ∧ 0 ≤ z ∧ z ≤ 300 := by
 unfold Ao at h
 split at h
 · cases h
 · rename_i q
   split at h
   · split at h
     · rename_i q2; obtain rfl := wL h; omega
     · cases h
   · split at h
     · split at h
       · split at h
         · rename_i q2
           obtain rfl := wL h
           rw [ya]; omega
         · cases h
       · cases h
     · cases h
def Mo : Option ByteArray → AV
 | some t => .bV [.str t, .int .i64 0]
 | none => .bV [.str ⟨#[]⟩, .int .i64 900]
theorem HO (h : H) (hf : h.floor ≤ h.next) (m : Int) (s : ByteArray) (z : Int) (hs : s.size < 1125899906842624) : aS AP.A 114 [.int .i64 m, .str s, .int .i64 z] h = some (Mo (Ao m s z), h) := by
 unfold Ao
 by_cases c1 : z < 0
 · rw [if_pos (.inl c1)]
   refine vX (fn := AP.f114) (h2 := h.eJ) (e := [(6, .str ⟨#[]⟩), (7, .int .i64 900)]) rfl rfl rfl ?_ rfl rfl
   simp (disch := omega) only [go_sem, xN, AP.f114]
 by_cases c2 : 300 < z
 · rw [if_pos (.inr c2)]
   refine vX (fn := AP.f114) (h2 := h.eJ) (e := [(6, .str ⟨#[]⟩), (7, .int .i64 900)]) rfl rfl rfl ?_ rfl rfl
   simp (disch := omega) only [go_sem, xN, AP.f114]
 rw [if_neg (by omega)]
 by_cases c3 : m = 0
 · rw [if_pos c3]
   by_cases c4 : (s.size : Int) = z
   · rw [if_pos c4]
     refine vX (fn := AP.f114) (h2 := h.eJ) (e := [(6, .str s), (7, .int .i64 0)]) rfl rfl rfl ?_ rfl rfl
     simp (disch := omega) only [go_sem, xN, AP.f114]
   · rw [if_neg c4]
     refine vX (fn := AP.f114) (h2 := h.eJ) (e := [(6, .str ⟨#[]⟩), (7, .int .i64 900)]) rfl rfl rfl ?_ rfl rfl
     simp (disch := omega) only [go_sem, xN, AP.f114]
 rw [if_neg c3]
 by_cases c5 : m = 8
 · rw [if_pos c5]
   have k1 := F3 h.eJ (by simp) s z hs
   simp only [I] at k1
   cases hi : zE s z with
   | error k =>
     rw [hi] at k1
     simp only [LW, I] at k1
     have hk := Di hi
     have hk' : ¬ k = 0 := by rcases hk with rfl | rfl <;> decide
     clear hk
     refine vX (fn := AP.f114) (h2 := h.eJ) (e := [(6, .str ⟨#[]⟩), (7, .int .i64 900)]) rfl rfl rfl ?_ rfl rfl
     simp (disch := omega) only [go_sem, xN, AP.f114, k1]
   | ok r =>
     obtain ⟨o, took⟩ := r
     rw [hi] at k1
     simp only [LW, I] at k1
     dsimp only
     have sz := ya o
     by_cases c6 : (o.length : Int) = z
     · by_cases c7 : took = s.size
       · rw [if_pos ⟨c6, c7⟩]
         refine vX (fn := AP.f114) (h2 := h.eJ) (e := [(6, .str (bytesOf o)), (7, .int .i64 0)]) rfl rfl rfl ?_ rfl rfl
         simp (disch := omega) only [go_sem, xN, AP.f114, k1, sz]
       · rw [if_neg (fun q => c7 q.2)]
         refine vX (fn := AP.f114) (h2 := h.eJ) (e := [(6, .str ⟨#[]⟩), (7, .int .i64 900)]) rfl rfl rfl ?_ rfl rfl
         simp (disch := omega) only [go_sem, xN, AP.f114, k1, sz]
     · rw [if_neg (fun q => c6 q.1)]
       refine vX (fn := AP.f114) (h2 := h.eJ) (e := [(6, .str ⟨#[]⟩), (7, .int .i64 900)]) rfl rfl rfl ?_ rfl rfl
       simp (disch := omega) only [go_sem, xN, AP.f114, k1, sz]
 · rw [if_neg c5]
   refine vX (fn := AP.f114) (h2 := h.eJ) (e := [(6, .str ⟨#[]⟩), (7, .int .i64 900)]) rfl rfl rfl ?_ rfl rfl
   simp (disch := omega) only [go_sem, xN, AP.f114]
def AO (e : yd) : Option ByteArray :=
 if zK [e] = false then none
 else if e.gone then some ⟨#[]⟩
 else match Ao e.method e.packed e.size with
  | some t => if (yN t : Int) = e.Dc then some t else none
  | none => none
theorem Mj (h : H) (hf : h.floor ≤ h.next) (e : yd) (v : AV) (hv : v.sc = true) (ok : zc h (e, v)) : ∃ t, aS AP.A 107 [.agg (xW e v)] h = some (.bV [.str t, .bool (AO e).isSome], h) ∧ (∀ u, AO e = some u → t = u) := by
 obtain ⟨h1, eh1⟩ : ∃ g, g = h.eJ.alloc (xW e v) := ⟨_, rfl⟩
 obtain ⟨h2, eh2⟩ : ∃ g, g = h1.alloc (xW e v) := ⟨_, rfl⟩
 have hx1 : Ext h h1 := fun i c q => by rw [eh1]; exact ((Ext.refl h.eJ).alloc _) i c q
 have hx2 : Ext h h2 := by rw [eh2]; exact hx1.alloc _
 have hn0 : h.eJ.next = h.next := rfl
 have hn1 : h1.next = h.next + 1 := by rw [eh1]; simp
 have g1 : h2.get h.next = some (xW e v) := by rw [eh2, yh (by omega), eh1, xL (by simp)]
 have g0 : h1.get h.next = some (xW e v) := by rw [eh1, xL (by simp)]
 have o : zk 9 h2 (.aF (h.next + 1) 0 1 9) 1 (xV [(e, v)]) := by
  refine ⟨?_, rfl, fun _ => by simp⟩
  simp only [aT, if_true]
  rw [eh2, xL (by omega)]
  rfl
 have k1 := HS h2 (.aF (h.next + 1) 0 1 9) [(e, v)] rfl (by simp) o (fun x hx => by
  obtain rfl : x = (e, v) := by simpa using hx
  exact ok.mono hx2)
 have k1' : aS AP.A 113 [.agg [.aF (h.next + 1) 0 1 9]] h2 = some (.bool (zK [e]), h2) := k1
 have hf2 : h2.floor ≤ h2.next := by rw [eh2, eh1]; simp; omega
 have k2 := HO h2 hf2 e.method e.packed e.size ok.pl
 have rdA : iT true 9 (xW e v) 0 = some (.agg (xW e v)) := rfl
 have cr : ∀ t : ByteArray, t.size < 1125899906842624 → aS AP.A 115 [.str t] h2 = some (.int .i64 (yN t : Nat), h2) := fun t ht => Ed h2 t ht
 clear k1 o hx1 hx2
 unfold AO
 simp only [xW] at *
 cases hm : zK [e] with
 | false =>
   rw [hm] at k1'
   refine ⟨⟨#[]⟩, ?_, fun u q => by simp at q⟩
   rw [if_pos rfl]
   refine vX (fn := AP.f107) (h2 := h2) (e := [(2, .str ⟨#[]⟩), (3, .bool false)]) rfl rfl rfl ?_ rfl rfl
   simp (disch := omega) only [go_sem, xN, AP.f107, hv, hn0, ← eh1, g0, rdA, hn1, ← eh2, k1']
 | true =>
   rw [hm] at k1'
   rw [if_neg (by decide)]
   cases hg : e.gone with
   | true =>
     rw [hg] at g1 g0 eh1 eh2 rdA
     refine ⟨⟨#[]⟩, ?_, fun u q => by simpa using q⟩
     refine vX (fn := AP.f107) (h2 := h2) (e := [(2, .str ⟨#[]⟩), (3, .bool true)]) rfl rfl rfl ?_ rfl rfl
     simp (disch := omega) only [go_sem, xN, AP.f107, hv, hn0, ← eh1, g0, g1, rdA, hn1, ← eh2, k1']
   | false =>
     rw [hg] at g1 g0 eh1 eh2 rdA
     rw [if_neg (by decide)]
     cases hu : Ao e.method e.packed e.size with
     | none =>
       rw [hu] at k2
       simp only [Mo] at k2
       refine ⟨⟨#[]⟩, ?_, fun u q => by simp at q⟩
       refine vX (fn := AP.f107) (h2 := h2) (e := [(2, .str ⟨#[]⟩), (3, .bool false)]) rfl rfl rfl ?_ rfl rfl
       simp (disch := omega) only [go_sem, xN, AP.f107, hv, hn0, ← eh1, g0, g1, rdA, hn1, ← eh2, k1', k2]
     | some t =>
       rw [hu] at k2
       simp only [Mo] at k2
       have kc := cr t (by have := DA hu; omega)
       dsimp only
       by_cases c : (yN t : Int) = e.Dc
       · rw [if_pos c]
         refine ⟨t, ?_, fun u q => wL q⟩
         refine vX (fn := AP.f107) (h2 := h2) (e := [(2, .str t), (3, .bool true)]) rfl rfl rfl ?_ rfl rfl
         simp (disch := omega) only [go_sem, xN, AP.f107, hv, hn0, ← eh1, g0, g1, rdA, hn1, ← eh2, k1', k2, kc]
       · rw [if_neg c]
         refine ⟨t, ?_, fun u q => by simp at q⟩
         refine vX (fn := AP.f107) (h2 := h2) (e := [(2, .str t), (3, .bool false)]) rfl rfl rfl ?_ rfl rfl
         simp (disch := omega) only [go_sem, xN, AP.f107, hv, hn0, ← eh1, g0, g1, rdA, hn1, ← eh2, k1', k2, kc]
def zo (e : yd) : Bool := (AO e).isSome
theorem GU (h : H) (hf : h.floor ≤ h.next) (e : yd) (v : AV) (hv : v.sc = true) (ok : zc h (e, v)) : aS AP.A 96 [.agg (xW e v)] h = some (.bool (zo e), h) := by
 obtain ⟨h1, eh1⟩ : ∃ g, g = h.eJ.alloc (xW e v) := ⟨_, rfl⟩
 have hx1 : Ext h h1 := fun i c q => by rw [eh1]; exact ((Ext.refl h.eJ).alloc _) i c q
 have hn0 : h.eJ.next = h.next := rfl
 have g0 : h1.get h.next = some (xW e v) := by rw [eh1, xL (by simp)]
 obtain ⟨t, k1, _⟩ := Mj h1 (by rw [eh1]; simp) e v hv (ok.mono hx1)
 have rdA : iT true 9 (xW e v) 0 = some (.agg (xW e v)) := rfl
 refine vX (fn := AP.f96) (h2 := h1) (e := [(2, .bool (zo e))]) rfl rfl rfl ?_ rfl rfl
 clear hx1
 unfold zo
 simp only [xW] at *
 simp (disch := omega) only [go_sem, xN, AP.f96, hv, hn0, ← eh1, g0, rdA, k1]
theorem Rd.Ow {h : H} {v : AV} {cs : List AV} (r : Rd h v cs) (hc : cs ≠ []) : gG 1 v .aQ = some false := by
 obtain ⟨r, hs⟩ := r
 unfold aT at r
 split at r
 · obtain ⟨_, h2⟩ := wN (wL r); exact absurd h2.symm hc
 · exact absurd rfl (hs _)
 · rfl
 · rfl
 · cases r
theorem FN {n : Nat} {h : H} {v : AV} {k : Nat} {cs : List AV} (r : zk n h v k cs) (hfn : h.floor ≤ h.next) (hn : 0 < n) (hk : 0 < k) {z : Nat} (hr : roomy z k = true) (hc : AV.aD cs = true) :
 mC (h.alloc []) n z (.aF h.next 0 0 n) v = some (.aF (h.next + 1) 0 k n, ((h.alloc []).del h.next).alloc cs) := by
 have r2 : zk n (h.alloc []) v k cs := r.mono fun i c q => by rw [H.aX, if_neg (by have := h.lt _ _ q; omega)]; exact q
 unfold mC
 rw [r2.1, wS]
 have hkn : 0 < k * n := Nat.mul_pos hk hn
 unfold ey
 rw [if_neg (by omega), if_neg (by simp [hc]; omega)]
 simp only [H.jZ, hfn, and_self, if_true]
 rw [xL rfl, wS, if_neg (by simp; omega), if_pos ⟨by simp, by simpa using hr⟩]
 simp
theorem B6 : ∀ l : List Int, AV.aD (ints l) = true
 | [] => rfl
 | n :: l => by
   have := B6 l
   show AV.aD (I n :: ints l) = true
   rw [rO, this]; rfl
theorem Ig (h : H) (v : AV) (l : List Int) (rd : Rd h v (ints l)) (hl : 0 < l.length) (hb : l.length < 1000000) (hfn : h.floor ≤ h.next) : aS AP.A 118 [v] h = some (.aF (h.next + 1) 0 l.length 1, ((h.alloc []).del h.next).alloc (ints l)) := by
 have r2 := rd.Ms
 rw [qZ] at r2
 have ap := FN r2 hfn (by omega) hl (z := 8) (by simp [roomy]; omega) (B6 l)
 have nn := rd.Ow (fun q => by
  have q2 : (ints l).length = 0 := by rw [q]; rfl
  rw [qZ] at q2
  omega)
 refine vG (fn := AP.f118) (h2 := ((h.alloc []).del h.next).alloc (ints l)) (e := [(2, .aF (h.next + 1) 0 l.length 1)]) (vs := [.aF (h.next + 1) 0 l.length 1]) rfl rfl rfl ?_ rfl
 clear rd r2
 simp (disch := omega) only [go_sem, xN, AP.f118, nn, ap]
def Ac (l : List Int) : AV := N7 1 l.length (ints l)
def KD : yd := ⟨⟨#[]⟩, false, [], 0, 0, 0, ⟨#[]⟩, 0, 0⟩
theorem HA {g : Nat → Option (List AV)} {fl n : Nat} {e : yd} {v v' : AV} (hv : snap g fl (n + 1) true v = some v') : snap g fl (n + 2) true (.agg (xW e v)) = some (.agg (xW e v')) := by
 unfold snap
 simp only [xW, gH, hv]
 rfl
abbrev Z9 : List AV := [.str ⟨#[]⟩, .bool false, .aQ, .int .i64 0, .int .i64 0, .int .i64 0, .str ⟨#[]⟩, .int .i64 0, .int .i64 0]
def Bb (name : ByteArray) (node : Nat) (xR : Int) (text : ByteArray) : yd := ⟨name, false, [0, 0, 0, 0].set node xR, xR, node, 0, text, text.size, yN text⟩
theorem Mp {l : List Int} (h : l.length = 4) : Ac l = .aW false (ints l) 0 4 1 := by unfold Ac N7; rw [h, if_neg (by omega)]
theorem IJ (h : H) (name text : ByteArray) (node : Nat) (xR : Int) (hn : node < 4) (ht : text.size < 1125899906842624) :
 aS AP.A 99 [.str name, .int .i64 node, .int .i64 xR, .str text] h = some (.agg (xW (Bb name node xR text) (Ac ([0, 0, 0, 0].set node xR))), h) := by
 obtain ⟨h1, eh1⟩ : ∃ g, g = h.eJ.alloc (xW KD .aQ) := ⟨_, rfl⟩
 obtain ⟨h2, eh2⟩ : ∃ g, g = h1.alloc (ints [0, 0, 0, 0]) := ⟨_, rfl⟩
 obtain ⟨h3, eh3⟩ : ∃ g, g = h2.set (h.next + 1) (ints ([0, 0, 0, 0].set node xR)) := ⟨_, rfl⟩
 obtain ⟨h4, eh4⟩ : ∃ g, g = h3.set h.next (xW (Bb name node xR text) (.aF (h.next + 1) 0 4 1)) := ⟨_, rfl⟩
 have n0 : h.eJ.next = h.next := rfl
 have n1 : h1.next = h.next + 1 := by rw [eh1]; simp
 have f2 : h2.floor = h.next := by rw [eh2, eh1]; simp
 have f3 : h3.floor = h.next := by rw [eh3]; simp [f2]
 have g2 : h2.get (h.next + 1) = some (ints [0, 0, 0, 0]) := by rw [eh2, xL (by omega)]
 have gz3 : h3.get h.next = some (xW KD .aQ) := by rw [eh3, yc (by omega), eh2, yh (by omega), eh1, xL (by simp)]
 have g3 : h3.get (h.next + 1) = some (ints ([0, 0, 0, 0].set node xR)) := by rw [eh3, yu rfl, g2]; rfl
 have g4 : h4.get h.next = some (xW (Bb name node xR text) (.aF (h.next + 1) 0 4 1)) := by rw [eh4, yu rfl, gz3]; rfl
 have g4' : h4.get (h.next + 1) = some (ints ([0, 0, 0, 0].set node xR)) := by rw [eh4, yc (by omega), g3]
 have st3 : vZ h2 (h.next + 1) node 1 [.int .i64 xR] (some (ints [0, 0, 0, 0])) = some h3 := by
  rw [wD (by omega) (by simp; omega) rfl, eh3]
  congr 2
  match node, hn with
  | 0, _ => rfl
  | 1, _ => rfl
  | 2, _ => rfl
  | 3, _ => rfl
 have st4 : vZ h3 h.next 0 9 [.str name, .bool false, .aF (h.next + 1) 0 4 1, .int .i64 xR, .int .i64 node, .int .i64 0, .str text, .int .i64 text.size, .int .i64 (yN text : Nat)] (some (xW KD .aQ)) = some h4 := by
  rw [eh4]; exact A3 (by omega) rfl rfl rfl
 have e1 : h.eJ.alloc [.str ⟨#[]⟩, .bool false, .aQ, .int .i64 0, .int .i64 0, .int .i64 0, .str ⟨#[]⟩, .int .i64 0, .int .i64 0] = h1 := eh1.symm
 have e2 : h1.alloc (Cj 4 [.int .i64 0]) = h2 := eh2.symm
 have kc := Ks h3 text ht
 have hlen : ([0, 0, 0, 0].set node xR : List Int).length = 4 := by simp
 have o : yg 1 h4 (.aF (h.next + 1) 0 4 1) 4 (ints ([0, 0, 0, 0].set node xR)) := ⟨by simp, .inr ⟨_, rfl, g4', by rw [eh4]; simp; omega, by omega⟩⟩
 have s1 : snap h4.get h.next 15 true (.aF (h.next + 1) 0 4 1) = some (Ac ([0, 0, 0, 0].set node xR)) := by
  have := o.CV (fl := h.next) (m := 13) (t := true) (by rw [eh4]; simp; omega)
  rw [this]; unfold Ac; rw [hlen]
 have body : aM (aS AP.A) bH AP.f99.body (params 0 [.str name, .int .i64 node, .int .i64 xR, .str text]) h.eJ = some (.ret, [(8, .aE h.next 0)], h4) := by
  clear o s1 g4 g4' g3
  have it : ((node : Nat) : Int).toNat = node := by omega
  simp (disch := omega) only [go_sem, xN, AP.f99, n0, e1, n1, e2, it, g2, st3, kc, gz3, st4]
 refine vX (fn := AP.f99) (h2 := h4) (e := [(8, .aE h.next 0)]) (vs := [.agg (xW (Bb name node xR text) (.aF (h.next + 1) 0 4 1))]) rfl rfl rfl body ?_ ?_
 · simp only [AP.f99, cT, oS, oG, sS, g4, vh]; rfl
 · exact HA s1
theorem Fz {v w : AV} {a b : List Int} (hab : a.length = b.length) (hl : a.length < 1125899906842624) (h : H) (ra : Rd h v (ints a)) (rb : Rd h w (ints b)) : ∀ (p q r : List Int) (p' : List Int), a = p ++ q → b = p' ++ r → p.length = p'.length →
 (∃ e', Lp AP.A [0, 1, 5] AP.f106L0 [(0, v), (1, w), (5, .int .i64 p.length)] h = some (.exit 0, e', h) ∧ decide (q = r) = true) ∨
 (∃ e', Lp AP.A [0, 1, 5] AP.f106L0 [(0, v), (1, w), (5, .int .i64 p.length)] h = some (.ret, e', h) ∧ look e' 4 = .bool false ∧ decide (q = r) = false)
 | p, [], r, p', hp, hq, hpp => by
   have hr : r = [] := O9 (by rw [hp, hq] at hab; simp at hab; omega)
   left
   have ln := ra.len
   rw [qZ] at ln
   simp only [I] at ln
   rw [OZ] at hp
   refine ⟨[(0, v), (1, w), (5, .int .i64 p.length), (14, .bool false)], vo ?_, by rw [hr]; rfl⟩
   rw [hp] at ln
   clear hab hl ra rb
   simp (disch := omega) only [go_sem, xN, AP.f106L0, ln]
 | p, x :: q, [], p', hp, hq, hpp => by
   exfalso
   rw [hp, hq] at hab; simp at hab; omega
 | p, x :: q, y :: r, p', hp, hq, hpp => by
   have ln := ra.len
   rw [qZ] at ln
   simp only [I] at ln
   have hlen : a.length = p.length + (q.length + 1) := by rw [hp]; simp
   have hx : a[p.length]? = some x := by rw [hp]; simp
   have hy : b[p.length]? = some y := by rw [hpp, hq]; simp
   obtain ⟨ad, a1, a2⟩ := ra.Ai
   obtain ⟨bd, b1, b2⟩ := rb.Ai
   have i1 := a1 p.length ⟨by omega, by omega⟩
   have i2 := b1 p.length ⟨by omega, by omega⟩
   have l1 := a2 h (Ext.refl h) _ _ hx
   have l2 := b2 h (Ext.refl h) _ _ hy
   have w1 : (((p ++ [x]).length : Nat) : Int) = (p.length : Int) + 1 := by simp
   have ih := Fz hab hl h ra rb (p ++ [x]) q r (p' ++ [y]) (by rw [hp]; simp) (by rw [hq]; simp) (by simp; omega)
   rw [w1] at ih
   clear a1 a2 b1 b2 ra rb w1
   by_cases c : x = y
   · have step : aM (aS AP.A) bH AP.f106L0 (az [(0, v), (1, w), (5, .int .i64 p.length)] [0, 1, 5]) h = some (.normal, [(0, v), (1, w), (5, .int .i64 ((p.length : Int) + 1))], h) := by
      clear ih hp hq
      simp (disch := omega) only [go_sem, xN, AP.f106L0, ln, i1, i2, l1, l2]
     have e : decide (x :: q = y :: r) = decide (q = r) := by simp [c]
     rw [e]
     rcases ih with ⟨e', r1, r2⟩ | ⟨e', r1, r2, r3⟩
     · exact .inl ⟨e', vp step r1, r2⟩
     · exact .inr ⟨e', vp step r1, r2, r3⟩
   · right
     refine ⟨[(4, .bool false)], vN ?_, rfl, by simp [c]⟩
     clear ih hp hq
     simp (disch := omega) only [go_sem, xN, AP.f106L0, ln, i1, i2, l1, l2]
theorem Dv (h : H) (v w : AV) (a b : List Int) (ra : Rd h v (ints a)) (rb : Rd h w (ints b)) (hl : a.length < 1125899906842624) : aS AP.A 106 [v, w] h = some (.bool (decide (a = b)), h) := by
 have ra' := ra.mono (xP h)
 have rb' := rb.mono (xP h)
 have la := ra'.len
 have lb := rb'.len
 rw [qZ] at la lb
 simp only [I] at la lb
 by_cases c : a.length = b.length
 · rcases Fz c hl h.eJ ra' rb' [] a b [] rfl rfl rfl with ⟨e', r1, r2⟩ | ⟨e', r1, r2, r3⟩
   · have r1' : Lp AP.A [0, 1, 5] AP.f106L0 [(0, v), (1, w), (5, .int .i64 0)] h.eJ = some (.exit 0, e', h.eJ) := r1
     clear r1
     rw [r2]
     refine vX (fn := AP.f106) (h2 := h.eJ) (e := [(4, .bool true)]) rfl rfl rfl ?_ rfl rfl
     simp (disch := omega) only [go_sem, xN, AP.f106, la, lb, uz, r1']
   · have r1' : Lp AP.A [0, 1, 5] AP.f106L0 [(0, v), (1, w), (5, .int .i64 0)] h.eJ = some (.ret, e', h.eJ) := r1
     clear r1
     rw [r3]
     refine vX (fn := AP.f106) (h2 := h.eJ) (e := e') (vs := [.bool false]) rfl rfl rfl ?_ (by simp only [AP.f106, cT, oS, r2]; rfl) rfl
     simp (disch := omega) only [go_sem, xN, AP.f106, la, lb, uz, r1']
 · have e : decide (a = b) = false := by rw [decide_eq_false_iff_not]; intro q; exact c (by rw [q])
   rw [e]
   refine vX (fn := AP.f106) (h2 := h.eJ) (e := [(4, .bool false)]) rfl rfl rfl ?_ rfl rfl
   simp (disch := omega) only [go_sem, xN, AP.f106, la, lb]
def nA : ByteArray := ⟨#[97]⟩
def OJ : ByteArray := ⟨#[104, 105]⟩
def eA : yd := Bb nA 0 1 OJ
def eG : yd := ⟨nA, true, [9, 0, 0, 0], 9, 0, 0, ⟨#[]⟩, 0, 0⟩
theorem zc.au {h : H} {e : yd} (hv : e.vec.length = 4) (nl : e.name.size < 1000000) (pl : e.packed.size < 1000000) : zc h (e, Ac e.vec) :=
 ⟨by rw [show (e, Ac e.vec).2 = Ac e.vec from rfl, Mp hv]; have := zZ h e.vec; unfold zJ at this; rw [hv] at this; exact this, by show e.vec.length < _; omega, by show e.name.size < _; omega, by show e.packed.size < _; omega⟩
theorem Rd.obj {h : H} {p n : Nat} {l : List Int} (hp : h.get p = some (ints l)) (hl : l.length = n) : Rd h (.aF p 0 n 1) (ints l) :=
 ⟨by subst hl; simp only [aT, if_true, hp, wS]; rw [if_pos (by simp), O0, xu (by simp), qZ], fun s e => by cases e⟩
theorem zc.obj {h : H} {e : yd} {p n : Nat} {l : List Int} (hp : h.get p = some (ints l)) (hl : l.length = n) (he : e.vec = l := by rfl) (nl : e.name.size < 1125899906842624) (pl : e.packed.size < 1125899906842624) (hn : n < 1000000 := by decide) : zc h (e, .aF p 0 n 1) :=
 ⟨by show Rd h _ (ints e.vec); rw [he]; exact Rd.obj hp hl, by show e.vec.length < _; rw [he]; omega, by show e.name.size < _; omega, by show e.packed.size < _; omega⟩
theorem FH (l : List Int) : (Ac l).sc = true := by unfold Ac N7; split <;> rfl
theorem A8 {e : yd} {v : AV} (h : v.sc = true) : AV.aD (xW e v) = true := by simp [xW, h]
def B5 : Ty := .int .i64
def I8 : Ty := .sl B5 1 8
def KE : Ty := .st [.str, .bool, I8, B5, B5, B5, .str, B5, B5]
theorem AF {B : Nat} {as : List AV} (h : Sh B B5 as) : ∃ n, as = [.int .i64 n] ∧ (-9223372036854775808 ≤ n ∧ n < 9223372036854775808) := by
 cases h with
 | int h => exact ⟨_, rfl, vD h⟩
theorem IE {B : Nat} {as : List AV} (h : Sh B .bool as) : ∃ b, as = [.bool b] := by
 cases h with
 | bool b => exact ⟨b, rfl⟩
theorem Hx {as : List AV} (h : Sh reachBytes .str as) : ∃ s : ByteArray, as = [.str s] ∧ s.size < 140737488355328 := by
 cases h with
 | str h => exact ⟨_, rfl, v7 h⟩
theorem II {B : Nat} {as : List AV} {ess : List (List AV)} (h : ∀ es, es ∈ ess → Sh B B5 es) : ∃ l : List Int, l.length = ess.length ∧ ess.flatten = ints l := by
 induction ess with
 | nil => exact ⟨[], rfl, rfl⟩
 | cons x ess ih =>
   obtain ⟨n, rfl, _⟩ := AF (h x (by simp))
   obtain ⟨l, h1, h2⟩ := ih fun es q => h es (by simp [q])
   exact ⟨n :: l, by simp [h1], by rw [List.flatten_cons, h2]; rfl⟩
theorem IH {as : List AV} (h : Sh reachBytes I8 as) : ∃ (v : AV) (l : List Int), as = [v] ∧ v.sc = true ∧ (∀ g, Rd g v (ints l)) ∧ l.length < 20000000000000 := by
 cases h with
 | aQ => exact ⟨.aQ, [], rfl, rfl, fun g => ⟨rfl, fun s e => by cases e⟩, by simp⟩
 | aW ess h hz hb =>
   obtain ⟨l, h1, h2⟩ := II (as := []) h
   rw [h2, ← h1]
   refine ⟨_, l, rfl, rfl, fun g => ?_, ?_⟩
   · have := zZ g l
     unfold zJ at this; exact this
   · rw [h1]; unfold reachBytes at hb; omega
theorem yE {B : Nat} {f : Ty} {fs : List Ty} {as : List AV} (h : jJ B (f :: fs) as) : ∃ a r, as = a ++ r ∧ Sh B f a ∧ jJ B fs r := by
 cases h with
 | cons h hr => exact ⟨_, _, rfl, h, hr⟩
theorem Fu {B : Nat} {as : List AV} (h : jJ B [] as) : as = [] := by
 cases h; rfl
theorem Jf {B : Nat} {fs : List Ty} {as : List AV} (h : Sh B (.st fs) as) : jJ B fs as := by
 cases h with
 | st h => exact h
theorem Mc {as : List AV} (h : Sh reachBytes KE as) : ∃ (e : yd) (v : AV), as = xW e v ∧ v.sc = true ∧ (∀ g, zc g (e, v)) ∧ e.vec.length < 20000000000000 := by
 obtain ⟨a1, r1, rfl, s1, h1⟩ := yE (Jf h)
 obtain ⟨a2, r2, rfl, s2, h2⟩ := yE h1
 obtain ⟨a3, r3, rfl, s3, h3⟩ := yE h2
 obtain ⟨a4, r4, rfl, s4, h4⟩ := yE h3
 obtain ⟨a5, r5, rfl, s5, h5⟩ := yE h4
 obtain ⟨a6, r6, rfl, s6, h6⟩ := yE h5
 obtain ⟨a7, r7, rfl, s7, h7⟩ := yE h6
 obtain ⟨a8, r8, rfl, s8, h8⟩ := yE h7
 obtain ⟨a9, r9, rfl, s9, h9⟩ := yE h8
 obtain rfl := Fu h9
 obtain ⟨n, rfl, z1⟩ := Hx s1
 obtain ⟨g, rfl⟩ := IE s2
 obtain ⟨v, l, rfl, hv, rd, z3⟩ := IH s3
 obtain ⟨st, rfl, _⟩ := AF s4
 obtain ⟨no, rfl, _⟩ := AF s5
 obtain ⟨me, rfl, _⟩ := AF s6
 obtain ⟨pa, rfl, z7⟩ := Hx s7
 obtain ⟨si, rfl, _⟩ := AF s8
 obtain ⟨cr, rfl, _⟩ := AF s9
 exact ⟨⟨n, g, l, st, no, me, pa, si, cr⟩, v, rfl, hv, fun g => ⟨rd g, by show l.length < _; omega, by show n.size < _; omega, by show pa.size < _; omega⟩, z3⟩
theorem Oy {P : Ty × List AV → Prop} {a b : Ty} {r : List (Ty × List AV)} (h : r.map (·.1) = [a, b]) (hp : ∀ x ∈ r, P x) : ∃ x y, r = [(a, x), (b, y)] ∧ P (a, x) ∧ P (b, y) := by
 match r, h with
 | [(a', x), (b', y)], h => simp at h; obtain ⟨rfl, rfl⟩ := h; exact ⟨x, y, rfl, hp _ (by simp), hp _ (by simp)⟩
def BD (s : ByteArray) : List Nat := s.data.toList.map (·.toNat)
theorem FB (s : ByteArray) : (BD s).length = s.size := by unfold BD; rw [OX, Array.length_toList]; rfl
theorem IL (a b : ByteArray) : BD (a ++ b) = BD a ++ BD b := by simp [BD]
theorem HN (s : ByteArray) : ∀ b ∈ BD s, b < 256 := by
 intro b hb
 obtain ⟨x, _, rfl⟩ := List.mem_map.1 hb
 exact x.toNat_lt
theorem DR (s : ByteArray) : bytesOf (BD s) = s := by
 unfold BD bytesOf; rw [List.map_map]; apply ByteArray.ext; simp [Function.comp_def]
theorem Ez {l : List Nat} (h : ∀ b ∈ l, b < 256) : BD (bytesOf l) = l := by
 simp only [BD, bytesOf, List.map_map]
 conv => rhs; rw [← List.map_id l]
 exact List.map_congr_left fun b hb => by simp [Function.comp, UInt8.toNat_ofNat_of_lt' (h b hb)]
theorem yS (a b : List Nat) : bytesOf a ++ bytesOf b = bytesOf (a ++ b) := by
 apply ByteArray.ext; simp [bytesOf]
theorem ze (x k : Nat) : ∀ b ∈ xS x k, b < 256 := by
 intro b hb
 obtain ⟨i, _, rfl⟩ := List.mem_map.1 hb
 exact Nat.mod_lt _ (by omega)
theorem IK {a b : ByteArray} (h : a.size + b.size ≤ 9223372036854775807) : bD .add (.str a) (.str b) = some (.str (a ++ b)) := DC h
theorem zw {a b : List Nat} (h : a.length + b.length ≤ 9223372036854775807) : bD .add (.str (bytesOf a)) (.str (bytesOf b)) = some (.str (bytesOf (a ++ b))) := by
 rw [IK (by rw [ya, ya]; exact h), yS]
def DV (c : Nat) (l : List Nat) : Nat := l.foldl yX c
theorem Ib {s : ByteArray} {i : Nat} {p q : List Nat} {b : Nat} (h : BD s = p ++ b :: q) (hi : p.length = i) : zr s i = b := by
 have : (BD s)[i]? = some b := by rw [h, ← hi]; simp
 unfold zr
 unfold BD at this
 rw [xc] at this
 have e : s[i]? = s.data.toList[i]? := by
  show s.data[i]? = _
  simp
 rw [e]
 cases hq : s.data.toList[i]? with
 | none => rw [hq] at this; cases this
 | some x => rw [hq] at this; simpa using this
theorem CF (s : ByteArray) : ∀ (q p : List Nat) (c : Nat), BD s = p ++ q → yO s q.length p.length c = DV c q
 | [], p, c, h => rfl
 | b :: q, p, c, h => by
   show yO s q.length (p.length + 1) (yX c (zr s p.length)) = _
   have := CF s q (p ++ [b]) (yX c b) (by rw [h]; simp)
   rw [Ib h rfl]
   rw [xD] at this
   exact this
theorem AW (a : Nat) (s : ByteArray) : yw a s = 4294967295 - DV (4294967295 - a) (BD s) := by
 unfold yw
 have := CF s (BD s) [] (4294967295 - a) rfl
 rw [FB] at this
 rw [← this]; rfl
theorem Fb : ∀ (l : List Nat) {c : Nat}, c < 4294967296 → (∀ b ∈ l, b < 256) → DV c l < 4294967296
 | [], _, h, _ => h
 | b :: l, _, h, hb => Fb l (zI h (hb b (by simp))) (fun x hx => hb x (by simp [hx]))
theorem Aj {a : Nat} (s t : ByteArray) : yw (yw a s) t = yw a (s ++ t) := by
 rw [AW, AW a, AW a, IL]
 have := Fb (BD s) (c := 4294967295 - a) (by omega) (HN s)
 rw [show 4294967295 - (4294967295 - DV (4294967295 - a) (BD s)) = DV (4294967295 - a) (BD s) by omega]
 simp [DV]
def zP (l : List Nat) : Nat := 4294967295 - DV 4294967295 l
theorem Ku (s : ByteArray) : yN s = zP (BD s) := AW 0 s
theorem BS {l : List Nat} (h : ∀ b ∈ l, b < 256) : yN (bytesOf l) = zP l := by rw [Ku, Ez h]
def DB (l : List Int) : List Nat := l.flatMap fun n => xS n.toNat 4
def Cy (e : yd) : List Nat := xS 20592 2 ++ xS 22 2 ++ DB e.vec ++ xS e.xR.toNat 4 ++ xS e.node.toNat 1 ++ xS (if e.gone then 1 else 0) 1
theorem EB (l : List Int) : (DB l).length = 4 * l.length := by
 induction l with
 | nil => rfl
 | cons n l ih => unfold DB at *; rw [List.flatMap_cons, xD, xQ, ih, OS]; omega
theorem FG (l : List Int) : ∀ b ∈ DB l, b < 256 := by
 intro b hb
 obtain ⟨n, _, hn⟩ := List.mem_flatMap.1 hb
 exact ze _ _ b hn
theorem IC (e : yd) : ∀ b ∈ Cy e, b < 256 := by
 intro b hb
 unfold Cy at hb
 simp only [List.mem_append] at hb
 rcases hb with ((((hb | hb) | hb) | hb) | hb) | hb
 · exact ze _ _ b hb
 · exact ze _ _ b hb
 · exact FG _ b hb
 · exact ze _ _ b hb
 · exact ze _ _ b hb
 · exact ze _ _ b hb
def L9 (e : yd) : AV := if yL e = true then .bV [.str (bytesOf (Cy e)), .int .i64 0] else .bV [.str ⟨#[]⟩, .int .i64 1200]
theorem zW {e : yd} (h : yL e = true) : e.vec.length = 4 ∧ (∀ n ∈ e.vec, 0 ≤ n ∧ n ≤ 1048576) ∧ (1 ≤ e.xR ∧ e.xR ≤ 1048576) ∧ (0 ≤ e.node ∧ e.node < 4) := by
 simp only [yL, Gq, yU, CR, wW, OY, List.all_eq_true] at h
 exact ⟨h.1.1, h.1.2, ⟨h.2.1, h.2.2.1.2⟩, h.2.2.2⟩
theorem Ei {v P : AV} {l : List Int} (hl : l.length < 1000000) (hn : ∀ n ∈ l, 0 ≤ n ∧ n ≤ 1048576) (h : H) (rd : Rd h v (ints l)) : ∀ (q p : List Int) (acc : List Nat), l = p ++ q → acc.length + 4 * q.length < 100000000 →
 ∃ e', Lp AP.A [1, 4, 14, 15, 16] AP.f102L0 [(1, P), (4, .str (bytesOf acc)), (14, v), (15, .int .i64 l.length), (16, .int .i64 p.length)] h = some (.exit 0, e', h) ∧ look e' 1 = P ∧ look e' 4 = .str (bytesOf (acc ++ DB q))
 | [], p, acc, hp, ha => by
   refine ⟨[(1, P), (4, .str (bytesOf acc)), (14, v), (15, .int .i64 l.length), (16, .int .i64 p.length), (17, .bool false)], vo ?_, rfl, by simp [DB, look]⟩
   have e : l.length = p.length := by rw [hp]; simp
   rw [e]
   simp (disch := first | omega | (simp only [yR, OS, OT, w8, Nat.reduceAdd]; first | done | omega | fail) | (simp (disch := first | omega | (simp only [yR, OS, OT, w8, Nat.reduceAdd]; first | done | omega | fail) | fail) only [yR, Ds, OW, OS, OT, w8, Nat.reduceAdd]; done) | fail) only [go_sem, xN, Ej, AP.f102L0]
 | n :: q, p, acc, hp, ha => by
   rw [OS] at ha
   obtain ⟨e', r1, r2, r3⟩ := Ei (P := P) hl hn h rd q (p ++ [n]) (acc ++ xS n.toNat 4) (by rw [hp]; simp) (by rw [xD, xQ]; omega)
   obtain ⟨ad, a1, a2⟩ := rd.Ai
   have hlen : l.length = p.length + (q.length + 1) := by rw [hp]; simp
   have i1 := a1 (p.length : Int) ⟨by omega, by omega⟩
   have i2 := a2 h (Ext.refl h) p.length n (by rw [hp]; simp)
   have bn := hn n (by rw [hp]; simp)
   have k1 := fun g => Ar g n.toNat 4 (by omega) (by omega)
   rw [show ((n.toNat : Nat) : Int) = n by omega] at k1
   have s1 : bD .add (.str (bytesOf acc)) (.str (He n.toNat 4)) = some (.str (bytesOf (acc ++ xS n.toNat 4))) := zw (by rw [xQ]; omega)
   have n1 : ((p.length + 1 : Nat) : Int) = (p.length : Int) + 1 := by omega
   rw [xD, show [n].length = 1 from rfl, n1] at r1
   refine ⟨e', vp ?_ r1, r2, by rw [r3]; simp [DB]⟩
   have k1' : ∀ g : H, aS AP.A 104 [.int .i64 n, .int .i64 4] g = some (.str (He n.toNat 4), g) := k1
   simp (disch := first | omega | (simp only [yR, OS, OT, w8, Nat.reduceAdd]; first | done | omega | fail) | (simp (disch := first | omega | (simp only [yR, OS, OT, w8, Nat.reduceAdd]; first | done | omega | fail) | fail) only [yR, Ds, OW, OS, OT, w8, Nat.reduceAdd]; done) | fail) only [go_sem, xN, Ej, AP.f102L0, i1, i2, k1', s1]
theorem PE.obj {h : H} {id : Nat} {cs : List AV} (hg : h.get id = some cs) : PE h (.aE id 0) cs :=
 ⟨fun g => rfl, fun k => .aE id (0 + k), fun k => rfl, fun g hx k c hc => by
  show bZ false 1 (.aE id (0 + k)) g = _
  rw [w8]
  simp only [bZ, hx _ _ hg, wS, iT, hc]; rfl⟩
theorem KG (h : H) (hf : h.floor ≤ h.next) (e : yd) (v : AV) (hv : v.sc = true) (ok : zc h (e, v)) : aS AP.A 102 [.agg (xW e v)] h = some (L9 e, h) := by
 obtain ⟨A, hA⟩ : ∃ x, x = xW e v := ⟨_, rfl⟩
 have lA : A.length = 9 := by rw [hA]; rfl
 have cA : AV.aD A = true := by rw [hA]; exact A8 hv
 have g2 : A[2]? = some v := by rw [hA]; rfl
 have g1 : A[1]? = some (.bool e.gone) := by rw [hA]; rfl
 have g3 : A[3]? = some (.int .i64 e.xR) := by rw [hA]; rfl
 have g4 : A[4]? = some (.int .i64 e.node) := by rw [hA]; rfl
 have x1 : Ext h (h.eJ.alloc A) := fun i c q => ((Ext.refl h.eJ).alloc _) i c q
 have o1 := ok.mono x1
 have q1 : aS AP.A 112 [.aE h.next 0] (h.eJ.alloc A) = some (.bool (yL e), h.eJ.alloc A) := by
  refine G9 (h.eJ.alloc A) (.aE h.next 0) v e ?_ o1.vec o1.vl
  rw [← hA]; exact PE.obj (xL (by simp))
 unfold L9
 cases hh : yL e with
 | false =>
   rw [hh] at q1
   rw [if_neg (by decide)]
   refine vX (fn := AP.f102) (h2 := h.eJ.alloc A) (e := [(2, .str ⟨#[]⟩), (3, .int .i64 1200)]) rfl rfl rfl ?_ rfl rfl
   rw [← hA]
   simp (disch := first | omega | (simp only [yR, OS, OT, w8, Nat.reduceAdd]; first | done | omega | fail) | (simp (disch := first | omega | (simp only [yR, OS, OT, w8, Nat.reduceAdd]; first | done | omega | fail) | fail) only [yR, Ds, OW, OS, OT, w8, Nat.reduceAdd]; done) | fail) only [go_sem, xN, Ej, AP.f102, lA, cA, q1]
 | true =>
   rw [hh] at q1
   rw [if_pos rfl]
   obtain ⟨f1, f2, f3, f4⟩ := zW hh
   have k1 : ∀ g, aS AP.A 104 [.int .i64 20592, .int .i64 2] g = some (.str (bytesOf (xS 20592 2)), g) := fun g => Ar g 20592 2 (by omega) (by omega)
   have k2 : ∀ g, aS AP.A 104 [.int .i64 22, .int .i64 2] g = some (.str (bytesOf (xS 22 2)), g) := fun g => Ar g 22 2 (by omega) (by omega)
   have k3 : ∀ g, aS AP.A 104 [.int .i64 e.xR, .int .i64 4] g = some (.str (bytesOf (xS e.xR.toNat 4)), g) := fun g => by
    have := Ar g e.xR.toNat 4 (by omega) (by omega)
    rw [show ((e.xR.toNat : Nat) : Int) = e.xR by omega] at this; exact this
   have k4 : ∀ g, aS AP.A 104 [.int .i64 e.node, .int .i64 1] g = some (.str (bytesOf (xS e.node.toNat 1)), g) := fun g => by
    have := Ar g e.node.toNat 1 (by omega) (by omega)
    rw [show ((e.node.toNat : Nat) : Int) = e.node by omega] at this; exact this
   have k5 : ∀ g, aS AP.A 104 [.int .i64 0, .int .i64 1] g = some (.str (bytesOf (xS 0 1)), g) := fun g => Ar g 0 1 (by omega) (by omega)
   have k6 : ∀ g, aS AP.A 104 [.int .i64 1, .int .i64 1] g = some (.str (bytesOf (xS 1 1)), g) := fun g => Ar g 1 1 (by omega) (by omega)
   have ln := o1.vec.len
   rw [qZ] at ln
   simp only [I] at ln
   obtain ⟨e', r1, r2, r3⟩ := Ei (P := .aE h.next 0) (by omega) f2 (h.eJ.alloc A) o1.vec e.vec [] (xS 20592 2 ++ xS 22 2) rfl (by rw [xD, xQ, xQ]; omega)
   have r1' : Lp AP.A [1, 4, 14, 15, 16] AP.f102L0 [(1, .aE h.next 0), (4, .str (bytesOf (xS 20592 2 ++ xS 22 2))), (14, v), (15, .int .i64 e.vec.length), (16, .int .i64 0)] (h.eJ.alloc A) = some (.exit 0, e', h.eJ.alloc A) := r1
   clear r1
   have vl := EB e.vec
   have s1 : bD .add (.str (bytesOf (xS 20592 2))) (.str (bytesOf (xS 22 2))) = some (.str (bytesOf (xS 20592 2 ++ xS 22 2))) := zw (by rw [xQ, xQ]; omega)
   obtain ⟨L1, hL1⟩ : ∃ x, x = xS 20592 2 ++ xS 22 2 ++ DB e.vec := ⟨_, rfl⟩
   have l1 : L1.length = 20 := by rw [hL1, xD, xD, xQ, xQ, vl, f1]
   obtain ⟨S1, h1⟩ : ∃ x, x = bytesOf L1 := ⟨_, rfl⟩
   obtain ⟨S2, h2⟩ : ∃ x, x = bytesOf (L1 ++ xS e.xR.toNat 4) := ⟨_, rfl⟩
   obtain ⟨S3, h3⟩ : ∃ x, x = bytesOf (L1 ++ xS e.xR.toNat 4 ++ xS e.node.toNat 1) := ⟨_, rfl⟩
   obtain ⟨S4, h4⟩ : ∃ x, x = bytesOf (L1 ++ xS e.xR.toNat 4 ++ xS e.node.toNat 1 ++ xS (if e.gone then 1 else 0) 1) := ⟨_, rfl⟩
   have s2 : bD .add (.str S1) (.str (bytesOf (xS e.xR.toNat 4))) = some (.str S2) := by rw [h1, h2]; exact zw (by rw [xQ]; omega)
   have s3 : bD .add (.str S2) (.str (bytesOf (xS e.node.toNat 1))) = some (.str S3) := by rw [h2, h3]; exact zw (by rw [xD, xQ, xQ]; omega)
   have s4 : bD .add (.str S3) (.str (bytesOf (xS (if e.gone then 1 else 0) 1))) = some (.str S4) := by rw [h3, h4]; exact zw (by rw [xD, xD, xQ, xQ, xQ]; omega)
   rw [show xS 20592 2 ++ xS 22 2 ++ DB e.vec = L1 from hL1.symm, ← h1] at r3
   unfold Cy
   rw [← hL1, ← hA, ← h4]
   clear hL1 o1 x1 ok h1 h2 h3 h4
   refine vX (fn := AP.f102) (h2 := h.eJ.alloc A) (e := [(2, .str S4), (3, .int .i64 0)]) rfl rfl rfl ?_ rfl rfl
   cases hg : e.gone with
   | true =>
     rw [hg] at g1 s4
     rw [if_pos rfl] at s4
     simp (disch := first | omega | (simp only [yR, OS, OT, w8, Nat.reduceAdd]; first | done | omega | fail) | (simp (disch := first | omega | (simp only [yR, OS, OT, w8, Nat.reduceAdd]; first | done | omega | fail) | fail) only [yR, Ds, OW, OS, OT, w8, Nat.reduceAdd]; done) | fail) only [go_sem, xN, Ej, AP.f102, lA, cA, q1, k1, k2, k3, k4, k5, k6, s1, s2, s3, s4, g1, g2, g3, g4, ln, uz, r1', r2, r3]
   | false =>
     rw [hg] at g1 s4
     rw [if_neg (by decide)] at s4
     simp (disch := first | omega | (simp only [yR, OS, OT, w8, Nat.reduceAdd]; first | done | omega | fail) | (simp (disch := first | omega | (simp only [yR, OS, OT, w8, Nat.reduceAdd]; first | done | omega | fail) | fail) only [yR, Ds, OW, OS, OT, w8, Nat.reduceAdd]; done) | fail) only [go_sem, xN, Ej, AP.f102, lA, cA, q1, k1, k2, k3, k4, k5, k6, s1, s2, s3, s4, g1, g2, g3, g4, ln, uz, r1', r2, r3]
def DW (e : yd) : List Nat := xS e.name.size 1 ++ BD e.name ++ Cy e ++ xS e.Dc.toNat 4
def Kw (e : yd) : Option Nat := if zo e = true then some (zP (DW e)) else none
def N9 : Option Nat → AV
 | some n => .bV [.int .i64 n, .int .i64 0]
 | none => .bV [.int .i64 0, .int .i64 1500]
theorem Ep (l : List Nat) : zP l < 4294967296 := by unfold zP; omega
theorem Fc (p : Nat) (ss : List ByteArray) (h : H) (hg : h.get p = some (ss.map AV.str)) (hs : ∀ s ∈ ss, s.size < 1125899906842624) (hl : ss.length < 1000000) : ∀ (q pr : List ByteArray) (a : Nat), ss = pr ++ q → a < 4294967296 →
 ∃ e', Lp AP.A [6, 7, 28, 29, 30] AP.f91L0 [(6, .fn 103 [] []), (7, .int .i64 a), (28, .aF p 0 ss.length 1), (29, .int .i64 ss.length), (30, .int .i64 pr.length)] h = some (.exit 0, e', h) ∧ look e' 7 = .int .i64 (q.foldl yw a : Nat)
 | [], pr, a, hp, ha => by
   have e : ss.length = pr.length := by rw [hp]; simp
   refine ⟨[(6, .fn 103 [] []), (7, .int .i64 a), (28, .aF p 0 ss.length 1), (29, .int .i64 ss.length), (30, .int .i64 pr.length), (31, .bool false)], vo ?_, rfl⟩
   rw [e]
   simp (disch := first | omega | (simp only [yR, OS, OT, w8, Nat.reduceAdd]; first | done | omega | fail) | (simp (disch := first | omega | (simp only [yR, OS, OT, w8, Nat.reduceAdd]; first | done | omega | fail) | fail) only [yR, Ds, OW, OS, OT, w8, Nat.reduceAdd]; done) | fail) only [go_sem, xN, Ej, AP.f91L0]
 | s :: q, pr, a, hp, ha => by
   obtain ⟨e', r1, r2⟩ := Fc p ss h hg hs hl q (pr ++ [s]) (yw a s) (by rw [hp]; simp) (B7 a s)
   have hlen : ss.length = pr.length + (q.length + 1) := by rw [hp]; simp
   have k1 := ES h s a ha (hs s (by rw [hp]; simp))
   have g1 : (ss.map AV.str)[pr.length]? = some (.str s) := by rw [hp]; simp
   have n1 : ((pr.length + 1 : Nat) : Int) = (pr.length : Int) + 1 := by omega
   rw [xD, show [s].length = 1 from rfl, n1] at r1
   refine ⟨e', vp ?_ r1, r2⟩
   simp (disch := first | omega | (simp only [yR, OS, OT, w8, Nat.reduceAdd]; first | done | omega | fail) | (simp (disch := first | omega | (simp only [yR, OS, OT, w8, Nat.reduceAdd]; first | done | omega | fail) | fail) only [yR, Ds, OW, OS, OT, w8, Nat.reduceAdd]; done) | fail) only [go_sem, xN, Ej, AP.f91L0, hg, k1, g1]
theorem LX (a b c d : ByteArray) : [a, b, c, d].foldl yw 0 = yN (a ++ b ++ c ++ d) := by
 show yw (yw (yw (yw 0 a) b) c) d = yw 0 _
 rw [Aj, Aj, Aj]
 congr 1
 simp only [ByteArray.append_assoc]
theorem F4 (s : ByteArray) : D7 s = true ↔ s.size = 0 := by
 unfold D7
 rw [beq_iff_eq]
 constructor
 · intro h; rw [← FB]; unfold BD; rw [h]; rfl
 · intro h
   have : s.data.toList.length = 0 := by rw [Array.length_toList]; exact h
   rw [O9 this]
theorem Gi {e : yd} (h : zo e = true) : yL e = true ∧ (1 ≤ e.name.size ∧ e.name.size ≤ 8) ∧ 0 ≤ e.Dc ∧ e.Dc ≤ 4294967295 := by
 unfold zo AO at h
 split at h
 · cases h
 · rename_i hm
   have hm : zK [e] = true := by cases q : zK [e] with | true => rfl | false => exact absurd q hm
   simp only [zK, zQ, Fe, wW, Bool.and_true] at hm
   obtain ⟨⟨h1, h2, h3⟩, _⟩ := hm
   refine ⟨h2, ?_, ?_⟩
   · simp only [zf, wW, OY] at h1
     exact ⟨h1.1, h1.2.1⟩
   · unfold y8 at h3
     split at h3
     · simp only [wW, OY] at h3; omega
     · simp only [wW, OY, CI] at h3; omega
theorem Ih (e : yd) : ∀ b ∈ DW e, b < 256 := by
 intro b hb
 unfold DW at hb
 simp only [List.mem_append] at hb
 rcases hb with ((hb | hb) | hb) | hb
 · exact ze _ _ b hb
 · exact HN _ b hb
 · exact IC _ b hb
 · exact ze _ _ b hb
theorem Ii (e : yd) : bytesOf (xS e.name.size 1) ++ e.name ++ bytesOf (Cy e) ++ bytesOf (xS e.Dc.toNat 4) = bytesOf (DW e) := by
 unfold DW
 rw [← yS, ← yS, ← yS, DR]
theorem Hp {e : yd} (h : yL e = true) : (Cy e).length = 26 := by
 obtain ⟨f1, _⟩ := zW h
 unfold Cy
 simp only [xD, xQ, EB, f1]
set_option maxHeartbeats 1000000 in
theorem GM (h : H) (hf : h.floor ≤ h.next) (e : yd) (v : AV) (hv : v.sc = true) (ok : zc h (e, v)) : aS AP.A 91 [.agg (xW e v)] h = some (N9 (Kw e), h) := by
 obtain ⟨A, hA⟩ : ∃ x, x = xW e v := ⟨_, rfl⟩
 have lA : A.length = 9 := by rw [hA]; rfl
 have cA : AV.aD A = true := by rw [hA]; exact A8 hv
 have tA : List.take 9 A = A := by rw [hA]; rfl
 have g0 : A[0]? = some (.str e.name) := by rw [hA]; rfl
 have g8 : A[8]? = some (.int .i64 e.Dc) := by rw [hA]; rfl
 have x1 : Ext h (h.eJ.alloc A) := fun i c q => ((Ext.refl h.eJ).alloc _) i c q
 have o1 := ok.mono x1
 have f1 : (h.eJ.alloc A).floor ≤ (h.eJ.alloc A).next := by simp
 have q1 : aS AP.A 96 [.agg A] (h.eJ.alloc A) = some (.bool (zo e), h.eJ.alloc A) := by
  have := GU (h.eJ.alloc A) f1 e v hv o1
  rw [← hA] at this; exact this
 unfold Kw
 cases hm : zo e with
 | false =>
   rw [hm] at q1
   rw [if_neg (by decide)]
   refine vX (fn := AP.f91) (h2 := h.eJ.alloc A) (e := [(2, .int .i64 0), (3, .int .i64 1500)]) rfl rfl rfl ?_ rfl rfl
   rw [← hA]
   simp (disch := first | omega | (simp only [yR, OS, OT, w8, Nat.reduceAdd]; first | done | omega | fail) | (simp (disch := first | omega | (simp only [yR, OS, OT, w8, Nat.reduceAdd]; first | done | omega | fail) | fail) only [yR, Ds, OW, OS, OT, w8, Nat.reduceAdd]; done) | fail) only [go_sem, xN, Ej, AP.f91, lA, cA, tA, q1]
 | true =>
   rw [hm] at q1
   rw [if_pos rfl]
   obtain ⟨m1, m2, m3⟩ := Gi hm
   have q2 : aS AP.A 102 [.agg A] (h.eJ.alloc A) = some (.bV [.str (bytesOf (Cy e)), .int .i64 0], h.eJ.alloc A) := by
    have := KG (h.eJ.alloc A) f1 e v hv o1
    unfold L9 at this
    rw [if_pos m1, ← hA] at this; exact this
   have q3 : ∀ g, aS AP.A 104 [.int .i64 e.name.size, .int .i64 1] g = some (.str (bytesOf (xS e.name.size 1)), g) := fun g => Ar g e.name.size 1 (by omega) (by omega)
   have q4 : ∀ g, aS AP.A 104 [.int .i64 e.Dc, .int .i64 4] g = some (.str (bytesOf (xS e.Dc.toNat 4)), g) := fun g => by
    have := Ar g e.Dc.toNat 4 (by omega) (by omega)
    rw [show ((e.Dc.toNat : Nat) : Int) = e.Dc by omega] at this; exact this
   have pl := Hp m1
   obtain ⟨T1, e1⟩ : ∃ x, x = bytesOf (xS e.name.size 1) := ⟨_, rfl⟩
   obtain ⟨T3, e3⟩ : ∃ x, x = bytesOf (Cy e) := ⟨_, rfl⟩
   obtain ⟨T4, e4⟩ : ∃ x, x = bytesOf (xS e.Dc.toNat 4) := ⟨_, rfl⟩
   have ds := Ii e
   rw [← e1, ← e3, ← e4] at ds
   rw [← e3] at q2
   rw [← e1] at q3
   rw [← e4] at q4
   have t1 : T1.size = 1 := by rw [e1, ya, xQ]
   have t3 : T3.size = 26 := by rw [e3, ya, pl]
   have t4 : T4.size = 4 := by rw [e4, ya, xQ]
   obtain ⟨e', r1, r2⟩ := Fc (h.next + 1) [T1, e.name, T3, T4] ((h.eJ.alloc A).alloc [.str T1, .str e.name, .str T3, .str T4]) (xL (by simp)) (by
    intro s hs
    simp only [xz, List.mem_nil_iff, or_false] at hs
    rcases hs with rfl | rfl | rfl | rfl <;> omega) (by simp) [T1, e.name, T3, T4] [] 0 rfl (by omega)
   rw [LX, ds, BS (Ih e)] at r2
   have r1' : Lp AP.A [6, 7, 28, 29, 30] AP.f91L0 [(6, .fn 103 [] []), (7, .int .i64 0), (28, .aF (h.next + 1) 0 4 1), (29, .int .i64 4), (30, .int .i64 0)] ((h.eJ.alloc A).alloc [.str T1, .str e.name, .str T3, .str T4]) = some (.exit 0, e', (h.eJ.alloc A).alloc [.str T1, .str e.name, .str T3, .str T4]) := r1
   clear r1
   refine vX (fn := AP.f91) (h2 := (h.eJ.alloc A).alloc [.str T1, .str e.name, .str T3, .str T4]) (e := [(2, .int .i64 (zP (DW e))), (3, .int .i64 0)]) rfl rfl rfl ?_ rfl rfl
   rw [← hA]
   clear ds e1 e3 e4 o1 x1 ok
   simp (disch := first | omega | (simp only [yR, OS, OT, w8, Nat.reduceAdd]; first | done | omega | fail) | (simp (disch := first | omega | (simp only [yR, OS, OT, w8, Nat.reduceAdd]; first | done | omega | fail) | fail) only [yR, Ds, OW, OS, OT, w8, Nat.reduceAdd]; done) | fail) only [go_sem, xN, Ej, AP.f91, lA, cA, tA, q1, q2, q3, q4, g0, g8, uz, r1', r2]
def Bm (l : List Int) : List Nat := l.flatMap fun n => xS n.toNat 4
def Ea (l : List Int) : Option Nat := if l.all CI = true then some (zP (Bm l)) else none
theorem Hl (l : List Int) : ∀ b ∈ Bm l, b < 256 := FG l
theorem CP {v : AV} {l : List Int} (hl : l.length < 1125899906842624) (h : H) (rd : Rd h v (ints l)) : ∀ (q p : List Int) (a : Nat), l = p ++ q → a < 4294967296 →
 (q.all CI = true ∧ ∃ e', Lp AP.A [4, 7, 8, 9] AP.f93L0 [(4, .int .i64 a), (7, v), (8, .int .i64 l.length), (9, .int .i64 p.length)] h = some (.exit 0, e', h) ∧ look e' 4 = .int .i64 (yw a (bytesOf (Bm q)) : Nat)) ∨
 (q.all CI = false ∧ ∃ e', Lp AP.A [4, 7, 8, 9] AP.f93L0 [(4, .int .i64 a), (7, v), (8, .int .i64 l.length), (9, .int .i64 p.length)] h = some (.ret, e', h) ∧ look e' 2 = .int .i64 0 ∧ look e' 3 = .int .i64 1500)
 | [], p, a, hp, ha => by
   left
   have e : l.length = p.length := by rw [hp]; simp
   refine ⟨rfl, [(4, .int .i64 a), (7, v), (8, .int .i64 l.length), (9, .int .i64 p.length), (10, .bool false)], vo ?_, ?_⟩
   · rw [e]
     simp (disch := first | omega | (simp only [yR, OS, OT, w8, Nat.reduceAdd]; first | done | omega | fail) | (simp (disch := first | omega | (simp only [yR, OS, OT, w8, Nat.reduceAdd]; first | done | omega | fail) | fail) only [yR, Ds, OW, OS, OT, w8, Nat.reduceAdd]; done) | fail) only [go_sem, xN, Ej, AP.f93L0]
   · show AV.int .i64 (a : Int) = .int .i64 ((yw a (bytesOf []) : Nat) : Int)
     rw [AW]
     have : DV (4294967295 - a) (BD (bytesOf [])) = 4294967295 - a := rfl
     rw [this]; congr 1; omega
 | n :: q, p, a, hp, ha => by
   obtain ⟨ad, a1, a2⟩ := rd.Ai
   have hlen : l.length = p.length + (q.length + 1) := by rw [hp]; simp
   have i1 := a1 (p.length : Int) ⟨by omega, by omega⟩
   have i2 := a2 h (Ext.refl h) p.length n (by rw [hp]; simp)
   have k1 := N3 h n
   rw [List.all_cons]
   cases hn : CI n with
   | false =>
     rw [hn] at k1
     right
     refine ⟨rfl, [(2, .int .i64 0), (3, .int .i64 1500)], vN ?_, rfl, rfl⟩
     simp (disch := first | omega | (simp only [yR, OS, OT, w8, Nat.reduceAdd]; first | done | omega | fail) | (simp (disch := first | omega | (simp only [yR, OS, OT, w8, Nat.reduceAdd]; first | done | omega | fail) | fail) only [yR, Ds, OW, OS, OT, w8, Nat.reduceAdd]; done) | fail) only [go_sem, xN, Ej, AP.f93L0, i1, i2, k1]
   | true =>
     rw [hn] at k1
     rw [Bool.true_and]
     simp only [CI, OY] at hn
     have k2 : ∀ g, aS AP.A 104 [.int .i64 n, .int .i64 4] g = some (.str (bytesOf (xS n.toNat 4)), g) := fun g => by
      have := Ar g n.toNat 4 (by omega) (by omega)
      rw [show ((n.toNat : Nat) : Int) = n by omega] at this; exact this
     have k3 := ES h (bytesOf (xS n.toNat 4)) a ha (by rw [ya, xQ]; omega)
     have n1 : ((p.length + 1 : Nat) : Int) = (p.length : Int) + 1 := by omega
     have ih := CP hl h rd q (p ++ [n]) (yw a (bytesOf (xS n.toNat 4))) (by rw [hp]; simp) (B7 _ _)
     rw [xD, show [n].length = 1 from rfl, n1, Aj, yS] at ih
     rcases ih with ⟨g1, e', r1, r2⟩ | ⟨g1, e', r1, r2⟩
     · left
       refine ⟨g1, e', vp ?_ r1, r2⟩
       simp (disch := first | omega | (simp only [yR, OS, OT, w8, Nat.reduceAdd]; first | done | omega | fail) | (simp (disch := first | omega | (simp only [yR, OS, OT, w8, Nat.reduceAdd]; first | done | omega | fail) | fail) only [yR, Ds, OW, OS, OT, w8, Nat.reduceAdd]; done) | fail) only [go_sem, xN, Ej, AP.f93L0, i1, i2, k1, k2, k3]
     · right
       refine ⟨g1, e', vp ?_ r1, r2⟩
       simp (disch := first | omega | (simp only [yR, OS, OT, w8, Nat.reduceAdd]; first | done | omega | fail) | (simp (disch := first | omega | (simp only [yR, OS, OT, w8, Nat.reduceAdd]; first | done | omega | fail) | fail) only [yR, Ds, OW, OS, OT, w8, Nat.reduceAdd]; done) | fail) only [go_sem, xN, Ej, AP.f93L0, i1, i2, k1, k2, k3]
theorem Hn (h : H) (v : AV) (l : List Int) (rd : Rd h v (ints l)) (hl : l.length < 1125899906842624) : aS AP.A 93 [v] h = some (N9 (Ea l), h) := by
 have rd' := rd.mono (xP h)
 have ln := rd'.len
 rw [qZ] at ln
 simp only [I] at ln
 unfold Ea
 rcases CP hl h.eJ rd' l [] 0 rfl (by omega) with ⟨g1, e', r1, r2⟩ | ⟨g1, e', r1, r2, r3⟩
 · rw [if_pos g1]
   have r1' : Lp AP.A [4, 7, 8, 9] AP.f93L0 [(4, .int .i64 0), (7, v), (8, .int .i64 l.length), (9, .int .i64 0)] h.eJ = some (.exit 0, e', h.eJ) := r1
   have r2' : look e' 4 = .int .i64 (zP (Bm l)) := by rw [r2, ← BS (Hl l)]; rfl
   refine vX (fn := AP.f93) (h2 := h.eJ) (e := [(2, .int .i64 (zP (Bm l))), (3, .int .i64 0)]) rfl rfl rfl ?_ rfl rfl
   simp (disch := first | omega | (simp only [yR, OS, OT, w8, Nat.reduceAdd]; first | done | omega | fail) | (simp (disch := first | omega | (simp only [yR, OS, OT, w8, Nat.reduceAdd]; first | done | omega | fail) | fail) only [yR, Ds, OW, OS, OT, w8, Nat.reduceAdd]; done) | fail) only [go_sem, xN, Ej, AP.f93, ln, uz, r1', r2']
 · rw [if_neg (by rw [g1]; decide)]
   have r1' : Lp AP.A [4, 7, 8, 9] AP.f93L0 [(4, .int .i64 0), (7, v), (8, .int .i64 l.length), (9, .int .i64 0)] h.eJ = some (.ret, e', h.eJ) := r1
   refine vX (fn := AP.f93) (h2 := h.eJ) (e := e') rfl rfl rfl ?_ (by simp only [AP.f93, cT, oS, r2, r3]; rfl) rfl
   simp (disch := first | omega | (simp only [yR, OS, OT, w8, Nat.reduceAdd]; first | done | omega | fail) | (simp (disch := first | omega | (simp only [yR, OS, OT, w8, Nat.reduceAdd]; first | done | omega | fail) | fail) only [yR, Ds, OW, OS, OT, w8, Nat.reduceAdd]; done) | fail) only [go_sem, xN, Ej, AP.f93, ln, uz, r1']
def Mu (e : yd) : Nat := 128 + 2 * e.name.size + e.packed.size
def CZ : List yd → Nat
 | [] => 0
 | e :: l => Mu e + CZ l
theorem FA (a b : List yd) : CZ (a ++ b) = CZ a + CZ b := by
 induction a with
 | nil => simp [CZ]
 | cons x a ih => rw [List.cons_append, CZ, CZ, ih]; omega
def zh (l : List yd) : Nat := 22 + CZ l
def yP (l : List yd) : Bool := zK l && l.all zo
theorem Eb : ∀ {l : List yd} {p : Option yd}, zQ p l = true → ∀ e ∈ l, zf e.name = true ∧ yL e = true ∧ y8 e = true
 | [], _, _, e, h => by cases h
 | x :: l, p, hm, e, h => by
   rw [zQ, wW] at hm
   rcases xz.1 h with rfl | h
   · have := hm.1
     unfold zV at this
     simp only [wW] at this
     exact ⟨this.1, this.2.2.1, this.2.2.2⟩
   · exact Eb hm.2 e h
theorem BQ {e : yd} (h : y8 e = true) : e.packed.size ≤ 300 := by
 unfold y8 at h
 split at h
 · simp only [wW] at h
   have := (F4 _).1 h.2.1
   omega
 · simp only [wW, xm, OY] at h
   omega
theorem zL {s : ByteArray} (h : zf s = true) : 1 ≤ s.size ∧ s.size ≤ 8 := by
 unfold zf at h
 simp only [wW, OY] at h
 omega
theorem HL : ∀ {l : List yd}, (∀ e ∈ l, zf e.name = true ∧ yL e = true ∧ y8 e = true) → CZ l ≤ 444 * l.length
 | [], _ => by simp [CZ]
 | e :: l, h => by
   have i := HL (l := l) fun x hx => h x (by simp [hx])
   obtain ⟨h1, _, h3⟩ := h e (by simp)
   have := zL h1
   have := BQ h3
   rw [CZ, OS]; unfold Mu; omega
theorem yH {l : List yd} (h : zK l = true) : l.length ≤ 6 ∧ (∀ e ∈ l, zf e.name = true ∧ yL e = true ∧ y8 e = true) ∧ zh l ≤ 4096 := by
 unfold zK at h
 simp only [wW, OY] at h
 have a := Eb h.1
 have := HL a
 exact ⟨h.2, a, by unfold zh; omega⟩
def Cv (e : yd) : Nat := yN e.name % 8
def Kv (e : yd) : Int := ((zP (DW e) : Nat) : Int)
def y6 (l : List yd) (b : Nat) : List Int := (l.filter fun e => Cv e == b).map Kv
theorem FR (l : List yd) (e : yd) (b : Nat) : y6 (l ++ [e]) b = if Cv e = b then y6 l b ++ [Kv e] else y6 l b := by
 unfold y6
 rw [List.filter_append, O3]
 by_cases c : Cv e = b
 · rw [if_pos c]; simp [c]
 · rw [if_neg c]; simp [c]
theorem DQ (l : List yd) (b : Nat) : (y6 l b).length ≤ l.length := by
 unfold y6; rw [OX]; exact List.length_filter_le _ _
theorem Ia (l : List yd) (b : Nat) : (y6 l b).all CI = true := by
 unfold y6
 rw [List.all_map, List.all_eq_true]
 intro e _
 have := Ep (DW e)
 simp [Function.comp, CI, Kv]
 omega
def yq (l : List Int) : Int := ((zP (Bm l) : Nat) : Int)
theorem Hk {l : List Int} (h : l.all CI = true) : Ea l = some (zP (Bm l)) := by unfold Ea; rw [if_pos h]
theorem Hm (l : List Int) : CI (yq l) = true := by
 have := Ep (Bm l)
 simp [CI, yq]
 omega
def ym (l : List yd) : List Int := (List.range 8).map fun b => yq (y6 l b)
theorem yA (l : List yd) : (ym l).length = 8 := by simp [ym]
theorem GO (l : List yd) : (ym l).all CI = true := by
 unfold ym
 rw [List.all_map, List.all_eq_true]
 exact fun b _ => Hm _
def AH : Option Int → List Int → Bool
 | _, [] => true
 | p, b :: l => (decide (0 ≤ b) && (decide (b < 8) && (match p with | none => true | some q => decide (q < b)))) && AH (some b) l
def zT (l : List Int) : Bool := AH none l
abbrev Og := ByteArray × List Int
def yC (l : List yd) (bs : List Int) : List Og := (l.filter fun e => bs.contains ((Cv e : Nat) : Int)).map fun e => (e.name, e.vec)
structure Bu (h : H) (A : Nat) (C : Nat → AV) (ls : Nat → List Int) : Prop where
 get : h.get A = some (o7 8 C)
 fl : h.floor ≤ A
 nx : h.floor ≤ h.next
 own : ∀ n, n < 8 → yg 1 h (C n) (ls n).length (ints (ls n))
 I4 : ∀ n m, n < 8 → m < 8 → n ≠ m → ∀ i, (C n).id? = some i → (C m).id? ≠ some i
 gt : ∀ n, n < 8 → ∀ i, (C n).id? = some i → A < i
theorem Bu.mono {h g : H} {A : Nat} {C : Nat → AV} {ls : Nat → List Int} (b : Bu h A C ls) (hf : g.floor = h.floor) (hn : h.next ≤ g.next) (hg : ∀ i, i < h.next → g.get i = h.get i) : Bu g A C ls :=
 ⟨by rw [hg A (h.lt _ _ b.get)]; exact b.get, by rw [hf]; exact b.fl, by rw [hf]; exact xA b.nx hn, fun n hn' => (b.own n hn').mono hf fun i q => hg i ((b.own n hn').lt q).2, b.I4, b.gt⟩
theorem Bu.push {h : H} {A : Nat} {C : Nat → AV} {ls : Nat → List Int} (b : Bu h A C ls) {n : Nat} (hn : n < 8) (hl : (ls n).length < 1000000) (x : Int) :
 ∃ v' h', mC (h.alloc [.int .i64 x]) 1 8 (C n) (.aF h.next 0 1 1) = some (v', h') ∧ v'.sc = true ∧ h'.get A = some (o7 8 C) ∧ h'.floor = h.floor ∧ h.next ≤ h'.next ∧
   Bu (h'.set A (o7 8 (v9 C n v'))) A (v9 C n v') (fun m => if m = n then ls n ++ [x] else ls m) ∧ ∀ i, i < A → h'.get i = h.get i := by
 have o := b.own n hn
 obtain ⟨v', h', p1, p2, p3, p4, p5, p6⟩ := o.push b.nx (z := 8) (m := 1) (by omega) (by omega) [.int .i64 x] rfl rfl (by simp [roomy]; omega)
 have hA := h.lt _ _ b.get
 have nA : (C n).id? ≠ some A := fun q => by have := b.gt n hn A q; omega
 have gA : h'.get A = some (o7 8 C) := by rw [p5 A nA hA]; exact b.get
 refine ⟨v', h', p1, p2.sc, gA, p3, by omega, ⟨by rw [yu rfl, gA]; rfl, by simp [p3, b.fl], by simp [p3]; have := b.nx; omega, fun m hm => ?_, fun m k hm hk hmk i q => ?_, fun m hm i q => ?_⟩, fun i hi => p5 i (fun q => by have := b.gt n hn i q; omega) (by omega)⟩
 · by_cases c : m = n
   · subst c
     have e : ints (ls m) ++ [.int .i64 x] = ints (ls m ++ [x]) := by simp [ints, I]
     rw [e] at p2
     simp only [v9, if_true, xD, List.length_singleton]
     exact p2.mono (by simp) fun i q => by rw [yc]; rw [p6] at q; have := wL q; omega
   · simp only [v9, if_neg c]
     refine (b.own m hm).mono (by simp [p3]) fun i q => ?_
     have h1 := ((b.own m hm).lt q).2
     have h2 := b.gt m hm i q
     rw [yc (by omega), p5 i (fun q2 => b.I4 m n hm hn c i q q2) h1]
 · unfold v9 at q ⊢
   by_cases c1 : m = n
   · rw [if_pos c1, p6] at q
     have e := wL q
     rw [if_neg (by omega)]
     intro q2
     have := ((b.own k hk).lt q2).2
     omega
   · rw [if_neg c1] at q
     by_cases c2 : k = n
     · rw [if_pos c2, p6]
       intro q2
       have e := wL q2
       have := ((b.own m hm).lt q).2
       omega
     · rw [if_neg c2]
       exact b.I4 m k hm hk hmk i q
 · unfold v9 at q
   by_cases c : m = n
   · rw [if_pos c, p6] at q
     have e := wL q
     omega
   · rw [if_neg c] at q
     exact b.gt m hm i q
theorem Bu.new {h : H} (hf : h.floor ≤ h.next) : Bu (h.alloc (o7 8 fun _ => .aQ)) h.next (fun _ => .aQ) (fun _ => []) :=
 ⟨xL rfl, by simpa using hf, by simp; omega, fun n _ => yg.nil, fun n m _ _ _ i q => (by cases q), fun n _ i q => (by cases q)⟩
theorem zk.CQ {n : Nat} {h g : H} {v : AV} {k : Nat} {cs : List AV} (r : zk n h v k cs) (hg : ∀ i, v.id? = some i → g.get i = h.get i) : zk n g v k cs := by
 obtain ⟨r, hl, hs⟩ := r
 refine ⟨?_, hl, hs⟩
 unfold aT at r ⊢
 split at r
 · exact r
 · exact r
 · rename_i id off len s
   split at r
   · rename_i q
     rw [if_pos q, hg id rfl]; exact r
   · cases r
 · exact r
 · cases r
theorem Rd.CQ {h g : H} {v : AV} {cs : List AV} (r : Rd h v cs) (hg : ∀ i, v.id? = some i → g.get i = h.get i) : Rd g v cs := by
 have := r.Ms.CQ hg
 exact ⟨this.1, this.2.2⟩
theorem zc.CQ {h g : H} {x : xZ} (o : zc h x) (hg : ∀ i, x.2.id? = some i → g.get i = h.get i) : zc g x := ⟨o.vec.CQ hg, o.vl, o.nl, o.pl⟩
theorem EO (l : List xZ) (x : xZ) : xV (l ++ [x]) = xV l ++ xW x.1 x.2 := by simp [xV, KF]
theorem zk.Kz {h : H} {v : AV} {l : List xZ} (rd : zk 9 h v l.length (xV l)) : ∃ ad : Int → Nat → AV, (∀ i : Int, 0 ≤ i ∧ i < l.length → gS 9 v (.int .i64 i) = some (ad i 0)) ∧
 (∀ g, Ext h g → ∀ (i : Nat) (x : xZ), l[i]? = some x → PE g (ad i 0) (xW x.1 x.2) ∧ bZ true 9 (ad i 0) g = some (.agg (xW x.1 x.2))) := by
 obtain ⟨ad, a1, a2, a4, a3⟩ := rd.at_
 refine ⟨ad, a1, fun g hg i x hx => ?_⟩
 have hi : i < l.length := (wR.1 hx).1
 have hI : (0 : Int) ≤ (i : Int) ∧ (i : Int) < l.length := ⟨by omega, by omega⟩
 refine ⟨⟨fun g' => a4 _ 0 g' hI, fun k => ad i (0 + k), fun k => a2 _ 0 k hI, fun g' hg' k c hc => ?_⟩, ?_⟩
 · have hk : k < 9 := (wR.1 hc).1
   refine (a3 g' (fun id c q => hg' id c (hg id c q))).1 _ _ _ hI ?_
   rw [zq, w8, show xV l = l.flatMap KF from rfl, BV AQ hx hk]; exact hc
 · rw [(a3 g hg).2 _ hI, zq, show xV l = l.flatMap KF from rfl, Fh AQ hx]; rfl
theorem FJ {v : AV} {l : List xZ} (h : H) (b : Nat) (hb : h.get b = some [v]) (rd : zk 9 h v l.length (xV l)) (hm : zK (l.map (·.1)) = true) : ∀ (q p : List xZ), l = p ++ q →
 ∃ e', Lp AP.A [0, 3, 10, 11] AP.f192L0 [(0, .aE b 0), (3, .int .i64 (22 + CZ (p.map (·.1)) : Nat)), (10, .int .i64 l.length), (11, .int .i64 p.length)] h = some (.exit 0, e', h) ∧ look e' 3 = .int .i64 (zh (l.map (·.1)) : Nat)
 | [], p, hp => by
   rw [OZ] at hp; subst hp
   refine ⟨[(0, .aE b 0), (3, .int .i64 (22 + CZ (l.map (·.1)) : Nat)), (10, .int .i64 l.length), (11, .int .i64 l.length), (12, .bool false)], vo ?_, rfl⟩
   simp (disch := omega) only [go_sem, xN, AP.f192L0]
 | x :: q, p, hp => by
   obtain ⟨m1, m2, m3⟩ := yH hm
   have hx : l[p.length]? = some x := by rw [hp]; simp
   have hlen : l.length = p.length + (q.length + 1) := by rw [hp]; simp
   rw [OX] at m1
   obtain ⟨_, _, c3⟩ := m2 x.1 (by rw [hp]; simp)
   have c1 := zL (m2 x.1 (by rw [hp]; simp)).1
   have c2 := BQ c3
   obtain ⟨ad, a1, a2⟩ := rd.Kz
   have b1 := a1 p.length ⟨by omega, by omega⟩
   obtain ⟨pe, _⟩ := a2 h (Ext.refl h) p.length x hx
   have nl := pe.nil
   obtain ⟨qq, f1, f2⟩ := pe.vz
   have l0 := f2 h (Ext.refl h) 0 _ rfl
   have l6 := f2 h (Ext.refl h) 6 _ rfl
   obtain ⟨e', r1, r2⟩ := FJ h b hb rd hm q (p ++ [x]) (by rw [hp]; simp)
   have sz : zh (l.map (·.1)) = 22 + (CZ (p.map (·.1)) + (Mu x.1 + CZ (q.map (·.1)))) := by unfold zh; rw [hp, O3, FA, O7, CZ]
   have e1 : 22 + CZ ((p ++ [x]).map (·.1)) = 22 + CZ (p.map (·.1)) + Mu x.1 := by rw [O3, FA]; simp [CZ]; omega
   have n1 : ((p ++ [x]).length : Int) = (p.length : Int) + 1 := by simp
   rw [e1, n1] at r1
   have se : Mu x.1 = 128 + 2 * x.1.name.size + x.1.packed.size := rfl
   obtain ⟨N, hN⟩ : ∃ N, N = 22 + CZ (p.map (·.1)) := ⟨_, rfl⟩
   rw [← hN] at r1 ⊢
   have hN2 : N ≤ 4096 := by omega
   have w : (N : Int) + (76 + 2 * ((x.1.name.size : Int) + 26) + (x.1.packed.size : Int)) = ((N + Mu x.1 : Nat) : Int) := by omega
   refine ⟨e', vp ?_ r1, r2⟩
   clear r1 r2 e1 sz hN rd a1 a2 f2 pe m2 m3 hm hp n1
   simp (disch := omega) only [go_sem, xN, AP.f192L0, hb, b1, nl, f1, l0, l6, w]
theorem IP {v : AV} {l : List xZ} (h : H) (b : Nat) (hb : h.get b = some [v]) (rd : zk 9 h v l.length (xV l)) (hm : zK (l.map (·.1)) = true) : aS AP.A 192 [.aE b 0] h = some (.int .i64 (zh (l.map (·.1)) : Nat), h) := by
 obtain ⟨e', r1, r2⟩ := FJ h b hb rd hm l [] rfl
 have ln := rd.len
 have r1' : Lp AP.A [0, 3, 10, 11] AP.f192L0 [(0, .aE b 0), (3, .int .i64 22), (10, .int .i64 l.length), (11, .int .i64 0)] h = some (.exit 0, e', h) := r1
 clear rd r1 hm
 generalize zh (l.map (·.1)) = N at *
 refine vG (fn := AP.f192) (h2 := h) (e := [(2, .int .i64 N)]) (vs := [.int .i64 N]) rfl rfl rfl ?_ rfl
 simp (disch := omega) only [go_sem, xN, AP.f192, hb, ln, uz, r1', r2]
theorem AE (v : AV) : iT true 1 [v] 0 = some (.agg [v]) := rfl
theorem IM (h : H) (v : AV) (l : List xZ) (hvs : v.sc = true) (hn : l.length < 1125899906842624) (rd : zk 9 h v l.length (xV l)) (hv : ∀ x ∈ l, zc h x) : aS AP.A 190 [.agg [v]] h = some (.int .i64 (if zK (l.map (·.1)) = true then (zh (l.map (·.1)) : Nat) else (0 : Nat) : Nat), h) := by
 obtain ⟨h1, eh1⟩ : ∃ g, g = h.eJ.alloc [v] := ⟨_, rfl⟩
 have hx0 : Ext h h1 := by rw [eh1]; exact fun i c q => ((Ext.refl h.eJ).alloc _) i c q
 have hn0 : h.eJ.next = h.next := rfl
 have g1 : h1.get h.next = some [v] := by rw [eh1]; exact xL rfl
 have rd1 := rd.mono fun i c q => hx0 i c q
 have k1 := HS h1 v l hvs hn rd1 (fun x hx => (hv x hx).mono hx0)
 cases hm : zK (l.map (·.1)) with
 | false =>
   rw [hm] at k1
   refine vX (fn := AP.f190) (h2 := h1) (e := [(2, .int .i64 0)]) (vs := [.int .i64 0]) rfl rfl rfl ?_ rfl rfl
   clear rd rd1 hv hx0
   simp (disch := omega) only [go_sem, xN, AP.f190, hvs, hn0, ← eh1, g1, AE, k1]
 | true =>
   rw [hm] at k1
   have k2 := IP h1 h.next g1 rd1 hm
   refine vX (fn := AP.f190) (h2 := h1) (e := [(2, .int .i64 (zh (l.map (·.1)) : Nat))]) (vs := [.int .i64 (zh (l.map (·.1)) : Nat)]) rfl rfl rfl ?_ rfl rfl
   clear rd rd1 hv hx0
   simp (disch := omega) only [go_sem, xN, AP.f190, hvs, hn0, ← eh1, g1, AE, k1, k2]
theorem LR (h : H) (v : AV) (l : List xZ) (hvs : v.sc = true) (hn : l.length < 1125899906842624) (rd : zk 9 h v l.length (xV l)) (hv : ∀ x ∈ l, zc h x) : aS AP.A 186 [.agg [v]] h = some (.bool (zK (l.map (·.1))), h) := by
 obtain ⟨h1, eh1⟩ : ∃ g, g = h.eJ.alloc [v] := ⟨_, rfl⟩
 have hx0 : Ext h h1 := by rw [eh1]; exact fun i c q => ((Ext.refl h.eJ).alloc _) i c q
 have hn0 : h.eJ.next = h.next := rfl
 have g1 : h1.get h.next = some [v] := by rw [eh1]; exact xL rfl
 have rd1 := rd.mono fun i c q => hx0 i c q
 have k1 := IM h1 v l hvs hn rd1 (fun x hx => (hv x hx).mono hx0)
 cases hm : zK (l.map (·.1)) with
 | false =>
   rw [hm] at k1
   have k1' : aS AP.A 190 [.agg [v]] h1 = some (.int .i64 0, h1) := k1
   refine vX (fn := AP.f186) (h2 := h1) (e := [(2, .bool false)]) (vs := [.bool false]) rfl rfl rfl ?_ rfl rfl
   clear rd rd1 hv hx0
   simp (disch := omega) only [go_sem, xN, AP.f186, hvs, hn0, ← eh1, g1, AE, k1']
 | true =>
   rw [hm] at k1
   have k1' : aS AP.A 190 [.agg [v]] h1 = some (.int .i64 (zh (l.map (·.1)) : Nat), h1) := k1
   have m3 := (yH hm).2.2
   have m4 : 22 ≤ zh (l.map (·.1)) := by unfold zh; omega
   generalize zh (l.map (·.1)) = N at *
   refine vX (fn := AP.f186) (h2 := h1) (e := [(2, .bool true)]) (vs := [.bool true]) rfl rfl rfl ?_ rfl rfl
   clear rd rd1 hv hx0 k1 hm
   simp (disch := omega) only [go_sem, xN, AP.f186, hvs, hn0, ← eh1, g1, AE, k1']
theorem KI (h : H) (hf : h.floor ≤ h.next) (e : yd) (v : AV) (hv : v.sc = true) (ok : zc h (e, v)) : aS AP.A 188 [.agg (xW e v)] h = some (.bool (!zo e), h) := by
 obtain ⟨h1, eh1⟩ : ∃ g, g = h.eJ.alloc (xW e v) := ⟨_, rfl⟩
 have hx1 : Ext h h1 := fun i c q => by rw [eh1]; exact ((Ext.refl h.eJ).alloc _) i c q
 have hn0 : h.eJ.next = h.next := rfl
 have g0 : h1.get h.next = some (xW e v) := by rw [eh1, xL (by simp)]
 have k1 := GU h1 (by rw [eh1]; simp) e v hv (ok.mono hx1)
 have rdA : iT true 9 (xW e v) 0 = some (.agg (xW e v)) := rfl
 refine vX (fn := AP.f188) (h2 := h1) (e := [(2, .bool (!zo e))]) rfl rfl rfl ?_ rfl rfl
 clear hx1
 simp only [xW] at *
 simp (disch := omega) only [go_sem, xN, AP.f188, hv, hn0, ← eh1, g0, rdA, k1]
theorem Fi {v : AV} {l : List xZ} (hl : l.length < 1000) (h : H) (hf : h.floor ≤ h.next) (rd : zk 9 h v l.length (xV l)) (hv : ∀ x ∈ l, zc h x ∧ x.2.sc = true) : ∀ (q p : List xZ), l = p ++ q →
 (∃ e', Lp AP.A [0, 1, 7, 8] AP.f191L0 [(0, v), (1, .fn 188 [] []), (7, .int .i64 l.length), (8, .int .i64 p.length)] h = some (.exit 0, e', h) ∧ (q.map (·.1)).all zo = true) ∨
 (∃ e', Lp AP.A [0, 1, 7, 8] AP.f191L0 [(0, v), (1, .fn 188 [] []), (7, .int .i64 l.length), (8, .int .i64 p.length)] h = some (.ret, e', h) ∧ (∃ k : Nat, look e' 4 = .int .i64 k) ∧ (q.map (·.1)).all zo = false)
 | [], p, hp => by
   rw [OZ] at hp; subst hp
   refine .inl ⟨[(0, v), (1, .fn 188 [] []), (7, .int .i64 l.length), (8, .int .i64 l.length), (9, .bool false)], vo ?_, rfl⟩
   simp (disch := omega) only [go_sem, xN, AP.f191L0]
 | x :: q, p, hp => by
   have hx : l[p.length]? = some x := by rw [hp]; simp
   have hlen : l.length = p.length + (q.length + 1) := by rw [hp]; simp
   obtain ⟨ad, a1, a2⟩ := rd.Kz
   have b1 := a1 p.length ⟨by omega, by omega⟩
   obtain ⟨_, b2⟩ := a2 h (Ext.refl h) p.length x hx
   obtain ⟨ok, sc⟩ := hv x (by rw [hp]; simp)
   have k1 := KI h hf x.1 x.2 sc ok
   have n1 : ((p ++ [x]).length : Int) = (p.length : Int) + 1 := by simp
   have ih := Fi hl h hf rd hv q (p ++ [x]) (by rw [hp]; simp)
   rw [n1] at ih
   rw [O7, List.all_cons]
   cases hm : zo x.1 with
   | false =>
     rw [hm] at k1
     refine .inr ⟨[(4, .int .i64 p.length)], vN ?_, ⟨p.length, rfl⟩, rfl⟩
     clear ih rd a1 a2 hv hp
     generalize xW x.1 x.2 = E at *
     simp (disch := omega) only [go_sem, xN, AP.f191L0, b1, b2, k1]
   | true =>
     rw [hm] at k1
     rw [Bool.true_and]
     have step : aM (aS AP.A) bH AP.f191L0 (az [(0, v), (1, .fn 188 [] []), (7, .int .i64 l.length), (8, .int .i64 p.length)] [0, 1, 7, 8]) h = some (.normal, [(0, v), (1, .fn 188 [] []), (7, .int .i64 l.length), (8, .int .i64 ((p.length : Int) + 1))], h) := by
      clear ih rd a1 a2 hv hp
      generalize xW x.1 x.2 = E at *
      simp (disch := omega) only [go_sem, xN, AP.f191L0, b1, b2, k1]
     rcases ih with ⟨e', r1, r2⟩ | ⟨e', r1, r2, r3⟩
     · exact .inl ⟨e', vp step r1, r2⟩
     · exact .inr ⟨e', vp step r1, r2, r3⟩
theorem Jz (h : H) (hf : h.floor ≤ h.next) (v : AV) (l : List xZ) (hl : l.length < 1000) (rd : zk 9 h v l.length (xV l)) (hv : ∀ x ∈ l, zc h x ∧ x.2.sc = true) : aS AP.A 187 [v, .fn 188 [] []] h = some (.bool (!(l.map (·.1)).all zo), h) := by
 have xf : Ext h h.eJ := fun i c q => q
 have k1 : ∃ k : Int, aS AP.A 191 [v, .fn 188 [] []] h.eJ = some (.int .i64 k, h.eJ) ∧ (k < 0 ↔ (l.map (·.1)).all zo = true) := by
  have ln := rd.len
  rcases Fi hl h.eJ.eJ (by simp) (rd.mono fun i c q => xf i c q) (fun x hx => ⟨(hv x hx).1.mono xf, (hv x hx).2⟩) l [] rfl with ⟨e', r1, r2⟩ | ⟨e', r1, ⟨k, r2⟩, r3⟩
  · have r1' : Lp AP.A [0, 1, 7, 8] AP.f191L0 [(0, v), (1, .fn 188 [] []), (7, .int .i64 l.length), (8, .int .i64 0)] h.eJ.eJ = some (.exit 0, e', h.eJ.eJ) := r1
    refine ⟨-1, vX (fn := AP.f191) (h2 := h.eJ.eJ) (e := [(4, .int .i64 (-1))]) rfl rfl rfl ?_ rfl rfl, by rw [r2]; simp⟩
    clear rd hv r1 r2
    simp (disch := omega) only [go_sem, xN, AP.f191, ln, uz, r1']
  · have r1' : Lp AP.A [0, 1, 7, 8] AP.f191L0 [(0, v), (1, .fn 188 [] []), (7, .int .i64 l.length), (8, .int .i64 0)] h.eJ.eJ = some (.ret, e', h.eJ.eJ) := r1
    refine ⟨k, vX (fn := AP.f191) (h2 := h.eJ.eJ) (e := e') (vs := [.int .i64 k]) rfl rfl rfl ?_ (by simp only [AP.f191, cT, oS, r2]; rfl) rfl, by rw [r3]; simp⟩
    clear rd hv r1 r2 r3
    simp (disch := omega) only [go_sem, xN, AP.f191, ln, uz, r1']
 obtain ⟨k, k1, k2⟩ := k1
 refine vX (fn := AP.f187) (h2 := h.eJ) (e := [(4, .bool (!(l.map (·.1)).all zo))]) rfl rfl rfl ?_ rfl rfl
 cases ha : (l.map (·.1)).all zo with
 | true =>
   have : ¬ 0 ≤ k := by have := k2.2 ha; omega
   clear rd hv k2
   simp (disch := omega) only [go_sem, xN, AP.f187, k1]
 | false =>
   have : 0 ≤ k := by
    rw [ha] at k2
    have : ¬ k < 0 := fun q => by cases k2.1 q
    omega
   clear rd hv k2
   simp (disch := omega) only [go_sem, xN, AP.f187, k1]
theorem GZ (h : H) (v : AV) (l : List xZ) (hvs : v.sc = true) (hn : l.length < 1125899906842624) (rd : zk 9 h v l.length (xV l)) (hv : ∀ x ∈ l, zc h x ∧ x.2.sc = true) : aS AP.A 183 [.agg [v]] h = some (.bool (yP (l.map (·.1))), h) := by
 obtain ⟨h1, eh1⟩ : ∃ g, g = h.eJ.alloc [v] := ⟨_, rfl⟩
 have hx0 : Ext h h1 := by rw [eh1]; exact fun i c q => ((Ext.refl h.eJ).alloc _) i c q
 have hn0 : h.eJ.next = h.next := rfl
 have g1 : h1.get h.next = some [v] := by rw [eh1]; exact xL rfl
 have rd1 := rd.mono fun i c q => hx0 i c q
 have k1 := LR h1 v l hvs hn rd1 (fun x hx => (hv x hx).1.mono hx0)
 refine vX (fn := AP.f183) (h2 := h1) (e := [(2, .bool (yP (l.map (·.1))))]) rfl rfl rfl ?_ rfl rfl
 unfold yP
 cases hm : zK (l.map (·.1)) with
 | false =>
   rw [hm] at k1
   clear rd rd1 hv hx0
   simp (disch := omega) only [go_sem, xN, AP.f183, hvs, hn0, ← eh1, g1, AE, k1]
 | true =>
   rw [hm] at k1
   have m1 := (yH hm).1
   rw [OX] at m1
   have k2 := Jz h1 (by rw [eh1]; simp) v l (by omega) rd1 (fun x hx => ⟨(hv x hx).1.mono hx0, (hv x hx).2⟩)
   clear rd rd1 hv hx0
   generalize (l.map (·.1)).all zo = B at *
   cases B <;> simp (disch := omega) only [go_sem, xN, AP.f183, hvs, hn0, ← eh1, g1, AE, k1, k2]
def I5 : Ty := .sl KE 9 104
def Ip : Ty := .st [I5]
theorem IF {ess : List (List AV)} (h : ∀ es, es ∈ ess → Sh reachBytes KE es) : ∃ l : List xZ, l.length = ess.length ∧ ess.flatten = xV l ∧ ∀ x ∈ l, x.2.sc = true ∧ (∀ g, zc g x) ∧ x.1.vec.length < 20000000000000 := by
 induction ess with
 | nil => exact ⟨[], rfl, rfl, fun x hx => by cases hx⟩
 | cons y ess ih =>
   obtain ⟨e, v, rfl, hv, ok, hl⟩ := Mc (h y (by simp))
   obtain ⟨l, h1, h2, h3⟩ := ih fun es q => h es (by simp [q])
   refine ⟨(e, v) :: l, by simp [h1], by rw [List.flatten_cons, h2]; rfl, fun x hx => ?_⟩
   rcases xz.1 hx with rfl | hx
   · exact ⟨hv, ok, hl⟩
   · exact h3 x hx
theorem IG {as : List AV} (h : Sh reachBytes I5 as) : ∃ (v : AV) (l : List xZ), as = [v] ∧ v.sc = true ∧ (∀ g, zk 9 g v l.length (xV l)) ∧ (∀ x ∈ l, x.2.sc = true ∧ (∀ g, zc g x) ∧ x.1.vec.length < 20000000000000) ∧ l.length < 2000000000000 := by
 cases h with
 | aQ => exact ⟨.aQ, [], rfl, rfl, fun g => ⟨rfl, rfl, fun s q => (by cases q)⟩, fun x hx => (by cases hx), by simp⟩
 | aW ess h hz hb =>
   obtain ⟨l, h1, h2, h3⟩ := IF h
   have hl : ess.flatten.length = ess.length * 9 := by rw [h2, Af, h1]
   refine ⟨_, l, rfl, rfl, fun g => ?_, h3, ?_⟩
   · rw [h2, ← h1]
     refine ⟨?_, by rw [Af], fun s q => by cases q⟩
     simp only [aT, if_true, w8]
     rw [if_pos (by rw [Af]; exact wV _), O0, xu (by rw [Af]; exact wV _)]
   · rw [h1]; unfold reachBytes at hb; omega
theorem Md {as : List AV} (h : Sh reachBytes Ip as) : ∃ (v : AV) (l : List xZ), as = [v] ∧ v.sc = true ∧ (∀ g, zk 9 g v l.length (xV l)) ∧ (∀ x ∈ l, x.2.sc = true ∧ (∀ g, zc g x) ∧ x.1.vec.length < 20000000000000) ∧ l.length < 2000000000000 := by
 obtain ⟨a1, r1, rfl, s1, h1⟩ := yE (Jf h)
 obtain rfl := Fu h1
 obtain ⟨v, l, rfl, q⟩ := IG s1
 exact ⟨v, l, rfl, q⟩
structure Mw (n : Nat) (h : H) (w : AV) (h' : H) (k : Nat) (cs : List AV) : Prop where
 own : yg n h' w k cs
 ext : Ext h h'
 fl : h'.floor = h.floor
 nx : h.next ≤ h'.next
 ge : ∀ i, w.id? = some i → h.next ≤ i
theorem AK (h : H) (s : ByteArray) (hs : s.size < 1125899906842624) : aS AP.A 179 [.str s] h = some (.int .i64 ((yN s % 8 : Nat) : Int), h) := by
 have k1 := Ed h.eJ s hs
 have rm : bD .rem (.int .i64 (yN s : Int)) (.int .i64 8) = some (.int .i64 ((yN s % 8 : Nat) : Int)) := by
  show (if (8 : Int) = 0 then none else some (AV.int .i64 ((yN s : Int).tmod 8))) = _
  rw [if_neg (by decide), Int.tmod_eq_emod_of_nonneg (by omega)]; rfl
 generalize ((yN s % 8 : Nat) : Int) = M at *
 refine vX (fn := AP.f179) (h2 := h.eJ) (e := [(2, .int .i64 M)]) rfl rfl rfl ?_ rfl rfl
 simp (disch := omega) only [go_sem, xN, AP.f179, k1, rm]
theorem Em {v : AV} (h : v.sc = true) : v.cells = [v] := by cases v <;> first | rfl | cases h
theorem E4 {v : AV} {l : List xZ} (h0 : H) (rd : zk 9 h0 v l.length (xV l)) (hv : ∀ x ∈ l, zc h0 x ∧ x.2.sc = true) (hm : yP (l.map (·.1)) = true) (A : Nat) (hA : h0.next ≤ A) : ∀ (q p : List xZ), l = p ++ q → ∀ (h : H) (C : Nat → AV), Ext h0 h → h0.next ≤ h.next → Bu h A C (y6 (p.map (·.1))) →
 ∃ e' h' C', Lp AP.A [4, 19, 20, 21] AP.f177L1 [(4, .aE A 0), (19, v), (20, .int .i64 l.length), (21, .int .i64 p.length)] h = some (.exit 0, e', h') ∧ look e' 4 = .aE A 0 ∧ Bu h' A C' (y6 (l.map (·.1))) ∧ Ext h0 h' ∧ h'.floor = h.floor ∧ h.next ≤ h'.next
 | [], p, hp, h, C, hx, hn, bu => by
   rw [OZ] at hp; subst hp
   refine ⟨[(4, .aE A 0), (19, v), (20, .int .i64 l.length), (21, .int .i64 l.length), (22, .bool false)], h, C, vo ?_, rfl, bu, hx, rfl, wV _⟩
   simp (disch := omega) only [go_sem, xN, AP.f177L1]
 | x :: q, p, hp, h, C, hx, hn, bu => by
   unfold yP at hm
   have hm' := hm
   rw [wW] at hm
   obtain ⟨m1, m2, m3⟩ := yH hm.1
   rw [OX] at m1
   have hl : l[p.length]? = some x := by rw [hp]; simp
   have hlen : l.length = p.length + (q.length + 1) := by rw [hp]; simp
   have may : zo x.1 = true := List.all_eq_true.1 hm.2 x.1 (by rw [hp]; simp)
   have nsz := zL (m2 x.1 (by rw [hp]; simp)).1
   obtain ⟨ad, a1, a2⟩ := rd.Kz
   have b1 := a1 p.length ⟨by omega, by omega⟩
   obtain ⟨_, b2⟩ := a2 h hx p.length x hl
   obtain ⟨ok, sc⟩ := hv x (by rw [hp]; simp)
   obtain ⟨E, hE⟩ : ∃ E, E = xW x.1 x.2 := ⟨_, rfl⟩
   have lE : E.length = 9 := by rw [hE]; rfl
   have cE : AV.aD E = true := by rw [hE]; exact A8 sc
   have rE : iT true 9 E 0 = some (.agg E) := by rw [hE]; rfl
   have E0 : E[0]? = some (.str x.1.name) := by rw [hE]; rfl
   obtain ⟨g0, eg0⟩ : ∃ g, g = h.alloc Z9 := ⟨_, rfl⟩
   obtain ⟨g1, eg1⟩ : ∃ g, g = g0.set h.next E := ⟨_, rfl⟩
   have z0 : g0.get h.next = some Z9 := by rw [eg0, xL rfl]
   have st : vZ g0 h.next 0 9 E (some Z9) = some g1 := by rw [eg1]; exact A3 (by rw [eg0]; simp; exact bu.nx) lE rfl cE
   have z1 : g1.get h.next = some E := by rw [eg1, yu rfl, z0]; rfl
   have low : ∀ i, i < h.next → g1.get i = h.get i := fun i hi => by rw [eg1, yc (by omega), eg0, yh (by omega)]
   have f1 : g1.floor = h.floor := by rw [eg1, eg0]; simp
   have n1 : g1.next = h.next + 1 := by rw [eg1, eg0]; simp
   have x1 : Ext h0 g1 := fun i c q => by rw [low i (by have := h0.lt _ _ q; omega)]; exact hx i c q
   have bu1 := bu.mono f1 (by omega) low
   have k1 := GM g1 (by have := bu.nx; omega) x.1 x.2 sc (ok.mono x1)
   unfold Kw at k1
   rw [if_pos may, ← hE] at k1
   have k1' : aS AP.A 91 [.agg E] g1 = some (.bV [.int .i64 (Kv x.1), .int .i64 0], g1) := k1
   have k2 := AK g1 x.1.name (by omega)
   obtain ⟨b, hb⟩ : ∃ b, b = yN x.1.name % 8 := ⟨_, rfl⟩
   have hb8 : b < 8 := by omega
   rw [← hb] at k2
   obtain ⟨v', h', p1, p2, p3, p4, p5, p6, p7⟩ := bu1.push hb8 (by have := DQ (p.map (·.1)) b; rw [OX] at this; omega) (Kv x.1)
   have gC : (o7 8 C)[b]? = some (C b) := gQ hb8
   have hc := Em p2
   have gA1 := bu1.get
   have st2 : vZ h' A b 1 [v'] (some (o7 8 C)) = some (h'.set A (o7 8 (v9 C b v'))) := by
    rw [wD (by rw [p4]; exact bu1.fl) (by simp [hb8]) p2, vJ hb8]
   have eb : (fun m => if m = b then y6 (p.map (·.1)) b ++ [Kv x.1] else y6 (p.map (·.1)) m) = y6 ((p ++ [x]).map (·.1)) := by
    funext m
    rw [O3, List.map_singleton, FR]
    have : Cv x.1 = b := hb.symm
    rw [this]
    by_cases c : m = b
    · subst c; simp
    · rw [if_neg c, if_neg (by omega)]
   rw [eb] at p6
   obtain ⟨e', h2, C2, r1, r2, r3, r4, r5, r6⟩ := E4 h0 rd hv hm' A hA q (p ++ [x]) (by rw [hp]; simp) (h'.set A (o7 8 (v9 C b v'))) _ (fun i c q => by have := h0.lt _ _ q; rw [yc (by omega), p7 i (by omega)]; exact x1 i c q) (by simp; omega) p6
   have w1 : ((p ++ [x]).length : Int) = (p.length : Int) + 1 := by simp
   rw [w1] at r1
   refine ⟨e', h2, C2, vp ?_ r1, r2, r3, r4, by rw [r5]; simp [p4, f1], by simp at r6; omega⟩
   rw [← hE] at b2
   have a0 : h.alloc [.str ⟨#[]⟩, .bool false, .aQ, .int .i64 0, .int .i64 0, .int .i64 0, .str ⟨#[]⟩, .int .i64 0, .int .i64 0] = g0 := eg0.symm
   have pI : (0 : Int) ≤ (b : Int) ∧ (b : Int) < 8 := ⟨by omega, by omega⟩
   clear r1 r2 r3 r4 r5 r6 p6 eb hE hv rd a1 a2 x1 low bu bu1 k1 hx hm hm' m2 hb may hp eg0 eg1
   generalize Kv x.1 = D at *
   generalize o7 8 (v9 C b v') = T2 at *
   generalize o7 8 C = T1 at *
   simp (disch := omega) only [go_sem, xN, AP.f177L1, b1, b2, a0, z0, lE, cE, st, z1, rE, E0, k1', k2, gA1, gC, p1, hc, p3, st2]
theorem EV {f : Nat → Int} (i : Nat) : (List.range (i + 1)).map f = (List.range i).map f ++ [f i] := by rw [List.range_succ, O3]; rfl
theorem DN (h0 : H) (C : Nat → AV) (ls : Nat → List Int) (hb : ∀ m, m < 8 → (ls m).all CI = true ∧ (ls m).length < 1000000) : ∀ (n i : Nat), i + n = 8 → ∀ (h : H) (ov : AV), (∀ m, m < 8 → Rd h (C m) (ints (ls m))) → yg 1 h ov i (ints ((List.range i).map fun b => yq (ls b))) → h.floor ≤ h.next →
 (∀ m, m < 8 → ∀ j, (C m).id? = some j → ov.id? ≠ some j ∧ j < h.next) → Ext h0 h → h0.next ≤ h.next → (∀ j, ov.id? = some j → h0.next ≤ j) →
 ∃ e' h' ov', Lp AP.A [10, 42, 43] AP.f177L0 [(10, ov), (42, .agg (o7 8 C)), (43, .int .i64 i)] h = some (.exit 2, e', h') ∧ look e' 10 = ov' ∧ yg 1 h' ov' 8 (ints ((List.range 8).map fun b => yq (ls b))) ∧ Ext h0 h' ∧ h'.floor = h.floor ∧ h.next ≤ h'.next ∧ ∀ j, ov'.id? = some j → h0.next ≤ j
 | 0, i, hi, h, ov, iT, o, hf, sep, hx, hn, hge => by
   obtain rfl : i = 8 := by omega
   refine ⟨[(10, ov), (42, .agg (o7 8 C)), (43, .int .i64 8), (44, .bool false)], h, ov, vo ?_, rfl, o, hx, rfl, wV _, hge⟩
   generalize o7 8 C = T at *
   simp (disch := omega) only [go_sem, xN, AP.f177L0]
 | n + 1, i, hi, h, ov, iT, o, hf, sep, hx, hn, hge => by
   obtain ⟨ha, hl⟩ := hb i (by omega)
   have k1 := Hn h (C i) (ls i) (iT i (by omega)) (by omega)
   rw [Hk ha] at k1
   have k1' : aS AP.A 93 [C i] h = some (.bV [.int .i64 (yq (ls i)), .int .i64 0], h) := k1
   obtain ⟨v', h', p1, p2, p3, p4, p5, p6⟩ := o.push hf (z := 8) (m := 1) (by omega) (by omega) [.int .i64 (yq (ls i))] rfl rfl (by simp [roomy]; omega)
   have e : ints ((List.range i).map fun b => yq (ls b)) ++ [.int .i64 (yq (ls i))] = ints ((List.range (i + 1)).map fun b => yq (ls b)) := by rw [EV]; simp [ints, I]
   rw [e] at p2
   have yV : ∀ j, j < h.next → ov.id? ≠ some j → h'.get j = h.get j := fun j a b => p5 j b a
   have gC : nM false 8 1 (.agg (o7 8 C)) (.int .i64 i) = some (C i) := by
    show (dx (.int .i64 (i : Int)) 8).bind _ = _
    rw [Mq ⟨by omega, by omega⟩, wS, zq, Pd]
    exact gQ (by omega)
   obtain ⟨e', h2, ov', r1, r2⟩ := DN h0 C ls hb n (i + 1) (by omega) h' v' (fun m hm => (iT m hm).CQ fun j q => yV j (sep m hm j q).2 (sep m hm j q).1) p2 (by rw [p3]; omega) (fun m hm j q => by
    have := (sep m hm j q).2
    rw [p6]
    exact ⟨fun q2 => by have := wL q2; omega, by omega⟩) (fun j c q => by
     have := h0.lt _ _ q
     rw [yV j (by omega) (fun q2 => by have := hge j q2; omega)]; exact hx j c q) (by omega) (fun j q => by rw [p6] at q; have := wL q; omega)
   have w1 : ((i + 1 : Nat) : Int) = (i : Int) + 1 := by omega
   rw [w1] at r1
   refine ⟨e', h2, ov', vp ?_ r1, r2.1, r2.2.1, r2.2.2.1, by rw [r2.2.2.2.1, p3], by have := r2.2.2.2.2.1; omega, r2.2.2.2.2.2⟩
   have scC : (C i).sc = true := by
    have := iT i (by omega)
    cases hc : C i with
    | bot => rw [hc] at this; cases this.1
    | agg _ => rw [hc] at this; cases this.1
    | bV _ => rw [hc] at this; cases this.1
    | _ => rfl
   clear r1 r2 yV iT o sep hx p2 e hb
   generalize yq (ls i) = D at *
   generalize o7 8 C = T at *
   generalize C i = Ci at *
   simp (disch := omega) only [go_sem, xN, AP.f177L0, gC, k1', p1, wT, xE]
theorem GN (l : List yd) : ym l = (List.range 8).map fun b => yq (y6 l b) := rfl
theorem GP (h : H) (hf : h.floor ≤ h.next) (v : AV) (l : List xZ) (hvs : v.sc = true) (hn : l.length < 1125899906842624) (rd : zk 9 h v l.length (xV l)) (hv : ∀ x ∈ l, zc h x ∧ x.2.sc = true) :
 ∃ w h', aS AP.A 177 [.agg [v]] h = some (.bV [w, .int .i64 (if yP (l.map (·.1)) then 0 else 1600)], h') ∧ Mw 1 h w h' (if yP (l.map (·.1)) then ym (l.map (·.1)) else []).length (ints (if yP (l.map (·.1)) then ym (l.map (·.1)) else [])) := by
 obtain ⟨g1, eg1⟩ : ∃ g, g = h.alloc [v] := ⟨_, rfl⟩
 have hx1 : Ext h g1 := by rw [eg1]; exact (Ext.refl h).alloc _
 have z1 : g1.get h.next = some [v] := by rw [eg1]; exact xL rfl
 have f1 : g1.floor = h.floor := by rw [eg1]; simp
 have n1 : g1.next = h.next + 1 := by rw [eg1]; simp
 have rd1 := rd.mono fun i c q => hx1 i c q
 have hv1 : ∀ x ∈ l, zc g1 x ∧ x.2.sc = true := fun x hx => ⟨(hv x hx).1.mono hx1, (hv x hx).2⟩
 have k1 := GZ g1 v l hvs hn rd1 hv1
 have ln := rd1.len
 cases hm : yP (l.map (·.1)) with
 | false =>
   rw [hm] at k1
   refine ⟨.aQ, g1, ?_, ⟨yg.nil, hx1, f1, by omega, fun i q => by cases q⟩⟩
   refine vG (fn := AP.f177) (h2 := g1) (e := [(2, .aQ), (3, .int .i64 1600)]) (vs := [.aQ, .int .i64 1600]) rfl rfl rfl ?_ rfl
   clear rd rd1 hv hv1 hx1
   simp (disch := omega) only [go_sem, xN, AP.f177, hvs, ← eg1, z1, AE, k1]
 | true =>
   rw [hm] at k1
   have m1 := hm
   unfold yP at m1
   rw [wW] at m1
   have m2 := (yH m1.1).1
   rw [OX] at m2
   obtain ⟨g2, eg2⟩ : ∃ g, g = g1.alloc (o7 8 fun _ => .aQ) := ⟨_, rfl⟩
   have hx2 : Ext g1 g2 := by rw [eg2]; exact (Ext.refl g1).alloc _
   have z2 : g2.get h.next = some [v] := hx2 _ _ z1
   have bu := Bu.new (h := g1) (by omega)
   rw [← eg2] at bu
   obtain ⟨e', g3, C, r1, r2, r3, r4, r5, r6⟩ := E4 g1 rd1 hv1 hm g1.next (wV _) l [] rfl g2 (fun _ => .aQ) hx2 (by rw [eg2]; simp) bu
   have r1' : Lp AP.A [4, 19, 20, 21] AP.f177L1 [(4, .aE (h.next + 1) 0), (19, v), (20, .int .i64 l.length), (21, .int .i64 0)] g2 = some (.exit 0, e', g3) := by rw [← n1]; exact r1
   rw [n1] at r2 r3
   have a2 : g1.alloc [.aQ, .aQ, .aQ, .aQ, .aQ, .aQ, .aQ, .aQ] = g2 := eg2.symm
   have z3 := r3.get
   have rT : iT true 8 (o7 8 C) 0 = some (.agg (o7 8 C)) := rfl
   have n2 : g2.next = h.next + 2 := by rw [eg2]; simp [n1]
   have f2 : g2.floor = h.floor := by rw [eg2]; simp [f1]
   obtain ⟨e2, g4, ov, s1, s2, s3, s4, s5, s6, s7⟩ := DN h C (y6 (l.map (·.1))) (fun m _ => ⟨Ia _ _, by have := DQ (l.map (·.1)) m; rw [OX] at this; omega⟩) 8 0 rfl g3 .aQ (fun m hm => by
    have o := (r3.own m hm).rd
    exact ⟨by have := o.1; rw [qZ]; exact this, o.2.2⟩) yg.nil r3.nx (fun m hm j q => ⟨(fun q2 => by cases q2), ((r3.own m hm).lt q).2⟩) (fun i c q => r4 i c (hx1 i c q)) (by omega) (fun j q => by cases q)
   have s1' : Lp AP.A [10, 42, 43] AP.f177L0 [(10, .aQ), (42, .agg (o7 8 C)), (43, .int .i64 0)] g3 = some (.exit 2, e2, g4) := s1
   refine ⟨ov, g4, ?_, ⟨by rw [if_pos rfl, yA, GN]; exact s3, s4, by rw [s5, r5, f2], by omega, s7⟩⟩
   rw [if_pos rfl]
   refine vG (fn := AP.f177) (h2 := g4) (e := [(2, ov), (3, .int .i64 0)]) (vs := [ov, .int .i64 0]) rfl rfl rfl ?_ rfl
   clear rd rd1 hv hv1 hx1 hx2 r1 s1 s3 s4 r3 bu eg2
   generalize o7 8 C = T at *
   simp (disch := omega) only [go_sem, xN, AP.f177, hvs, ← eg1, z1, n1, AE, k1, a2, z2, ln, uz, r1', r2, z3, rT, s1', s2]
def Fq (l : List Int) : AV := if l.all CI && decide (l.length = 8) then .bV [.int .i64 (yq l), .int .i64 0] else .bV [.int .i64 0, .int .i64 1600]
theorem Hu (h : H) (v : AV) (l : List Int) (rd : Rd h v (ints l)) (hl : l.length < 1125899906842624) : aS AP.A 181 [v] h = some (Fq l, h) := by
 have xf : Ext h h.eJ := fun i c q => q
 have k1 := Hn h.eJ v l (rd.mono fun i c q => xf i c q) hl
 have r2 := (rd.mono fun i c q => xf i c q : Rd h.eJ v (ints l)).Ms
 rw [qZ] at r2
 have ln := r2.len
 unfold Fq
 unfold Ea at k1
 cases ha : l.all CI with
 | false =>
   rw [ha] at k1
   have k1' : aS AP.A 93 [v] h.eJ = some (.bV [.int .i64 0, .int .i64 1500], h.eJ) := k1
   refine vX (fn := AP.f181) (h2 := h.eJ) (e := [(2, .int .i64 0), (3, .int .i64 1600)]) rfl rfl rfl ?_ rfl rfl
   clear rd r2 k1
   simp (disch := omega) only [go_sem, xN, AP.f181, k1', ln]
 | true =>
   rw [ha] at k1
   have k1' : aS AP.A 93 [v] h.eJ = some (.bV [.int .i64 (yq l), .int .i64 0], h.eJ) := k1
   by_cases c : l.length = 8
   · have c' : (l.length : Int) = 8 := by omega
     rw [dt c]
     refine vX (fn := AP.f181) (h2 := h.eJ) (e := [(2, .int .i64 (yq l)), (3, .int .i64 0)]) rfl rfl rfl ?_ rfl rfl
     clear rd r2 k1
     generalize yq l = M at *
     simp (disch := omega) only [go_sem, xN, AP.f181, k1', ln]
   · have c' : ¬ (l.length : Int) = 8 := by omega
     rw [df c]
     refine vX (fn := AP.f181) (h2 := h.eJ) (e := [(2, .int .i64 0), (3, .int .i64 1600)]) rfl rfl rfl ?_ rfl rfl
     clear rd r2 k1
     generalize yq l = M at *
     simp (disch := omega) only [go_sem, xN, AP.f181, k1', ln]
def Mr (p : Option Int) (b : Int) : Bool := decide (0 ≤ b) && (decide (b < 8) && (match p with | none => true | some q => decide (q < b)))
theorem E6 (p : Option Int) (b : Int) (l : List Int) : AH p (b :: l) = (Mr p b && AH (some b) l) := by cases p <;> (rw [AH]; rfl)
theorem E5 {v : AV} {l : List Int} (hl : l.length < 1125899906842624) (h : H) (rd : Rd h v (ints l)) : ∀ (q p : List Int), l = p ++ q →
 (∃ e', Lp AP.A [0, 5, 6, 7] AP.f184L0 [(0, v), (5, v), (6, .int .i64 l.length), (7, .int .i64 p.length)] h = some (.exit 0, e', h) ∧ AH p.getLast? q = true) ∨
 (∃ e', Lp AP.A [0, 5, 6, 7] AP.f184L0 [(0, v), (5, v), (6, .int .i64 l.length), (7, .int .i64 p.length)] h = some (.ret, e', h) ∧ look e' 2 = .bool false ∧ AH p.getLast? q = false)
 | [], p, hp => by
   rw [OZ] at hp; subst hp
   refine .inl ⟨[(0, v), (5, v), (6, .int .i64 l.length), (7, .int .i64 l.length), (8, .bool false)], vo ?_, rfl⟩
   simp (disch := omega) only [go_sem, xN, AP.f184L0]
 | x :: q, p, hp => by
   have hlen : l.length = p.length + (q.length + 1) := by rw [hp]; simp
   have hx : l[p.length]? = some x := by rw [hp]; simp
   obtain ⟨ad, a1, a2⟩ := rd.Ai
   have b1 := a1 p.length ⟨by omega, by omega⟩
   have b2 := a2 h (Ext.refl h) p.length x hx
   have ih := E5 hl h rd q (p ++ [x]) (by rw [hp]; simp)
   have w1 : ((p ++ [x]).length : Int) = (p.length : Int) + 1 := by simp
   rw [w1, List.getLast?_concat] at ih
   rw [E6]
   have step : aM (aS AP.A) bH AP.f184L0 (az [(0, v), (5, v), (6, .int .i64 l.length), (7, .int .i64 p.length)] [0, 5, 6, 7]) h = if Mr p.getLast? x then some (.normal, [(0, v), (5, v), (6, .int .i64 l.length), (7, .int .i64 ((p.length : Int) + 1))], h) else some (.ret, [(2, .bool false)], h) := by
    unfold Mr
    cases hq : p.getLast? with
    | none =>
      have hp0 : p = [] := List.getLast?_eq_none_iff.1 hq
      have hp1 : p.length = 0 := by rw [hp0]; rfl
      clear ih rd a1 a2 hp w1
      by_cases c1 : 0 ≤ x
      · by_cases c2 : x < 8
        · simp only [dt c1, dt c2, Bool.and_self, if_true]
          simp (disch := omega) only [go_sem, xN, AP.f184L0, b1, b2]
        · simp only [dt c1, df c2, O6, O8, wT, xE]
          simp (disch := omega) only [go_sem, xN, AP.f184L0, b1, b2]
      · simp only [df c1, O6, wT, xE]
        simp (disch := omega) only [go_sem, xN, AP.f184L0, b1, b2]
    | some y =>
      obtain ⟨p', rfl⟩ : ∃ p', p = p' ++ [y] := List.getLast?_eq_some_iff.1 hq
      have hpl : (p' ++ [y]).length = p'.length + 1 := by simp
      have hy : l[p'.length]? = some y := by rw [hp]; simp
      have bj := a1 p'.length ⟨by omega, by omega⟩
      have lj := a2 h (Ext.refl h) p'.length y hy
      have n2 : (((p' ++ [y]).length : Nat) : Int) - 1 = (p'.length : Int) := by rw [hpl]; omega
      have n3 : 0 < (((p' ++ [y]).length : Nat) : Int) := by rw [hpl]; omega
      clear ih rd a1 a2 hp w1 hx hy hq
      generalize (p' ++ [y]).length = pl at *
      by_cases c1 : 0 ≤ x
      · by_cases c2 : x < 8
        · by_cases c3 : y < x
          · rw [dt c1, dt c2]
            simp only [dt c3, Bool.and_self, if_true]
            simp (disch := omega) only [go_sem, xN, AP.f184L0, b1, b2, bj, lj, n2]
          · rw [dt c1, dt c2]
            simp only [df c3, O8, wT, xE]
            simp (disch := omega) only [go_sem, xN, AP.f184L0, b1, b2, bj, lj, n2]
        · simp only [dt c1, df c2, O6, O8, wT, xE]
          simp (disch := omega) only [go_sem, xN, AP.f184L0, b1, b2]
      · simp only [df c1, O6, wT, xE]
        simp (disch := omega) only [go_sem, xN, AP.f184L0, b1, b2]
   by_cases hok : Mr p.getLast? x = true
   · rw [if_pos hok] at step
     rw [hok, Bool.true_and]
     rcases ih with ⟨e', r1, r2⟩ | ⟨e', r1, r2, r3⟩
     · exact .inl ⟨e', vp step r1, r2⟩
     · exact .inr ⟨e', vp step r1, r2, r3⟩
   · have hok' : Mr p.getLast? x = false := by simpa using hok
     rw [if_neg hok] at step
     rw [hok', O6]
     exact .inr ⟨_, vN step, rfl, rfl⟩
theorem Jx (h : H) (v : AV) (l : List Int) (rd : Rd h v (ints l)) (hl : l.length < 1125899906842624) : aS AP.A 184 [v] h = some (.bool (zT l), h) := by
 have xf : Ext h h.eJ := fun i c q => q
 have rdf : Rd h.eJ v (ints l) := rd.mono fun i c q => xf i c q
 have r2 := rdf.Ms
 rw [qZ] at r2
 have ln := r2.len
 unfold zT
 rcases E5 hl h.eJ rdf l [] rfl with ⟨e', r1, r3⟩ | ⟨e', r1, r3, r4⟩
 · have r1' : Lp AP.A [0, 5, 6, 7] AP.f184L0 [(0, v), (5, v), (6, .int .i64 l.length), (7, .int .i64 0)] h.eJ = some (.exit 0, e', h.eJ) := r1
   have r3' : AH none l = true := r3
   rw [r3']
   refine vX (fn := AP.f184) (h2 := h.eJ) (e := [(2, .bool true)]) rfl rfl rfl ?_ rfl rfl
   clear rd rdf r2 r1 r3
   simp (disch := omega) only [go_sem, xN, AP.f184, ln, uz, r1']
 · have r1' : Lp AP.A [0, 5, 6, 7] AP.f184L0 [(0, v), (5, v), (6, .int .i64 l.length), (7, .int .i64 0)] h.eJ = some (.ret, e', h.eJ) := r1
   have r4' : AH none l = false := r4
   rw [r4']
   refine vX (fn := AP.f184) (h2 := h.eJ) (e := e') (vs := [.bool false]) rfl rfl rfl ?_ (by simp only [AP.f184, cT, oS, r3]; rfl) rfl
   clear rd rdf r2 r1 r4
   simp (disch := omega) only [go_sem, xN, AP.f184, ln, uz, r1']
theorem Fj {v : AV} {l : List Int} (hl : l.length < 1125899906842624) (h : H) (rd : Rd h v (ints l)) (y : Int) : ∀ (q p : List Int), l = p ++ q →
 (∃ e', Lp AP.A [0, 1, 7, 8] AP.f189L0 [(0, v), (1, .int .i64 y), (7, .int .i64 l.length), (8, .int .i64 p.length)] h = some (.exit 0, e', h) ∧ q.contains y = false) ∨
 (∃ e', Lp AP.A [0, 1, 7, 8] AP.f189L0 [(0, v), (1, .int .i64 y), (7, .int .i64 l.length), (8, .int .i64 p.length)] h = some (.ret, e', h) ∧ (∃ k : Nat, look e' 4 = .int .i64 k) ∧ q.contains y = true)
 | [], p, hp => by
   rw [OZ] at hp; subst hp
   refine .inl ⟨[(0, v), (1, .int .i64 y), (7, .int .i64 l.length), (8, .int .i64 l.length), (9, .bool false)], vo ?_, rfl⟩
   simp (disch := omega) only [go_sem, xN, AP.f189L0]
 | x :: q, p, hp => by
   have hlen : l.length = p.length + (q.length + 1) := by rw [hp]; simp
   have hx : l[p.length]? = some x := by rw [hp]; simp
   obtain ⟨ad, a1, a2⟩ := rd.Ai
   have b1 := a1 p.length ⟨by omega, by omega⟩
   have b2 := a2 h (Ext.refl h) p.length x hx
   have ih := Fj hl h rd y q (p ++ [x]) (by rw [hp]; simp)
   have w1 : ((p ++ [x]).length : Int) = (p.length : Int) + 1 := by simp
   rw [w1] at ih
   by_cases c : y = x
   · refine .inr ⟨[(4, .int .i64 p.length)], vN ?_, ⟨p.length, rfl⟩, by simp [c]⟩
     clear ih rd a1 a2 hp w1
     simp (disch := omega) only [go_sem, xN, AP.f189L0, b1, b2, c]
   · have step : aM (aS AP.A) bH AP.f189L0 (az [(0, v), (1, .int .i64 y), (7, .int .i64 l.length), (8, .int .i64 p.length)] [0, 1, 7, 8]) h = some (.normal, [(0, v), (1, .int .i64 y), (7, .int .i64 l.length), (8, .int .i64 ((p.length : Int) + 1))], h) := by
      clear ih rd a1 a2 hp w1
      simp (disch := omega) only [go_sem, xN, AP.f189L0, b1, b2]
     have ec : (x :: q).contains y = q.contains y := by simp [c]
     rw [ec]
     rcases ih with ⟨e', r1, r2⟩ | ⟨e', r1, r2, r3⟩
     · exact .inl ⟨e', vp step r1, r2⟩
     · exact .inr ⟨e', vp step r1, r2, r3⟩
theorem FZ (h : H) (v : AV) (l : List Int) (y : Int) (rd : Rd h v (ints l)) (hl : l.length < 1125899906842624) : aS AP.A 185 [v, .int .i64 y] h = some (.bool (l.contains y), h) := by
 have xf : Ext h h.eJ := fun i c q => q
 have rdf : Rd h.eJ.eJ v (ints l) := rd.mono fun i c q => xf i c q
 have r2 := rdf.Ms
 rw [qZ] at r2
 have ln := r2.len
 have k1 : ∃ k : Int, aS AP.A 189 [v, .int .i64 y] h.eJ = some (.int .i64 k, h.eJ) ∧ (0 ≤ k ↔ l.contains y = true) := by
  rcases Fj hl h.eJ.eJ rdf y l [] rfl with ⟨e', r1, r3⟩ | ⟨e', r1, ⟨k, r3⟩, r4⟩
  · have r1' : Lp AP.A [0, 1, 7, 8] AP.f189L0 [(0, v), (1, .int .i64 y), (7, .int .i64 l.length), (8, .int .i64 0)] h.eJ.eJ = some (.exit 0, e', h.eJ.eJ) := r1
    refine ⟨-1, vX (fn := AP.f189) (h2 := h.eJ.eJ) (e := [(4, .int .i64 (-1))]) rfl rfl rfl ?_ rfl rfl, by rw [r3]; simp⟩
    clear rd rdf r2 r1 r3
    simp (disch := omega) only [go_sem, xN, AP.f189, ln, uz, r1']
  · have r1' : Lp AP.A [0, 1, 7, 8] AP.f189L0 [(0, v), (1, .int .i64 y), (7, .int .i64 l.length), (8, .int .i64 0)] h.eJ.eJ = some (.ret, e', h.eJ.eJ) := r1
    refine ⟨k, vX (fn := AP.f189) (h2 := h.eJ.eJ) (e := e') (vs := [.int .i64 k]) rfl rfl rfl ?_ (by simp only [AP.f189, cT, oS, r3]; rfl) rfl, by rw [r4]; simp⟩
    clear rd rdf r2 r1 r4 r3
    simp (disch := omega) only [go_sem, xN, AP.f189, ln, uz, r1']
 obtain ⟨k, k1, k2⟩ := k1
 refine vX (fn := AP.f185) (h2 := h.eJ) (e := [(4, .bool (l.contains y))]) rfl rfl rfl ?_ rfl rfl
 clear rd rdf r2
 cases hc : l.contains y with
 | true =>
   have := k2.2 hc
   clear k2
   simp (disch := omega) only [go_sem, xN, AP.f185, k1]
 | false =>
   have : ¬ 0 ≤ k := fun q => by rw [hc] at k2; cases k2.1 q
   clear k2
   simp (disch := omega) only [go_sem, xN, AP.f185, k1]
abbrev zR := Og × AV
def Ol (x : zR) : List AV := [.str x.1.1, x.2]
def zN (l : List zR) : List AV := l.flatMap Ol
theorem H0 (x : zR) : (Ol x).length = 2 := rfl
theorem EK (l : List zR) (x : zR) : zN (l ++ [x]) = zN l ++ Ol x := by simp [zN]
structure IQ (h0 h : H) (ov : AV) (x : zR) : Prop where
 ex : ∃ j, x.2 = .aF j 0 4 1 ∧ h.get j = some (ints x.1.2) ∧ h0.next ≤ j ∧ ov.id? ≠ some j ∧ h.floor ≤ j
 l4 : x.1.2.length = 4
theorem IQ.mono {h0 h g : H} {ov ov' : AV} {x : zR} (b : IQ h0 h ov x) (hf : g.floor = h.floor) (hg : ∀ j, j < h.next → ov.id? ≠ some j → g.get j = h.get j) (ho : ∀ j, j < h.next → ov.id? ≠ some j → ov'.id? ≠ some j) : IQ h0 g ov' x := by
 obtain ⟨j, e1, e2, e3, e4, e5⟩ := b.ex
 have := h.lt _ _ e2
 exact ⟨⟨j, e1, by rw [hg j this e4]; exact e2, e3, ho j this e4, by rw [hf]; exact e5⟩, b.l4⟩
theorem DO (l : List yd) (e : yd) (bs : List Int) : yC (l ++ [e]) bs = if bs.contains ((Cv e : Nat) : Int) then yC l bs ++ [(e.name, e.vec)] else yC l bs := by
 unfold yC
 rw [List.filter_append, O3]
 by_cases c : bs.contains ((Cv e : Nat) : Int) = true
 · rw [if_pos c, List.filter_cons, if_pos c]; rfl
 · rw [if_neg c, List.filter_cons, if_neg c]; simp
theorem BM (l : List yd) (bs : List Int) : (yC l bs).length ≤ l.length := by unfold yC; rw [OX]; exact List.length_filter_le _ _
theorem C9 {v w : AV} {l : List xZ} {bs : List Int} (h0 : H) (rd : zk 9 h0 v l.length (xV l)) (hv : ∀ x ∈ l, zc h0 x ∧ x.2.sc = true) (hm : yP (l.map (·.1)) = true) (rdb : Rd h0 w (ints bs)) (hbs : bs.length < 1125899906842624) : ∀ (q p : List xZ), l = p ++ q → ∀ (h : H) (ov : AV) (acc : List zR), Ext h0 h → h0.next ≤ h.next → h.floor ≤ h.next →
 yg 2 h ov acc.length (zN acc) → acc.map (·.1) = yC (p.map (·.1)) bs → (∀ x ∈ acc, IQ h0 h ov x) → (∀ j, ov.id? = some j → h0.next ≤ j) →
 ∃ e' h' ov' acc', Lp AP.A [1, 6, 18, 19, 20] AP.f178L0 [(1, w), (6, ov), (18, v), (19, .int .i64 l.length), (20, .int .i64 p.length)] h = some (.exit 0, e', h') ∧ look e' 6 = ov' ∧ yg 2 h' ov' acc'.length (zN acc') ∧ acc'.map (·.1) = yC (l.map (·.1)) bs ∧ (∀ x ∈ acc', IQ h0 h' ov' x) ∧ Ext h0 h' ∧ h'.floor = h.floor ∧ h.next ≤ h'.next ∧ ∀ j, ov'.id? = some j → h0.next ≤ j
 | [], p, hp, h, ov, acc, hx, hn, hf, o, ha, hb, hge => by
   rw [OZ] at hp; subst hp
   refine ⟨[(1, w), (6, ov), (18, v), (19, .int .i64 l.length), (20, .int .i64 l.length), (21, .bool false)], h, ov, acc, vo ?_, rfl, o, ha, hb, hx, rfl, wV _, hge⟩
   simp (disch := omega) only [go_sem, xN, AP.f178L0]
 | x :: q, p, hp, h, ov, acc, hx, hn, hf, o, ha, hb, hge => by
   unfold yP at hm
   have hm' := hm
   rw [wW] at hm
   obtain ⟨m1, m2, m3⟩ := yH hm.1
   rw [OX] at m1
   have hl : l[p.length]? = some x := by rw [hp]; simp
   have hlen : l.length = p.length + (q.length + 1) := by rw [hp]; simp
   have may : zo x.1 = true := List.all_eq_true.1 hm.2 x.1 (by rw [hp]; simp)
   have nsz := zL (m2 x.1 (by rw [hp]; simp)).1
   have v4 : x.1.vec.length = 4 := (zW (m2 x.1 (by rw [hp]; simp)).2.1).1
   obtain ⟨ad, a1, a2⟩ := rd.Kz
   have b1 := a1 p.length ⟨by omega, by omega⟩
   obtain ⟨_, b2⟩ := a2 h hx p.length x hl
   obtain ⟨ok, sc⟩ := hv x (by rw [hp]; simp)
   obtain ⟨E, hE⟩ : ∃ E, E = xW x.1 x.2 := ⟨_, rfl⟩
   have lE : E.length = 9 := by rw [hE]; rfl
   have cE : AV.aD E = true := by rw [hE]; exact A8 sc
   have E0 : E[0]? = some (.str x.1.name) := by rw [hE]; rfl
   have E2 : E[2]? = some x.2 := by rw [hE]; rfl
   obtain ⟨g0, eg0⟩ : ∃ g, g = h.alloc Z9 := ⟨_, rfl⟩
   obtain ⟨g1, eg1⟩ : ∃ g, g = g0.set h.next E := ⟨_, rfl⟩
   have z0 : g0.get h.next = some Z9 := by rw [eg0, xL rfl]
   have st : vZ g0 h.next 0 9 E (some Z9) = some g1 := by rw [eg1]; exact A3 (by rw [eg0]; simp; exact hf) lE rfl cE
   have z1 : g1.get h.next = some E := by rw [eg1, yu rfl, z0]; rfl
   have low : ∀ i, i < h.next → g1.get i = h.get i := fun i hi => by rw [eg1, yc (by omega), eg0, yh (by omega)]
   have f1 : g1.floor = h.floor := by rw [eg1, eg0]; simp
   have n1 : g1.next = h.next + 1 := by rw [eg1, eg0]; simp
   have x1 : Ext h0 g1 := fun i c q => by rw [low i (by have := h0.lt _ _ q; omega)]; exact hx i c q
   have k2 := AK g1 x.1.name (by omega)
   have k3 := FZ g1 w bs ((Cv x.1 : Nat) : Int) (rdb.mono fun i c q => x1 i c q) hbs
   have a0 : h.alloc [.str ⟨#[]⟩, .bool false, .aQ, .int .i64 0, .int .i64 0, .int .i64 0, .str ⟨#[]⟩, .int .i64 0, .int .i64 0] = g0 := eg0.symm
   have w1 : ((p ++ [x]).length : Int) = (p.length : Int) + 1 := by simp
   have k2' : aS AP.A 179 [.str x.1.name] g1 = some (.int .i64 ((Cv x.1 : Nat) : Int), g1) := k2
   have al := Pc List.length ha
   rw [OX] at al
   have bl := BM (p.map (·.1)) bs
   rw [OX] at bl
   have bs' := DO (p.map (·.1)) x.1 bs
   cases hc : bs.contains ((Cv x.1 : Nat) : Int) with
   | false =>
     rw [hc] at k3
     rw [hc, if_neg (by decide)] at bs'
     obtain ⟨e', h2, ov', acc', r1, r2⟩ := C9 h0 rd hv hm' rdb hbs q (p ++ [x]) (by rw [hp]; simp) g1 ov acc x1 (by omega) (by omega) (o.mono f1 fun i q => low i (o.lt q).2) (by rw [O3, List.map_singleton, bs']; exact ha) (fun y hy => (hb y hy).mono f1 (fun j q1 _ => low j q1) (fun _ _ q => q)) hge
     rw [w1] at r1
     refine ⟨e', h2, ov', acc', vp ?_ r1, r2.1, r2.2.1, r2.2.2.1, r2.2.2.2.1, r2.2.2.2.2.1, by rw [r2.2.2.2.2.2.1, f1], by have := r2.2.2.2.2.2.2.1; omega, r2.2.2.2.2.2.2.2⟩
     rw [← hE] at b2
     clear r1 r2 hE hv rd a1 a2 x1 low hx hm hm' m2 may hp eg0 eg1 o hb ha rdb bs' k2 al bl
     generalize ((Cv x.1 : Nat) : Int) = B at *
     simp (disch := omega) only [go_sem, xN, AP.f178L0, b1, b2, a0, z0, lE, cE, st, z1, E0, E2, k2', k3]
   | true =>
     rw [hc] at k3
     rw [hc, if_pos rfl] at bs'
     have k4 := Ig g1 x.2 x.1.vec (ok.mono x1).vec (by omega) (by omega) (by omega)
     rw [v4] at k4
     obtain ⟨g2, eg2⟩ : ∃ g, g = ((g1.alloc []).del g1.next).alloc (ints x.1.vec) := ⟨_, rfl⟩
     rw [← eg2] at k4
     have low2 : ∀ i, i < g1.next → g2.get i = g1.get i := fun i hi => by rw [eg2, yh (by simp; omega), zU (by omega), yh (by omega)]
     have f2 : g2.floor = h.floor := by rw [eg2]; simp [f1]
     have n2 : g2.next = h.next + 3 := by rw [eg2]; simp [n1]
     have z2 : g2.get h.next = some E := by rw [low2 _ (by omega)]; exact z1
     have zv : g2.get (g1.next + 1) = some (ints x.1.vec) := by rw [eg2, xL (by simp)]
     have lo2 : ∀ i, i < h.next → g2.get i = h.get i := fun i hi => by rw [low2 i (by omega), low i hi]
     have x2 : Ext h0 g2 := fun i c q => by rw [lo2 i (by have := h0.lt _ _ q; omega)]; exact hx i c q
     have o2 : yg 2 g2 ov acc.length (zN acc) := o.mono f2 fun i q => lo2 i (o.lt q).2
     obtain ⟨v', h', p1, p2, p3, p4, p5, p6⟩ := o2.push (by omega) (z := 40) (m := 1) (by omega) (by omega) [.str x.1.name, .aF (g1.next + 1) 0 4 1] rfl rfl (by simp [roomy]; omega)
     have ea : zN acc ++ [.str x.1.name, .aF (g1.next + 1) 0 4 1] = zN (acc ++ [((x.1.name, x.1.vec), .aF (g1.next + 1) 0 4 1)]) := by rw [EK]; rfl
     rw [ea] at p2
     have ovl : ∀ j, ov.id? = some j → j < h.next := fun j q => (o.lt q).2
     obtain ⟨e', h2, ov', acc', r1, r2⟩ := C9 h0 rd hv hm' rdb hbs q (p ++ [x]) (by rw [hp]; simp) h' v' (acc ++ [((x.1.name, x.1.vec), .aF (g1.next + 1) 0 4 1)]) (fun i c q => by
      have := h0.lt _ _ q
      rw [p5 i (fun q2 => by have := hge i q2; omega) (by omega)]; exact x2 i c q) (by omega) (by omega) (by rw [xD, List.length_singleton]; exact p2) (by rw [O3, O3, List.map_singleton, List.map_singleton, bs', ha]) (fun y hy => by
      rcases List.mem_append.1 hy with hy | hy
      · refine (hb y hy).mono (by rw [p3, f2]) (fun j q1 q2 => by rw [p5 j q2 (by omega), lo2 j q1]) (fun j q1 _ => by rw [p6]; intro q2; have := wL q2; omega)
      · obtain rfl : y = _ := List.mem_singleton.1 hy
        refine ⟨⟨g1.next + 1, rfl, ?_, by omega, by rw [p6]; intro q2; have := wL q2; omega, by rw [p3, f2]; omega⟩, v4⟩
        rw [p5 _ (fun q2 => by have := ovl _ q2; omega) (by omega)]
        exact zv) (fun j q => by rw [p6] at q; have := wL q; omega)
     rw [w1] at r1
     refine ⟨e', h2, ov', acc', vp ?_ r1, r2.1, r2.2.1, r2.2.2.1, r2.2.2.2.1, r2.2.2.2.2.1, by rw [r2.2.2.2.2.2.1, p3, f2], by have := r2.2.2.2.2.2.2.1; omega, r2.2.2.2.2.2.2.2⟩
     rw [← hE] at b2
     clear r1 r2 hE hv rd a1 a2 x1 low hx hm hm' m2 may hp eg0 eg1 o o2 hb ha rdb bs' k2 al bl lo2 low2 x2 p2 ea zv eg2 ovl
     generalize ((Cv x.1 : Nat) : Int) = B at *
     simp (disch := omega) only [go_sem, xN, AP.f178L0, b1, b2, a0, z0, lE, cE, st, z1, z2, E0, E2, k2', k3, k4, p1]
theorem DP (h : H) (hf : h.floor ≤ h.next) (v w : AV) (l : List xZ) (bs : List Int) (hvs : v.sc = true) (hn : l.length < 1125899906842624) (rd : zk 9 h v l.length (xV l)) (hv : ∀ x ∈ l, zc h x ∧ x.2.sc = true) (rdb : Rd h w (ints bs)) (hbs : bs.length < 1125899906842624) :
 ∃ ov h' acc, aS AP.A 178 [.agg [v], w] h = some (.bV [ov, .int .i64 (if yP (l.map (·.1)) && zT bs then 0 else 1600)], h') ∧ Mw 2 h ov h' acc.length (zN acc) ∧ acc.map (·.1) = (if yP (l.map (·.1)) && zT bs then yC (l.map (·.1)) bs else []) ∧ ∀ x ∈ acc, IQ h h' ov x := by
 obtain ⟨g1, eg1⟩ : ∃ g, g = h.alloc [v] := ⟨_, rfl⟩
 have hx1 : Ext h g1 := by rw [eg1]; exact (Ext.refl h).alloc _
 have z1 : g1.get h.next = some [v] := by rw [eg1]; exact xL rfl
 have f1 : g1.floor = h.floor := by rw [eg1]; simp
 have n1 : g1.next = h.next + 1 := by rw [eg1]; simp
 have rd1 := rd.mono fun i c q => hx1 i c q
 have hv1 : ∀ x ∈ l, zc g1 x ∧ x.2.sc = true := fun x hx => ⟨(hv x hx).1.mono hx1, (hv x hx).2⟩
 have rdb1 : Rd g1 w (ints bs) := rdb.mono fun i c q => hx1 i c q
 have k1 := GZ g1 v l hvs hn rd1 hv1
 have k2 := Jx g1 w bs rdb1 hbs
 have ln := rd1.len
 cases hm : yP (l.map (·.1)) with
 | false =>
   rw [hm] at k1
   refine ⟨.aQ, g1, [], ?_, ⟨yg.nil, hx1, f1, by omega, fun i q => by cases q⟩, rfl, fun x hx => by cases hx⟩
   refine vG (fn := AP.f178) (h2 := g1) (e := [(4, .aQ), (5, .int .i64 1600)]) (vs := [.aQ, .int .i64 1600]) rfl rfl rfl ?_ rfl
   clear rd rd1 hv hv1 hx1 rdb rdb1
   simp (disch := omega) only [go_sem, xN, AP.f178, hvs, ← eg1, z1, AE, k1, k2]
 | true =>
   rw [hm] at k1
   cases hb : zT bs with
   | false =>
     rw [hb] at k2
     refine ⟨.aQ, g1, [], ?_, ⟨yg.nil, hx1, f1, by omega, fun i q => by cases q⟩, rfl, fun x hx => by cases hx⟩
     refine vG (fn := AP.f178) (h2 := g1) (e := [(4, .aQ), (5, .int .i64 1600)]) (vs := [.aQ, .int .i64 1600]) rfl rfl rfl ?_ rfl
     clear rd rd1 hv hv1 hx1 rdb rdb1
     simp (disch := omega) only [go_sem, xN, AP.f178, hvs, ← eg1, z1, AE, k1, k2]
   | true =>
     rw [hb] at k2
     obtain ⟨e', g2, ov, acc, r1, r2, r3, r4, r5, r6, r7, r8, r9⟩ := C9 g1 rd1 hv1 hm rdb1 hbs l [] rfl g1 .aQ [] (Ext.refl _) (wV _) (by omega) yg.nil rfl (fun x hx => by cases hx) (fun j q => by cases q)
     have r1' : Lp AP.A [1, 6, 18, 19, 20] AP.f178L0 [(1, w), (6, .aQ), (18, v), (19, .int .i64 l.length), (20, .int .i64 0)] g1 = some (.exit 0, e', g2) := r1
     refine ⟨ov, g2, acc, ?_, ⟨r3, fun i c q => r6 i c (hx1 i c q), by rw [r7, f1], by omega, fun j q => by have := r9 j q; omega⟩, r4, fun x hx => ?_⟩
     · refine vG (fn := AP.f178) (h2 := g2) (e := [(4, ov), (5, .int .i64 0)]) (vs := [ov, .int .i64 0]) rfl rfl rfl ?_ rfl
       clear rd rd1 hv hv1 hx1 rdb rdb1 r1 r3 r4 r5 r6
       simp (disch := omega) only [go_sem, xN, AP.f178, hvs, ← eg1, z1, AE, k1, k2, ln, uz, r1', r2]
     · have b := r5 x hx
       obtain ⟨j, q1, q2, q3, q4, q5⟩ := b.ex
       exact ⟨⟨j, q1, q2, by omega, q4, q5⟩, b.l4⟩
theorem Dd (h : H) (hf : h.floor ≤ h.next) (v : AV) (l : List xZ) (hvs : v.sc = true) (hn : l.length < 1125899906842624) (rd : zk 9 h v l.length (xV l)) (hv : ∀ x ∈ l, zc h x ∧ x.2.sc = true) (hm : yP (l.map (·.1)) = true) :
 ∃ i h', aS AP.A 177 [.agg [v]] h = some (.bV [.aF i 0 8 1, .int .i64 0], h') ∧ h'.get i = some (ints (ym (l.map (·.1)))) ∧ Ext h h' ∧ h'.floor = h.floor ∧ h.next ≤ h'.next ∧ h.next ≤ i := by
 obtain ⟨w, h', k, g⟩ := GP h hf v l hvs hn rd hv
 simp only [hm, if_true] at k g
 rw [yA] at g
 obtain ⟨_, ⟨_, q⟩ | ⟨i, q1, q2, _⟩⟩ := g.own
 · cases q
 · subst q1; exact ⟨i, h', k, q2, g.ext, g.fl, g.nx, g.ge i rfl⟩
theorem Kx (h : H) (hf : h.floor ≤ h.next) (v : AV) (l : List xZ) (hvs : v.sc = true) (hn : l.length < 1125899906842624) (rd : zk 9 h v l.length (xV l)) (hv : ∀ x ∈ l, zc h x ∧ x.2.sc = true) (hm : yP (l.map (·.1)) = false) :
 ∃ h', aS AP.A 177 [.agg [v]] h = some (.bV [.aQ, .int .i64 1600], h') ∧ Ext h h' ∧ h'.floor = h.floor ∧ h.next ≤ h'.next := by
 obtain ⟨w, h', k, g⟩ := GP h hf v l hvs hn rd hv
 simp only [hm, wT, xE] at k g
 obtain ⟨_, ⟨q, _⟩ | ⟨i, _, _, _, q⟩⟩ := g.own
 · subst q; exact ⟨h', k, g.ext, g.fl, g.nx⟩
 · simp at q
theorem AJ (h : H) (hf : h.floor ≤ h.next) (v w : AV) (l : List xZ) (bs : List Int) (hvs : v.sc = true) (hn : l.length < 1125899906842624) (rd : zk 9 h v l.length (xV l)) (hv : ∀ x ∈ l, zc h x ∧ x.2.sc = true) (rdb : Rd h w (ints bs)) (hbs : bs.length < 1125899906842624) (hm : (yP (l.map (·.1)) && zT bs) = true) :
 ∃ ov h' acc, aS AP.A 178 [.agg [v], w] h = some (.bV [ov, .int .i64 0], h') ∧ Mw 2 h ov h' acc.length (zN acc) ∧ acc.map (·.1) = yC (l.map (·.1)) bs ∧ ∀ x ∈ acc, IQ h h' ov x := by
 have := DP h hf v w l bs hvs hn rd hv rdb hbs
 simpa only [hm, if_true] using this
theorem GJ (h : H) (hf : h.floor ≤ h.next) (v w : AV) (l : List xZ) (bs : List Int) (hvs : v.sc = true) (hn : l.length < 1125899906842624) (rd : zk 9 h v l.length (xV l)) (hv : ∀ x ∈ l, zc h x ∧ x.2.sc = true) (rdb : Rd h w (ints bs)) (hbs : bs.length < 1125899906842624) (hm : (yP (l.map (·.1)) && zT bs) = false) :
 ∃ h', aS AP.A 178 [.agg [v], w] h = some (.bV [.aQ, .int .i64 1600], h') ∧ Ext h h' ∧ h'.floor = h.floor ∧ h.next ≤ h'.next := by
 obtain ⟨ov, h', acc, k, g, q, _⟩ := DP h hf v w l bs hvs hn rd hv rdb hbs
 simp only [hm, wT, xE] at k q
 have : acc = [] := by simpa using q
 subst this
 obtain ⟨_, ⟨q, _⟩ | ⟨i, _, _, _, q⟩⟩ := g.own
 · subst q; exact ⟨h', k, g.ext, g.fl, g.nx⟩
 · simp at q
theorem EM {A : bh} {f g : Nat} (e : A f = A g) (args : List AV) (h : H) : ∀ n, aU A n f args h = aU A n g args h
 | 0 => rfl
 | n + 1 => by simp only [aU, e]
theorem EN {A : bh} {f g : Nat} (e : A f = A g) (args : List AV) (h : H) {r} (k : aS A g args h = some r) : aS A f args h = some r := by
 obtain ⟨n, hn⟩ := fw k
 exact oh (n := n) (by rw [EM e]; exact hn)
theorem EX (h : H) (name text : ByteArray) (node : Nat) (xR : Int) (hn : node < 4) (ht : text.size < 1125899906842624) :
 aS AP.A 180 [.str name, .int .i64 node, .int .i64 xR, .str text] h = some (.agg (xW (Bb name node xR text) (Ac ([0, 0, 0, 0].set node xR))), h) :=
 EN (show AP.A 180 = AP.A 99 from rfl) _ _ (IJ h name text node xR hn ht)
structure Oh (h0 h : H) (ov : AV) (x : xZ) : Prop where
 ok : zc h x
 sc : x.2.sc = true
 id : ∀ i, x.2.id? = some i → h0.next ≤ i ∧ i < h.next ∧ ov.id? ≠ some i ∧ h.floor ≤ i
 wr : ∃ i cs, x.2 = .aF i 0 x.1.vec.length 1 ∧ h.get i = some cs ∧ (0 < x.1.vec.length → cs = ints x.1.vec)
theorem Oh.mono {h0 h g : H} {ov ov' : AV} {x : xZ} (b : Oh h0 h ov x) (hf : g.floor = h.floor) (hn : h.next ≤ g.next) (hg : ∀ j c, ov.id? ≠ some j → h.get j = some c → g.get j = some c) (ho : ∀ j, j < h.next → ov.id? ≠ some j → ov'.id? ≠ some j) : Oh h0 g ov' x := by
 obtain ⟨i, cs, e1, e2, e3⟩ := b.wr
 have q := b.id i (by rw [e1]; rfl)
 have e4 := hg i cs q.2.2.1 e2
 exact ⟨b.ok.CQ fun k q' => (by rw [e1] at q'; obtain rfl := wL q'; rw [e4, e2]), b.sc, fun i q => ⟨(b.id i q).1, by have := (b.id i q).2.1; omega, ho i (b.id i q).2.1 (b.id i q).2.2.1, by rw [hf]; exact (b.id i q).2.2.2⟩, ⟨i, cs, e1, e4, e3⟩⟩
structure Gt (h : H) (v : AV) (l : List zR) : Prop where
 rd : zk 2 h v l.length (zN l)
 vec : ∀ x ∈ l, Rd h x.2 (ints x.1.2) ∧ x.1.2.length < 1125899906842624
theorem Gt.mono {h g : H} {v : AV} {l : List zR} (r : Gt h v l) (e : Ext h g) : Gt g v l := ⟨r.rd.mono fun i c q => e i c q, fun x hx => ⟨(r.vec x hx).1.mono fun i c q => e i c q, (r.vec x hx).2⟩⟩
theorem Gt.at_ {h : H} {v : AV} {l : List zR} (r : Gt h v l) : ∃ ad : Int → Nat → AV, (∀ i : Int, 0 ≤ i ∧ i < l.length → gS 2 v (.int .i64 i) = some (ad i 0) ∧ fS 0 (ad i 0) = some (ad i 0) ∧ fS 1 (ad i 0) = some (ad i 1)) ∧
 (∀ (i : Nat) (x : zR), l[i]? = some x → bZ false 1 (ad i 0) h = some (.str x.1.1) ∧ bZ false 1 (ad i 1) h = some x.2) := by
 obtain ⟨ad, a1, a2, a4, a3⟩ := r.rd.at_
 refine ⟨ad, fun i hi => ⟨a1 i hi, a2 i 0 0 hi, a2 i 0 1 hi⟩, fun i x hx => ?_⟩
 have hi : i < l.length := (wR.1 hx).1
 have g := fun k (hk : k < 2) => BV (f := k) H0 hx hk
 refine ⟨(a3 h fun _ _ q => q).1 i 0 _ ⟨by omega, by omega⟩ ?_, (a3 h fun _ _ q => q).1 i 1 _ ⟨by omega, by omega⟩ ?_⟩
 · rw [zq]; exact g 0 (by omega)
 · rw [zq]; exact g 1 (by omega)
theorem Fs {v w : AV} {a b : List zR} (hab : a.length = b.length) (hl : a.length < 1000000) (h : H) (ra : Gt h v a) (rb : Gt h w b) : ∀ (q r p p' : List zR), a = p ++ q → b = p' ++ r → p.length = p'.length →
 (∃ e', Lp AP.A [0, 1, 5] AP.f182L0 [(0, v), (1, w), (5, .int .i64 p.length)] h = some (.exit 0, e', h) ∧ q.map (·.1) = r.map (·.1)) ∨
 (∃ e', Lp AP.A [0, 1, 5] AP.f182L0 [(0, v), (1, w), (5, .int .i64 p.length)] h = some (.ret, e', h) ∧ look e' 4 = .bool false ∧ q.map (·.1) ≠ r.map (·.1))
 | [], r, p, p', ha, hb, hp => by
   rw [OZ] at ha; subst ha
   have hr : r = [] := by
    have : b.length = p'.length + r.length := by rw [hb]; simp
    exact O9 (by omega)
   have ln := ra.rd.len
   refine .inl ⟨[(0, v), (1, w), (5, .int .i64 a.length), (14, .bool false)], vo ?_, by rw [hr]⟩
   simp (disch := omega) only [go_sem, xN, AP.f182L0, ln]
 | x :: q, [], p, p', ha, hb, hp => by
   exfalso
   have h1 : a.length = p.length + (q.length + 1) := by rw [ha]; simp
   have h2 : b.length = p'.length := by rw [hb]; simp
   omega
 | x :: q, y :: r, p, p', ha, hb, hp => by
   have h1 : a.length = p.length + (q.length + 1) := by rw [ha]; simp
   have hx : a[p.length]? = some x := by rw [ha]; simp
   have hy : b[p.length]? = some y := by rw [hb, hp]; simp
   have ln := ra.rd.len
   obtain ⟨ad, a1, a2⟩ := ra.at_
   obtain ⟨bd, b1, b2⟩ := rb.at_
   obtain ⟨a3, a4, a5⟩ := a1 p.length ⟨by omega, by omega⟩
   obtain ⟨b3, b4, b5⟩ := b1 p.length ⟨by omega, by omega⟩
   obtain ⟨a6, a7⟩ := a2 p.length x hx
   obtain ⟨b6, b7⟩ := b2 p.length y hy
   obtain ⟨vx, lx⟩ := ra.vec x (by rw [ha]; simp)
   obtain ⟨vy, ly⟩ := rb.vec y (by rw [hb]; simp)
   have k1 := Dv h x.2 y.2 x.1.2 y.1.2 vx vy lx
   have en : bD .neq (.str x.1.1) (.str y.1.1) = some (.bool (!(x.1.1.data.toList == y.1.1.data.toList))) := BA _ _
   have ih := Fs hab hl h ra rb q r (p ++ [x]) (p' ++ [y]) (by rw [ha]; simp) (by rw [hb]; simp) (by simp [hp])
   have w1 : ((p ++ [x]).length : Int) = (p.length : Int) + 1 := by simp
   rw [w1] at ih
   obtain ⟨B1, hB1⟩ : ∃ B, B = (x.1.1.data.toList == y.1.1.data.toList) := ⟨_, rfl⟩
   rw [← hB1] at en
   have key : x.1 = y.1 ↔ B1 = true ∧ x.1.2 = y.1.2 := by
    constructor
    · intro e; rw [hB1, e]; simp
    · rintro ⟨e1, e2⟩
      have e3 : x.1.1 = y.1.1 := by
       rw [hB1, beq_iff_eq] at e1
       have e4 : x.1.1.data = y.1.1.data := Array.ext' e1
       cases h1 : x.1.1; cases h2 : y.1.1; rw [h1, h2] at e4; simp_all
      exact Prod.ext e3 e2
   by_cases hk : x.1 = y.1
   · obtain ⟨k2, k3⟩ := key.1 hk
     rw [k2] at en
     rw [dt k3] at k1
     have step : aM (aS AP.A) bH AP.f182L0 (az [(0, v), (1, w), (5, .int .i64 p.length)] [0, 1, 5]) h = some (.normal, [(0, v), (1, w), (5, .int .i64 ((p.length : Int) + 1))], h) := by
      clear ih ra rb a1 a2 b1 b2 vx vy ha hb key
      simp (disch := omega) only [go_sem, xN, AP.f182L0, ln, a3, a4, a5, a6, a7, b3, b4, b5, b6, b7, en, k1]
     rw [O7, O7]
     rcases ih with ⟨e', r1, r2⟩ | ⟨e', r1, r2, r3⟩
     · exact .inl ⟨e', vp step r1, by rw [hk, r2]⟩
     · exact .inr ⟨e', vp step r1, r2, fun q => r3 (List.cons.inj q).2⟩
   · refine .inr ⟨[(4, .bool false)], vN ?_, rfl, fun q => hk (List.cons.inj q).1⟩
     cases B1 with
     | false =>
       clear ih ra rb a1 a2 b1 b2 vx vy ha hb key
       simp (disch := omega) only [go_sem, xN, AP.f182L0, ln, a3, a4, a5, a6, a7, b3, b4, b5, b6, b7, en, k1]
     | true =>
       rw [df (fun q => hk (key.2 ⟨rfl, q⟩))] at k1
       clear ih ra rb a1 a2 b1 b2 vx vy ha hb key
       simp (disch := omega) only [go_sem, xN, AP.f182L0, ln, a3, a4, a5, a6, a7, b3, b4, b5, b6, b7, en, k1]
theorem ID (h : H) (v w : AV) (a b : List zR) (ra : Gt h v a) (rb : Gt h w b) (hl : a.length < 1000000) : aS AP.A 182 [v, w] h = some (.bool (decide (a.map (·.1) = b.map (·.1))), h) := by
 have xf : Ext h h.eJ := fun i c q => q
 have l1 := (ra.mono xf).rd.len
 have l2 := (rb.mono xf).rd.len
 by_cases c : a.length = b.length
 · have c' : (a.length : Int) = b.length := by omega
   rcases Fs c hl h.eJ (ra.mono xf) (rb.mono xf) a b [] [] rfl rfl rfl with ⟨e', r1, r2⟩ | ⟨e', r1, r2, r3⟩
   · have r1' : Lp AP.A [0, 1, 5] AP.f182L0 [(0, v), (1, w), (5, .int .i64 0)] h.eJ = some (.exit 0, e', h.eJ) := r1
     rw [dt r2]
     refine vX (fn := AP.f182) (h2 := h.eJ) (e := [(4, .bool true)]) rfl rfl rfl ?_ rfl rfl
     clear ra rb r1 r2
     simp (disch := omega) only [go_sem, xN, AP.f182, l1, l2, uz, r1']
   · have r1' : Lp AP.A [0, 1, 5] AP.f182L0 [(0, v), (1, w), (5, .int .i64 0)] h.eJ = some (.ret, e', h.eJ) := r1
     rw [df r3]
     refine vX (fn := AP.f182) (h2 := h.eJ) (e := e') (vs := [.bool false]) rfl rfl rfl ?_ (by simp only [AP.f182, cT, oS, r2]; rfl) rfl
     clear ra rb r1 r3
     simp (disch := omega) only [go_sem, xN, AP.f182, l1, l2, uz, r1']
 · have c' : ¬ (a.length : Int) = b.length := by omega
   have e : a.map (·.1) ≠ b.map (·.1) := fun q => c (by have := Pc List.length q; simpa using this)
   rw [df e]
   refine vX (fn := AP.f182) (h2 := h.eJ) (e := [(4, .bool false)]) rfl rfl rfl ?_ rfl rfl
   clear ra rb
   simp (disch := omega) only [go_sem, xN, AP.f182, l1, l2]
theorem Mw.H8 {h h' : H} {ov : AV} {acc : List zR} (g : Mw 2 h ov h' acc.length (zN acc)) (b : ∀ x ∈ acc, IQ h h' ov x) : Gt h' ov acc :=
 ⟨g.own.rd, fun x hx => by
  obtain ⟨j, e1, e2, _⟩ := (b x hx).ex
  have := (b x hx).l4
  exact ⟨by rw [e1]; exact Rd.obj e2 this, by omega⟩⟩
theorem G3 : yP [eA] = true := by decide +kernel
theorem Iq : yP [] = true := by decide +kernel
theorem EG : (ym [eA])[yN nA % 8]? = some (yq (y6 [eA] (yN nA % 8))) ∧ yq (y6 [eA] (yN nA % 8)) ≠ 0 ∧ yq (ym [eA]) ≠ 0 ∧ ym [] = [0, 0, 0, 0, 0, 0, 0, 0] ∧ yC [eA] [((yN nA % 8 : Nat) : Int)] = [(nA, [1, 0, 0, 0])] ∧ zT [((yN nA % 8 : Nat) : Int)] = true ∧ zT [8] = false := by decide +kernel
theorem L6 {g : H} {n : Nat} {E : List AV} (hg : g.get n = some E) (hE : E.length = 9) : zk 9 g (.aF n 0 1 9) 1 E := by
 refine ⟨?_, by omega, fun _ => by simp⟩
 simp only [aT, if_true, hg, wS, w8, Nat.one_mul]
 rw [if_pos (by omega), O0, xu (by omega)]
theorem Bw {g : H} {n : Nat} {x : Int} (hg : g.get n = some [.int .i64 x]) : Rd g (.aF n 0 1 1) (ints [x]) := Rd.obj (l := [x]) hg rfl
set_option maxHeartbeats 4000000 in
theorem FO (h : H) : aS AP.A 176 [] h = some (.bool true, h) := by
 obtain ⟨a1, a2, a3, a4, a5, a6, a7⟩ := EG
 obtain ⟨b, hb⟩ : ∃ b, b = yN nA % 8 := ⟨_, rfl⟩
 have hb8 : b < 8 := by omega
 rw [← hb] at a1 a2 a5 a6
 obtain ⟨E, hE⟩ : ∃ E, E = xW eA (Ac [1, 0, 0, 0]) := ⟨_, rfl⟩
 have lE : E.length = 9 := by rw [hE]; rfl
 have cE : AV.aD E = true := by rw [hE]; exact A8 (FH _)
 have fE : setFrom Z9 0 E = E := by rw [hE]; rfl
 have okE : ∀ g, zc g (eA, Ac [1, 0, 0, 0]) := fun g => zc.au (e := eA) rfl (by decide) (by decide)
 have hv : ∀ g, ∀ x ∈ [((eA, Ac [1, 0, 0, 0]) : xZ)], zc g x ∧ x.2.sc = true := fun g x hx => by obtain rfl := List.mem_singleton.1 hx; exact ⟨okE g, FH [1, 0, 0, 0]⟩
 have eE : xV [((eA, Ac [1, 0, 0, 0]) : xZ)] = E := by rw [hE]; rfl
 have rd1 : ∀ (g : H) (n : Nat), g.get n = some E → zk 9 g (.aF n 0 1 9) [((eA, Ac [1, 0, 0, 0]) : xZ)].length (xV [((eA, Ac [1, 0, 0, 0]) : xZ)]) := fun g n hg => by rw [eE]; exact L6 hg lE
 have k0 : ∀ g, aS AP.A 180 [.str ⟨#[97]⟩, .int .i64 0, .int .i64 1, .str ⟨#[104, 105]⟩] g = some (.agg E, g) := fun g => by rw [hE]; exact EX g nA OJ 0 1 (by omega) (by decide)
 obtain ⟨G, hG⟩ : ∃ G, G = ((h.eJ.alloc E).alloc [.aQ]).set (h.next + 1) [.aF h.next 0 1 9] := ⟨_, rfl⟩
 have g1 : G.get h.next = some E := by rw [hG]; simp (disch := first | omega | (simp only [yR, OS, OT, w8, Nat.reduceAdd]; first | done | omega | fail) | fail) only [yR, Ds, OW, OS, OT, w8, Nat.reduceAdd]
 have g2 : G.get (h.next + 1) = some [.aF h.next 0 1 9] := by rw [hG]; simp (disch := first | omega | (simp only [yR, OS, OT, w8, Nat.reduceAdd]; first | done | omega | fail) | fail) only [yR, Ds, OW, OS, OT, w8, Nat.reduceAdd]
 have gf : G.floor = h.next := by rw [hG]; simp
 have gn : G.next = h.next + 1 + 1 := by rw [hG]; simp
 obtain ⟨i1, h1, k1, o1, e1, f1, n1, ge1⟩ := Dd G (by omega) _ _ rfl (by simp) (rd1 G h.next g1) (hv G) G3
 have z11 := e1 _ _ g1
 have z12 := e1 _ _ g2
 obtain ⟨i2, h2, k2, o2, e2, f2, n2, ge2⟩ := Dd h1 (by omega) .aQ [] rfl (by simp) ⟨rfl, rfl, fun s q => by cases q⟩ (fun x hx => by cases hx) Iq
 have o2' : h2.get i2 = some (ints [0, 0, 0, 0, 0, 0, 0, 0]) := by rw [← a4]; exact o2
 have z21 := e2 _ _ z11
 have z22 := e2 _ _ z12
 have o12 : h2.get i1 = some (ints (ym [eA])) := e2 _ _ o1
 have k3 := Hu h2 (.aF i1 0 8 1) (ym [eA]) (Rd.obj o12 (yA _)) (by rw [yA]; omega)
 have r3 : Fq (ym [eA]) = .bV [.int .i64 (yq (ym [eA])), .int .i64 0] := by unfold Fq; rw [GO, yA]; rfl
 rw [r3] at k3
 have k4 := fun g => AK g nA (by decide)
 rw [← hb] at k4
 obtain ⟨H3, hH3⟩ : ∃ g, g = h2.alloc [.int .i64 b] := ⟨_, rfl⟩
 have x3 : Ext h2 H3 := by rw [hH3]; exact (Ext.refl h2).alloc _
 have z31 := x3 _ _ z21
 have z32 := x3 _ _ z22
 have f3 : H3.floor = h.next := by rw [hH3]; simp [f2, f1, gf]
 have n3 : H3.next = h2.next + 1 := by rw [hH3]; simp
 obtain ⟨v5, h5, acc, k5, e5, q5, b5⟩ := AJ H3 (by omega) _ (.aF h2.next 0 1 1) _ [(b : Int)] rfl (by simp) (rd1 H3 h.next z31) (hv H3) (Bw (by rw [hH3, xL rfl])) (by simp) (by rw [a6, Bool.and_true]; exact G3)
 have q5' : acc.map (·.1) = [(nA, [1, 0, 0, 0])] := q5.trans a5
 have z51 := e5.ext _ _ z31
 have z52 := e5.ext _ _ z32
 have f5 := e5.fl
 have n5 := e5.nx
 obtain ⟨H6, hH6⟩ : ∃ g, g = h5.alloc [.int .i64 8] := ⟨_, rfl⟩
 have x6 : Ext h5 H6 := by rw [hH6]; exact (Ext.refl h5).alloc _
 have z61 := x6 _ _ z51
 have f6 : H6.floor = h.next := by rw [hH6]; simp [f5, f3]
 have n6 : H6.next = h5.next + 1 := by rw [hH6]; simp
 obtain ⟨h7, k7, e7, f7, n7⟩ := GJ H6 (by omega) _ (.aF h5.next 0 1 1) _ [8] rfl (by simp) (rd1 H6 h.next z61) (hv H6) (Bw (by rw [hH6, xL rfl])) (by simp) (by rw [a7, O8])
 have k8 : ∀ g, aS AP.A 181 [.aQ] g = some (.bV [.int .i64 0, .int .i64 1600], g) := fun g => Hu g .aQ [] ⟨rfl, fun s q => by cases q⟩ (by simp)
 have up : Ext h2 h7 := fun i c q => e7 _ _ (x6 _ _ (e5.ext _ _ (x3 _ _ q)))
 have o17 := up _ _ o12
 have o27 := up _ _ o2'
 have z72 : h7.get (h.next + 1) = some [.aF h.next 0 1 9] := up _ _ z22
 have rb7 : Gt h7 v5 acc := (e5.H8 b5).mono fun i c q => e7 _ _ (x6 _ _ q)
 obtain ⟨Y, hY⟩ : ∃ g, g = h7.alloc [.int .i64 0, .int .i64 0, .int .i64 0, .int .i64 0, .int .i64 0, .int .i64 0, .int .i64 0, .int .i64 0] := ⟨_, rfl⟩
 have k9 : aS AP.A 106 [.aF i2 0 8 1, .aF h7.next 0 8 1] Y = some (.bool true, Y) := by
  have y1 : Ext h7 Y := by rw [hY]; exact (Ext.refl h7).alloc _
  have := Dv Y (.aF i2 0 8 1) (.aF h7.next 0 8 1) [0, 0, 0, 0, 0, 0, 0, 0] [0, 0, 0, 0, 0, 0, 0, 0] (Rd.obj (y1 _ _ o27) rfl) (Rd.obj (l := [0, 0, 0, 0, 0, 0, 0, 0]) (by rw [hY, xL rfl]; rfl) rfl) (by simp)
  rw [dt rfl] at this; exact this
 have yn : Y.next = h7.next + 1 := by rw [hY]; simp
 have yi : Y.get i1 = some (ints (ym [eA])) := by rw [hY, yh (by have := h7.lt _ _ o17; omega)]; exact o17
 obtain ⟨W, hW⟩ : ∃ g, g = (Y.alloc [.int .i64 1, .int .i64 0, .int .i64 0, .int .i64 0]).alloc [.str ⟨#[97]⟩, .aF (h7.next + 1) 0 4 1] := ⟨_, rfl⟩
 have k10 : aS AP.A 182 [v5, .aF (h7.next + 1 + 1) 0 1 2] W = some (.bool true, W) := by
  have xw : Ext h7 W := by rw [hW, hY]; exact (((Ext.refl h7).alloc _).alloc _).alloc _
  have := ID W v5 (.aF (h7.next + 1 + 1) 0 1 2) acc [((nA, [1, 0, 0, 0]), .aF (h7.next + 1) 0 4 1)] (rb7.mono xw) ⟨⟨by simp only [aT, if_true]; rw [hW, xL (by simp; omega)]; rfl, rfl, fun _ => by simp⟩, fun x hx => by
   obtain rfl := List.mem_singleton.1 hx
   exact ⟨Rd.obj (l := [1, 0, 0, 0]) (by rw [hW, yh (by simp; omega), xL (by omega)]; rfl) rfl, by simp⟩⟩ (by have := Pc List.length q5'; rw [OX] at this; simp at this; omega)
  rw [dt (by rw [q5']; rfl)] at this; exact this
 have k11 := fun (g : H) n => Je g n
 simp only [I] at k11
 have ld : (ints (ym [eA]))[b]? = some (.int .i64 (yq (y6 [eA] b))) := uW a1
 obtain ⟨D, hD⟩ : ∃ D, D = yq (y6 [eA] b) := ⟨_, rfl⟩
 obtain ⟨R, hR⟩ : ∃ R, R = yq (ym [eA]) := ⟨_, rfl⟩
 rw [← hD] at ld a2
 rw [← hR] at k3 a3
 have ne1 : (D != 0) = true := by rw [bne_iff_ne]; exact a2
 have ne2 : (R != 0) = true := by rw [bne_iff_ne]; exact a3
 have iL := qZ (ym [eA])
 rw [yA] at iL
 have k1' : aS AP.A 177 [.agg [.aF h.next 0 1 9]] G = some (.bV [.aF i1 0 8 1, .int .i64 0], h1) := k1
 have k2' : aS AP.A 177 [.agg [.aQ]] h1 = some (.bV [.aF i2 0 8 1, .int .i64 0], h2) := k2
 have k5' : aS AP.A 178 [.agg [.aF h.next 0 1 9], .aF h2.next 0 1 1] H3 = some (.bV [v5, .int .i64 0], h5) := k5
 have k7' : aS AP.A 178 [.agg [.aF h.next 0 1 9], .aF h5.next 0 1 1] H6 = some (.bV [.aQ, .int .i64 1600], h7) := k7
 have k4' : ∀ g, aS AP.A 179 [.str ⟨#[97]⟩] g = some (.int .i64 b, g) := k4
 have gg := hG.symm
 have hh3 := hH3.symm
 have hh6 := hH6.symm
 have hy := hY.symm
 have hw := hW.symm
 have hbI : (0 : Int) ≤ (b : Int) ∧ (b : Int) < 8 := ⟨by omega, by omega⟩
 obtain ⟨hF, hh⟩ : ∃ hF, aM (aS AP.A) bH AP.f176.body (params 0 []) h.eJ = some (.ret, [(0, .bool true)], hF) := by
  clear e1 e2 e5 e7 b5 q5 q5' rb7 up x3 x6 hv okE rd1 hE hb hD hR a1 a4 a5 a6 a7 k1 k2 k5 k7 k4 r3 hG hH3 hH6 hY hW eE
  generalize ints (ym [eA]) = L at *
  refine ⟨?_, ?_⟩
  rotate_left
  simp (disch := first | omega | (simp only [yR, OS, OT, w8, Nat.reduceAdd]; first | done | omega | fail) | (simp (disch := first | omega | (simp only [yR, OS, OT, w8, Nat.reduceAdd]; first | done | omega | fail) | fail) only [yR, Ds, OW, OS, OT, w8, Nat.reduceAdd, g2, z12, z22, z32, z52, z72, gn, n3, n6, yn, yi]; done) | fail) only [go_sem, xN, Ej, AP.f176, k0, lE, cE, fE, gg, g2, k1', z12, k2', z22, k3, k4', hh3, z32, n3, k5', z52, hh6, n6, k7', k8, hy, k9, yi, ld, iL, hw, k10, k11, ne1, ne2, Cj, eo, yn, AE]
  rfl
 exact vX (fn := AP.f176) (h2 := hF) (e := [(0, .bool true)]) rfl rfl rfl hh rfl rfl
theorem OD (x : Int) (n : Nat) (hn : 0 < n) : ∃ r : Nat, r < n ∧ (IntKind.wrap .u64 x).tmod (n : Int) = r := by
 have h0 : 0 ≤ IntKind.wrap .u64 x := by simp only [IntKind.wrap, IntKind.signed, IntKind.bits]; simp; omega
 obtain ⟨m, hm⟩ : ∃ m : Nat, IntKind.wrap .u64 x = m := ⟨(IntKind.wrap .u64 x).toNat, by omega⟩
 rw [hm]
 exact ⟨m % n, Nat.mod_lt _ hn, by rw [Int.tmod_eq_emod_of_nonneg (by omega)]; omega⟩
theorem B8 : ∀ {a b c : List UInt8}, Op.bytesLess a b = true → Op.bytesLess b c = true → Op.bytesLess a c = true
 | _, [], _, h, _ => by simp [Op.bytesLess] at h
 | _, _ :: _, [], _, h => by simp [Op.bytesLess] at h
 | [], y :: b, z :: c, _, _ => rfl
 | x :: a, y :: b, z :: c, h1, h2 => by
   simp only [Op.bytesLess, xm, OY, wW, beq_iff_eq] at h1 h2 ⊢
   rcases h1 with h1 | ⟨rfl, h1⟩
   · rcases h2 with h2 | ⟨rfl, h2⟩
     · exact .inl (UInt8.lt_trans h1 h2)
     · exact .inl h1
   · rcases h2 with h2 | ⟨rfl, h2⟩
     · exact .inl h2
     · exact .inr ⟨rfl, B8 h1 h2⟩
theorem Gj {p : Option yd} {x y : yd} {b : List yd} (h1 : zV p x = true) (h2 : zQ (some x) (y :: b) = true) : zQ p (y :: b) = true := by
 simp only [zQ, wW] at h2 ⊢
 refine ⟨?_, h2.2⟩
 unfold zV at h1 h2 ⊢
 simp only [wW] at h1 h2 ⊢
 refine ⟨h2.1.1, ?_, h2.1.2.2⟩
 cases p with
 | none => rfl
 | some q => exact B8 h1.2.1 h2.1.2.1
theorem Cc : ∀ {a b : List yd} {x : yd} {p : Option yd}, zQ p (a ++ x :: b) = true → zQ p (a ++ b) = true
 | [], [], x, p, h => rfl
 | [], y :: b, x, p, h => by
   simp only [List.nil_append] at h ⊢
   rw [zQ, wW] at h
   exact Gj h.1 h.2
 | z :: a, b, x, p, h => by
   simp only [List.cons_append, zQ, wW] at h ⊢
   exact ⟨h.1, Cc h.2⟩
theorem ER {a b : List yd} {x : yd} (h : yP (a ++ x :: b) = true) : yP (a ++ b) = true := by
 unfold yP at h ⊢
 unfold zK at h ⊢
 simp only [wW, OY, xD, OS, List.all_append, List.all_cons] at h ⊢
 exact ⟨⟨Cc h.1.1, by omega⟩, h.2.1, h.2.2.2⟩
theorem EL (a b : List yd) (x : yd) {n : Nat} (h : n ≠ Cv x) : y6 (a ++ b) n = y6 (a ++ x :: b) n := by
 unfold y6
 rw [List.filter_append, List.filter_append, List.filter_cons, if_neg (by simp; omega)]
theorem DX (a b : List yd) (x : yd) {n : Nat} (hn : n < 8) (h : n ≠ Cv x) : (ym (a ++ b))[n]? = (ym (a ++ x :: b))[n]? := by
 unfold ym
 rw [xc, xc, List.getElem?_range hn]
 simp only [OW, EL a b x h]
theorem Da (a b : List yd) (x : yd) : (yC (a ++ x :: b) [((Cv x : Nat) : Int)]).length = (yC (a ++ b) [((Cv x : Nat) : Int)]).length + 1 := by
 unfold yC
 rw [OX, OX, List.filter_append, List.filter_append, List.filter_cons, if_pos (by simp)]
 simp only [xD, OS]; omega
theorem EJ {l : List yd} : yC l [0, 1, 2, 3, 4, 5, 6, 7] = l.map fun e => (e.name, e.vec) := by
 unfold yC
 rw [List.filter_eq_self.2]
 intro e _
 have : Cv e < 8 := by unfold Cv; omega
 generalize Cv e = n at *
 simp only [List.contains_iff_mem, xz, List.not_mem_nil, or_false]
 omega
theorem DE {v w : AV} {l : List xZ} {acc : List zR} (h : H) (b : Nat) (hb : h.get b = some [v]) (rd : zk 9 h v l.length (xV l)) (hv : ∀ x ∈ l, zc h x) (rb : Gt h w acc) (ha : acc.map (·.1) = l.map fun x => (x.1.name, x.1.vec)) (hl : l.length ≤ 6) (k ds : AV) : ∀ (n i : Nat), i + n = l.length →
 ∃ e', Lp AP.A [1, 2, 5, 7, 9] AP.f175L2 [(1, k), (2, .aE b 0), (5, ds), (7, w), (9, .int .i64 i)] h = some (.exit 0, e', h) ∧ look e' 1 = k ∧ look e' 2 = .aE b 0 ∧ look e' 5 = ds ∧ look e' 7 = w
 | 0, i, hi => by
   have al := Pc List.length ha
   rw [OX, OX] at al
   have ln := rb.rd.len
   rw [al] at ln
   obtain rfl : i = l.length := by omega
   refine ⟨[(1, k), (2, .aE b 0), (5, ds), (7, w), (9, .int .i64 l.length), (59, .bool false)], vo ?_, rfl, rfl, rfl, rfl⟩
   simp (disch := omega) only [go_sem, xN, AP.f175L2, ln]
 | n + 1, i, hi => by
   have al := Pc List.length ha
   rw [OX, OX] at al
   have ln := rb.rd.len
   rw [al] at ln
   obtain ⟨x, hx⟩ : ∃ x, l[i]? = some x := ⟨l[i]'(by omega), by simp⟩
   obtain ⟨y, hy⟩ : ∃ y, acc[i]? = some y := ⟨acc[i]'(by omega), by simp⟩
   have hxy : y.1 = (x.1.name, x.1.vec) := by
    have := Pc (fun z : List Og => z[i]?) ha
    simp only [xc, hx, hy, OW] at this
    exact wL this
   obtain ⟨ad, a1, a2⟩ := rd.Kz
   have b1 := a1 i ⟨by omega, by omega⟩
   obtain ⟨pe, _⟩ := a2 h (Ext.refl h) i x hx
   obtain ⟨qq, f1, f2⟩ := pe.vz
   have l0 := f2 h (Ext.refl h) 0 _ rfl
   have l2 := f2 h (Ext.refl h) 2 _ rfl
   obtain ⟨bd, c1, c2⟩ := rb.at_
   obtain ⟨c3, c4, c5⟩ := c1 i ⟨by omega, by omega⟩
   obtain ⟨c6, c7⟩ := c2 i y hy
   have okx := hv x (wZ hx)
   obtain ⟨ry, ly⟩ := rb.vec y (wZ hy)
   have k1 := Dv h y.2 x.2 y.1.2 x.1.vec ry okx.vec ly
   rw [dt (by rw [hxy])] at k1
   rw [hxy] at c6
   have en : bD .neq (.str x.1.name) (.str x.1.name) = some (.bool false) := by rw [BA]; simp
   obtain ⟨e', r1, r2⟩ := DE h b hb rd hv rb ha hl k ds n (i + 1) (by omega)
   have w1 : ((i + 1 : Nat) : Int) = (i : Int) + 1 := by omega
   rw [w1] at r1
   refine ⟨e', vp ?_ r1, r2⟩
   clear r1 r2 rd hv rb ha a1 a2 pe f2 c1 c2 okx ry hx hy hxy
   simp (disch := omega) only [go_sem, xN, AP.f175L2, ln, hb, b1, f1, l0, l2, c3, c4, c5, c6, c7, en, k1]
theorem DD (h : H) (i1 i5 own : Nat) (D1 D5 : List Int) (g1 : h.get i1 = some (ints D1)) (g5 : h.get i5 = some (ints D5)) (hl1 : D1.length = 8) (hl5 : D5.length = 8) (hd : ∀ n, n < 8 → n ≠ own → D5[n]? = D1[n]?) (P Q : AV) : ∀ (n i : Nat), i + n = 8 →
 ∃ e', Lp AP.A [2, 5, 11, 12, 14, 16] AP.f175L0 [(2, P), (5, .aF i1 0 8 1), (11, .int .i64 own), (12, Q), (14, .aF i5 0 8 1), (16, .int .i64 i)] h = some (.exit 4, e', h) ∧ look e' 2 = P ∧ look e' 11 = .int .i64 own ∧ look e' 12 = Q
 | 0, i, hi => by
   obtain rfl : i = 8 := by omega
   refine ⟨[(2, P), (5, .aF i1 0 8 1), (11, .int .i64 own), (12, Q), (14, .aF i5 0 8 1), (16, .int .i64 8), (141, .bool false)], vo ?_, rfl, rfl, rfl⟩
   simp (disch := omega) only [go_sem, xN, AP.f175L0]
 | n + 1, i, hi => by
   obtain ⟨e', r1, r2⟩ := DD h i1 i5 own D1 D5 g1 g5 hl1 hl5 hd P Q n (i + 1) (by omega)
   have w1 : ((i + 1 : Nat) : Int) = (i : Int) + 1 := by omega
   rw [w1] at r1
   refine ⟨e', vp ?_ r1, r2⟩
   clear r1 r2
   by_cases c : i = own
   · have c' : (i : Int) = own := by omega
     simp (disch := omega) only [go_sem, xN, AP.f175L0, Od c']
   · have c' : ¬ (i : Int) = own := by omega
     obtain ⟨x, hx⟩ : ∃ x, D1[i]? = some x := ⟨D1[i]'(by omega), by simp⟩
     have hy : D5[i]? = some x := by rw [hd i (by omega) c]; exact hx
     have x1 : (ints D1)[i]? = some (.int .i64 x) := uW hx
     have x5 : (ints D5)[i]? = some (.int .i64 x) := uW hy
     have L1 : (ints D1).length = 8 := by rw [qZ, hl1]
     have L5 : (ints D5).length = 8 := by rw [qZ, hl5]
     clear hd hx hy
     generalize ints D1 = X1 at *
     generalize ints D5 = X5 at *
     simp (disch := first | omega | (simp only [yR, OS, OT, w8, Nat.reduceAdd]; first | done | omega | fail) | (simp (disch := first | omega | (simp only [yR, OS, OT, w8, Nat.reduceAdd]; first | done | omega | fail) | fail) only [yR, Ds, OW, OS, OT, w8, Nat.reduceAdd]; done) | fail) only [go_sem, xN, Ej, AP.f175L0, g1, g5, x1, x5, L1, L5]
theorem Ik {α : Type} (p : List α) (x : α) (k : Nat) : (p ++ [x]).eraseIdx k = if p.length = k then p.eraseIdx k else p.eraseIdx k ++ [x] := by
 by_cases c : p.length = k
 · subst c
   rw [if_pos rfl, List.eraseIdx_append_of_length_le (wV _), Nat.sub_self, List.eraseIdx_of_length_le (wV _)]; simp
 · rw [if_neg c]
   by_cases c2 : k < p.length
   · rw [List.eraseIdx_append_of_lt_length c2]
   · rw [List.eraseIdx_of_length_le (by simp; omega), List.eraseIdx_of_length_le (by omega)]
theorem BH {v : AV} {l : List xZ} (hl : l.length ≤ 6) (h0 : H) (b : Nat) (hb : h0.get b = some [v]) (rd : zk 9 h0 v l.length (xV l)) (hv : ∀ x ∈ l, zc h0 x ∧ x.2.sc = true) (k : Nat) (P : Nat) (hP : h0.next ≤ P) (ds own : AV) : ∀ (q p : List xZ), l = p ++ q → ∀ (h : H) (ov : AV), Ext h0 h → h.get P = some [ov] → h.floor ≤ h.next → h.floor ≤ P →
 yg 9 h ov (p.eraseIdx k).length (xV (p.eraseIdx k)) → (∀ j, ov.id? = some j → P < j) →
 ∃ e' h' ov', Lp AP.A [2, 5, 10, 11, 12, 13] AP.f175L1 [(2, .aE b 0), (5, ds), (10, .int .i64 k), (11, own), (12, .aE P 0), (13, .int .i64 p.length)] h = some (.exit 2, e', h') ∧ look e' 2 = .aE b 0 ∧ look e' 5 = ds ∧ look e' 11 = own ∧ look e' 12 = .aE P 0 ∧
   Ext h0 h' ∧ h'.get P = some [ov'] ∧ h'.floor = h.floor ∧ h.next ≤ h'.next ∧ yg 9 h' ov' (l.eraseIdx k).length (xV (l.eraseIdx k))
 | [], p, hp, h, ov, hx, hg, hf, hfP, o, ho => by
   rw [OZ] at hp; subst hp
   have gb := hx _ _ hb
   have ln := (rd.mono fun i c q => hx i c q).len
   refine ⟨[(2, .aE b 0), (5, ds), (10, .int .i64 k), (11, own), (12, .aE P 0), (13, .int .i64 l.length), (111, .bool false)], h, ov, vo ?_, rfl, rfl, rfl, rfl, hx, hg, rfl, wV _, o⟩
   simp (disch := omega) only [go_sem, xN, AP.f175L1, gb, ln]
 | x :: q, p, hp, h, ov, hx, hg, hf, hfP, o, ho => by
   have gb := hx _ _ hb
   have hlx : l[p.length]? = some x := by rw [hp]; simp
   have hlen : l.length = p.length + (q.length + 1) := by rw [hp]; simp
   have ln := (rd.mono fun i c q => hx i c q).len
   obtain ⟨ad, a1, a2⟩ := rd.Kz
   have b1 := a1 p.length ⟨by omega, by omega⟩
   obtain ⟨_, b2⟩ := a2 h hx p.length x hlx
   obtain ⟨ok, sc⟩ := hv x (by rw [hp]; simp)
   have w1 : ((p ++ [x]).length : Int) = (p.length : Int) + 1 := by simp
   have es := Ik p x k
   by_cases c : p.length = k
   · have c' : (p.length : Int) = k := by omega
     rw [if_pos c] at es
     obtain ⟨e', h', ov', r1, r2⟩ := BH hl h0 b hb rd hv k P hP ds own q (p ++ [x]) (by rw [hp]; simp) h ov hx hg hf hfP (by rw [es]; exact o) ho
     rw [w1] at r1
     refine ⟨e', h', ov', vp ?_ r1, r2⟩
     clear r1 r2 rd hv a1 a2 o es
     generalize xW x.1 x.2 = F at *
     simp (disch := omega) only [go_sem, xN, AP.f175L1, gb, ln, Od c']
   · have c' : ¬ (p.length : Int) = k := by omega
     rw [if_neg c] at es
     obtain ⟨E, hE⟩ : ∃ E, E = xW x.1 x.2 := ⟨_, rfl⟩
     have lE : E.length = 9 := by rw [hE]; rfl
     have cE : AV.aD E = true := by rw [hE]; exact A8 sc
     have fE : setFrom Z9 0 E = E := by rw [hE]; rfl
     have pl : (p.eraseIdx k).length ≤ p.length := by rw [List.length_eraseIdx]; split <;> omega
     obtain ⟨v', h', p1, p2, p3, p4, p5, p6⟩ := o.push hf (z := 104) (m := 1) (by omega) (by omega) E (by rw [lE]) cE (by simp [roomy]; omega)
     have gP : h'.get P = some [ov] := by rw [p5 P (fun q => by have := ho P q; omega) (h.lt _ _ hg)]; exact hg
     have hw := p2.sc
     have cw := Em hw
     have st : vZ h' P 0 1 [v'] (some [ov]) = some (h'.set P [v']) := by rw [wD (by rw [p3]; exact hfP) (by simp) hw]; rfl
     have ea : xV (p.eraseIdx k) ++ E = xV ((p ++ [x]).eraseIdx k) := by rw [es, EO, hE]
     have el : (p.eraseIdx k).length + 1 = ((p ++ [x]).eraseIdx k).length := by rw [es]; simp
     rw [ea, el] at p2
     have hP' := h.lt _ _ hg
     obtain ⟨e', h2, ov', r1, r2, r3, r4, r5, r6, r7, r8, r9, r10⟩ := BH hl h0 b hb rd hv k P hP ds own q (p ++ [x]) (by rw [hp]; simp) (h'.set P [v']) v' (fun i c q => by
      have := h0.lt _ _ q
      rw [yc (by omega), p5 i (fun q2 => by have := ho i q2; omega) (by omega)]; exact hx i c q) (by rw [yu rfl, gP]; rfl) (by simp [p3]; omega) (by simp [p3]; exact hfP) (p2.mono (by simp) fun i q => by rw [yc]; rw [p6] at q; have := wL q; omega) (fun j q => by rw [p6] at q; have := wL q; omega)
     rw [w1] at r1
     refine ⟨e', h2, ov', vp ?_ r1, r2, r3, r4, r5, r6, r7, by rw [r8]; simp [p3], by simp at r9; omega, r10⟩
     rw [← hE] at b2
     clear r1 r2 r3 r4 r5 r6 r7 r8 r9 r10 rd hv a1 a2 o es ea el p2 hE
     simp (disch := omega) only [go_sem, xN, AP.f175L1, gb, ln, Ov c', hg, b1, b2, lE, cE, fE, p1, cw, gP, st]
set_option maxHeartbeats 4000000 in
theorem Jw (h : H) (v : AV) (l : List xZ) (which : Int) (hvs : v.sc = true) (hn : l.length < 1125899906842624) (rd : zk 9 h v l.length (xV l)) (hv : ∀ x ∈ l, zc h x ∧ x.2.sc = true) : aS AP.A 175 [.agg [v], .int .i64 which] h = some (.bool true, h) := by
 obtain ⟨G, eG⟩ : ∃ g, g = h.eJ.alloc [v] := ⟨_, rfl⟩
 have hx1 : Ext h G := fun i c q => by rw [eG]; exact ((Ext.refl h.eJ).alloc _) i c q
 have hn0 : h.eJ.next = h.next := rfl
 have z1 : G.get h.next = some [v] := by rw [eG]; exact xL rfl
 have fG : G.floor = h.next := by rw [eG]; simp
 have nG : G.next = h.next + 1 := by rw [eG]; simp
 have rd1 := rd.mono fun i c q => hx1 i c q
 have hv1 : ∀ x ∈ l, zc G x ∧ x.2.sc = true := fun x hx => ⟨(hv x hx).1.mono hx1, (hv x hx).2⟩
 have k0 : ∀ g, aS AP.A 176 [] g = some (.bool true, g) := FO
 have k11 := fun (g : H) n => Je g n
 simp only [I] at k11
 have lv := rd1.len
 cases hm : yP (l.map (·.1)) with
 | false =>
   obtain ⟨h1, k1, e1, f1, n1⟩ := Kx G (by omega) v l hvs hn rd1 hv1 hm
   refine vX (fn := AP.f175) (h2 := h1) (e := [(4, .bool true)]) rfl rfl rfl ?_ rfl rfl
   clear rd rd1 hv hv1 hx1 e1
   simp (disch := omega) only [go_sem, xN, AP.f175, hvs, hn0, ← eG, z1, AE, k0, k1, k11]
 | true =>
   have m1 := hm
   unfold yP at m1
   rw [wW] at m1
   have m6 := (yH m1.1).1
   rw [OX] at m6
   have dl := yA (l.map (·.1))
   obtain ⟨i1, h1, k1, o1, e1, f1, n1, ge1⟩ := Dd G (by omega) v l hvs hn rd1 hv1 hm
   obtain ⟨H2, eH2⟩ : ∃ g, g = h1.alloc [.int .i64 0, .int .i64 1, .int .i64 2, .int .i64 3, .int .i64 4, .int .i64 5, .int .i64 6, .int .i64 7] := ⟨_, rfl⟩
   have x2 : Ext h1 H2 := by rw [eH2]; exact (Ext.refl h1).alloc _
   have xG2 : Ext G H2 := fun i c q => x2 _ _ (e1 _ _ q)
   have f2 : H2.floor = h.next := by rw [eH2]; simp [f1, fG]
   have n2 : H2.next = h1.next + 1 := by rw [eH2]; simp
   obtain ⟨v3, h3, acc, k3, e3, q3, b3⟩ := AJ H2 (by omega) v (.aF h1.next 0 8 1) l [0, 1, 2, 3, 4, 5, 6, 7] hvs hn (rd1.mono fun i c q => xG2 i c q) (fun x hx => ⟨(hv1 x hx).1.mono xG2, (hv1 x hx).2⟩) (Rd.obj (l := [0, 1, 2, 3, 4, 5, 6, 7]) (by rw [eH2, xL rfl]; rfl) rfl) (by simp) (by rw [hm]; decide)
   rw [EJ] at q3
   have x3 : Ext G h3 := fun i c q => e3.ext _ _ (xG2 _ _ q)
   have f3 := e3.fl
   have n3 := e3.nx
   have rb3 := e3.H8 b3
   have q3' : acc.map (·.1) = l.map fun x => (x.1.name, x.1.vec) := by rw [q3, List.map_map]; rfl
   have al := Pc List.length q3'
   rw [OX, OX] at al
   have ln3 := rb3.rd.len
   rw [al] at ln3
   have z3 := x3 _ _ z1
   have z1h := e1 _ _ z1
   obtain ⟨ea, s1, s2, s3, s4, s5⟩ := DE h3 h.next z3 (rd1.mono fun i c q => x3 i c q) (fun x hx => (hv1 x hx).1.mono x3) rb3 q3' m6 (.int .i64 which) (.aF i1 0 8 1) l.length 0 (by omega)
   have s1' : Lp AP.A [1, 2, 5, 7, 9] AP.f175L2 [(1, .int .i64 which), (2, .aE h.next 0), (5, .aF i1 0 8 1), (7, v3), (9, .int .i64 0)] h3 = some (.exit 0, ea, h3) := s1
   clear s1
   by_cases hz : l.length = 0
   · have hz' : (l.length : Int) = 0 := by omega
     refine vX (fn := AP.f175) (h2 := h3) (e := [(4, .bool true)]) rfl rfl rfl ?_ rfl rfl
     clear rd rd1 hv hv1 hx1 e1 e3 x2 x3 xG2 b3 q3 q3' rb3 o1
     have h2s := eH2.symm
     simp (disch := omega) only [go_sem, xN, AP.f175, hvs, hn0, ← eG, z1, z1h, AE, k0, k1, k11, h2s, k3, ln3, lv, z3, uz, s1', s2, s3, s4, s5]
   · obtain ⟨k, hk, hu⟩ := OD which l.length (by omega)
     have hul : IntKind.wrap .u64 (l.length : Int) = l.length := by simp only [IntKind.wrap, IntKind.signed, IntKind.bits]; simp; omega
     have rm : bD .rem (.int .u64 (IntKind.wrap .u64 which)) (.int .u64 (l.length : Int)) = some (.int .u64 k) := by
      show (if (l.length : Int) = 0 then none else some (AV.int .u64 ((IntKind.wrap .u64 which).tmod l.length))) = _
      rw [if_neg (by omega), hu]
     have cr : IntKind.wrap .i64 (k : Int) = k := wi (by omega)
     obtain ⟨x, hx⟩ : ∃ x, l[k]? = some x := ⟨l[k], by simp⟩
     obtain ⟨a, b, hab, hak⟩ : ∃ a b, l = a ++ x :: b ∧ a.length = k := by
      refine ⟨l.take k, l.drop (k + 1), ?_, by rw [List.length_take]; omega⟩
      have h1 := List.take_append_drop k l
      rw [List.drop_eq_getElem_cons hk] at h1
      have h2 : l[k] = x := by rw [List.getElem?_eq_getElem hk] at hx; exact wL hx
      rw [h2] at h1; exact h1.symm
     have hla : l.eraseIdx k = a ++ b := by rw [hab, List.eraseIdx_append_of_length_le (by omega), hak, Nat.sub_self]; rfl
     obtain ⟨ad, a1, a2⟩ := (rd1.mono fun i c q => x3 i c q : zk 9 h3 v l.length (xV l)).Kz
     have bk := a1 k ⟨by omega, by omega⟩
     obtain ⟨pe, _⟩ := a2 h3 (Ext.refl h3) k x hx
     obtain ⟨qq, pf1, pf2⟩ := pe.vz
     have l0 := pf2 h3 (Ext.refl h3) 0 _ rfl
     have okx := (hv1 x (wZ hx)).1
     have kb := AK h3 x.1.name okx.nl
     obtain ⟨own, hown⟩ : ∃ n, n = Cv x.1 := ⟨_, rfl⟩
     have own8 : own < 8 := by rw [hown]; unfold Cv; omega
     have kb' : aS AP.A 179 [.str x.1.name] h3 = some (.int .i64 own, h3) := by rw [hown]; exact kb
     obtain ⟨H4, eH4⟩ : ∃ g, g = h3.alloc [.aQ] := ⟨_, rfl⟩
     have x4 : Ext h3 H4 := by rw [eH4]; exact (Ext.refl h3).alloc _
     have f4 : H4.floor = h.next := by rw [eH4]; simp [f3, f2]
     have n4 : H4.next = h3.next + 1 := by rw [eH4]; simp
     obtain ⟨eb, h5, ov, t1, t2, t3, t4, t5, t6, t7, t8, t9, t10⟩ := BH m6 h3 h.next z3 (rd1.mono fun i c q => x3 i c q) (fun x hx => ⟨(hv1 x hx).1.mono x3, (hv1 x hx).2⟩) k h3.next (wV _) (.aF i1 0 8 1) (.int .i64 own) l [] rfl H4 .aQ x4 (by rw [eH4, xL rfl]) (by omega) (by omega) yg.nil (fun j q => by cases q)
     have t1' : Lp AP.A [2, 5, 10, 11, 12, 13] AP.f175L1 [(2, .aE h.next 0), (5, .aF i1 0 8 1), (10, .int .i64 k), (11, .int .i64 own), (12, .aE h3.next 0), (13, .int .i64 0)] H4 = some (.exit 2, eb, h5) := t1
     have t7q := t7
     rw [hla] at t10
     have hvs5 := t10.sc
     have mab : yP ((a ++ b).map (·.1)) = true := by
      rw [hab, O3, O7] at hm
      rw [O3]; exact ER hm
     have hvab : ∀ y ∈ a ++ b, y ∈ l := fun y hy => by
      rw [hab]; rcases List.mem_append.1 hy with q | q
      · exact List.mem_append_left _ q
      · exact List.mem_append_right _ (List.mem_cons_of_mem _ q)
     have xG5 : Ext G h5 := fun i c q => t6 _ _ (x3 _ _ q)
     have hv5 : ∀ y ∈ a ++ b, zc h5 y ∧ y.2.sc = true := fun y hy => ⟨(hv1 y (hvab y hy)).1.mono xG5, (hv1 y (hvab y hy)).2⟩
     have lab : (a ++ b).length < 1125899906842624 := by rw [hab] at m6; simp at m6 ⊢; omega
     obtain ⟨i6, h6, k6, o6, e6, f6, n6, ge6⟩ := Dd h5 (by omega) ov (a ++ b) hvs5 lab t10.rd hv5 mab
     have o1h6 : h6.get i1 = some (ints (ym (l.map (·.1)))) := e6 _ _ (t6 _ _ (e3.ext _ _ (x2 _ _ o1)))
     obtain ⟨ec, u1, u2, u3, u4⟩ := DD h6 i1 i6 own _ _ o1h6 o6 (yA _) (yA _) (fun n hn8 hne => by
      rw [hab, O3, O3, O7]
      exact DX _ _ _ hn8 (by rw [← hown]; exact hne)) (.aE h.next 0) (.aE h3.next 0) 8 0 rfl
     have u1' : Lp AP.A [2, 5, 11, 12, 14, 16] AP.f175L0 [(2, .aE h.next 0), (5, .aF i1 0 8 1), (11, .int .i64 own), (12, .aE h3.next 0), (14, .aF i6 0 8 1), (16, .int .i64 0)] h6 = some (.exit 4, ec, h6) := u1
     have z6P : h6.get h3.next = some [ov] := e6 _ _ t7
     have z6 : h6.get h.next = some [v] := e6 _ _ (xG5 _ _ z1)
     have rd6 := t10.rd.mono fun i c q => e6 i c q
     obtain ⟨H7, eH7⟩ : ∃ g, g = h6.alloc [.int .i64 own] := ⟨_, rfl⟩
     have x7 : Ext h6 H7 := by rw [eH7]; exact (Ext.refl h6).alloc _
     have f7 : H7.floor = h.next := by rw [eH7]; simp [f6, t8, f4]
     have n7 : H7.next = h6.next + 1 := by rw [eH7]; simp
     have hbm : zT [(own : Int)] = true := by
      unfold zT; rw [E6]; unfold Mr; rw [dt (by omega), dt (by omega)]; rfl
     obtain ⟨v8, h8, acc8, k8, e8, q8, b8⟩ := AJ H7 (by omega) ov (.aF h6.next 0 1 1) (a ++ b) [(own : Int)] hvs5 lab (rd6.mono fun i c q => x7 i c q) (fun y hy => ⟨(hv5 y hy).1.mono fun i c q => x7 _ _ (e6 _ _ q), (hv5 y hy).2⟩) (Bw (by rw [eH7, xL rfl])) (by simp) (by rw [mab, hbm]; rfl)
     obtain ⟨H9, eH9⟩ : ∃ g, g = h8.alloc [.int .i64 own] := ⟨_, rfl⟩
     have x9 : Ext h8 H9 := by rw [eH9]; exact (Ext.refl h8).alloc _
     have n8 := e8.nx
     have f9 : H9.floor = h.next := by rw [eH9]; simp [e8.fl, f7]
     have n9 : H9.next = h8.next + 1 := by rw [eH9]; simp
     have xG9 : Ext G H9 := fun i c q => x9 _ _ (e8.ext _ _ (x7 _ _ (e6 _ _ (xG5 _ _ q))))
     have z8 : h8.get h.next = some [v] := e8.ext _ _ (x7 _ _ z6)
     obtain ⟨v10, h10, acc10, k10, e10, q10, b10⟩ := AJ H9 (by omega) v (.aF h8.next 0 1 1) l [(own : Int)] hvs hn (rd1.mono fun i c q => xG9 i c q) (fun y hy => ⟨(hv1 y hy).1.mono xG9, (hv1 y hy).2⟩) (Bw (by rw [eH9, xL rfl])) (by simp) (by rw [hm, hbm]; rfl)
     have l8 := (e8.H8 b8).rd.len
     have l10 := (e10.H8 b10).rd.len
     have a8 := Pc List.length q8
     have a10 := Pc List.length q10
     rw [OX] at a8 a10
     have lb := Da (a.map (·.1)) (b.map (·.1)) x.1
     have a10b : acc10.length = acc8.length + 1 := by
      rw [a8, a10, hab, O3, O3, O7, hown]; exact lb
     have a10' : (acc10.length : Int) = (acc8.length : Int) + 1 := by omega
     have al8 : acc8.length ≤ 6 := by
      have q1 := BM ((a ++ b).map (·.1)) [(own : Int)]
      rw [← a8, OX] at q1
      have q2 : l.length = a.length + (b.length + 1) := by rw [hab]; simp
      rw [xD] at q1
      omega
     rw [a10'] at l10
     have dl8 : (8 : Int) = 8 := rfl
     refine vX (fn := AP.f175) (h2 := h10) (e := [(4, .bool true)]) rfl rfl rfl ?_ rfl rfl
     have kI : (0 : Int) ≤ (k : Int) ∧ (k : Int) < l.length := ⟨by omega, by omega⟩
     have h2s := eH2.symm
     have h4s := eH4.symm
     have h7s := eH7.symm
     have h9s := eH9.symm
     clear rd rd1 hv hv1 hx1 e1 e3 x2 x3 xG2 b3 q3 q3' rb3 o1 pe pf2 a1 a2 t1 t6 t7 t10 hvab hv5 o6 e6 xG5 u1 rd6 x7 e8 b8 q8 q10 b10 e10 x9 xG9 hab hla lb okx kb hx x4 o1h6
     generalize acc8.length = n8' at *
     generalize l.length = nl at *
     simp (disch := omega) only [go_sem, xN, AP.f175, hvs, hn0, ← eG, z1, z1h, AE, k0, k1, k11, h2s, k3, ln3, lv, z3, uz, s1', s2, s3, s4, s5, hul, rm, cr, bk, pf1, l0, kb', h4s, t1', t2, t3, t4, t5, t7q, k6, u1', u2, u3, u4, z6P, z6, h7s, k8, z8, h9s, k10, l8, l10]
theorem Cx (r : List (Ty × List AV)) (h : r.map (·.1) = [Ip, B5]) (hp : ∀ x ∈ r, Sh reachBytes x.1 x.2) : aS AP.A 175 (r.map kO) H.empty = some (.bool true, H.empty) := by
 obtain ⟨x, y, rfl, h1, h2⟩ := Oy h hp
 obtain ⟨v, l, rfl, hv, rd, ok, hl⟩ := Md h1
 obtain ⟨b, rfl, _⟩ := AF h2
 exact Jw H.empty v l b hv (by omega) (rd _) (fun x hx => ⟨(ok x hx).2.1 _, (ok x hx).1⟩)
end Ab
