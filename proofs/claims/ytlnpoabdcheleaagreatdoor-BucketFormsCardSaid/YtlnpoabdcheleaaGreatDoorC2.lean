/- Part C2. -/
import Derived.Test.YtlnpoabdcheleaaGreatDoorC1
set_option linter.unusedSimpArgs false
set_option linter.unusedVariables false
set_option maxRecDepth 100000
namespace Ab
open Go
theorem Mh {k : IntKind} {i : Int} {n : Nat} (h : 0 ≤ i ∧ i < n) : dx (.int k i) n = some i.toNat := by simp [dx, pj, h]
def okB (b : Nat) : Bool := decide (97 ≤ b ∧ b ≤ 122 ∨ 48 ≤ b ∧ b ≤ 57 ∨ b = 46 ∨ b = 45 ∨ b = 95)
def yM (s : ByteArray) : Nat → Nat → Bool
 | 0, _ => false
 | n + 1, i => decide (i = zr s n) || yM s n i
def Iu : ByteArray := ⟨#[97, 98, 99, 100, 101, 102, 103, 104, 105, 106, 107, 108, 109, 110, 111, 112, 113, 114, 115, 116, 117, 118, 119, 120, 121, 122, 48, 49, 50, 51, 52, 53, 54, 55, 56, 57, 46, 45, 95]⟩
def bT (P : Nat → Bool) : List AV := o7 256 fun i => .bool (P i)
theorem Ar (P : Nat → Bool) : (bT P).length = 256 := by simp [bT]
theorem Jj (P : Nat → Bool) {i : Nat} (h : i < 256) : (bT P)[i]? = some (.bool (P i)) := gQ h
theorem Jl (s : ByteArray) (n : Nat) : (bT (yM s n)).set (zr s n) (.bool true) = bT (yM s (n + 1)) := by
 unfold bT
 rw [vJ (Au s n)]
 congr 1
 funext i
 have e : yM s (n + 1) i = (decide (i = zr s n) || yM s n i) := rfl
 rw [e]
 unfold v9
 by_cases h : i = zr s n
 · simp [h]
 · simp [h]
theorem Mn : bT (yM Iu 39) = bT okB := by
 unfold bT o7
 refine List.map_congr_left fun i hi => ?_
 have hi' : i < 256 := List.mem_range.1 hi
 have : ∀ i, i < 256 → yM Iu 39 i = okB i := by decide +kernel
 rw [this i hi']
theorem B7 (g : Nat → Option (List AV)) (fl n : Nat) (t : Bool) : ∀ l : List Bool, gH (snap g fl (n + 1) t) (l.map .bool) = some (l.map .bool)
 | [] => rfl
 | b :: l => by
   have := B7 g fl n t l
   simp only [OU, gH, this]; rfl
theorem Im (g : Nat → Option (List AV)) (fl n : Nat) (t : Bool) (P : Nat → Bool) : gH (snap g fl (n + 1) t) (bT P) = some (bT P) := by
 have e : bT P = ((List.range 256).map P).map .bool := by unfold bT o7; rw [List.map_map]; rfl
 rw [e]; exact B7 g fl n t _
theorem GB (e : Env) : aZ e (.alloc [.bool false, .bool false, .bool false, .bool false, .bool false, .bool false, .bool false, .bool false, .bool false, .bool false, .bool false, .bool false, .bool false, .bool false, .bool false, .bool false, .bool false, .bool false, .bool false, .bool false, .bool false, .bool false, .bool false, .bool false, .bool false, .bool false, .bool false, .bool false, .bool false, .bool false, .bool false, .bool false, .bool false, .bool false, .bool false, .bool false, .bool false, .bool false, .bool false, .bool false, .bool false, .bool false, .bool false, .bool false, .bool false, .bool false, .bool false, .bool false, .bool false, .bool false, .bool false, .bool false, .bool false, .bool false, .bool false, .bool false, .bool false, .bool false, .bool false, .bool false, .bool false, .bool false, .bool false, .bool false, .bool false, .bool false, .bool false, .bool false, .bool false, .bool false, .bool false, .bool false, .bool false, .bool false, .bool false, .bool false, .bool false, .bool false, .bool false, .bool false, .bool false, .bool false, .bool false, .bool false, .bool false, .bool false, .bool false, .bool false, .bool false, .bool false, .bool false, .bool false, .bool false, .bool false, .bool false, .bool false, .bool false, .bool false, .bool false, .bool false, .bool false, .bool false, .bool false, .bool false, .bool false, .bool false, .bool false, .bool false, .bool false, .bool false, .bool false, .bool false, .bool false, .bool false, .bool false, .bool false, .bool false, .bool false, .bool false, .bool false, .bool false, .bool false, .bool false, .bool false, .bool false, .bool false, .bool false, .bool false, .bool false, .bool false, .bool false, .bool false, .bool false, .bool false, .bool false, .bool false, .bool false, .bool false, .bool false, .bool false, .bool false, .bool false, .bool false, .bool false, .bool false, .bool false, .bool false, .bool false, .bool false, .bool false, .bool false, .bool false, .bool false, .bool false, .bool false, .bool false, .bool false, .bool false, .bool false, .bool false, .bool false, .bool false, .bool false, .bool false, .bool false, .bool false, .bool false, .bool false, .bool false, .bool false, .bool false, .bool false, .bool false, .bool false, .bool false, .bool false, .bool false, .bool false, .bool false, .bool false, .bool false, .bool false, .bool false, .bool false, .bool false, .bool false, .bool false, .bool false, .bool false, .bool false, .bool false, .bool false, .bool false, .bool false, .bool false, .bool false, .bool false, .bool false, .bool false, .bool false, .bool false, .bool false, .bool false, .bool false, .bool false, .bool false, .bool false, .bool false, .bool false, .bool false, .bool false, .bool false, .bool false, .bool false, .bool false, .bool false, .bool false, .bool false, .bool false, .bool false, .bool false, .bool false, .bool false, .bool false, .bool false, .bool false, .bool false, .bool false, .bool false, .bool false, .bool false, .bool false, .bool false, .bool false, .bool false, .bool false, .bool false, .bool false, .bool false, .bool false, .bool false, .bool false, .bool false, .bool false, .bool false, .bool false, .bool false, .bool false, .bool false, .bool false, .bool false, .bool false, .bool false, .bool false, .bool false, .bool false]) = some (bT fun _ => false, fun i => .aE i 0) := rfl
theorem Fg (s : ByteArray) (hs : s.size < 100000) (h7 : ∀ i, i < s.size → zr s i < 128) (id : Nat) : ∀ (m n : Nat) (h : H), n + m = s.size → h.get id = some (bT (yM s n)) → h.floor ≤ id →
 ∃ e' h', Lp AP.A [0, 2, 4] AP.f127L0 [(0, .str s), (2, .aE id 0), (4, .int .i64 n)] h = some (.exit 0, e', h') ∧ look e' 2 = .aE id 0 ∧ h'.get id = some (bT (yM s s.size)) ∧ h'.floor = h.floor
 | 0, n, h, hn, hg, hf => by
   obtain rfl : n = s.size := by omega
   refine ⟨[(0, .str s), (2, .aE id 0), (4, .int .i64 s.size), (9, .bool false)], h, vo ?_, rfl, hg, rfl⟩
   simp (disch := omega) only [go_sem, xP, AP.f127L0]
 | m + 1, n, h, hn, hg, hf => by
   have g2 : (h.set id (bT (yM s (n + 1)))).get id = some (bT (yM s (n + 1))) := by rw [yg rfl, hg]; rfl
   obtain ⟨e', h', r1, r2, r3, r4⟩ := Fg s hs h7 id m (n + 1) _ (by omega) g2 (by simpa using hf)
   have n1 : ((n + 1 : Nat) : Int) = (n : Int) + 1 := by omega
   have hb := Au s n
   have hb7 := h7 n (by omega)
   have ia : dx (.int .u8 (zr s n : Nat)) 256 = some (zr s n) := by rw [Mh (by omega)]; rfl
   have st : vZ h id (zr s n) 1 [.bool true] (some (bT (yM s n))) = some (h.set id (bT (yM s (n + 1)))) := by rw [wD hf (by rw [Ar]; exact hb) rfl, Jl]
   refine ⟨e', h', vp ?_ r1, r2, r3, by rw [r4]; simp⟩
   rw [n1]
   generalize bT (yM s n) = T at *
   generalize bT (yM s (n + 1)) = T2 at *
   simp (disch := omega) only [go_sem, xP, AP.f127L0, ia, hg, st]
theorem Ah {h : H} {id n : Nat} {v cs : List AV} (hf : h.floor ≤ id) (hv : v.length = n) (hc : cs.length = n) (hs : AV.aD v = true) : vZ h id 0 n v (some cs) = some (h.set id v) := by
 rw [Hy]
 have e : setFrom cs 0 v = v := by
  have := zj cs v [] [] (by omega)
  simpa using this
 simp [hf, hv, hc, hs, e, yA]
theorem II (P : Nat → Bool) : AV.aD (bT P) = true := by
 have e : bT P = ((List.range 256).map P).map .bool := by unfold bT o7; rw [List.map_map]; rfl
 rw [e]
 generalize (List.range 256).map P = l
 induction l with
 | nil => rfl
 | cons b l ih => simp [ih]
theorem LS (P : Nat → Bool) : iT true 256 (bT P) 0 = some (.agg (bT P)) := by
 simp only [iT, if_true]
 rw [if_pos (by rw [Ar]; omega), ON, xu (by rw [Ar]; omega)]
theorem Ir (h : H) (s : ByteArray) (hs : s.size < 100000) (h7 : ∀ i, i < s.size → zr s i < 128) : aS AP.A 127 [.str s] h = some (.bV [.agg (bT (yM s s.size)), .bool true], h) := by
 obtain ⟨h1, eh1⟩ : ∃ g, g = h.eJ.alloc (bT fun _ => false) := ⟨_, rfl⟩
 have g1 : h1.get h.next = some (bT (yM s 0)) := by rw [eh1, xL (by simp)]; rfl
 obtain ⟨e', h', r1, r2, r3, r4⟩ := Fg s hs h7 h.next s.size 0 h1 (by omega) g1 (by rw [eh1]; simp)
 have r1' : Lp AP.A [0, 2, 4] AP.f127L0 [(0, .str s), (2, .aE h.next 0), (4, .int .i64 0)] h1 = some (.exit 0, e', h') := r1
 clear r1
 obtain ⟨h2, eh2⟩ : ∃ g, g = h'.set h.next (bT (yM s s.size)) := ⟨_, rfl⟩
 have st : vZ h' h.next 0 256 (bT (yM s s.size)) (some (bT (yM s s.size))) = some h2 := by
  rw [Ah (by rw [r4, eh1]; simp) (Ar _) (Ar _) (II _), eh2]
 have g2 : h2.get h.next = some (bT (yM s s.size)) := by rw [eh2, yg rfl, r3]; rfl
 have hn : h.eJ.next = h.next := rfl
 have rd := LS (yM s s.size)
 refine vX (fn := AP.f127) (h2 := h2) (e := [(2, .aE h.next 0), (3, .bool true)]) (vs := [.agg (bT (yM s s.size)), .bool true]) rfl rfl rfl ?_ ?_ ?_
 · generalize bT (yM s s.size) = T at *
   simp (disch := omega) only [go_sem, AP.f127, GB, hn, ← eh1, uz, r1', r2, r3, rd, st]
 · simp only [AP.f127, cT, oS, oG, sS, g2, vh, rd, mU, ne_eq, Nat.reduceEqDiff, not_false_eq_true]
   rfl
 · show (gH (snap h2.get h.next 15 true) [.agg (bT (yM s s.size)), .bool true]).bind _ = _
   have m1 : snap h2.get h.next 15 true (.agg (bT (yM s s.size))) = some (.agg (bT (yM s s.size))) := by
    unfold snap; rw [Im]; rfl
   simp only [gH, m1]; rfl
theorem IP (h : H) (id b : Nat) (P : Nat → Bool) (hg : h.get id = some (bT P)) (hb : b < 256) : aS AP.A 132 [.aE id 0, .int .u8 b] h = some (.bool (P b), h) := by
 have ia : dx (.int .u8 b) 256 = some b := by rw [Mh (by omega)]; congr 1
 have g := Jj P hb
 refine vG (fn := AP.f132) (h2 := h) (e := [(4, .bool (P b))]) (vs := [.bool (P b)]) rfl rfl rfl ?_ rfl
 generalize bT P = T at *
 simp (disch := omega) only [go_sem, xP, AP.f132, ia, hg, g]
theorem Gx {s : ByteArray} {n : Nat} (hn : n ≤ s.size) : po (.str s) none (some (.int .i64 n)) = some (.str (s.extract 0 n)) := HO hn
theorem HP {s : ByteArray} {n : Nat} (hn : n ≤ s.size) : po (.str s) (some (.int .i64 n)) none = some (.str (s.extract n s.size)) := by
 have : lL (.int .i64 n) s.size = some n := Ee hn
 simp [po, aC, this]
theorem Bx {s : ByteArray} {a b i : Nat} (hb : b ≤ s.size) (hi : a + i < b) : zr (s.extract a b) i = zr s (a + i) := by
 have e : (s.extract a b)[i]? = s[a + i]? := by
  show (s.extract a b).data[i]? = s.data[a + i]?
  rw [ByteArray.data_extract, Array.getElem?_extract]
  have : s.data.size = s.size := rfl
  rw [if_pos (by omega)]
 unfold zr; rw [e]
theorem AY {s : ByteArray} {a b : Nat} (hb : b ≤ s.size) : (s.extract a b).size = b - a := by simp [ByteArray.size_extract]; omega
theorem Fa (s : ByteArray) : s.extract 0 s.size = s := by
 apply ByteArray.ext
 rw [ByteArray.data_extract]
 exact Array.extract_size
theorem Ie (s : ByteArray) {n m : Nat} (hm : m ≤ n) : (s.extract 0 n).extract 0 m = s.extract 0 m := by
 apply ByteArray.ext
 rw [ByteArray.data_extract, ByteArray.data_extract, ByteArray.data_extract, Array.extract_extract]
 simp [hm]
theorem Cb (id : Nat) (P : Nat → Bool) (h : H) (hg : h.get id = some (bT P)) : ∀ (n : Nat) (s : ByteArray), s.size = n → n < 100000 →
 ∃ e' m, Lp AP.A [0, 1] AP.f129L0 [(0, .str s), (1, .aE id 0)] h = some (.exit 0, e', h) ∧ look e' 0 = .str (s.extract 0 m) ∧ m ≤ s.size ∧ (∀ i, m ≤ i → i < s.size → P (zr s i) = true) ∧ (0 < m → P (zr s (m - 1)) = false)
 | 0, s, hs, hn => by
   refine ⟨[(0, .str s), (1, .aE id 0), (7, .bool false)], 0, vo ?_, ?_, by omega, fun i h1 h2 => by omega, fun q => by omega⟩
   · simp (disch := omega) only [go_sem, xP, AP.f129L0]
   · show AV.str s = _
     congr 1
     have := Fa s
     rw [hs] at this
     exact this.symm
 | n + 1, s, hs, hn => by
   have hb := Au s n
   have k1 := IP h id (zr s n) P hg hb
   have n1 : (s.size : Int) - 1 = (n : Int) := by omega
   have sl := Gx (s := s) (n := n) (by omega)
   by_cases c : P (zr s n) = true
   · rw [c] at k1
     obtain ⟨e', m, r1, r2, r3, r4, r5⟩ := Cb id P h hg n (s.extract 0 n) (by rw [AY (by omega)]; omega) (by omega)
     rw [AY (by omega)] at r3 r4
     refine ⟨e', m, vp ?_ r1, ?_, by omega, fun i h1 h2 => ?_, fun q => ?_⟩
     · simp (disch := omega) only [go_sem, xP, AP.f129L0, n1, k1, sl]
     · rw [r2]; congr 1; exact Ie s r3
     · by_cases hi : i = n
       · rw [hi]; exact c
       · have := r4 i h1 (by omega)
         rwa [Bx (by omega) (by omega), w8] at this
     · have := r5 q
       rwa [Bx (by omega) (by omega), w8] at this
   · have c' : P (zr s n) = false := by simpa using c
     rw [c'] at k1
     refine ⟨[(0, .str s), (1, .aE id 0), (15, .bool true)], s.size, vo ?_, ?_, wV _, fun i h1 h2 => by omega, fun q => by rw [hs]; exact c'⟩
     · simp (disch := omega) only [go_sem, xP, AP.f129L0, n1, k1]
     · show AV.str s = _
       congr 1
       exact (Fa s).symm
theorem Kr (s : ByteArray) {n : Nat} (h : s.size = n + 1) : (s.extract 1 s.size).size = n := by rw [AY (wV _)]; omega
theorem CH (id : Nat) (P : Nat → Bool) (h : H) (hg : h.get id = some (bT P)) : ∀ (n : Nat) (s : ByteArray), s.size = n → n < 100000 → (0 < n → P (zr s (n - 1)) = false) →
 ∃ e' r, Lp AP.A [0, 1] AP.f128L0 [(0, .str s), (1, .aE id 0)] h = some (.exit 0, e', h) ∧ look e' 0 = .str r ∧ (r.size = 0 ↔ n = 0)
 | 0, s, hs, hn, hp => by
   refine ⟨[(0, .str s), (1, .aE id 0), (7, .bool false)], s, vo ?_, rfl, by omega⟩
   simp (disch := omega) only [go_sem, xP, AP.f128L0]
 | n + 1, s, hs, hn, hp => by
   have hb := Au s 0
   have k1 := IP h id (zr s 0) P hg hb
   have sl : po (.str s) (some (.int .i64 1)) none = some (.str (s.extract 1 s.size)) := HP (s := s) (n := 1) (by omega)
   have ix : nN (.str s) (.int .i64 0) = some (.int .u8 (zr s 0 : Nat)) := Da (by omega)
   by_cases c : P (zr s 0) = true
   · rw [c] at k1
     have hn0 : n ≠ 0 := fun e => by subst e; have := hp (by omega); simp only [w8, Nat.sub_self] at this; rw [c] at this; cases this
     obtain ⟨e', r, r1, r2, r3⟩ := CH id P h hg n (s.extract 1 s.size) (Kr s hs) (by omega) (fun q => by
      rw [Bx (wV _) (by omega), show 1 + (n - 1) = n + 1 - 1 by omega]; exact hp (by omega))
     refine ⟨e', r, vp ?_ r1, r2, by omega⟩
     clear hp
     simp (disch := omega) only [go_sem, dt, df, AF, AP.f128L0, k1, sl, ix, OE, OQ]
   · have c' : P (zr s 0) = false := by simpa using c
     rw [c'] at k1
     refine ⟨[(0, .str s), (1, .aE id 0), (12, .bool true)], s, vo ?_, rfl, by omega⟩
     clear hp
     simp (disch := omega) only [go_sem, dt, df, AF, AP.f128L0, k1, sl, ix, OE, OQ]
def BG (s : ByteArray) : Bool := (List.range s.size).all fun i => okB (zr s i)
theorem B8 : Iu.size = 39 := rfl
theorem Jk : bT (yM Iu Iu.size) = bT okB := Mn
theorem Oj (h : H) (s : ByteArray) (id : Nat) (P : Nat → Bool) (hg : h.get id = some (bT P)) (hs : s.size < 100000) (hp : 0 < s.size → P (zr s (s.size - 1)) = false) : ∃ r, aS AP.A 128 [.str s, .aE id 0] h = some (.str r, h) ∧ (r.size = 0 ↔ s.size = 0) := by
 obtain ⟨e', r, r1, r2, r3⟩ := CH id P h hg s.size s rfl hs hp
 refine ⟨r, vG (fn := AP.f128) (h2 := h) (e := [(4, .str r)]) (vs := [.str r]) rfl rfl rfl ?_ rfl, r3⟩
 clear hp
 simp only [go_sem, AP.f128, uz, r1, r2]
theorem Ok (h : H) (s : ByteArray) (id : Nat) (P : Nat → Bool) (hg : h.get id = some (bT P)) (hs : s.size < 100000) :
 ∃ m, aS AP.A 129 [.str s, .aE id 0] h = some (.str (s.extract 0 m), h) ∧ m ≤ s.size ∧ (∀ i, m ≤ i → i < s.size → P (zr s i) = true) ∧ (0 < m → P (zr s (m - 1)) = false) := by
 obtain ⟨e', m, r1, r2, r3, r4, r5⟩ := Cb id P h hg s.size s rfl hs
 refine ⟨m, vG (fn := AP.f129) (h2 := h) (e := [(4, .str (s.extract 0 m))]) (vs := [.str (s.extract 0 m)]) rfl rfl rfl ?_ rfl, r3, r4, r5⟩
 simp only [go_sem, AP.f129, uz, r1, r2]
theorem EV {a b : ByteArray} (h : a ≠ b) : (a.data.toList == b.data.toList) = false := by
 rw [beq_eq_false_iff_ne]
 intro e
 apply h
 apply ByteArray.ext
 exact Array.toList_inj.1 e
theorem HA (a : ByteArray) : (a.data.toList == a.data.toList) = true := by simp
theorem L6 (h : H) (s : ByteArray) (h0 : 0 < s.size) (hs : s.size < 100000) : ∃ r, aS AP.A 124 [.str s, .str Iu] h = some (.str r, h) ∧ (r.size = 0 ↔ BG s = true) := by
 have m1 := Ir h.eJ Iu (by rw [B8]; omega) (by rw [B8]; decide +kernel)
 rw [Jk] at m1
 obtain ⟨h1, eh1⟩ : ∃ g, g = h.eJ.alloc (bT fun _ => false) := ⟨_, rfl⟩
 have hn : h.eJ.next = h.next := rfl
 have g1 : h1.get h.next = some (bT fun _ => false) := by rw [eh1, xL (by simp)]
 obtain ⟨h2, eh2⟩ : ∃ g, g = h1.set h.next (bT okB) := ⟨_, rfl⟩
 have st : vZ h1 h.next 0 256 (bT okB) (some (bT fun _ => false)) = some h2 := by
  rw [Ah (by rw [eh1]; simp) (Ar _) (Ar _) (II _), eh2]
 have g2 : h2.get h.next = some (bT okB) := by rw [eh2, yg rfl, g1]; rfl
 obtain ⟨m, a1, a2, a3, a4⟩ := Ok h2 s h.next okB g2 hs
 have sz := AY (s := s) (a := 0) (b := m) a2
 obtain ⟨r, b1, b2⟩ := Oj h2 (s.extract 0 m) h.next okB g2 (by omega) (fun q => by
  rw [sz, Nat.sub_zero, Bx a2 (by omega), w8]; exact a4 (by omega))
 refine ⟨r, ?_, ?_⟩
 · have e1 : bD .eql (.str s) (.str ⟨#[]⟩) = some (.bool false) := by
    rw [BD, EV]; intro e; rw [e] at h0; exact absurd h0 (by decide)
   have e2 : bD .eql (.str Iu) (.str ⟨#[]⟩) = some (.bool false) := by
    rw [BD, EV]; intro e; have := B8; rw [e] at this; exact absurd this (by decide)
   have l2 : jN true (.str Iu) = some (.int .i64 39) := rfl
   refine vX (fn := AP.f124) (h2 := h2) (e := [(4, .str r)]) rfl rfl rfl ?_ rfl rfl
   clear a3 a4
   generalize bT okB = T at *
   generalize hT : (bT fun _ => false) = T0 at *
   have ba : ∀ e : Env, aZ e (.alloc [.bool false, .bool false, .bool false, .bool false, .bool false, .bool false, .bool false, .bool false, .bool false, .bool false, .bool false, .bool false, .bool false, .bool false, .bool false, .bool false, .bool false, .bool false, .bool false, .bool false, .bool false, .bool false, .bool false, .bool false, .bool false, .bool false, .bool false, .bool false, .bool false, .bool false, .bool false, .bool false, .bool false, .bool false, .bool false, .bool false, .bool false, .bool false, .bool false, .bool false, .bool false, .bool false, .bool false, .bool false, .bool false, .bool false, .bool false, .bool false, .bool false, .bool false, .bool false, .bool false, .bool false, .bool false, .bool false, .bool false, .bool false, .bool false, .bool false, .bool false, .bool false, .bool false, .bool false, .bool false, .bool false, .bool false, .bool false, .bool false, .bool false, .bool false, .bool false, .bool false, .bool false, .bool false, .bool false, .bool false, .bool false, .bool false, .bool false, .bool false, .bool false, .bool false, .bool false, .bool false, .bool false, .bool false, .bool false, .bool false, .bool false, .bool false, .bool false, .bool false, .bool false, .bool false, .bool false, .bool false, .bool false, .bool false, .bool false, .bool false, .bool false, .bool false, .bool false, .bool false, .bool false, .bool false, .bool false, .bool false, .bool false, .bool false, .bool false, .bool false, .bool false, .bool false, .bool false, .bool false, .bool false, .bool false, .bool false, .bool false, .bool false, .bool false, .bool false, .bool false, .bool false, .bool false, .bool false, .bool false, .bool false, .bool false, .bool false, .bool false, .bool false, .bool false, .bool false, .bool false, .bool false, .bool false, .bool false, .bool false, .bool false, .bool false, .bool false, .bool false, .bool false, .bool false, .bool false, .bool false, .bool false, .bool false, .bool false, .bool false, .bool false, .bool false, .bool false, .bool false, .bool false, .bool false, .bool false, .bool false, .bool false, .bool false, .bool false, .bool false, .bool false, .bool false, .bool false, .bool false, .bool false, .bool false, .bool false, .bool false, .bool false, .bool false, .bool false, .bool false, .bool false, .bool false, .bool false, .bool false, .bool false, .bool false, .bool false, .bool false, .bool false, .bool false, .bool false, .bool false, .bool false, .bool false, .bool false, .bool false, .bool false, .bool false, .bool false, .bool false, .bool false, .bool false, .bool false, .bool false, .bool false, .bool false, .bool false, .bool false, .bool false, .bool false, .bool false, .bool false, .bool false, .bool false, .bool false, .bool false, .bool false, .bool false, .bool false, .bool false, .bool false, .bool false, .bool false, .bool false, .bool false, .bool false, .bool false, .bool false, .bool false, .bool false, .bool false, .bool false, .bool false, .bool false, .bool false, .bool false, .bool false, .bool false, .bool false, .bool false, .bool false, .bool false, .bool false, .bool false, .bool false, .bool false, .bool false, .bool false, .bool false, .bool false, .bool false, .bool false, .bool false, .bool false, .bool false, .bool false, .bool false, .bool false, .bool false, .bool false]) = some (T0, fun i => .aE i 0) := fun e => by rw [GB, hT]
   simp (disch := omega) only [go_sem, AP.f124, ba, hn, ← eh1, e1, e2, l2, Ob, m1, g1, st, a1, b1]
 · rw [b2, sz]
   unfold BG
   rw [List.all_eq_true]
   constructor
   · intro q i hi
     exact a3 i (by omega) (List.mem_range.1 hi)
   · intro q
     by_cases hm : m = 0
     · omega
     · have := a4 (by omega)
       rw [q (m - 1) (List.mem_range.2 (by omega))] at this
       cases this
def Kn : ByteArray := ⟨#[46]⟩
def GM : ByteArray := ⟨#[46, 46]⟩
def yT (s : ByteArray) : Bool := decide (1 ≤ s.size) && (decide (s.size ≤ 8) && (BG s && (!(s.data.toList == Kn.data.toList) && !(s.data.toList == GM.data.toList))))
theorem LN (h : H) (s : ByteArray) (hs : s.size < 1125899906842624) : aS AP.A 121 [.str s] h = some (.bool (yT s), h) := by
 refine vX (fn := AP.f121) (h2 := h.eJ) (e := [(2, .bool (yT s))]) rfl rfl rfl ?_ rfl rfl
 unfold yT
 by_cases c1 : 1 ≤ s.size
 · by_cases c2 : s.size ≤ 8
   · obtain ⟨r, t1, t2⟩ := L6 h.eJ s (by omega) (by omega)
     have t1' : aS AP.A 124 [.str s, .str ⟨#[97, 98, 99, 100, 101, 102, 103, 104, 105, 106, 107, 108, 109, 110, 111, 112, 113, 114, 115, 116, 117, 118, 119, 120, 121, 122, 48, 49, 50, 51, 52, 53, 54, 55, 56, 57, 46, 45, 95]⟩] h.eJ = some (.str r, h.eJ) := t1
     have e1 : bD .eql (.str r) (.str ⟨#[]⟩) = some (.bool (BG s)) := by
      rw [BD]
      by_cases q : BG s = true
      · rw [q]
        have : r = ⟨#[]⟩ := by
         apply ByteArray.ext
         exact Array.size_eq_zero_iff.1 (t2.2 q)
        rw [this, HA]
      · have q' : BG s = false := by simpa using q
        rw [q', EV]
        intro e
        rw [e] at t2
        exact q (t2.1 rfl)
     have e2 : bD .neq (.str s) (.str ⟨#[46]⟩) = some (.bool (!(s.data.toList == Kn.data.toList))) := Dq _ _
     have e3 : bD .neq (.str s) (.str ⟨#[46, 46]⟩) = some (.bool (!(s.data.toList == GM.data.toList))) := Dq _ _
     clear t1 t2
     generalize (!(s.data.toList == Kn.data.toList)) = B2 at *
     generalize (!(s.data.toList == GM.data.toList)) = B3 at *
     generalize BG s = B1 at *
     cases B1 <;> cases B2 <;> cases B3 <;> simp (disch := omega) only [go_sem, xP, AP.f121, t1', e1, e2, e3]
   · simp (disch := omega) only [go_sem, xP, AP.f121]
 · simp (disch := omega) only [go_sem, xP, AP.f121]
structure Tok where
 lit : Int
 len : Int
 Ox : Int
deriving DecidableEq
def Ext (h g : H) : Prop := ∀ id c, h.get id = some c → g.get id = some c
theorem Ext.refl (h : H) : Ext h h := fun _ _ q => q
theorem Ext.trans {a b c : H} (x : Ext a b) (y : Ext b c) : Ext a c := fun i d q => y i d (x i d q)
theorem Ext.alloc {a h : H} (x : Ext a h) (cs : List AV) : Ext a (h.alloc cs) := fun i d q => by
 have := h.lt _ _ (x i d q)
 rw [H.aX, if_neg (by omega)]; exact x i d q
theorem Ext.set {a h : H} (x : Ext a h) {id : Nat} (hid : a.next ≤ id) (cs : List AV) : Ext a (h.set id cs) := fun i d q => by
 have := a.lt _ _ q
 rw [H.dU, if_neg (by omega)]; exact x i d q
def yV (n : Int) : Bool := decide (0 ≤ n) && decide (n ≤ 1048576)
theorem E6 (h : H) (n : Int) : aS AP.A 119 [.int .i64 n] h = some (.bool (yV n), h) := by
 refine vX (fn := AP.f119) (h2 := h.eJ) (e := [(2, .bool (yV n))]) rfl rfl rfl ?_ rfl rfl
 unfold yV
 by_cases c1 : 0 ≤ n <;> by_cases c2 : n ≤ 1048576 <;> simp (disch := omega) only [go_sem, xP, AP.f119]
def CM (n : Int) : Bool := decide (0 ≤ n) && decide (n < 4)
theorem LO (h : H) (n : Int) : aS AP.A 120 [.int .i64 n] h = some (.bool (CM n), h) := by
 refine vX (fn := AP.f120) (h2 := h.eJ) (e := [(2, .bool (CM n))]) rfl rfl rfl ?_ rfl rfl
 unfold CM
 by_cases c1 : 0 ≤ n <;> by_cases c2 : n < 4 <;> simp (disch := omega) only [go_sem, xP, AP.f120]
def Fv (v : AV) : Bool := match v with | .int .i64 n => !yV n | _ => false
theorem F9 (h : H) (n : Int) : aS AP.A 123 [.int .i64 n] h = some (.bool (!yV n), h) := by
 have k1 := E6 h.eJ n
 refine vX (fn := AP.f123) (h2 := h.eJ) (e := [(2, .bool (!yV n))]) rfl rfl rfl ?_ rfl rfl
 simp (disch := omega) only [go_sem, xP, AP.f123, k1]
def Ga (l : List Int) : Bool := decide (l.length = 4) && l.all yV
theorem Bc : ∀ l : List Int, (ints l).any Fv = !l.all yV
 | [] => rfl
 | n :: l => by
   have := Bc l
   simp only [ints, OU, List.any_cons, List.all_cons, Bool.not_and] at *
   rw [this]; rfl
theorem N2 (h : H) (v : AV) (l : List Int) (rd : Rd h v (ints l)) (hl : l.length < 1125899906842624) : aS AP.A 117 [v] h = some (.bool (Ga l), h) := by
 have rd' := rd.mono (xQ h)
 have ln := rd'.len
 rw [qZ] at ln
 simp only [I] at ln
 refine vX (fn := AP.f117) (h2 := h.eJ) (e := [(2, .bool (Ga l))]) rfl rfl rfl ?_ rfl rfl
 unfold Ga
 by_cases c : l.length = 4
 · have k1 := BS (fv := .fn 123 [] []) Fv (fun x hx g => by
    obtain ⟨n, hn, rfl⟩ := List.mem_map.1 hx
    rw [pA]; exact F9 g n) (by simp; omega) h.eJ rd'
   rw [Bc] at k1
   have c' : (l.length : Int) = 4 := by omega
   simp (disch := omega) only [go_sem, xP, AP.f117, ln, k1, Bool.not_not]
 · have c' : ¬ (l.length : Int) = 4 := by omega
   simp (disch := omega) only [go_sem, xP, AP.f117, ln]
theorem Rd.Ad {h : H} {v : AV} {l : List Int} (r : Rd h v (ints l)) : ∃ ad : Int → AV, (∀ i : Int, 0 ≤ i ∧ i < l.length → gS 1 v (.int .i64 i) = some (ad i)) ∧
 ∀ g : H, Ext h g → ∀ (i : Nat) (n : Int), l[i]? = some n → bZ false 1 (ad i) g = some (.int .i64 n) := by
 have r2 := r.LR
 rw [qZ] at r2
 obtain ⟨ad, a1, _, _, a3⟩ := r2.at_
 refine ⟨fun i => ad i 0, a1, fun g hg i n hn => ?_⟩
 have hi : i < l.length := (wR.1 hn).1
 refine (a3 g hg).1 i 0 _ ⟨by omega, by omega⟩ ?_
 rw [zq, OZ, Nat.add_zero]
 exact uW hn
structure yD where
 name : ByteArray
 gone : Bool
 vec : List Int
 xS : Int
 node : Int
 method : Int
 packed : ByteArray
 size : Int
 Cq : Int
def xO (e : yD) (v : AV) : List AV := [.str e.name, .bool e.gone, v, .int .i64 e.xS, .int .i64 e.node, .int .i64 e.method, .str e.packed, .int .i64 e.size, .int .i64 e.Cq]
def yB (e : yD) : Bool := Ga e.vec && (decide (1 ≤ e.xS) && (yV e.xS && CM e.node))
structure PE (h : H) (p : AV) (cs : List AV) : Prop where
 nil : ∀ g : H, kh g p = some (p, g)
 vz : ∃ q : Nat → AV, (∀ k, fS k p = some (q k)) ∧ ∀ g : H, Ext h g → ∀ (k : Nat) (c : AV), cs[k]? = some c → bZ false 1 (q k) g = some c
theorem GZ (h : H) (p v : AV) (e : yD) (pe : PE h p (xO e v)) (rd : Rd h v (ints e.vec)) (hl : e.vec.length < 1125899906842624) : aS AP.A 112 [p] h = some (.bool (yB e), h) := by
 have nl := pe.nil
 obtain ⟨q, f1, f2⟩ := pe.vz
 have l2 := f2 h (Ext.refl h) 2 v rfl
 have l3 := f2 h (Ext.refl h) 3 _ rfl
 have l4 := f2 h (Ext.refl h) 4 _ rfl
 have k1 := N2 h v e.vec rd hl
 have k2 := E6 h e.xS
 have k3 := LO h e.node
 have c2 : yV e.xS = true → 1 ≤ e.xS → True := fun _ _ => trivial
 refine vG (fn := AP.f112) (h2 := h) (e := [(2, .bool (yB e))]) (vs := [.bool (yB e)]) rfl rfl rfl ?_ rfl
 unfold yB
 clear pe f2 rd c2
 generalize Ga e.vec = B1 at *
 generalize yV e.xS = B2 at *
 generalize CM e.node = B3 at *
 by_cases c1 : 1 ≤ e.xS <;> cases B1 <;> cases B2 <;> cases B3 <;> simp (disch := omega) only [go_sem, xP, AP.f112, nl, f1, l2, l3, l4, k1, k2, k3]
def DW (s : ByteArray) : Bool := s.data.toList == (⟨#[]⟩ : ByteArray).data.toList
def yN (e : yD) : Bool :=
 if e.gone then decide (e.method = 0) && (DW e.packed && (decide (e.size = 0) && decide (e.Cq = 0)))
 else (decide (0 ≤ e.size) && (decide (e.size ≤ 300) && Cs e.Cq)) && (decide (e.method = 0) && decide ((e.packed.size : Int) = e.size) || decide (e.method = 8) && decide (e.packed.size ≤ 300))
theorem FM (h : H) (p v : AV) (e : yD) (pe : PE h p (xO e v)) : aS AP.A 122 [p] h = some (.bool (yN e), h) := by
 have nl := pe.nil
 obtain ⟨q, f1, f2⟩ := pe.vz
 have l1 := f2 h (Ext.refl h) 1 _ rfl
 have l5 := f2 h (Ext.refl h) 5 _ rfl
 have l6 := f2 h (Ext.refl h) 6 _ rfl
 have l7 := f2 h (Ext.refl h) 7 _ rfl
 have l8 := f2 h (Ext.refl h) 8 _ rfl
 have k1 := NS h e.Cq
 have e1 : bD .eql (.str e.packed) (.str ⟨#[]⟩) = some (.bool (DW e.packed)) := BD _ _
 refine vG (fn := AP.f122) (h2 := h) (e := [(2, .bool (yN e))]) (vs := [.bool (yN e)]) rfl rfl rfl ?_ rfl
 unfold yN
 clear pe f2
 generalize DW e.packed = B1 at *
 generalize Cs e.Cq = B2 at *
 cases hg : e.gone with
 | true =>
   rw [hg] at l1
   rw [if_pos rfl]
   by_cases c1 : e.method = 0
   · cases B1 with
     | false => simp (disch := omega) only [go_sem, xP, AP.f122, nl, f1, l1, l5, l6, l7, l8, e1]
     | true =>
       by_cases c2 : e.size = 0
       · by_cases c3 : e.Cq = 0 <;> simp (disch := omega) only [go_sem, xP, AP.f122, nl, f1, l1, l5, l6, l7, l8, e1]
       · simp (disch := omega) only [go_sem, xP, AP.f122, nl, f1, l1, l5, l6, l7, l8, e1]
   · simp (disch := omega) only [go_sem, xP, AP.f122, nl, f1, l1, l5, l6, l7, l8, e1]
 | false =>
   rw [hg] at l1
   rw [if_neg (by decide)]
   by_cases c1 : e.method = 0
   · have c1' : ¬ e.method = 8 := by omega
     by_cases c2 : (e.packed.size : Int) = e.size
     · by_cases c3 : 0 ≤ e.size
       · by_cases c4 : e.size ≤ 300
         · cases B2 <;> simp (disch := omega) only [go_sem, xP, AP.f122, nl, f1, l1, l5, l6, l7, l8, e1, k1]
         · simp (disch := omega) only [go_sem, xP, AP.f122, nl, f1, l1, l5, l6, l7, l8, e1, k1]
       · exfalso; omega
     · simp (disch := omega) only [go_sem, xP, AP.f122, nl, f1, l1, l5, l6, l7, l8, e1, k1]
   · by_cases c0 : e.method = 8
     · by_cases c2 : e.packed.size ≤ 300
       · by_cases c3 : 0 ≤ e.size
         · by_cases c4 : e.size ≤ 300
           · cases B2 <;> simp (disch := omega) only [go_sem, xP, AP.f122, nl, f1, l1, l5, l6, l7, l8, e1, k1]
           · simp (disch := omega) only [go_sem, xP, AP.f122, nl, f1, l1, l5, l6, l7, l8, e1, k1]
         · simp (disch := omega) only [go_sem, xP, AP.f122, nl, f1, l1, l5, l6, l7, l8, e1, k1]
       · simp (disch := omega) only [go_sem, xP, AP.f122, nl, f1, l1, l5, l6, l7, l8, e1, k1]
     · simp (disch := omega) only [go_sem, xP, AP.f122, nl, f1, l1, l5, l6, l7, l8, e1, k1]
def AL (prev : Option yD) (e : yD) : Bool := yT e.name && ((match prev with | none => true | some p => Op.bytesLess p.name.toList e.name.toList) && (yB e && yN e))
theorem C7 (e : yD) : AL none e = (yT e.name && (yB e && yN e)) := by simp [AL]
theorem Ic (p e : yD) : AL (some p) e = (yT e.name && (Op.bytesLess p.name.toList e.name.toList && (yB e && yN e))) := rfl
def Bt : Option yD → List yD → Bool
 | _, [] => true
 | p, e :: r => AL p e && Bt (some e) r
abbrev xZ := yD × AV
def Ko (x : xZ) : List AV := xO x.1 x.2
def xW (l : List xZ) : List AV := l.flatMap Ko
theorem Bz (x : xZ) : (Ko x).length = 9 := rfl
structure ze (h : H) (x : xZ) : Prop where
 vec : Rd h x.2 (ints x.1.vec)
 vl : x.1.vec.length < 1125899906842624
 nl : x.1.name.size < 1125899906842624
 pl : x.1.packed.size < 1125899906842624
theorem ze.mono {h g : H} {x : xZ} (o : ze h x) (e : Ext h g) : ze g x := ⟨o.vec.mono fun i c q => e i c q, o.vl, o.nl, o.pl⟩
theorem FA {v : AV} {l : List xZ} (hn : l.length < 1125899906842624) (h : H) (b : Nat) (hb : h.get b = some [v]) (rd : zf 9 h v l.length (xW l)) (hv : ∀ x ∈ l, ze h x) : ∀ (q p : List xZ), l = p ++ q →
 (∃ e', Lp AP.A [1, 7, 8] AP.f113L0 [(1, .aE b 0), (7, .int .i64 l.length), (8, .int .i64 p.length)] h = some (.exit 0, e', h) ∧ look e' 1 = .aE b 0 ∧ Bt (p.getLast?.map (·.1)) (q.map (·.1)) = true) ∨
 (∃ e', Lp AP.A [1, 7, 8] AP.f113L0 [(1, .aE b 0), (7, .int .i64 l.length), (8, .int .i64 p.length)] h = some (.ret, e', h) ∧ look e' 2 = .bool false ∧ Bt (p.getLast?.map (·.1)) (q.map (·.1)) = false)
 | [], p, hp => by
   left
   rw [OJ] at hp; subst hp
   refine ⟨[(1, .aE b 0), (7, .int .i64 l.length), (8, .int .i64 l.length), (9, .bool false)], vo ?_, rfl, rfl⟩
   simp (disch := omega) only [go_sem, xP, AP.f113L0]
 | x :: q, p, hp => by
   have hlen : l.length = p.length + (q.length + 1) := by rw [hp]; simp
   have hx : l[p.length]? = some x := by rw [hp]; simp
   have ho := hv x (by rw [hp]; simp)
   obtain ⟨ad, a1, a2, a4, a3⟩ := rd.at_
   have hI : (0 : Int) ≤ (p.length : Int) ∧ (p.length : Int) < l.length := ⟨by omega, by omega⟩
   have b1 := a1 _ hI
   have pe : PE h (ad p.length 0) (xO x.1 x.2) := by
    refine ⟨fun g => a4 _ 0 g hI, fun k => ad p.length (0 + k), fun k => a2 _ 0 k hI, fun g hg k c hc => ?_⟩
    have hk : k < 9 := (wR.1 hc).1
    refine (a3 g hg).1 _ _ _ hI ?_
    rw [zq, w8, show xW l = l.flatMap Ko from rfl, BW Bz hx hk]; exact hc
   have k1 := LN h x.1.name ho.nl
   have k2 := GZ h _ _ x.1 pe ho.vec ho.vl
   have k3 := FM h _ _ x.1 pe
   have nl := pe.nil
   obtain ⟨qq, f1, f2⟩ := pe.vz
   have l0 := f2 h (Ext.refl h) 0 _ rfl
   have ih := FA hn h b hb rd hv q (p ++ [x]) (by rw [hp]; simp)
   have w1 : (((p ++ [x]).length : Nat) : Int) = (p.length : Int) + 1 := by simp
   rw [w1, List.getLast?_concat] at ih
   have step : aM (aS AP.A) bH AP.f113L0 (az [(1, .aE b 0), (7, .int .i64 l.length), (8, .int .i64 p.length)] [1, 7, 8]) h = if AL (p.getLast?.map (·.1)) x.1 then some (.normal, [(1, .aE b 0), (7, .int .i64 l.length), (8, .int .i64 ((p.length : Int) + 1))], h) else some (.ret, [(2, .bool false)], h) := by
    cases hl : p.getLast? with
    | none =>
      have hp0 : p = [] := List.getLast?_eq_none_iff.1 hl
      have hp1 : p.length = 0 := by rw [hp0]; rfl
      clear ih w1 pe f2 a1 a2 a3 a4 hl hv hp ho hx
      rw [OQ, C7]
      generalize yT x.1.name = B1 at *
      generalize yB x.1 = B3 at *
      generalize yN x.1 = B4 at *
      cases B1 with
      | false =>
        rw [OH, if_neg (by decide)]
        simp (disch := omega) only [go_sem, xP, AP.f113L0, hb, b1, nl, f1, l0, k1, k2, k3]
      | true =>
        cases B3 with
        | false =>
          rw [OH, OM, if_neg (by decide)]
          simp (disch := omega) only [go_sem, xP, AP.f113L0, hb, b1, nl, f1, l0, k1, k2, k3]
        | true =>
          cases B4 with
          | false =>
            rw [OM, OM, if_neg (by decide)]
            simp (disch := omega) only [go_sem, xP, AP.f113L0, hb, b1, nl, f1, l0, k1, k2, k3]
          | true =>
            rw [Bool.and_self, Bool.and_self, if_pos rfl]
            simp (disch := omega) only [go_sem, xP, AP.f113L0, hb, b1, nl, f1, l0, k1, k2, k3]
    | some y =>
      obtain ⟨p', rfl⟩ : ∃ p', p = p' ++ [y] := List.getLast?_eq_some_iff.1 hl
      have hpl : (p' ++ [y]).length = p'.length + 1 := by simp
      have hy : l[p'.length]? = some y := by rw [hp]; simp
      have hJ : (0 : Int) ≤ (p'.length : Int) ∧ (p'.length : Int) < l.length := ⟨by omega, by omega⟩
      have bj := a1 _ hJ
      have fj := a2 _ 0 0 hJ
      have lj := (a3 h (Ext.refl h)).1 p'.length (0 + 0) (.str y.1.name) hJ (by
       rw [zq, show xW l = l.flatMap Ko from rfl, w8, BW Bz hy (by omega)]; rfl)
      have cmp : bD .geq (.str y.1.name) (.str x.1.name) = some (.bool (!(Op.bytesLess y.1.name.toList x.1.name.toList))) := rfl
      have n2 : (((p' ++ [y]).length : Nat) : Int) - 1 = (p'.length : Int) := by rw [hpl]; omega
      clear ih w1 pe f2 a1 a2 a3 a4 hl hv hp ho hx hy
      rw [OE, Ic]
      simp only [Nat.add_zero] at fj lj
      generalize Op.bytesLess y.1.name.toList x.1.name.toList = B2 at *
      generalize yT x.1.name = B1 at *
      generalize yB x.1 = B3 at *
      generalize yN x.1 = B4 at *
      generalize (p' ++ [y]).length = pl at *
      cases B1 with
      | false =>
        rw [OH, if_neg (by decide)]
        simp (disch := omega) only [go_sem, xP, AP.f113L0, hb, b1, nl, f1, l0, k1, k2, k3, bj, fj, lj, cmp, n2]
      | true =>
        cases B2 with
        | false =>
          rw [OH, OM, if_neg (by decide)]
          simp (disch := omega) only [go_sem, xP, AP.f113L0, hb, b1, nl, f1, l0, k1, k2, k3, bj, fj, lj, cmp, n2]
        | true =>
          cases B3 with
          | false =>
            rw [OH, OM, OM, if_neg (by decide)]
            simp (disch := omega) only [go_sem, xP, AP.f113L0, hb, b1, nl, f1, l0, k1, k2, k3, bj, fj, lj, cmp, n2]
          | true =>
            cases B4 with
            | false =>
              rw [OM, OM, OM, if_neg (by decide)]
              simp (disch := omega) only [go_sem, xP, AP.f113L0, hb, b1, nl, f1, l0, k1, k2, k3, bj, fj, lj, cmp, n2]
            | true =>
              rw [Bool.and_self, Bool.and_self, Bool.and_self, if_pos rfl]
              simp (disch := omega) only [go_sem, xP, AP.f113L0, hb, b1, nl, f1, l0, k1, k2, k3, bj, fj, lj, cmp, n2]
   have hmay : Bt (p.getLast?.map (·.1)) ((x :: q).map (·.1)) = (AL (p.getLast?.map (·.1)) x.1 && Bt (some x.1) (q.map (·.1))) := rfl
   rw [hmay]
   by_cases hok : AL (p.getLast?.map (·.1)) x.1 = true
   · rw [if_pos hok] at step
     rw [hok, Bool.true_and]
     rcases ih with ⟨e', r1, r2, r3⟩ | ⟨e', r1, r2, r3⟩
     · exact .inl ⟨e', vp step r1, r2, r3⟩
     · exact .inr ⟨e', vp step r1, r2, r3⟩
   · have hok' : AL (p.getLast?.map (·.1)) x.1 = false := by simpa using hok
     rw [if_neg hok] at step
     rw [hok', OH]
     exact .inr ⟨_, vN step, rfl, rfl⟩
def zG (l : List yD) : Bool := Bt none l && decide (l.length ≤ 6)
theorem HK (h : H) (v : AV) (l : List xZ) (hvs : v.sc = true) (hn : l.length < 1125899906842624) (rd : zf 9 h v l.length (xW l)) (hv : ∀ x ∈ l, ze h x) : aS AP.A 113 [.agg [v]] h = some (.bool (zG (l.map (·.1))), h) := by
 obtain ⟨h1, eh1⟩ : ∃ g, g = h.eJ.alloc [v] := ⟨_, rfl⟩
 have hx : Ext h.eJ h1 := by rw [eh1]; exact (Ext.refl _).alloc _
 have hx0 : Ext h h1 := fun i c q => hx i c q
 have hn0 : h.eJ.next = h.next := rfl
 have g1 : h1.get h.next = some [v] := by rw [eh1]; exact xL rfl
 have rd1 := rd.mono fun i c q => hx0 i c q
 have ln := rd1.len
 have hb : ∀ ev : Env, look ev 0 = .agg [v] → aZ ev (.box 1 (.t 0)) = some ([v], fun i => .aE i 0) := by
  intro ev q
  simp only [aZ, uD, q, mJ]
  rw [if_pos ⟨rfl, by simp [hvs]⟩]
 unfold zG
 rcases FA hn h1 h.next g1 rd1 (fun x hx => (hv x hx).mono hx0) l [] rfl with ⟨e', r1, r2, r3⟩ | ⟨e', r1, r2, r3⟩
 · have r1' : Lp AP.A [1, 7, 8] AP.f113L0 [(1, .aE h.next 0), (7, .int .i64 l.length), (8, .int .i64 0)] h1 = some (.exit 0, e', h1) := r1
   clear r1
   have r3' : Bt none (l.map (·.1)) = true := r3
   rw [r3', Bool.true_and, OI]
   refine vX (fn := AP.f113) (h2 := h1) (e := [(2, .bool (decide (l.length ≤ 6)))]) rfl rfl rfl ?_ rfl rfl
   clear rd rd1 hv hx hx0 r3 r3'
   simp only [oP, oQ, AP.f113]
   rw [uh, uf, u9, jG, hb _ rfl]
   simp only [nV, hn0, ← eh1]
   by_cases c : l.length ≤ 6
   · simp (disch := omega) only [go_sem, xP, g1, ln, uz, r1', r2]
   · simp (disch := omega) only [go_sem, xP, g1, ln, uz, r1', r2]
 · have r1' : Lp AP.A [1, 7, 8] AP.f113L0 [(1, .aE h.next 0), (7, .int .i64 l.length), (8, .int .i64 0)] h1 = some (.ret, e', h1) := r1
   clear r1
   have r3' : Bt none (l.map (·.1)) = false := r3
   rw [r3', OH]
   refine vX (fn := AP.f113) (h2 := h1) (e := e') (vs := [.bool false]) rfl rfl rfl ?_ (by simp only [AP.f113, cT, oS, r2]; rfl) rfl
   clear rd rd1 hv hx hx0 r3 r3'
   simp only [oP, oQ, AP.f113]
   rw [uh, uf, u9, jG, hb _ rfl]
   simp only [nV, hn0, ← eh1]
   simp (disch := omega) only [go_sem, xP, g1, ln, uz, r1']
def yR (method : Int) (s : ByteArray) (size : Int) : Option ByteArray :=
 if size < 0 ∨ 300 < size then none
 else if method = 0 then (if (s.size : Int) = size then some s else none)
 else if method = 8 then (match zF s size with
  | .ok (o, took) => if (o.length : Int) = size ∧ took = s.size then some (bytesOf o) else none
  | .error _ => none)
 else none
theorem Dr {m : Int} {s : ByteArray} {z : Int} {t : ByteArray} (h : yR m s z = some t) : (t.size : Int) = z ∧ 0 ≤ z ∧ z ≤ 300 := by
 unfold yR at h
 split at h
 · cases h
 · rename_i q
   split at h
   · split at h
     · rename_i q2; obtain rfl := wL h; omega
     · cases h
   · split at h
     · split at h
       · split at h
         · rename_i q2
           obtain rfl := wL h
           rw [yd]; omega
         · cases h
       · cases h
     · cases h
def L9 : Option ByteArray → AV
 | some t => .bV [.str t, .int .i64 0]
 | none => .bV [.str ⟨#[]⟩, .int .i64 900]
theorem HG (h : H) (hf : h.floor ≤ h.next) (m : Int) (s : ByteArray) (z : Int) (hs : s.size < 1125899906842624) : aS AP.A 114 [.int .i64 m, .str s, .int .i64 z] h = some (L9 (yR m s z), h) := by
 unfold yR
 by_cases c1 : z < 0
 · rw [if_pos (.inl c1)]
   refine vX (fn := AP.f114) (h2 := h.eJ) (e := [(6, .str ⟨#[]⟩), (7, .int .i64 900)]) rfl rfl rfl ?_ rfl rfl
   simp (disch := omega) only [go_sem, xP, AP.f114]
 by_cases c2 : 300 < z
 · rw [if_pos (.inr c2)]
   refine vX (fn := AP.f114) (h2 := h.eJ) (e := [(6, .str ⟨#[]⟩), (7, .int .i64 900)]) rfl rfl rfl ?_ rfl rfl
   simp (disch := omega) only [go_sem, xP, AP.f114]
 rw [if_neg (by omega)]
 by_cases c3 : m = 0
 · rw [if_pos c3]
   by_cases c4 : (s.size : Int) = z
   · rw [if_pos c4]
     refine vX (fn := AP.f114) (h2 := h.eJ) (e := [(6, .str s), (7, .int .i64 0)]) rfl rfl rfl ?_ rfl rfl
     simp (disch := omega) only [go_sem, xP, AP.f114]
   · rw [if_neg c4]
     refine vX (fn := AP.f114) (h2 := h.eJ) (e := [(6, .str ⟨#[]⟩), (7, .int .i64 900)]) rfl rfl rfl ?_ rfl rfl
     simp (disch := omega) only [go_sem, xP, AP.f114]
 rw [if_neg c3]
 by_cases c5 : m = 8
 · rw [if_pos c5]
   have k1 := FU h.eJ (by simp) s z hs
   simp only [I] at k1
   cases hi : zF s z with
   | error k =>
     rw [hi] at k1
     simp only [LL, I] at k1
     have hk := Db hi
     have hk' : ¬ k = 0 := by rcases hk with rfl | rfl <;> decide
     clear hk
     refine vX (fn := AP.f114) (h2 := h.eJ) (e := [(6, .str ⟨#[]⟩), (7, .int .i64 900)]) rfl rfl rfl ?_ rfl rfl
     simp (disch := omega) only [go_sem, xP, AP.f114, k1]
   | ok r =>
     obtain ⟨o, took⟩ := r
     rw [hi] at k1
     simp only [LL, I] at k1
     dsimp only
     have sz := yd o
     by_cases c6 : (o.length : Int) = z
     · by_cases c7 : took = s.size
       · rw [if_pos ⟨c6, c7⟩]
         refine vX (fn := AP.f114) (h2 := h.eJ) (e := [(6, .str (bytesOf o)), (7, .int .i64 0)]) rfl rfl rfl ?_ rfl rfl
         simp (disch := omega) only [go_sem, xP, AP.f114, k1, sz]
       · rw [if_neg (fun q => c7 q.2)]
         refine vX (fn := AP.f114) (h2 := h.eJ) (e := [(6, .str ⟨#[]⟩), (7, .int .i64 900)]) rfl rfl rfl ?_ rfl rfl
         simp (disch := omega) only [go_sem, xP, AP.f114, k1, sz]
     · rw [if_neg (fun q => c6 q.1)]
       refine vX (fn := AP.f114) (h2 := h.eJ) (e := [(6, .str ⟨#[]⟩), (7, .int .i64 900)]) rfl rfl rfl ?_ rfl rfl
       simp (disch := omega) only [go_sem, xP, AP.f114, k1, sz]
 · rw [if_neg c5]
   refine vX (fn := AP.f114) (h2 := h.eJ) (e := [(6, .str ⟨#[]⟩), (7, .int .i64 900)]) rfl rfl rfl ?_ rfl rfl
   simp (disch := omega) only [go_sem, xP, AP.f114]
def Aa (e : yD) : Option ByteArray :=
 if zG [e] = false then none
 else if e.gone then some ⟨#[]⟩
 else match yR e.method e.packed e.size with
  | some t => if (yo t : Int) = e.Cq then some t else none
  | none => none
theorem LZ (h : H) (hf : h.floor ≤ h.next) (e : yD) (v : AV) (hv : v.sc = true) (ok : ze h (e, v)) : ∃ t, aS AP.A 107 [.agg (xO e v)] h = some (.bV [.str t, .bool (Aa e).isSome], h) ∧ (∀ u, Aa e = some u → t = u) := by
 obtain ⟨h1, eh1⟩ : ∃ g, g = h.eJ.alloc (xO e v) := ⟨_, rfl⟩
 obtain ⟨h2, eh2⟩ : ∃ g, g = h1.alloc (xO e v) := ⟨_, rfl⟩
 have hx1 : Ext h h1 := fun i c q => by rw [eh1]; exact ((Ext.refl h.eJ).alloc _) i c q
 have hx2 : Ext h h2 := by rw [eh2]; exact hx1.alloc _
 have hn0 : h.eJ.next = h.next := rfl
 have hn1 : h1.next = h.next + 1 := by rw [eh1]; simp
 have g1 : h2.get h.next = some (xO e v) := by rw [eh2, xU (by omega), eh1, xL (by simp)]
 have g0 : h1.get h.next = some (xO e v) := by rw [eh1, xL (by simp)]
 have o : zf 9 h2 (.aF (h.next + 1) 0 1 9) 1 (xW [(e, v)]) := by
  refine ⟨?_, rfl, fun _ => by simp⟩
  simp only [aT, if_true]
  rw [eh2, xL (by omega)]
  rfl
 have k1 := HK h2 (.aF (h.next + 1) 0 1 9) [(e, v)] rfl (by simp) o (fun x hx => by
  obtain rfl : x = (e, v) := by simpa using hx
  exact ok.mono hx2)
 have k1' : aS AP.A 113 [.agg [.aF (h.next + 1) 0 1 9]] h2 = some (.bool (zG [e]), h2) := k1
 have hf2 : h2.floor ≤ h2.next := by rw [eh2, eh1]; simp; omega
 have k2 := HG h2 hf2 e.method e.packed e.size ok.pl
 have rdA : iT true 9 (xO e v) 0 = some (.agg (xO e v)) := rfl
 have cr : ∀ t : ByteArray, t.size < 1125899906842624 → aS AP.A 115 [.str t] h2 = some (.int .i64 (yo t : Nat), h2) := fun t ht => D6 h2 t ht
 clear k1 o hx1 hx2
 unfold Aa
 simp only [xO] at *
 cases hm : zG [e] with
 | false =>
   rw [hm] at k1'
   refine ⟨⟨#[]⟩, ?_, fun u q => by simp at q⟩
   rw [if_pos rfl]
   refine vX (fn := AP.f107) (h2 := h2) (e := [(2, .str ⟨#[]⟩), (3, .bool false)]) rfl rfl rfl ?_ rfl rfl
   simp (disch := omega) only [go_sem, xP, AP.f107, hv, hn0, ← eh1, g0, rdA, hn1, ← eh2, k1']
 | true =>
   rw [hm] at k1'
   rw [if_neg (by decide)]
   cases hg : e.gone with
   | true =>
     rw [hg] at g1 g0 eh1 eh2 rdA
     refine ⟨⟨#[]⟩, ?_, fun u q => by simpa using q⟩
     refine vX (fn := AP.f107) (h2 := h2) (e := [(2, .str ⟨#[]⟩), (3, .bool true)]) rfl rfl rfl ?_ rfl rfl
     simp (disch := omega) only [go_sem, xP, AP.f107, hv, hn0, ← eh1, g0, g1, rdA, hn1, ← eh2, k1']
   | false =>
     rw [hg] at g1 g0 eh1 eh2 rdA
     rw [if_neg (by decide)]
     cases hu : yR e.method e.packed e.size with
     | none =>
       rw [hu] at k2
       simp only [L9] at k2
       refine ⟨⟨#[]⟩, ?_, fun u q => by simp at q⟩
       refine vX (fn := AP.f107) (h2 := h2) (e := [(2, .str ⟨#[]⟩), (3, .bool false)]) rfl rfl rfl ?_ rfl rfl
       simp (disch := omega) only [go_sem, xP, AP.f107, hv, hn0, ← eh1, g0, g1, rdA, hn1, ← eh2, k1', k2]
     | some t =>
       rw [hu] at k2
       simp only [L9] at k2
       have kc := cr t (by have := Dr hu; omega)
       dsimp only
       by_cases c : (yo t : Int) = e.Cq
       · rw [if_pos c]
         refine ⟨t, ?_, fun u q => wL q⟩
         refine vX (fn := AP.f107) (h2 := h2) (e := [(2, .str t), (3, .bool true)]) rfl rfl rfl ?_ rfl rfl
         simp (disch := omega) only [go_sem, xP, AP.f107, hv, hn0, ← eh1, g0, g1, rdA, hn1, ← eh2, k1', k2, kc]
       · rw [if_neg c]
         refine ⟨t, ?_, fun u q => by simp at q⟩
         refine vX (fn := AP.f107) (h2 := h2) (e := [(2, .str t), (3, .bool false)]) rfl rfl rfl ?_ rfl rfl
         simp (disch := omega) only [go_sem, xP, AP.f107, hv, hn0, ← eh1, g0, g1, rdA, hn1, ← eh2, k1', k2, kc]
def y0 (e : yD) : Bool := (Aa e).isSome
theorem GO (h : H) (hf : h.floor ≤ h.next) (e : yD) (v : AV) (hv : v.sc = true) (ok : ze h (e, v)) : aS AP.A 96 [.agg (xO e v)] h = some (.bool (y0 e), h) := by
 obtain ⟨h1, eh1⟩ : ∃ g, g = h.eJ.alloc (xO e v) := ⟨_, rfl⟩
 have hx1 : Ext h h1 := fun i c q => by rw [eh1]; exact ((Ext.refl h.eJ).alloc _) i c q
 have hn0 : h.eJ.next = h.next := rfl
 have g0 : h1.get h.next = some (xO e v) := by rw [eh1, xL (by simp)]
 obtain ⟨t, k1, _⟩ := LZ h1 (by rw [eh1]; simp) e v hv (ok.mono hx1)
 have rdA : iT true 9 (xO e v) 0 = some (.agg (xO e v)) := rfl
 refine vX (fn := AP.f96) (h2 := h1) (e := [(2, .bool (y0 e))]) rfl rfl rfl ?_ rfl rfl
 clear hx1
 unfold y0
 simp only [xO] at *
 simp (disch := omega) only [go_sem, xP, AP.f96, hv, hn0, ← eh1, g0, rdA, k1]
theorem Rd.Oe {h : H} {v : AV} {cs : List AV} (r : Rd h v cs) (hc : cs ≠ []) : gG 1 v .aQ = some false := by
 obtain ⟨r, hs⟩ := r
 unfold aT at r
 split at r
 · obtain ⟨_, h2⟩ := wN (wL r); exact absurd h2.symm hc
 · exact absurd rfl (hs _)
 · rfl
 · rfl
 · cases r
theorem Cv {n : Nat} {h : H} {v : AV} {k : Nat} {cs : List AV} (r : zf n h v k cs) (hfn : h.floor ≤ h.next) (hn : 0 < n) (hk : 0 < k) {z : Nat} (hr : roomy z k = true) (hc : AV.aD cs = true) :
 mC (h.alloc []) n z (.aF h.next 0 0 n) v = some (.aF (h.next + 1) 0 k n, ((h.alloc []).del h.next).alloc cs) := by
 have r2 : zf n (h.alloc []) v k cs := r.mono fun i c q => by rw [H.aX, if_neg (by have := h.lt _ _ q; omega)]; exact q
 unfold mC
 rw [r2.1, wS]
 have hkn : 0 < k * n := Nat.mul_pos hk hn
 unfold ey
 rw [if_neg (by omega), if_neg (by simp [hc]; omega)]
 simp only [H.jZ, hfn, and_self, if_true]
 rw [xL rfl, wS, if_neg (by simp; omega), if_pos ⟨by simp, by simpa using hr⟩]
 simp
theorem Ey {n : Nat} {h : H} {v : AV} {cs : List AV} (r : zf n h v 0 cs) {z : Nat} : mC (h.alloc []) n z (.aF h.next 0 0 n) v = some (.aF h.next 0 0 n, h.alloc []) := by
 have r2 : zf n (h.alloc []) v 0 cs := r.mono fun i c q => by rw [H.aX, if_neg (by have := h.lt _ _ q; omega)]; exact q
 unfold mC
 rw [r2.1, wS]
 rfl
theorem AA : ∀ l : List Int, AV.aD (ints l) = true
 | [] => rfl
 | n :: l => by
   have := AA l
   show AV.aD (I n :: ints l) = true
   rw [rO, this]; rfl
theorem HY (h : H) (v : AV) (l : List Int) (rd : Rd h v (ints l)) (hl : 0 < l.length) (hb : l.length < 1000000) (hfn : h.floor ≤ h.next) : aS AP.A 118 [v] h = some (.aF (h.next + 1) 0 l.length 1, ((h.alloc []).del h.next).alloc (ints l)) := by
 have r2 := rd.LR
 rw [qZ] at r2
 have ap := Cv r2 hfn (by omega) hl (z := 8) (by simp [roomy]; omega) (AA l)
 have nn := rd.Oe (fun q => by
  have q2 : (ints l).length = 0 := by rw [q]; rfl
  rw [qZ] at q2
  omega)
 refine vG (fn := AP.f118) (h2 := ((h.alloc []).del h.next).alloc (ints l)) (e := [(2, .aF (h.next + 1) 0 l.length 1)]) (vs := [.aF (h.next + 1) 0 l.length 1]) rfl rfl rfl ?_ rfl
 clear rd r2
 simp (disch := omega) only [go_sem, xP, AP.f118, nn, ap]
def yY (l : List Int) : AV := NW 1 l.length (ints l)
def DQ : yD := ⟨⟨#[]⟩, false, [], 0, 0, 0, ⟨#[]⟩, 0, 0⟩
theorem Hs {g : Nat → Option (List AV)} {fl n : Nat} {e : yD} {v v' : AV} (hv : snap g fl (n + 1) true v = some v') : snap g fl (n + 2) true (.agg (xO e v)) = some (.agg (xO e v')) := by
 unfold snap
 simp only [xO, gH, hv]
 rfl
abbrev Z9 : List AV := [.str ⟨#[]⟩, .bool false, .aQ, .int .i64 0, .int .i64 0, .int .i64 0, .str ⟨#[]⟩, .int .i64 0, .int .i64 0]
def A9 (name : ByteArray) (node : Nat) (xS : Int) (text : ByteArray) : yD := ⟨name, false, [0, 0, 0, 0].set node xS, xS, node, 0, text, text.size, yo text⟩
theorem Ma {l : List Int} (h : l.length = 4) : yY l = .aW false (ints l) 0 4 1 := by unfold yY NW; rw [h, if_neg (by omega)]
theorem Iy (h : H) (name text : ByteArray) (node : Nat) (xS : Int) (hn : node < 4) (ht : text.size < 1125899906842624) :
 aS AP.A 99 [.str name, .int .i64 node, .int .i64 xS, .str text] h = some (.agg (xO (A9 name node xS text) (yY ([0, 0, 0, 0].set node xS))), h) := by
 obtain ⟨h1, eh1⟩ : ∃ g, g = h.eJ.alloc (xO DQ .aQ) := ⟨_, rfl⟩
 obtain ⟨h2, eh2⟩ : ∃ g, g = h1.alloc (ints [0, 0, 0, 0]) := ⟨_, rfl⟩
 obtain ⟨h3, eh3⟩ : ∃ g, g = h2.set (h.next + 1) (ints ([0, 0, 0, 0].set node xS)) := ⟨_, rfl⟩
 obtain ⟨h4, eh4⟩ : ∃ g, g = h3.set h.next (xO (A9 name node xS text) (.aF (h.next + 1) 0 4 1)) := ⟨_, rfl⟩
 have n0 : h.eJ.next = h.next := rfl
 have n1 : h1.next = h.next + 1 := by rw [eh1]; simp
 have f2 : h2.floor = h.next := by rw [eh2, eh1]; simp
 have f3 : h3.floor = h.next := by rw [eh3]; simp [f2]
 have g2 : h2.get (h.next + 1) = some (ints [0, 0, 0, 0]) := by rw [eh2, xL (by omega)]
 have gz3 : h3.get h.next = some (xO DQ .aQ) := by rw [eh3, xY (by omega), eh2, xU (by omega), eh1, xL (by simp)]
 have g3 : h3.get (h.next + 1) = some (ints ([0, 0, 0, 0].set node xS)) := by rw [eh3, yg rfl, g2]; rfl
 have g4 : h4.get h.next = some (xO (A9 name node xS text) (.aF (h.next + 1) 0 4 1)) := by rw [eh4, yg rfl, gz3]; rfl
 have g4' : h4.get (h.next + 1) = some (ints ([0, 0, 0, 0].set node xS)) := by rw [eh4, xY (by omega), g3]
 have st3 : vZ h2 (h.next + 1) node 1 [.int .i64 xS] (some (ints [0, 0, 0, 0])) = some h3 := by
  rw [wD (by omega) (by simp; omega) rfl, eh3]
  congr 2
  match node, hn with
  | 0, _ => rfl
  | 1, _ => rfl
  | 2, _ => rfl
  | 3, _ => rfl
 have st4 : vZ h3 h.next 0 9 [.str name, .bool false, .aF (h.next + 1) 0 4 1, .int .i64 xS, .int .i64 node, .int .i64 0, .str text, .int .i64 text.size, .int .i64 (yo text : Nat)] (some (xO DQ .aQ)) = some h4 := by
  rw [eh4]; exact Ah (by omega) rfl rfl rfl
 have e1 : h.eJ.alloc [.str ⟨#[]⟩, .bool false, .aQ, .int .i64 0, .int .i64 0, .int .i64 0, .str ⟨#[]⟩, .int .i64 0, .int .i64 0] = h1 := eh1.symm
 have e2 : h1.alloc (Bn 4 [.int .i64 0]) = h2 := eh2.symm
 have kc := Ki h3 text ht
 have hlen : ([0, 0, 0, 0].set node xS : List Int).length = 4 := by simp
 have o : yh 1 h4 (.aF (h.next + 1) 0 4 1) 4 (ints ([0, 0, 0, 0].set node xS)) := ⟨by simp, .inr ⟨_, rfl, g4', by rw [eh4]; simp; omega, by omega⟩⟩
 have s1 : snap h4.get h.next 15 true (.aF (h.next + 1) 0 4 1) = some (yY ([0, 0, 0, 0].set node xS)) := by
  have := o.CP (fl := h.next) (m := 13) (t := true) (by rw [eh4]; simp; omega)
  rw [this]; unfold yY; rw [hlen]
 have body : aM (aS AP.A) bH AP.f99.body (params 0 [.str name, .int .i64 node, .int .i64 xS, .str text]) h.eJ = some (.ret, [(8, .aE h.next 0)], h4) := by
  clear o s1 g4 g4' g3
  have it : ((node : Nat) : Int).toNat = node := by omega
  simp (disch := omega) only [go_sem, xP, AP.f99, n0, e1, n1, e2, it, g2, st3, kc, gz3, st4]
 refine vX (fn := AP.f99) (h2 := h4) (e := [(8, .aE h.next 0)]) (vs := [.agg (xO (A9 name node xS text) (.aF (h.next + 1) 0 4 1))]) rfl rfl rfl body ?_ ?_
 · simp only [AP.f99, cT, oS, oG, sS, g4, vh]; rfl
 · exact Hs s1
theorem HZ (h : H) (hf : h.floor ≤ h.next) (e : yD) (v : AV) (hv : v.sc = true) (ok : ze h (e, v)) (hb : e.vec.length < 20000000000000) :
 ∃ h' v', aS AP.A 92 [.agg (xO e v)] h = some (.agg (xO e v'), h') ∧ v' = (if e.vec = [] then .aF (h.next + 2) 0 0 1 else .aF (h.next + 3) 0 e.vec.length 1) ∧ Rd h' v' (ints e.vec) ∧ h'.floor = h.floor ∧ h.next + 3 ≤ h'.next ∧ Ext h h' ∧ (0 < e.vec.length → h'.get (h.next + 3) = some (ints e.vec)) := by
 obtain ⟨h1, eh1⟩ : ∃ g, g = h.alloc (xO e v) := ⟨_, rfl⟩
 obtain ⟨h2, eh2⟩ : ∃ g, g = h1.alloc (xO DQ .aQ) := ⟨_, rfl⟩
 have n1 : h1.next = h.next + 1 := by rw [eh1]; simp
 have n2 : h2.next = h.next + 2 := by rw [eh2]; simp [n1]
 have f2 : h2.floor = h.floor := by rw [eh2, eh1]; simp
 have x2 : Ext h h2 := by rw [eh2, eh1]; exact ((Ext.refl h).alloc _).alloc _
 have ga2 : h2.get h.next = some (xO e v) := by rw [eh2, xU (by omega), eh1, xL rfl]
 have gz2 : h2.get (h.next + 1) = some (xO DQ .aQ) := by rw [eh2, xL (by omega)]
 have r2 := (ok.vec.mono fun i c q => x2 i c q).LR
 rw [qZ] at r2
 obtain ⟨v', h3, ap, hv', hcl, hsc, hrd, g3, f3, n3, hget, x3⟩ : ∃ v' h3, mC (h2.alloc []) 1 8 (.aF h2.next 0 0 1) v = some (v', h3) ∧ v' = (if e.vec = [] then .aF (h.next + 2) 0 0 1 else .aF (h.next + 3) 0 e.vec.length 1) ∧ v'.cells = [v'] ∧ v'.sc = true ∧ Rd h3 v' (ints e.vec) ∧
  (∀ i, i < h.next + 2 → h3.get i = h2.get i) ∧ h3.floor = h.floor ∧ h.next + 3 ≤ h3.next ∧ (0 < e.vec.length → h3.get (h.next + 3) = some (ints e.vec)) ∧ Ext h h3 := by
  by_cases c : e.vec = []
  · rw [c] at r2
    have := Ey (z := 8) r2
    refine ⟨_, _, this, by rw [if_pos c, n2], rfl, rfl, ?_, fun i hi => ?_, by simp [f2], by simp [n2], fun q => by rw [c] at q; simp at q, x2.alloc _⟩
    · rw [c]
      refine ⟨?_, fun _ => by simp⟩
      simp only [aT, if_true]
      rw [xL (by omega)]; rfl
    · rw [xU (by omega)]
  · have hp : 0 < e.vec.length := List.length_pos_iff.2 c
    have := Cv r2 (by omega) (by omega) hp (z := 8) (by simp [roomy]; omega) (AA e.vec)
    refine ⟨_, _, this, by rw [if_neg c, n2], rfl, rfl, ?_, fun i hi => ?_, by simp [f2], by simp [n2], fun _ => ?_, fun i d q => ?_⟩
    · refine ⟨?_, fun _ => by simp⟩
      simp only [aT, if_true]
      rw [xL (by simp), wS, if_pos (by simp), ON, xu (by simp), qZ]
    · rw [xU (by simp; omega), H.eO, if_neg (by omega), xU (by omega)]
    · rw [xL (by simp [n2])]
    · have := h.lt _ _ q
      rw [xU (by simp; omega), H.eO, if_neg (by omega), xU (by omega)]; exact x2 i d q
 obtain ⟨h4, eh4⟩ : ∃ g, g = h3.set h.next (xO e v') := ⟨_, rfl⟩
 obtain ⟨h5, eh5⟩ : ∃ g, g = h4.set (h.next + 1) (xO e v') := ⟨_, rfl⟩
 have ga3 : h3.get h.next = some (xO e v) := by rw [g3 _ (by omega), ga2]
 have gz3 : h3.get (h.next + 1) = some (xO DQ .aQ) := by rw [g3 _ (by omega), gz2]
 have ga4 : h4.get h.next = some (xO e v') := by rw [eh4, yg rfl, ga3]; rfl
 have gz4 : h4.get (h.next + 1) = some (xO DQ .aQ) := by rw [eh4, xY (by omega), gz3]
 have gz5 : h5.get (h.next + 1) = some (xO e v') := by rw [eh5, yg rfl, gz4]; rfl
 have st4 : vZ h3 h.next 2 1 [v'] (some (xO e v)) = some h4 := by rw [wD (by omega) (by show 2 < 9; omega) hsc, eh4]; rfl
 have st5 : vZ h4 (h.next + 1) 0 9 (xO e v') (some (xO DQ .aQ)) = some h5 := by
  rw [eh5]; exact Ah (by rw [eh4]; simp; omega) rfl rfl (by simp [xO, hsc])
 have e1 : h.alloc (xO e v) = h1 := eh1.symm
 have e2 : h1.alloc [.str ⟨#[]⟩, .bool false, .aQ, .int .i64 0, .int .i64 0, .int .i64 0, .str ⟨#[]⟩, .int .i64 0, .int .i64 0] = h2 := eh2.symm
 have rr : iT true 9 (xO e v') 0 = some (.agg (xO e v')) := rfl
 have lE : (xO e v).length = 9 := rfl
 have sE : AV.aD (xO e v) = true := by simp [xO, hv]
 have c2 : (xO e v)[2]? = some v := rfl
 have hg : ∀ i, i ≠ h.next → i ≠ h.next + 1 → h5.get i = h3.get i := fun i q1 q2 => by rw [eh5, xY q2, eh4, xY q1]
 have x5 : Ext h3 h5 → True := fun _ => trivial
 refine ⟨h5, v', vG (fn := AP.f92) (h2 := h5) (e := [(2, .aE (h.next + 1) 0)]) (vs := [.agg (xO e v')]) rfl rfl rfl ?_ ?_, hv', ?_, by rw [eh5, eh4]; simp [f3], by rw [eh5, eh4]; simpa using n3, ?_, fun q => by rw [hg _ (by omega) (by omega)]; exact hget q⟩
 · clear x5 hg x2 x3 g3 hrd hget r2 ok
   generalize xO e v = A at *
   generalize xO e v' = B at *
   simp (disch := omega) only [go_sem, xP, AP.f92, lE, sE, e1, n1, e2, ga2, xU, c2, ap, ga3, hcl, st4, ga4, rr, gz4, st5]
 · simp only [AP.f92, cT, oS, oG, sS, gz5, vh]; rfl
 · obtain ⟨q1, q2⟩ := hrd
   refine ⟨?_, q2⟩
   rw [← q1]
   rw [hv']
   by_cases c : e.vec = []
   · rw [if_pos c]; simp only [aT, if_true]; rw [hg _ (by omega) (by omega)]
   · rw [if_neg c]; simp only [aT, if_true]; rw [hg _ (by omega) (by omega)]
 · intro i d q
   have := h.lt _ _ q
   rw [hg _ (by omega) (by omega)]; exact x3 i d q
theorem Fq {v w : AV} {a b : List Int} (hab : a.length = b.length) (hl : a.length < 1125899906842624) (h : H) (ra : Rd h v (ints a)) (rb : Rd h w (ints b)) : ∀ (p q r : List Int) (p' : List Int), a = p ++ q → b = p' ++ r → p.length = p'.length →
 (∃ e', Lp AP.A [0, 1, 5] AP.f106L0 [(0, v), (1, w), (5, .int .i64 p.length)] h = some (.exit 0, e', h) ∧ decide (q = r) = true) ∨
 (∃ e', Lp AP.A [0, 1, 5] AP.f106L0 [(0, v), (1, w), (5, .int .i64 p.length)] h = some (.ret, e', h) ∧ look e' 4 = .bool false ∧ decide (q = r) = false)
 | p, [], r, p', hp, hq, hpp => by
   have hr : r = [] := OT (by rw [hp, hq] at hab; simp at hab; omega)
   left
   have ln := ra.len
   rw [qZ] at ln
   simp only [I] at ln
   rw [OJ] at hp
   refine ⟨[(0, v), (1, w), (5, .int .i64 p.length), (14, .bool false)], vo ?_, by rw [hr]; rfl⟩
   rw [hp] at ln
   clear hab hl ra rb
   simp (disch := omega) only [go_sem, xP, AP.f106L0, ln]
 | p, x :: q, [], p', hp, hq, hpp => by
   exfalso
   rw [hp, hq] at hab; simp at hab; omega
 | p, x :: q, y :: r, p', hp, hq, hpp => by
   have ln := ra.len
   rw [qZ] at ln
   simp only [I] at ln
   have hlen : a.length = p.length + (q.length + 1) := by rw [hp]; simp
   have hx : a[p.length]? = some x := by rw [hp]; simp
   have hy : b[p.length]? = some y := by rw [hpp, hq]; simp
   obtain ⟨ad, a1, a2⟩ := ra.Ad
   obtain ⟨bd, b1, b2⟩ := rb.Ad
   have i1 := a1 p.length ⟨by omega, by omega⟩
   have i2 := b1 p.length ⟨by omega, by omega⟩
   have l1 := a2 h (Ext.refl h) _ _ hx
   have l2 := b2 h (Ext.refl h) _ _ hy
   have w1 : (((p ++ [x]).length : Nat) : Int) = (p.length : Int) + 1 := by simp
   have ih := Fq hab hl h ra rb (p ++ [x]) q r (p' ++ [y]) (by rw [hp]; simp) (by rw [hq]; simp) (by simp; omega)
   rw [w1] at ih
   clear a1 a2 b1 b2 ra rb w1
   by_cases c : x = y
   · have step : aM (aS AP.A) bH AP.f106L0 (az [(0, v), (1, w), (5, .int .i64 p.length)] [0, 1, 5]) h = some (.normal, [(0, v), (1, w), (5, .int .i64 ((p.length : Int) + 1))], h) := by
      clear ih hp hq
      simp (disch := omega) only [go_sem, xP, AP.f106L0, ln, i1, i2, l1, l2]
     have e : decide (x :: q = y :: r) = decide (q = r) := by simp [c]
     rw [e]
     rcases ih with ⟨e', r1, r2⟩ | ⟨e', r1, r2, r3⟩
     · exact .inl ⟨e', vp step r1, r2⟩
     · exact .inr ⟨e', vp step r1, r2, r3⟩
   · right
     refine ⟨[(4, .bool false)], vN ?_, rfl, by simp [c]⟩
     clear ih hp hq
     simp (disch := omega) only [go_sem, xP, AP.f106L0, ln, i1, i2, l1, l2]
theorem Fk (h : H) (v w : AV) (a b : List Int) (ra : Rd h v (ints a)) (rb : Rd h w (ints b)) (hl : a.length < 1125899906842624) : aS AP.A 106 [v, w] h = some (.bool (decide (a = b)), h) := by
 have ra' := ra.mono (xQ h)
 have rb' := rb.mono (xQ h)
 have la := ra'.len
 have lb := rb'.len
 rw [qZ] at la lb
 simp only [I] at la lb
 by_cases c : a.length = b.length
 · rcases Fq c hl h.eJ ra' rb' [] a b [] rfl rfl rfl with ⟨e', r1, r2⟩ | ⟨e', r1, r2, r3⟩
   · have r1' : Lp AP.A [0, 1, 5] AP.f106L0 [(0, v), (1, w), (5, .int .i64 0)] h.eJ = some (.exit 0, e', h.eJ) := r1
     clear r1
     rw [r2]
     refine vX (fn := AP.f106) (h2 := h.eJ) (e := [(4, .bool true)]) rfl rfl rfl ?_ rfl rfl
     simp (disch := omega) only [go_sem, xP, AP.f106, la, lb, uz, r1']
   · have r1' : Lp AP.A [0, 1, 5] AP.f106L0 [(0, v), (1, w), (5, .int .i64 0)] h.eJ = some (.ret, e', h.eJ) := r1
     clear r1
     rw [r3]
     refine vX (fn := AP.f106) (h2 := h.eJ) (e := e') (vs := [.bool false]) rfl rfl rfl ?_ (by simp only [AP.f106, cT, oS, r2]; rfl) rfl
     simp (disch := omega) only [go_sem, xP, AP.f106, la, lb, uz, r1']
 · have e : decide (a = b) = false := by rw [decide_eq_false_iff_not]; intro q; exact c (by rw [q])
   rw [e]
   refine vX (fn := AP.f106) (h2 := h.eJ) (e := [(4, .bool false)]) rfl rfl rfl ?_ rfl rfl
   simp (disch := omega) only [go_sem, xP, AP.f106, la, lb]
def nA : ByteArray := ⟨#[97]⟩
def Es : ByteArray := ⟨#[104, 105]⟩
def eA : yD := A9 nA 0 1 Es
theorem ze.au {h : H} {e : yD} (hv : e.vec.length = 4) (nl : e.name.size < 1000000) (pl : e.packed.size < 1000000) : ze h (e, yY e.vec) :=
 ⟨by rw [show (e, yY e.vec).2 = yY e.vec from rfl, Ma hv]; have := AE h e.vec; unfold zS at this; rw [hv] at this; exact this, by show e.vec.length < _; omega, by show e.name.size < _; omega, by show e.packed.size < _; omega⟩
theorem Rd.obj {h : H} {p n : Nat} {l : List Int} (hp : h.get p = some (ints l)) (hl : l.length = n) : Rd h (.aF p 0 n 1) (ints l) :=
 ⟨by subst hl; simp only [aT, if_true, hp, wS]; rw [if_pos (by simp), ON, xu (by simp), qZ], fun s e => by cases e⟩
theorem ze.obj {h : H} {e : yD} {p n : Nat} {l : List Int} (hp : h.get p = some (ints l)) (hl : l.length = n) (he : e.vec = l := by rfl) (nl : e.name.size < 1125899906842624) (pl : e.packed.size < 1125899906842624) (hn : n < 1000000 := by decide) : ze h (e, .aF p 0 n 1) :=
 ⟨by show Rd h _ (ints e.vec); rw [he]; exact Rd.obj hp hl, by show e.vec.length < _; rw [he]; omega, by show e.name.size < _; omega, by show e.packed.size < _; omega⟩
theorem H8 (t : ByteArray) : yo t < 4294967296 := AQ 0 t
theorem AZ (l : List Int) : (yY l).sc = true := by unfold yY NW; split <;> rfl
theorem Az {e : yD} {v : AV} (h : v.sc = true) : AV.aD (xO e v) = true := by simp [xO, h]
def EM : Ty := .int .i64
theorem Hp {B : Nat} {as : List AV} (h : Sh B EM as) : ∃ n, as = [.int .i64 n] ∧ (-9223372036854775808 ≤ n ∧ n < 9223372036854775808) := by
 cases h with
 | int h => exact ⟨_, rfl, vD h⟩
theorem Oh {P : Ty × List AV → Prop} {a b : Ty} {r : List (Ty × List AV)} (h : r.map (·.1) = [a, b]) (hp : ∀ x ∈ r, P x) : ∃ x y, r = [(a, x), (b, y)] ∧ P (a, x) ∧ P (b, y) := by
 match r, h with
 | [(a', x), (b', y)], h => simp at h; obtain ⟨rfl, rfl⟩ := h; exact ⟨x, y, rfl, hp _ (by simp), hp _ (by simp)⟩
def BE (s : ByteArray) : List Nat := s.data.toList.map (·.toNat)
theorem Fu (s : ByteArray) : (BE s).length = s.size := by unfold BE; rw [OI, Array.length_toList]; rfl
theorem IA (a b : ByteArray) : BE (a ++ b) = BE a ++ BE b := by simp [BE]
theorem HF (s : ByteArray) : ∀ b ∈ BE s, b < 256 := by
 intro b hb
 obtain ⟨x, _, rfl⟩ := List.mem_map.1 hb
 exact x.toNat_lt
theorem DK (s : ByteArray) : bytesOf (BE s) = s := by
 unfold BE bytesOf; rw [List.map_map]; apply ByteArray.ext; simp [Function.comp_def]
theorem Em {l : List Nat} (h : ∀ b ∈ l, b < 256) : BE (bytesOf l) = l := by
 simp only [BE, bytesOf, List.map_map]
 conv => rhs; rw [← List.map_id l]
 exact List.map_congr_left fun b hb => by simp [Function.comp, UInt8.toNat_ofNat_of_lt' (h b hb)]
theorem yS (a b : List Nat) : bytesOf a ++ bytesOf b = bytesOf (a ++ b) := by
 apply ByteArray.ext; simp [bytesOf]
theorem zh (x k : Nat) : ∀ b ∈ xV x k, b < 256 := by
 intro b hb
 obtain ⟨i, _, rfl⟩ := List.mem_map.1 hb
 exact Nat.mod_lt _ (by omega)
theorem Iz {a b : ByteArray} (h : a.size + b.size ≤ 9223372036854775807) : bD .add (.str a) (.str b) = some (.str (a ++ b)) := Du h
theorem zy {a b : List Nat} (h : a.length + b.length ≤ 9223372036854775807) : bD .add (.str (bytesOf a)) (.str (bytesOf b)) = some (.str (bytesOf (a ++ b))) := by
 rw [Iz (by rw [yd, yd]; exact h), yS]
def DO (c : Nat) (l : List Nat) : Nat := l.foldl yZ c
theorem HV {s : ByteArray} {i : Nat} {p q : List Nat} {b : Nat} (h : BE s = p ++ b :: q) (hi : p.length = i) : zr s i = b := by
 have : (BE s)[i]? = some b := by rw [h, ← hi]; simp
 unfold zr
 unfold BE at this
 rw [xc] at this
 have e : s[i]? = s.data.toList[i]? := by
  show s.data[i]? = _
  simp
 rw [e]
 cases hq : s.data.toList[i]? with
 | none => rw [hq] at this; cases this
 | some x => rw [hq] at this; simpa using this
theorem CB (s : ByteArray) : ∀ (q p : List Nat) (c : Nat), BE s = p ++ q → yO s q.length p.length c = DO c q
 | [], p, c, h => rfl
 | b :: q, p, c, h => by
   show yO s q.length (p.length + 1) (yZ c (zr s p.length)) = _
   have := CB s q (p ++ [b]) (yZ c b) (by rw [h]; simp)
   rw [HV h rfl]
   rw [xD] at this
   exact this
theorem AO (a : Nat) (s : ByteArray) : yw a s = 4294967295 - DO (4294967295 - a) (BE s) := by
 unfold yw
 have := CB s (BE s) [] (4294967295 - a) rfl
 rw [Fu] at this
 rw [← this]; rfl
theorem E8 : ∀ (l : List Nat) {c : Nat}, c < 4294967296 → (∀ b ∈ l, b < 256) → DO c l < 4294967296
 | [], _, h, _ => h
 | b :: l, _, h, hb => E8 l (zL h (hb b (by simp))) (fun x hx => hb x (by simp [hx]))
theorem Ae {a : Nat} (s t : ByteArray) : yw (yw a s) t = yw a (s ++ t) := by
 rw [AO, AO a, AO a, IA]
 have := E8 (BE s) (c := 4294967295 - a) (by omega) (HF s)
 rw [show 4294967295 - (4294967295 - DO (4294967295 - a) (BE s)) = DO (4294967295 - a) (BE s) by omega]
 simp [DO]
def zR (l : List Nat) : Nat := 4294967295 - DO 4294967295 l
theorem Kj (s : ByteArray) : yo s = zR (BE s) := AO 0 s
theorem BT {l : List Nat} (h : ∀ b ∈ l, b < 256) : yo (bytesOf l) = zR l := by rw [Kj, Em h]
def Ds (l : List Int) : List Nat := l.flatMap fun n => xV n.toNat 4
def Ct (e : yD) : List Nat := xV 20592 2 ++ xV 22 2 ++ Ds e.vec ++ xV e.xS.toNat 4 ++ xV e.node.toNat 1 ++ xV (if e.gone then 1 else 0) 1
theorem Eo (l : List Int) : (Ds l).length = 4 * l.length := by
 induction l with
 | nil => rfl
 | cons n l ih => unfold Ds at *; rw [List.flatMap_cons, xD, xR, ih, OA]; omega
theorem Fz (l : List Int) : ∀ b ∈ Ds l, b < 256 := by
 intro b hb
 obtain ⟨n, _, hn⟩ := List.mem_flatMap.1 hb
 exact zh _ _ b hn
theorem Iw (e : yD) : ∀ b ∈ Ct e, b < 256 := by
 intro b hb
 unfold Ct at hb
 simp only [List.mem_append] at hb
 rcases hb with ((((hb | hb) | hb) | hb) | hb) | hb
 · exact zh _ _ b hb
 · exact zh _ _ b hb
 · exact Fz _ b hb
 · exact zh _ _ b hb
 · exact zh _ _ b hb
 · exact zh _ _ b hb
def LQ (e : yD) : AV := if yB e = true then .bV [.str (bytesOf (Ct e)), .int .i64 0] else .bV [.str ⟨#[]⟩, .int .i64 1200]
theorem zV {e : yD} (h : yB e = true) : e.vec.length = 4 ∧ (∀ n ∈ e.vec, 0 ≤ n ∧ n ≤ 1048576) ∧ (1 ≤ e.xS ∧ e.xS ≤ 1048576) ∧ (0 ≤ e.node ∧ e.node < 4) := by
 simp only [yB, Ga, yV, CM, wW, OK, List.all_eq_true] at h
 exact ⟨h.1.1, h.1.2, ⟨h.2.1, h.2.2.1.2⟩, h.2.2.2⟩
theorem Eb {v P : AV} {l : List Int} (hl : l.length < 1000000) (hn : ∀ n ∈ l, 0 ≤ n ∧ n ≤ 1048576) (h : H) (rd : Rd h v (ints l)) : ∀ (q p : List Int) (acc : List Nat), l = p ++ q → acc.length + 4 * q.length < 100000000 →
 ∃ e', Lp AP.A [1, 4, 14, 15, 16] AP.f102L0 [(1, P), (4, .str (bytesOf acc)), (14, v), (15, .int .i64 l.length), (16, .int .i64 p.length)] h = some (.exit 0, e', h) ∧ look e' 1 = P ∧ look e' 4 = .str (bytesOf (acc ++ Ds q))
 | [], p, acc, hp, ha => by
   refine ⟨[(1, P), (4, .str (bytesOf acc)), (14, v), (15, .int .i64 l.length), (16, .int .i64 p.length), (17, .bool false)], vo ?_, rfl, by simp [Ds, look]⟩
   have e : l.length = p.length := by rw [hp]; simp
   rw [e]
   simp (disch := first | omega | (simp only [ym, OA, OC, w8, Nat.reduceAdd]; first | done | omega | fail) | (simp (disch := first | omega | (simp only [ym, OA, OC, w8, Nat.reduceAdd]; first | done | omega | fail) | fail) only [ym, Ap, OE, OA, OC, w8, Nat.reduceAdd]; done) | fail) only [go_sem, xP, Ec, AP.f102L0]
 | n :: q, p, acc, hp, ha => by
   rw [OA] at ha
   obtain ⟨e', r1, r2, r3⟩ := Eb (P := P) hl hn h rd q (p ++ [n]) (acc ++ xV n.toNat 4) (by rw [hp]; simp) (by rw [xD, xR]; omega)
   obtain ⟨ad, a1, a2⟩ := rd.Ad
   have hlen : l.length = p.length + (q.length + 1) := by rw [hp]; simp
   have i1 := a1 (p.length : Int) ⟨by omega, by omega⟩
   have i2 := a2 h (Ext.refl h) p.length n (by rw [hp]; simp)
   have bn := hn n (by rw [hp]; simp)
   have k1 := fun g => Ao g n.toNat 4 (by omega) (by omega)
   rw [show ((n.toNat : Nat) : Int) = n by omega] at k1
   have s1 : bD .add (.str (bytesOf acc)) (.str (G7 n.toNat 4)) = some (.str (bytesOf (acc ++ xV n.toNat 4))) := zy (by rw [xR]; omega)
   have n1 : ((p.length + 1 : Nat) : Int) = (p.length : Int) + 1 := by omega
   rw [xD, show [n].length = 1 from rfl, n1] at r1
   refine ⟨e', vp ?_ r1, r2, by rw [r3]; simp [Ds]⟩
   have k1' : ∀ g : H, aS AP.A 104 [.int .i64 n, .int .i64 4] g = some (.str (G7 n.toNat 4), g) := k1
   simp (disch := first | omega | (simp only [ym, OA, OC, w8, Nat.reduceAdd]; first | done | omega | fail) | (simp (disch := first | omega | (simp only [ym, OA, OC, w8, Nat.reduceAdd]; first | done | omega | fail) | fail) only [ym, Ap, OE, OA, OC, w8, Nat.reduceAdd]; done) | fail) only [go_sem, xP, Ec, AP.f102L0, i1, i2, k1', s1]
theorem PE.obj {h : H} {id : Nat} {cs : List AV} (hg : h.get id = some cs) : PE h (.aE id 0) cs :=
 ⟨fun g => rfl, fun k => .aE id (0 + k), fun k => rfl, fun g hx k c hc => by
  show bZ false 1 (.aE id (0 + k)) g = _
  rw [w8]
  simp only [bZ, hx _ _ hg, wS, iT, hc]; rfl⟩
theorem Kq (h : H) (hf : h.floor ≤ h.next) (e : yD) (v : AV) (hv : v.sc = true) (ok : ze h (e, v)) : aS AP.A 102 [.agg (xO e v)] h = some (LQ e, h) := by
 obtain ⟨A, hA⟩ : ∃ x, x = xO e v := ⟨_, rfl⟩
 have lA : A.length = 9 := by rw [hA]; rfl
 have cA : AV.aD A = true := by rw [hA]; exact Az hv
 have g2 : A[2]? = some v := by rw [hA]; rfl
 have g1 : A[1]? = some (.bool e.gone) := by rw [hA]; rfl
 have g3 : A[3]? = some (.int .i64 e.xS) := by rw [hA]; rfl
 have g4 : A[4]? = some (.int .i64 e.node) := by rw [hA]; rfl
 have x1 : Ext h (h.eJ.alloc A) := fun i c q => ((Ext.refl h.eJ).alloc _) i c q
 have o1 := ok.mono x1
 have q1 : aS AP.A 112 [.aE h.next 0] (h.eJ.alloc A) = some (.bool (yB e), h.eJ.alloc A) := by
  refine GZ (h.eJ.alloc A) (.aE h.next 0) v e ?_ o1.vec o1.vl
  rw [← hA]; exact PE.obj (xL (by simp))
 unfold LQ
 cases hh : yB e with
 | false =>
   rw [hh] at q1
   rw [if_neg (by decide)]
   refine vX (fn := AP.f102) (h2 := h.eJ.alloc A) (e := [(2, .str ⟨#[]⟩), (3, .int .i64 1200)]) rfl rfl rfl ?_ rfl rfl
   rw [← hA]
   simp (disch := first | omega | (simp only [ym, OA, OC, w8, Nat.reduceAdd]; first | done | omega | fail) | (simp (disch := first | omega | (simp only [ym, OA, OC, w8, Nat.reduceAdd]; first | done | omega | fail) | fail) only [ym, Ap, OE, OA, OC, w8, Nat.reduceAdd]; done) | fail) only [go_sem, xP, Ec, AP.f102, lA, cA, q1]
 | true =>
   rw [hh] at q1
   rw [if_pos rfl]
   obtain ⟨f1, f2, f3, f4⟩ := zV hh
   have k1 : ∀ g, aS AP.A 104 [.int .i64 20592, .int .i64 2] g = some (.str (bytesOf (xV 20592 2)), g) := fun g => Ao g 20592 2 (by omega) (by omega)
   have k2 : ∀ g, aS AP.A 104 [.int .i64 22, .int .i64 2] g = some (.str (bytesOf (xV 22 2)), g) := fun g => Ao g 22 2 (by omega) (by omega)
   have k3 : ∀ g, aS AP.A 104 [.int .i64 e.xS, .int .i64 4] g = some (.str (bytesOf (xV e.xS.toNat 4)), g) := fun g => by
    have := Ao g e.xS.toNat 4 (by omega) (by omega)
    rw [show ((e.xS.toNat : Nat) : Int) = e.xS by omega] at this; exact this
   have k4 : ∀ g, aS AP.A 104 [.int .i64 e.node, .int .i64 1] g = some (.str (bytesOf (xV e.node.toNat 1)), g) := fun g => by
    have := Ao g e.node.toNat 1 (by omega) (by omega)
    rw [show ((e.node.toNat : Nat) : Int) = e.node by omega] at this; exact this
   have k5 : ∀ g, aS AP.A 104 [.int .i64 0, .int .i64 1] g = some (.str (bytesOf (xV 0 1)), g) := fun g => Ao g 0 1 (by omega) (by omega)
   have k6 : ∀ g, aS AP.A 104 [.int .i64 1, .int .i64 1] g = some (.str (bytesOf (xV 1 1)), g) := fun g => Ao g 1 1 (by omega) (by omega)
   have ln := o1.vec.len
   rw [qZ] at ln
   simp only [I] at ln
   obtain ⟨e', r1, r2, r3⟩ := Eb (P := .aE h.next 0) (by omega) f2 (h.eJ.alloc A) o1.vec e.vec [] (xV 20592 2 ++ xV 22 2) rfl (by rw [xD, xR, xR]; omega)
   have r1' : Lp AP.A [1, 4, 14, 15, 16] AP.f102L0 [(1, .aE h.next 0), (4, .str (bytesOf (xV 20592 2 ++ xV 22 2))), (14, v), (15, .int .i64 e.vec.length), (16, .int .i64 0)] (h.eJ.alloc A) = some (.exit 0, e', h.eJ.alloc A) := r1
   clear r1
   have vl := Eo e.vec
   have s1 : bD .add (.str (bytesOf (xV 20592 2))) (.str (bytesOf (xV 22 2))) = some (.str (bytesOf (xV 20592 2 ++ xV 22 2))) := zy (by rw [xR, xR]; omega)
   obtain ⟨L1, hL1⟩ : ∃ x, x = xV 20592 2 ++ xV 22 2 ++ Ds e.vec := ⟨_, rfl⟩
   have l1 : L1.length = 20 := by rw [hL1, xD, xD, xR, xR, vl, f1]
   obtain ⟨S1, h1⟩ : ∃ x, x = bytesOf L1 := ⟨_, rfl⟩
   obtain ⟨S2, h2⟩ : ∃ x, x = bytesOf (L1 ++ xV e.xS.toNat 4) := ⟨_, rfl⟩
   obtain ⟨S3, h3⟩ : ∃ x, x = bytesOf (L1 ++ xV e.xS.toNat 4 ++ xV e.node.toNat 1) := ⟨_, rfl⟩
   obtain ⟨S4, h4⟩ : ∃ x, x = bytesOf (L1 ++ xV e.xS.toNat 4 ++ xV e.node.toNat 1 ++ xV (if e.gone then 1 else 0) 1) := ⟨_, rfl⟩
   have s2 : bD .add (.str S1) (.str (bytesOf (xV e.xS.toNat 4))) = some (.str S2) := by rw [h1, h2]; exact zy (by rw [xR]; omega)
   have s3 : bD .add (.str S2) (.str (bytesOf (xV e.node.toNat 1))) = some (.str S3) := by rw [h2, h3]; exact zy (by rw [xD, xR, xR]; omega)
   have s4 : bD .add (.str S3) (.str (bytesOf (xV (if e.gone then 1 else 0) 1))) = some (.str S4) := by rw [h3, h4]; exact zy (by rw [xD, xD, xR, xR, xR]; omega)
   rw [show xV 20592 2 ++ xV 22 2 ++ Ds e.vec = L1 from hL1.symm, ← h1] at r3
   unfold Ct
   rw [← hL1, ← hA, ← h4]
   clear hL1 o1 x1 ok h1 h2 h3 h4
   refine vX (fn := AP.f102) (h2 := h.eJ.alloc A) (e := [(2, .str S4), (3, .int .i64 0)]) rfl rfl rfl ?_ rfl rfl
   cases hg : e.gone with
   | true =>
     rw [hg] at g1 s4
     rw [if_pos rfl] at s4
     simp (disch := first | omega | (simp only [ym, OA, OC, w8, Nat.reduceAdd]; first | done | omega | fail) | (simp (disch := first | omega | (simp only [ym, OA, OC, w8, Nat.reduceAdd]; first | done | omega | fail) | fail) only [ym, Ap, OE, OA, OC, w8, Nat.reduceAdd]; done) | fail) only [go_sem, xP, Ec, AP.f102, lA, cA, q1, k1, k2, k3, k4, k5, k6, s1, s2, s3, s4, g1, g2, g3, g4, ln, uz, r1', r2, r3]
   | false =>
     rw [hg] at g1 s4
     rw [if_neg (by decide)] at s4
     simp (disch := first | omega | (simp only [ym, OA, OC, w8, Nat.reduceAdd]; first | done | omega | fail) | (simp (disch := first | omega | (simp only [ym, OA, OC, w8, Nat.reduceAdd]; first | done | omega | fail) | fail) only [ym, Ap, OE, OA, OC, w8, Nat.reduceAdd]; done) | fail) only [go_sem, xP, Ec, AP.f102, lA, cA, q1, k1, k2, k3, k4, k5, k6, s1, s2, s3, s4, g1, g2, g3, g4, ln, uz, r1', r2, r3]
def DP (e : yD) : List Nat := xV e.name.size 1 ++ BE e.name ++ Ct e ++ xV e.Cq.toNat 4
def Kl (e : yD) : Option Nat := if y0 e = true then some (zR (DP e)) else none
def NY : Option Nat → AV
 | some n => .bV [.int .i64 n, .int .i64 0]
 | none => .bV [.int .i64 0, .int .i64 1500]
theorem Ei (l : List Nat) : zR l < 4294967296 := by unfold zR; omega
theorem E9 (p : Nat) (ss : List ByteArray) (h : H) (hg : h.get p = some (ss.map AV.str)) (hs : ∀ s ∈ ss, s.size < 1125899906842624) (hl : ss.length < 1000000) : ∀ (q pr : List ByteArray) (a : Nat), ss = pr ++ q → a < 4294967296 →
 ∃ e', Lp AP.A [6, 7, 28, 29, 30] AP.f91L0 [(6, .fn 103 [] []), (7, .int .i64 a), (28, .aF p 0 ss.length 1), (29, .int .i64 ss.length), (30, .int .i64 pr.length)] h = some (.exit 0, e', h) ∧ look e' 7 = .int .i64 (q.foldl yw a : Nat)
 | [], pr, a, hp, ha => by
   have e : ss.length = pr.length := by rw [hp]; simp
   refine ⟨[(6, .fn 103 [] []), (7, .int .i64 a), (28, .aF p 0 ss.length 1), (29, .int .i64 ss.length), (30, .int .i64 pr.length), (31, .bool false)], vo ?_, rfl⟩
   rw [e]
   simp (disch := first | omega | (simp only [ym, OA, OC, w8, Nat.reduceAdd]; first | done | omega | fail) | (simp (disch := first | omega | (simp only [ym, OA, OC, w8, Nat.reduceAdd]; first | done | omega | fail) | fail) only [ym, Ap, OE, OA, OC, w8, Nat.reduceAdd]; done) | fail) only [go_sem, xP, Ec, AP.f91L0]
 | s :: q, pr, a, hp, ha => by
   obtain ⟨e', r1, r2⟩ := E9 p ss h hg hs hl q (pr ++ [s]) (yw a s) (by rw [hp]; simp) (AQ a s)
   have hlen : ss.length = pr.length + (q.length + 1) := by rw [hp]; simp
   have k1 := EN h s a ha (hs s (by rw [hp]; simp))
   have g1 : (ss.map AV.str)[pr.length]? = some (.str s) := by rw [hp]; simp
   have n1 : ((pr.length + 1 : Nat) : Int) = (pr.length : Int) + 1 := by omega
   rw [xD, show [s].length = 1 from rfl, n1] at r1
   refine ⟨e', vp ?_ r1, r2⟩
   simp (disch := first | omega | (simp only [ym, OA, OC, w8, Nat.reduceAdd]; first | done | omega | fail) | (simp (disch := first | omega | (simp only [ym, OA, OC, w8, Nat.reduceAdd]; first | done | omega | fail) | fail) only [ym, Ap, OE, OA, OC, w8, Nat.reduceAdd]; done) | fail) only [go_sem, xP, Ec, AP.f91L0, hg, k1, g1]
theorem LM (a b c d : ByteArray) : [a, b, c, d].foldl yw 0 = yo (a ++ b ++ c ++ d) := by
 show yw (yw (yw (yw 0 a) b) c) d = yw 0 _
 rw [Ae, Ae, Ae]
 congr 1
 simp only [ByteArray.append_assoc]
theorem FV (s : ByteArray) : DW s = true ↔ s.size = 0 := by
 unfold DW
 rw [beq_iff_eq]
 constructor
 · intro h; rw [← Fu]; unfold BE; rw [h]; rfl
 · intro h
   have : s.data.toList.length = 0 := by rw [Array.length_toList]; exact h
   rw [OT this]
theorem F4 {e : yD} (h : y0 e = true) : yB e = true ∧ (1 ≤ e.name.size ∧ e.name.size ≤ 8) ∧ 0 ≤ e.Cq ∧ e.Cq ≤ 4294967295 := by
 unfold y0 Aa at h
 split at h
 · cases h
 · rename_i hm
   have hm : zG [e] = true := by cases q : zG [e] with | true => rfl | false => exact absurd q hm
   simp only [zG, Bt, C7, wW, Bool.and_true] at hm
   obtain ⟨⟨h1, h2, h3⟩, _⟩ := hm
   refine ⟨h2, ?_, ?_⟩
   · simp only [yT, wW, OK] at h1
     exact ⟨h1.1, h1.2.1⟩
   · unfold yN at h3
     split at h3
     · simp only [wW, OK] at h3; omega
     · simp only [wW, OK, Cs] at h3; omega
theorem Ia (e : yD) : ∀ b ∈ DP e, b < 256 := by
 intro b hb
 unfold DP at hb
 simp only [List.mem_append] at hb
 rcases hb with ((hb | hb) | hb) | hb
 · exact zh _ _ b hb
 · exact HF _ b hb
 · exact Iw _ b hb
 · exact zh _ _ b hb
theorem Ib (e : yD) : bytesOf (xV e.name.size 1) ++ e.name ++ bytesOf (Ct e) ++ bytesOf (xV e.Cq.toNat 4) = bytesOf (DP e) := by
 unfold DP
 rw [← yS, ← yS, ← yS, DK]
theorem He {e : yD} (h : yB e = true) : (Ct e).length = 26 := by
 obtain ⟨f1, _⟩ := zV h
 unfold Ct
 simp only [xD, xR, Eo, f1]
set_option maxHeartbeats 1000000 in
theorem GG (h : H) (hf : h.floor ≤ h.next) (e : yD) (v : AV) (hv : v.sc = true) (ok : ze h (e, v)) : aS AP.A 91 [.agg (xO e v)] h = some (NY (Kl e), h) := by
 obtain ⟨A, hA⟩ : ∃ x, x = xO e v := ⟨_, rfl⟩
 have lA : A.length = 9 := by rw [hA]; rfl
 have cA : AV.aD A = true := by rw [hA]; exact Az hv
 have tA : List.take 9 A = A := by rw [hA]; rfl
 have g0 : A[0]? = some (.str e.name) := by rw [hA]; rfl
 have g8 : A[8]? = some (.int .i64 e.Cq) := by rw [hA]; rfl
 have x1 : Ext h (h.eJ.alloc A) := fun i c q => ((Ext.refl h.eJ).alloc _) i c q
 have o1 := ok.mono x1
 have f1 : (h.eJ.alloc A).floor ≤ (h.eJ.alloc A).next := by simp
 have q1 : aS AP.A 96 [.agg A] (h.eJ.alloc A) = some (.bool (y0 e), h.eJ.alloc A) := by
  have := GO (h.eJ.alloc A) f1 e v hv o1
  rw [← hA] at this; exact this
 unfold Kl
 cases hm : y0 e with
 | false =>
   rw [hm] at q1
   rw [if_neg (by decide)]
   refine vX (fn := AP.f91) (h2 := h.eJ.alloc A) (e := [(2, .int .i64 0), (3, .int .i64 1500)]) rfl rfl rfl ?_ rfl rfl
   rw [← hA]
   simp (disch := first | omega | (simp only [ym, OA, OC, w8, Nat.reduceAdd]; first | done | omega | fail) | (simp (disch := first | omega | (simp only [ym, OA, OC, w8, Nat.reduceAdd]; first | done | omega | fail) | fail) only [ym, Ap, OE, OA, OC, w8, Nat.reduceAdd]; done) | fail) only [go_sem, xP, Ec, AP.f91, lA, cA, tA, q1]
 | true =>
   rw [hm] at q1
   rw [if_pos rfl]
   obtain ⟨m1, m2, m3⟩ := F4 hm
   have q2 : aS AP.A 102 [.agg A] (h.eJ.alloc A) = some (.bV [.str (bytesOf (Ct e)), .int .i64 0], h.eJ.alloc A) := by
    have := Kq (h.eJ.alloc A) f1 e v hv o1
    unfold LQ at this
    rw [if_pos m1, ← hA] at this; exact this
   have q3 : ∀ g, aS AP.A 104 [.int .i64 e.name.size, .int .i64 1] g = some (.str (bytesOf (xV e.name.size 1)), g) := fun g => Ao g e.name.size 1 (by omega) (by omega)
   have q4 : ∀ g, aS AP.A 104 [.int .i64 e.Cq, .int .i64 4] g = some (.str (bytesOf (xV e.Cq.toNat 4)), g) := fun g => by
    have := Ao g e.Cq.toNat 4 (by omega) (by omega)
    rw [show ((e.Cq.toNat : Nat) : Int) = e.Cq by omega] at this; exact this
   have pl := He m1
   obtain ⟨T1, e1⟩ : ∃ x, x = bytesOf (xV e.name.size 1) := ⟨_, rfl⟩
   obtain ⟨T3, e3⟩ : ∃ x, x = bytesOf (Ct e) := ⟨_, rfl⟩
   obtain ⟨T4, e4⟩ : ∃ x, x = bytesOf (xV e.Cq.toNat 4) := ⟨_, rfl⟩
   have ds := Ib e
   rw [← e1, ← e3, ← e4] at ds
   rw [← e3] at q2
   rw [← e1] at q3
   rw [← e4] at q4
   have t1 : T1.size = 1 := by rw [e1, yd, xR]
   have t3 : T3.size = 26 := by rw [e3, yd, pl]
   have t4 : T4.size = 4 := by rw [e4, yd, xR]
   obtain ⟨e', r1, r2⟩ := E9 (h.next + 1) [T1, e.name, T3, T4] ((h.eJ.alloc A).alloc [.str T1, .str e.name, .str T3, .str T4]) (xL (by simp)) (by
    intro s hs
    simp only [xz, List.mem_nil_iff, or_false] at hs
    rcases hs with rfl | rfl | rfl | rfl <;> omega) (by simp) [T1, e.name, T3, T4] [] 0 rfl (by omega)
   rw [LM, ds, BT (Ia e)] at r2
   have r1' : Lp AP.A [6, 7, 28, 29, 30] AP.f91L0 [(6, .fn 103 [] []), (7, .int .i64 0), (28, .aF (h.next + 1) 0 4 1), (29, .int .i64 4), (30, .int .i64 0)] ((h.eJ.alloc A).alloc [.str T1, .str e.name, .str T3, .str T4]) = some (.exit 0, e', (h.eJ.alloc A).alloc [.str T1, .str e.name, .str T3, .str T4]) := r1
   clear r1
   refine vX (fn := AP.f91) (h2 := (h.eJ.alloc A).alloc [.str T1, .str e.name, .str T3, .str T4]) (e := [(2, .int .i64 (zR (DP e))), (3, .int .i64 0)]) rfl rfl rfl ?_ rfl rfl
   rw [← hA]
   clear ds e1 e3 e4 o1 x1 ok
   simp (disch := first | omega | (simp only [ym, OA, OC, w8, Nat.reduceAdd]; first | done | omega | fail) | (simp (disch := first | omega | (simp only [ym, OA, OC, w8, Nat.reduceAdd]; first | done | omega | fail) | fail) only [ym, Ap, OE, OA, OC, w8, Nat.reduceAdd]; done) | fail) only [go_sem, xP, Ec, AP.f91, lA, cA, tA, q1, q2, q3, q4, g0, g8, uz, r1', r2]
def Bj (l : List Int) : List Nat := l.flatMap fun n => xV n.toNat 4
def DZ (l : List Int) : Option Nat := if l.all Cs = true then some (zR (Bj l)) else none
theorem Ha (l : List Int) : ∀ b ∈ Bj l, b < 256 := Fz l
theorem CL {v : AV} {l : List Int} (hl : l.length < 1125899906842624) (h : H) (rd : Rd h v (ints l)) : ∀ (q p : List Int) (a : Nat), l = p ++ q → a < 4294967296 →
 (q.all Cs = true ∧ ∃ e', Lp AP.A [4, 7, 8, 9] AP.f93L0 [(4, .int .i64 a), (7, v), (8, .int .i64 l.length), (9, .int .i64 p.length)] h = some (.exit 0, e', h) ∧ look e' 4 = .int .i64 (yw a (bytesOf (Bj q)) : Nat)) ∨
 (q.all Cs = false ∧ ∃ e', Lp AP.A [4, 7, 8, 9] AP.f93L0 [(4, .int .i64 a), (7, v), (8, .int .i64 l.length), (9, .int .i64 p.length)] h = some (.ret, e', h) ∧ look e' 2 = .int .i64 0 ∧ look e' 3 = .int .i64 1500)
 | [], p, a, hp, ha => by
   left
   have e : l.length = p.length := by rw [hp]; simp
   refine ⟨rfl, [(4, .int .i64 a), (7, v), (8, .int .i64 l.length), (9, .int .i64 p.length), (10, .bool false)], vo ?_, ?_⟩
   · rw [e]
     simp (disch := first | omega | (simp only [ym, OA, OC, w8, Nat.reduceAdd]; first | done | omega | fail) | (simp (disch := first | omega | (simp only [ym, OA, OC, w8, Nat.reduceAdd]; first | done | omega | fail) | fail) only [ym, Ap, OE, OA, OC, w8, Nat.reduceAdd]; done) | fail) only [go_sem, xP, Ec, AP.f93L0]
   · show AV.int .i64 (a : Int) = .int .i64 ((yw a (bytesOf []) : Nat) : Int)
     rw [AO]
     have : DO (4294967295 - a) (BE (bytesOf [])) = 4294967295 - a := rfl
     rw [this]; congr 1; omega
 | n :: q, p, a, hp, ha => by
   obtain ⟨ad, a1, a2⟩ := rd.Ad
   have hlen : l.length = p.length + (q.length + 1) := by rw [hp]; simp
   have i1 := a1 (p.length : Int) ⟨by omega, by omega⟩
   have i2 := a2 h (Ext.refl h) p.length n (by rw [hp]; simp)
   have k1 := NS h n
   rw [List.all_cons]
   cases hn : Cs n with
   | false =>
     rw [hn] at k1
     right
     refine ⟨rfl, [(2, .int .i64 0), (3, .int .i64 1500)], vN ?_, rfl, rfl⟩
     simp (disch := first | omega | (simp only [ym, OA, OC, w8, Nat.reduceAdd]; first | done | omega | fail) | (simp (disch := first | omega | (simp only [ym, OA, OC, w8, Nat.reduceAdd]; first | done | omega | fail) | fail) only [ym, Ap, OE, OA, OC, w8, Nat.reduceAdd]; done) | fail) only [go_sem, xP, Ec, AP.f93L0, i1, i2, k1]
   | true =>
     rw [hn] at k1
     rw [Bool.true_and]
     simp only [Cs, OK] at hn
     have k2 : ∀ g, aS AP.A 104 [.int .i64 n, .int .i64 4] g = some (.str (bytesOf (xV n.toNat 4)), g) := fun g => by
      have := Ao g n.toNat 4 (by omega) (by omega)
      rw [show ((n.toNat : Nat) : Int) = n by omega] at this; exact this
     have k3 := EN h (bytesOf (xV n.toNat 4)) a ha (by rw [yd, xR]; omega)
     have n1 : ((p.length + 1 : Nat) : Int) = (p.length : Int) + 1 := by omega
     have ih := CL hl h rd q (p ++ [n]) (yw a (bytesOf (xV n.toNat 4))) (by rw [hp]; simp) (AQ _ _)
     rw [xD, show [n].length = 1 from rfl, n1, Ae, yS] at ih
     rcases ih with ⟨g1, e', r1, r2⟩ | ⟨g1, e', r1, r2⟩
     · left
       refine ⟨g1, e', vp ?_ r1, r2⟩
       simp (disch := first | omega | (simp only [ym, OA, OC, w8, Nat.reduceAdd]; first | done | omega | fail) | (simp (disch := first | omega | (simp only [ym, OA, OC, w8, Nat.reduceAdd]; first | done | omega | fail) | fail) only [ym, Ap, OE, OA, OC, w8, Nat.reduceAdd]; done) | fail) only [go_sem, xP, Ec, AP.f93L0, i1, i2, k1, k2, k3]
     · right
       refine ⟨g1, e', vp ?_ r1, r2⟩
       simp (disch := first | omega | (simp only [ym, OA, OC, w8, Nat.reduceAdd]; first | done | omega | fail) | (simp (disch := first | omega | (simp only [ym, OA, OC, w8, Nat.reduceAdd]; first | done | omega | fail) | fail) only [ym, Ap, OE, OA, OC, w8, Nat.reduceAdd]; done) | fail) only [go_sem, xP, Ec, AP.f93L0, i1, i2, k1, k2, k3]
theorem Hc (h : H) (v : AV) (l : List Int) (rd : Rd h v (ints l)) (hl : l.length < 1125899906842624) : aS AP.A 93 [v] h = some (NY (DZ l), h) := by
 have rd' := rd.mono (xQ h)
 have ln := rd'.len
 rw [qZ] at ln
 simp only [I] at ln
 unfold DZ
 rcases CL hl h.eJ rd' l [] 0 rfl (by omega) with ⟨g1, e', r1, r2⟩ | ⟨g1, e', r1, r2, r3⟩
 · rw [if_pos g1]
   have r1' : Lp AP.A [4, 7, 8, 9] AP.f93L0 [(4, .int .i64 0), (7, v), (8, .int .i64 l.length), (9, .int .i64 0)] h.eJ = some (.exit 0, e', h.eJ) := r1
   have r2' : look e' 4 = .int .i64 (zR (Bj l)) := by rw [r2, ← BT (Ha l)]; rfl
   refine vX (fn := AP.f93) (h2 := h.eJ) (e := [(2, .int .i64 (zR (Bj l))), (3, .int .i64 0)]) rfl rfl rfl ?_ rfl rfl
   simp (disch := first | omega | (simp only [ym, OA, OC, w8, Nat.reduceAdd]; first | done | omega | fail) | (simp (disch := first | omega | (simp only [ym, OA, OC, w8, Nat.reduceAdd]; first | done | omega | fail) | fail) only [ym, Ap, OE, OA, OC, w8, Nat.reduceAdd]; done) | fail) only [go_sem, xP, Ec, AP.f93, ln, uz, r1', r2']
 · rw [if_neg (by rw [g1]; decide)]
   have r1' : Lp AP.A [4, 7, 8, 9] AP.f93L0 [(4, .int .i64 0), (7, v), (8, .int .i64 l.length), (9, .int .i64 0)] h.eJ = some (.ret, e', h.eJ) := r1
   refine vX (fn := AP.f93) (h2 := h.eJ) (e := e') rfl rfl rfl ?_ (by simp only [AP.f93, cT, oS, r2, r3]; rfl) rfl
   simp (disch := first | omega | (simp only [ym, OA, OC, w8, Nat.reduceAdd]; first | done | omega | fail) | (simp (disch := first | omega | (simp only [ym, OA, OC, w8, Nat.reduceAdd]; first | done | omega | fail) | fail) only [ym, Ap, OE, OA, OC, w8, Nat.reduceAdd]; done) | fail) only [go_sem, xP, Ec, AP.f93, ln, uz, r1']
def Me (e : yD) : Nat := 128 + 2 * e.name.size + e.packed.size
def CU : List yD → Nat
 | [] => 0
 | e :: l => Me e + CU l
theorem Fs (a b : List yD) : CU (a ++ b) = CU a + CU b := by
 induction a with
 | nil => simp [CU]
 | cons x a ih => rw [List.cons_append, CU, CU, ih]; omega
def zk (l : List yD) : Nat := 22 + CU l
def yW (l : List yD) : Bool := zG l && l.all y0
theorem D3 : ∀ {l : List yD} {p : Option yD}, Bt p l = true → ∀ e ∈ l, yT e.name = true ∧ yB e = true ∧ yN e = true
 | [], _, _, e, h => by cases h
 | x :: l, p, hm, e, h => by
   rw [Bt, wW] at hm
   rcases xz.1 h with rfl | h
   · have := hm.1
     unfold AL at this
     simp only [wW] at this
     exact ⟨this.1, this.2.2.1, this.2.2.2⟩
   · exact D3 hm.2 e h
theorem BR {e : yD} (h : yN e = true) : e.packed.size ≤ 300 := by
 unfold yN at h
 split at h
 · simp only [wW] at h
   have := (FV _).1 h.2.1
   omega
 · simp only [wW, xm, OK] at h
   omega
theorem zM {s : ByteArray} (h : yT s = true) : 1 ≤ s.size ∧ s.size ≤ 8 := by
 unfold yT at h
 simp only [wW, OK] at h
 omega
theorem HD : ∀ {l : List yD}, (∀ e ∈ l, yT e.name = true ∧ yB e = true ∧ yN e = true) → CU l ≤ 444 * l.length
 | [], _ => by simp [CU]
 | e :: l, h => by
   have i := HD (l := l) fun x hx => h x (by simp [hx])
   obtain ⟨h1, _, h3⟩ := h e (by simp)
   have := zM h1
   have := BR h3
   rw [CU, OA]; unfold Me; omega
theorem yQ {l : List yD} (h : zG l = true) : l.length ≤ 6 ∧ (∀ e ∈ l, yT e.name = true ∧ yB e = true ∧ yN e = true) ∧ zk l ≤ 4096 := by
 unfold zG at h
 simp only [wW, OK] at h
 have a := D3 h.1
 have := HD a
 exact ⟨h.2, a, by unfold zk; omega⟩
def Gi (e : yD) : Nat := yo e.name % 8
def Kk (e : yD) : Int := ((zR (DP e) : Nat) : Int)
def zw (l : List yD) (b : Nat) : List Int := (l.filter fun e => Gi e == b).map Kk
theorem FK (l : List yD) (e : yD) (b : Nat) : zw (l ++ [e]) b = if Gi e = b then zw l b ++ [Kk e] else zw l b := by
 unfold zw
 rw [List.filter_append, OS]
 by_cases c : Gi e = b
 · rw [if_pos c]; simp [c]
 · rw [if_neg c]; simp [c]
theorem DJ (l : List yD) (b : Nat) : (zw l b).length ≤ l.length := by
 unfold zw; rw [OI]; exact List.length_filter_le _ _
theorem HU (l : List yD) (b : Nat) : (zw l b).all Cs = true := by
 unfold zw
 rw [List.all_map, List.all_eq_true]
 intro e _
 have := Ei (DP e)
 simp [Function.comp, Cs, Kk]
 omega
def yu (l : List Int) : Int := ((zR (Bj l) : Nat) : Int)
theorem G9 {l : List Int} (h : l.all Cs = true) : DZ l = some (zR (Bj l)) := by unfold DZ; rw [if_pos h]
theorem Hb (l : List Int) : Cs (yu l) = true := by
 have := Ei (Bj l)
 simp [Cs, yu]
 omega
def yK (l : List yD) : List Int := (List.range 8).map fun b => yu (zw l b)
theorem y7 (l : List yD) : (yK l).length = 8 := by simp [yK]
theorem GI (l : List yD) : (yK l).all Cs = true := by
 unfold yK
 rw [List.all_map, List.all_eq_true]
 exact fun b _ => Hb _
def AG : Option Int → List Int → Bool
 | _, [] => true
 | p, b :: l => (decide (0 ≤ b) && (decide (b < 8) && (match p with | none => true | some q => decide (q < b)))) && AG (some b) l
def zO (l : List Int) : Bool := AG none l
abbrev Ol := ByteArray × List Int
def yU (l : List yD) (bs : List Int) : List Ol := (l.filter fun e => bs.contains ((Gi e : Nat) : Int)).map fun e => (e.name, e.vec)
structure Bu (h : H) (A : Nat) (C : Nat → AV) (ls : Nat → List Int) : Prop where
 get : h.get A = some (o7 8 C)
 fl : h.floor ≤ A
 nx : h.floor ≤ h.next
 own : ∀ n, n < 8 → yh 1 h (C n) (ls n).length (ints (ls n))
 IK : ∀ n m, n < 8 → m < 8 → n ≠ m → ∀ i, (C n).id? = some i → (C m).id? ≠ some i
 gt : ∀ n, n < 8 → ∀ i, (C n).id? = some i → A < i
theorem Bu.mono {h g : H} {A : Nat} {C : Nat → AV} {ls : Nat → List Int} (b : Bu h A C ls) (hf : g.floor = h.floor) (hn : h.next ≤ g.next) (hg : ∀ i, i < h.next → g.get i = h.get i) : Bu g A C ls :=
 ⟨by rw [hg A (h.lt _ _ b.get)]; exact b.get, by rw [hf]; exact b.fl, by rw [hf]; exact xA b.nx hn, fun n hn' => (b.own n hn').mono hf fun i q => hg i ((b.own n hn').lt q).2, b.IK, b.gt⟩
theorem Bu.push {h : H} {A : Nat} {C : Nat → AV} {ls : Nat → List Int} (b : Bu h A C ls) {n : Nat} (hn : n < 8) (hl : (ls n).length < 1000000) (x : Int) :
 ∃ v' h', mC (h.alloc [.int .i64 x]) 1 8 (C n) (.aF h.next 0 1 1) = some (v', h') ∧ v'.sc = true ∧ h'.get A = some (o7 8 C) ∧ h'.floor = h.floor ∧ h.next ≤ h'.next ∧
   Bu (h'.set A (o7 8 (v9 C n v'))) A (v9 C n v') (fun m => if m = n then ls n ++ [x] else ls m) ∧ ∀ i, i < A → h'.get i = h.get i := by
 have o := b.own n hn
 obtain ⟨v', h', p1, p2, p3, p4, p5, p6⟩ := o.push b.nx (z := 8) (m := 1) (by omega) (by omega) [.int .i64 x] rfl rfl (by simp [roomy]; omega)
 have hA := h.lt _ _ b.get
 have nA : (C n).id? ≠ some A := fun q => by have := b.gt n hn A q; omega
 have gA : h'.get A = some (o7 8 C) := by rw [p5 A nA hA]; exact b.get
 refine ⟨v', h', p1, p2.sc, gA, p3, by omega, ⟨by rw [yg rfl, gA]; rfl, by simp [p3, b.fl], by simp [p3]; have := b.nx; omega, fun m hm => ?_, fun m k hm hk hmk i q => ?_, fun m hm i q => ?_⟩, fun i hi => p5 i (fun q => by have := b.gt n hn i q; omega) (by omega)⟩
 · by_cases c : m = n
   · subst c
     have e : ints (ls m) ++ [.int .i64 x] = ints (ls m ++ [x]) := by simp [ints, I]
     rw [e] at p2
     simp only [v9, if_true, xD, List.length_singleton]
     exact p2.mono (by simp) fun i q => by rw [xY]; rw [p6] at q; have := wL q; omega
   · simp only [v9, if_neg c]
     refine (b.own m hm).mono (by simp [p3]) fun i q => ?_
     have h1 := ((b.own m hm).lt q).2
     have h2 := b.gt m hm i q
     rw [xY (by omega), p5 i (fun q2 => b.IK m n hm hn c i q q2) h1]
 · unfold v9 at q ⊢
   by_cases c1 : m = n
   · rw [if_pos c1, p6] at q
     have e := wL q
     rw [if_neg (by omega)]
     intro q2
     have := ((b.own k hk).lt q2).2
     omega
   · rw [if_neg c1] at q
     by_cases c2 : k = n
     · rw [if_pos c2, p6]
       intro q2
       have e := wL q2
       have := ((b.own m hm).lt q).2
       omega
     · rw [if_neg c2]
       exact b.IK m k hm hk hmk i q
 · unfold v9 at q
   by_cases c : m = n
   · rw [if_pos c, p6] at q
     have e := wL q
     omega
   · rw [if_neg c] at q
     exact b.gt m hm i q
theorem Bu.new {h : H} (hf : h.floor ≤ h.next) : Bu (h.alloc (o7 8 fun _ => .aQ)) h.next (fun _ => .aQ) (fun _ => []) :=
 ⟨xL rfl, by simpa using hf, by simp; omega, fun n _ => yh.nil, fun n m _ _ _ i q => (by cases q), fun n _ i q => (by cases q)⟩
theorem zf.Bl {n : Nat} {h g : H} {v : AV} {k : Nat} {cs : List AV} (r : zf n h v k cs) (hg : ∀ i, v.id? = some i → g.get i = h.get i) : zf n g v k cs := by
 obtain ⟨r, hl, hs⟩ := r
 refine ⟨?_, hl, hs⟩
 unfold aT at r ⊢
 split at r
 · exact r
 · exact r
 · rename_i id off len s
   split at r
   · rename_i q
     rw [if_pos q, hg id rfl]; exact r
   · cases r
 · exact r
 · cases r
theorem Rd.Bl {h g : H} {v : AV} {cs : List AV} (r : Rd h v cs) (hg : ∀ i, v.id? = some i → g.get i = h.get i) : Rd g v cs := by
 have := r.LR.Bl hg
 exact ⟨this.1, this.2.2⟩
theorem ze.Bl {h g : H} {x : xZ} (o : ze h x) (hg : ∀ i, x.2.id? = some i → g.get i = h.get i) : ze g x := ⟨o.vec.Bl hg, o.vl, o.nl, o.pl⟩
theorem EJ (l : List xZ) (x : xZ) : xW (l ++ [x]) = xW l ++ xO x.1 x.2 := by simp [xW, Ko]
theorem zf.Na {h : H} {v : AV} {l : List xZ} (rd : zf 9 h v l.length (xW l)) : ∃ ad : Int → Nat → AV, (∀ i : Int, 0 ≤ i ∧ i < l.length → gS 9 v (.int .i64 i) = some (ad i 0)) ∧
 (∀ g, Ext h g → ∀ (i : Nat) (x : xZ), l[i]? = some x → PE g (ad i 0) (xO x.1 x.2) ∧ bZ true 9 (ad i 0) g = some (.agg (xO x.1 x.2))) := by
 obtain ⟨ad, a1, a2, a4, a3⟩ := rd.at_
 refine ⟨ad, a1, fun g hg i x hx => ?_⟩
 have hi : i < l.length := (wR.1 hx).1
 have hI : (0 : Int) ≤ (i : Int) ∧ (i : Int) < l.length := ⟨by omega, by omega⟩
 refine ⟨⟨fun g' => a4 _ 0 g' hI, fun k => ad i (0 + k), fun k => a2 _ 0 k hI, fun g' hg' k c hc => ?_⟩, ?_⟩
 · have hk : k < 9 := (wR.1 hc).1
   refine (a3 g' (fun id c q => hg' id c (hg id c q))).1 _ _ _ hI ?_
   rw [zq, w8, show xW l = l.flatMap Ko from rfl, BW Bz hx hk]; exact hc
 · rw [(a3 g hg).2 _ hI, zq, show xW l = l.flatMap Ko from rfl, Fc Bz hx]; rfl
theorem FB {v : AV} {l : List xZ} (h : H) (b : Nat) (hb : h.get b = some [v]) (rd : zf 9 h v l.length (xW l)) (hm : zG (l.map (·.1)) = true) : ∀ (q p : List xZ), l = p ++ q →
 ∃ e', Lp AP.A [0, 3, 10, 11] AP.f192L0 [(0, .aE b 0), (3, .int .i64 (22 + CU (p.map (·.1)) : Nat)), (10, .int .i64 l.length), (11, .int .i64 p.length)] h = some (.exit 0, e', h) ∧ look e' 3 = .int .i64 (zk (l.map (·.1)) : Nat)
 | [], p, hp => by
   rw [OJ] at hp; subst hp
   refine ⟨[(0, .aE b 0), (3, .int .i64 (22 + CU (l.map (·.1)) : Nat)), (10, .int .i64 l.length), (11, .int .i64 l.length), (12, .bool false)], vo ?_, rfl⟩
   simp (disch := omega) only [go_sem, xP, AP.f192L0]
 | x :: q, p, hp => by
   obtain ⟨m1, m2, m3⟩ := yQ hm
   have hx : l[p.length]? = some x := by rw [hp]; simp
   have hlen : l.length = p.length + (q.length + 1) := by rw [hp]; simp
   rw [OI] at m1
   obtain ⟨_, _, c3⟩ := m2 x.1 (by rw [hp]; simp)
   have c1 := zM (m2 x.1 (by rw [hp]; simp)).1
   have c2 := BR c3
   obtain ⟨ad, a1, a2⟩ := rd.Na
   have b1 := a1 p.length ⟨by omega, by omega⟩
   obtain ⟨pe, _⟩ := a2 h (Ext.refl h) p.length x hx
   have nl := pe.nil
   obtain ⟨qq, f1, f2⟩ := pe.vz
   have l0 := f2 h (Ext.refl h) 0 _ rfl
   have l6 := f2 h (Ext.refl h) 6 _ rfl
   obtain ⟨e', r1, r2⟩ := FB h b hb rd hm q (p ++ [x]) (by rw [hp]; simp)
   have sz : zk (l.map (·.1)) = 22 + (CU (p.map (·.1)) + (Me x.1 + CU (q.map (·.1)))) := by unfold zk; rw [hp, OS, Fs, OU, CU]
   have e1 : 22 + CU ((p ++ [x]).map (·.1)) = 22 + CU (p.map (·.1)) + Me x.1 := by rw [OS, Fs]; simp [CU]; omega
   have n1 : ((p ++ [x]).length : Int) = (p.length : Int) + 1 := by simp
   rw [e1, n1] at r1
   have se : Me x.1 = 128 + 2 * x.1.name.size + x.1.packed.size := rfl
   obtain ⟨N, hN⟩ : ∃ N, N = 22 + CU (p.map (·.1)) := ⟨_, rfl⟩
   rw [← hN] at r1 ⊢
   have hN2 : N ≤ 4096 := by omega
   have w : (N : Int) + (76 + 2 * ((x.1.name.size : Int) + 26) + (x.1.packed.size : Int)) = ((N + Me x.1 : Nat) : Int) := by omega
   refine ⟨e', vp ?_ r1, r2⟩
   clear r1 r2 e1 sz hN rd a1 a2 f2 pe m2 m3 hm hp n1
   simp (disch := omega) only [go_sem, xP, AP.f192L0, hb, b1, nl, f1, l0, l6, w]
theorem IC {v : AV} {l : List xZ} (h : H) (b : Nat) (hb : h.get b = some [v]) (rd : zf 9 h v l.length (xW l)) (hm : zG (l.map (·.1)) = true) : aS AP.A 192 [.aE b 0] h = some (.int .i64 (zk (l.map (·.1)) : Nat), h) := by
 obtain ⟨e', r1, r2⟩ := FB h b hb rd hm l [] rfl
 have ln := rd.len
 have r1' : Lp AP.A [0, 3, 10, 11] AP.f192L0 [(0, .aE b 0), (3, .int .i64 22), (10, .int .i64 l.length), (11, .int .i64 0)] h = some (.exit 0, e', h) := r1
 clear rd r1 hm
 generalize zk (l.map (·.1)) = N at *
 refine vG (fn := AP.f192) (h2 := h) (e := [(2, .int .i64 N)]) (vs := [.int .i64 N]) rfl rfl rfl ?_ rfl
 simp (disch := omega) only [go_sem, xP, AP.f192, hb, ln, uz, r1', r2]
theorem A7 (v : AV) : iT true 1 [v] 0 = some (.agg [v]) := rfl
theorem IB (h : H) (v : AV) (l : List xZ) (hvs : v.sc = true) (hn : l.length < 1125899906842624) (rd : zf 9 h v l.length (xW l)) (hv : ∀ x ∈ l, ze h x) : aS AP.A 190 [.agg [v]] h = some (.int .i64 (if zG (l.map (·.1)) = true then (zk (l.map (·.1)) : Nat) else (0 : Nat) : Nat), h) := by
 obtain ⟨h1, eh1⟩ : ∃ g, g = h.eJ.alloc [v] := ⟨_, rfl⟩
 have hx0 : Ext h h1 := by rw [eh1]; exact fun i c q => ((Ext.refl h.eJ).alloc _) i c q
 have hn0 : h.eJ.next = h.next := rfl
 have g1 : h1.get h.next = some [v] := by rw [eh1]; exact xL rfl
 have rd1 := rd.mono fun i c q => hx0 i c q
 have k1 := HK h1 v l hvs hn rd1 (fun x hx => (hv x hx).mono hx0)
 cases hm : zG (l.map (·.1)) with
 | false =>
   rw [hm] at k1
   refine vX (fn := AP.f190) (h2 := h1) (e := [(2, .int .i64 0)]) (vs := [.int .i64 0]) rfl rfl rfl ?_ rfl rfl
   clear rd rd1 hv hx0
   simp (disch := omega) only [go_sem, xP, AP.f190, hvs, hn0, ← eh1, g1, A7, k1]
 | true =>
   rw [hm] at k1
   have k2 := IC h1 h.next g1 rd1 hm
   refine vX (fn := AP.f190) (h2 := h1) (e := [(2, .int .i64 (zk (l.map (·.1)) : Nat))]) (vs := [.int .i64 (zk (l.map (·.1)) : Nat)]) rfl rfl rfl ?_ rfl rfl
   clear rd rd1 hv hx0
   simp (disch := omega) only [go_sem, xP, AP.f190, hvs, hn0, ← eh1, g1, A7, k1, k2]
theorem LH (h : H) (v : AV) (l : List xZ) (hvs : v.sc = true) (hn : l.length < 1125899906842624) (rd : zf 9 h v l.length (xW l)) (hv : ∀ x ∈ l, ze h x) : aS AP.A 186 [.agg [v]] h = some (.bool (zG (l.map (·.1))), h) := by
 obtain ⟨h1, eh1⟩ : ∃ g, g = h.eJ.alloc [v] := ⟨_, rfl⟩
 have hx0 : Ext h h1 := by rw [eh1]; exact fun i c q => ((Ext.refl h.eJ).alloc _) i c q
 have hn0 : h.eJ.next = h.next := rfl
 have g1 : h1.get h.next = some [v] := by rw [eh1]; exact xL rfl
 have rd1 := rd.mono fun i c q => hx0 i c q
 have k1 := IB h1 v l hvs hn rd1 (fun x hx => (hv x hx).mono hx0)
 cases hm : zG (l.map (·.1)) with
 | false =>
   rw [hm] at k1
   have k1' : aS AP.A 190 [.agg [v]] h1 = some (.int .i64 0, h1) := k1
   refine vX (fn := AP.f186) (h2 := h1) (e := [(2, .bool false)]) (vs := [.bool false]) rfl rfl rfl ?_ rfl rfl
   clear rd rd1 hv hx0
   simp (disch := omega) only [go_sem, xP, AP.f186, hvs, hn0, ← eh1, g1, A7, k1']
 | true =>
   rw [hm] at k1
   have k1' : aS AP.A 190 [.agg [v]] h1 = some (.int .i64 (zk (l.map (·.1)) : Nat), h1) := k1
   have m3 := (yQ hm).2.2
   have m4 : 22 ≤ zk (l.map (·.1)) := by unfold zk; omega
   generalize zk (l.map (·.1)) = N at *
   refine vX (fn := AP.f186) (h2 := h1) (e := [(2, .bool true)]) (vs := [.bool true]) rfl rfl rfl ?_ rfl rfl
   clear rd rd1 hv hx0 k1 hm
   simp (disch := omega) only [go_sem, xP, AP.f186, hvs, hn0, ← eh1, g1, A7, k1']
theorem Ks (h : H) (hf : h.floor ≤ h.next) (e : yD) (v : AV) (hv : v.sc = true) (ok : ze h (e, v)) : aS AP.A 188 [.agg (xO e v)] h = some (.bool (!y0 e), h) := by
 obtain ⟨h1, eh1⟩ : ∃ g, g = h.eJ.alloc (xO e v) := ⟨_, rfl⟩
 have hx1 : Ext h h1 := fun i c q => by rw [eh1]; exact ((Ext.refl h.eJ).alloc _) i c q
 have hn0 : h.eJ.next = h.next := rfl
 have g0 : h1.get h.next = some (xO e v) := by rw [eh1, xL (by simp)]
 have k1 := GO h1 (by rw [eh1]; simp) e v hv (ok.mono hx1)
 have rdA : iT true 9 (xO e v) 0 = some (.agg (xO e v)) := rfl
 refine vX (fn := AP.f188) (h2 := h1) (e := [(2, .bool (!y0 e))]) rfl rfl rfl ?_ rfl rfl
 clear hx1
 simp only [xO] at *
 simp (disch := omega) only [go_sem, xP, AP.f188, hv, hn0, ← eh1, g0, rdA, k1]
theorem Fe {v : AV} {l : List xZ} (hl : l.length < 1000) (h : H) (hf : h.floor ≤ h.next) (rd : zf 9 h v l.length (xW l)) (hv : ∀ x ∈ l, ze h x ∧ x.2.sc = true) : ∀ (q p : List xZ), l = p ++ q →
 (∃ e', Lp AP.A [0, 1, 7, 8] AP.f191L0 [(0, v), (1, .fn 188 [] []), (7, .int .i64 l.length), (8, .int .i64 p.length)] h = some (.exit 0, e', h) ∧ (q.map (·.1)).all y0 = true) ∨
 (∃ e', Lp AP.A [0, 1, 7, 8] AP.f191L0 [(0, v), (1, .fn 188 [] []), (7, .int .i64 l.length), (8, .int .i64 p.length)] h = some (.ret, e', h) ∧ (∃ k : Nat, look e' 4 = .int .i64 k) ∧ (q.map (·.1)).all y0 = false)
 | [], p, hp => by
   rw [OJ] at hp; subst hp
   refine .inl ⟨[(0, v), (1, .fn 188 [] []), (7, .int .i64 l.length), (8, .int .i64 l.length), (9, .bool false)], vo ?_, rfl⟩
   simp (disch := omega) only [go_sem, xP, AP.f191L0]
 | x :: q, p, hp => by
   have hx : l[p.length]? = some x := by rw [hp]; simp
   have hlen : l.length = p.length + (q.length + 1) := by rw [hp]; simp
   obtain ⟨ad, a1, a2⟩ := rd.Na
   have b1 := a1 p.length ⟨by omega, by omega⟩
   obtain ⟨_, b2⟩ := a2 h (Ext.refl h) p.length x hx
   obtain ⟨ok, sc⟩ := hv x (by rw [hp]; simp)
   have k1 := Ks h hf x.1 x.2 sc ok
   have n1 : ((p ++ [x]).length : Int) = (p.length : Int) + 1 := by simp
   have ih := Fe hl h hf rd hv q (p ++ [x]) (by rw [hp]; simp)
   rw [n1] at ih
   rw [OU, List.all_cons]
   cases hm : y0 x.1 with
   | false =>
     rw [hm] at k1
     refine .inr ⟨[(4, .int .i64 p.length)], vN ?_, ⟨p.length, rfl⟩, rfl⟩
     clear ih rd a1 a2 hv hp
     generalize xO x.1 x.2 = E at *
     simp (disch := omega) only [go_sem, xP, AP.f191L0, b1, b2, k1]
   | true =>
     rw [hm] at k1
     rw [Bool.true_and]
     have step : aM (aS AP.A) bH AP.f191L0 (az [(0, v), (1, .fn 188 [] []), (7, .int .i64 l.length), (8, .int .i64 p.length)] [0, 1, 7, 8]) h = some (.normal, [(0, v), (1, .fn 188 [] []), (7, .int .i64 l.length), (8, .int .i64 ((p.length : Int) + 1))], h) := by
      clear ih rd a1 a2 hv hp
      generalize xO x.1 x.2 = E at *
      simp (disch := omega) only [go_sem, xP, AP.f191L0, b1, b2, k1]
     rcases ih with ⟨e', r1, r2⟩ | ⟨e', r1, r2, r3⟩
     · exact .inl ⟨e', vp step r1, r2⟩
     · exact .inr ⟨e', vp step r1, r2, r3⟩
theorem Jo (h : H) (hf : h.floor ≤ h.next) (v : AV) (l : List xZ) (hl : l.length < 1000) (rd : zf 9 h v l.length (xW l)) (hv : ∀ x ∈ l, ze h x ∧ x.2.sc = true) : aS AP.A 187 [v, .fn 188 [] []] h = some (.bool (!(l.map (·.1)).all y0), h) := by
 have xf : Ext h h.eJ := fun i c q => q
 have k1 : ∃ k : Int, aS AP.A 191 [v, .fn 188 [] []] h.eJ = some (.int .i64 k, h.eJ) ∧ (k < 0 ↔ (l.map (·.1)).all y0 = true) := by
  have ln := rd.len
  rcases Fe hl h.eJ.eJ (by simp) (rd.mono fun i c q => xf i c q) (fun x hx => ⟨(hv x hx).1.mono xf, (hv x hx).2⟩) l [] rfl with ⟨e', r1, r2⟩ | ⟨e', r1, ⟨k, r2⟩, r3⟩
  · have r1' : Lp AP.A [0, 1, 7, 8] AP.f191L0 [(0, v), (1, .fn 188 [] []), (7, .int .i64 l.length), (8, .int .i64 0)] h.eJ.eJ = some (.exit 0, e', h.eJ.eJ) := r1
    refine ⟨-1, vX (fn := AP.f191) (h2 := h.eJ.eJ) (e := [(4, .int .i64 (-1))]) rfl rfl rfl ?_ rfl rfl, by rw [r2]; simp⟩
    clear rd hv r1 r2
    simp (disch := omega) only [go_sem, xP, AP.f191, ln, uz, r1']
  · have r1' : Lp AP.A [0, 1, 7, 8] AP.f191L0 [(0, v), (1, .fn 188 [] []), (7, .int .i64 l.length), (8, .int .i64 0)] h.eJ.eJ = some (.ret, e', h.eJ.eJ) := r1
    refine ⟨k, vX (fn := AP.f191) (h2 := h.eJ.eJ) (e := e') (vs := [.int .i64 k]) rfl rfl rfl ?_ (by simp only [AP.f191, cT, oS, r2]; rfl) rfl, by rw [r3]; simp⟩
    clear rd hv r1 r2 r3
    simp (disch := omega) only [go_sem, xP, AP.f191, ln, uz, r1']
 obtain ⟨k, k1, k2⟩ := k1
 refine vX (fn := AP.f187) (h2 := h.eJ) (e := [(4, .bool (!(l.map (·.1)).all y0))]) rfl rfl rfl ?_ rfl rfl
 cases ha : (l.map (·.1)).all y0 with
 | true =>
   have : ¬ 0 ≤ k := by have := k2.2 ha; omega
   clear rd hv k2
   simp (disch := omega) only [go_sem, xP, AP.f187, k1]
 | false =>
   have : 0 ≤ k := by
    rw [ha] at k2
    have : ¬ k < 0 := fun q => by cases k2.1 q
    omega
   clear rd hv k2
   simp (disch := omega) only [go_sem, xP, AP.f187, k1]
theorem GS (h : H) (v : AV) (l : List xZ) (hvs : v.sc = true) (hn : l.length < 1125899906842624) (rd : zf 9 h v l.length (xW l)) (hv : ∀ x ∈ l, ze h x ∧ x.2.sc = true) : aS AP.A 183 [.agg [v]] h = some (.bool (yW (l.map (·.1))), h) := by
 obtain ⟨h1, eh1⟩ : ∃ g, g = h.eJ.alloc [v] := ⟨_, rfl⟩
 have hx0 : Ext h h1 := by rw [eh1]; exact fun i c q => ((Ext.refl h.eJ).alloc _) i c q
 have hn0 : h.eJ.next = h.next := rfl
 have g1 : h1.get h.next = some [v] := by rw [eh1]; exact xL rfl
 have rd1 := rd.mono fun i c q => hx0 i c q
 have k1 := LH h1 v l hvs hn rd1 (fun x hx => (hv x hx).1.mono hx0)
 refine vX (fn := AP.f183) (h2 := h1) (e := [(2, .bool (yW (l.map (·.1))))]) rfl rfl rfl ?_ rfl rfl
 unfold yW
 cases hm : zG (l.map (·.1)) with
 | false =>
   rw [hm] at k1
   clear rd rd1 hv hx0
   simp (disch := omega) only [go_sem, xP, AP.f183, hvs, hn0, ← eh1, g1, A7, k1]
 | true =>
   rw [hm] at k1
   have m1 := (yQ hm).1
   rw [OI] at m1
   have k2 := Jo h1 (by rw [eh1]; simp) v l (by omega) rd1 (fun x hx => ⟨(hv x hx).1.mono hx0, (hv x hx).2⟩)
   clear rd rd1 hv hx0
   generalize (l.map (·.1)).all y0 = B at *
   cases B <;> simp (disch := omega) only [go_sem, xP, AP.f183, hvs, hn0, ← eh1, g1, A7, k1, k2]
structure Jh (n : Nat) (h : H) (w : AV) (h' : H) (k : Nat) (cs : List AV) : Prop where
 own : yh n h' w k cs
 ext : Ext h h'
 fl : h'.floor = h.floor
 nx : h.next ≤ h'.next
 ge : ∀ i, w.id? = some i → h.next ≤ i
theorem BN (h : H) (s : ByteArray) (hs : s.size < 1125899906842624) : aS AP.A 179 [.str s] h = some (.int .i64 ((yo s % 8 : Nat) : Int), h) := by
 have k1 := D6 h.eJ s hs
 have rm : bD .rem (.int .i64 (yo s : Int)) (.int .i64 8) = some (.int .i64 ((yo s % 8 : Nat) : Int)) := by
  show (if (8 : Int) = 0 then none else some (AV.int .i64 ((yo s : Int).tmod 8))) = _
  rw [if_neg (by decide), Int.tmod_eq_emod_of_nonneg (by omega)]; rfl
 generalize ((yo s % 8 : Nat) : Int) = M at *
 refine vX (fn := AP.f179) (h2 := h.eJ) (e := [(2, .int .i64 M)]) rfl rfl rfl ?_ rfl rfl
 simp (disch := omega) only [go_sem, xP, AP.f179, k1, rm]
theorem Ef {v : AV} (h : v.sc = true) : v.cells = [v] := by cases v <;> first | rfl | cases h
theorem EY {v : AV} {l : List xZ} (h0 : H) (rd : zf 9 h0 v l.length (xW l)) (hv : ∀ x ∈ l, ze h0 x ∧ x.2.sc = true) (hm : yW (l.map (·.1)) = true) (A : Nat) (hA : h0.next ≤ A) : ∀ (q p : List xZ), l = p ++ q → ∀ (h : H) (C : Nat → AV), Ext h0 h → h0.next ≤ h.next → Bu h A C (zw (p.map (·.1))) →
 ∃ e' h' C', Lp AP.A [4, 19, 20, 21] AP.f177L1 [(4, .aE A 0), (19, v), (20, .int .i64 l.length), (21, .int .i64 p.length)] h = some (.exit 0, e', h') ∧ look e' 4 = .aE A 0 ∧ Bu h' A C' (zw (l.map (·.1))) ∧ Ext h0 h' ∧ h'.floor = h.floor ∧ h.next ≤ h'.next
 | [], p, hp, h, C, hx, hn, bu => by
   rw [OJ] at hp; subst hp
   refine ⟨[(4, .aE A 0), (19, v), (20, .int .i64 l.length), (21, .int .i64 l.length), (22, .bool false)], h, C, vo ?_, rfl, bu, hx, rfl, wV _⟩
   simp (disch := omega) only [go_sem, xP, AP.f177L1]
 | x :: q, p, hp, h, C, hx, hn, bu => by
   unfold yW at hm
   have hm' := hm
   rw [wW] at hm
   obtain ⟨m1, m2, m3⟩ := yQ hm.1
   rw [OI] at m1
   have hl : l[p.length]? = some x := by rw [hp]; simp
   have hlen : l.length = p.length + (q.length + 1) := by rw [hp]; simp
   have may : y0 x.1 = true := List.all_eq_true.1 hm.2 x.1 (by rw [hp]; simp)
   have nsz := zM (m2 x.1 (by rw [hp]; simp)).1
   obtain ⟨ad, a1, a2⟩ := rd.Na
   have b1 := a1 p.length ⟨by omega, by omega⟩
   obtain ⟨_, b2⟩ := a2 h hx p.length x hl
   obtain ⟨ok, sc⟩ := hv x (by rw [hp]; simp)
   obtain ⟨E, hE⟩ : ∃ E, E = xO x.1 x.2 := ⟨_, rfl⟩
   have lE : E.length = 9 := by rw [hE]; rfl
   have cE : AV.aD E = true := by rw [hE]; exact Az sc
   have rE : iT true 9 E 0 = some (.agg E) := by rw [hE]; rfl
   have E0 : E[0]? = some (.str x.1.name) := by rw [hE]; rfl
   obtain ⟨g0, eg0⟩ : ∃ g, g = h.alloc Z9 := ⟨_, rfl⟩
   obtain ⟨g1, eg1⟩ : ∃ g, g = g0.set h.next E := ⟨_, rfl⟩
   have z0 : g0.get h.next = some Z9 := by rw [eg0, xL rfl]
   have st : vZ g0 h.next 0 9 E (some Z9) = some g1 := by rw [eg1]; exact Ah (by rw [eg0]; simp; exact bu.nx) lE rfl cE
   have z1 : g1.get h.next = some E := by rw [eg1, yg rfl, z0]; rfl
   have low : ∀ i, i < h.next → g1.get i = h.get i := fun i hi => by rw [eg1, xY (by omega), eg0, xU (by omega)]
   have f1 : g1.floor = h.floor := by rw [eg1, eg0]; simp
   have n1 : g1.next = h.next + 1 := by rw [eg1, eg0]; simp
   have x1 : Ext h0 g1 := fun i c q => by rw [low i (by have := h0.lt _ _ q; omega)]; exact hx i c q
   have bu1 := bu.mono f1 (by omega) low
   have k1 := GG g1 (by have := bu.nx; omega) x.1 x.2 sc (ok.mono x1)
   unfold Kl at k1
   rw [if_pos may, ← hE] at k1
   have k1' : aS AP.A 91 [.agg E] g1 = some (.bV [.int .i64 (Kk x.1), .int .i64 0], g1) := k1
   have k2 := BN g1 x.1.name (by omega)
   obtain ⟨b, hb⟩ : ∃ b, b = yo x.1.name % 8 := ⟨_, rfl⟩
   have hb8 : b < 8 := by omega
   rw [← hb] at k2
   obtain ⟨v', h', p1, p2, p3, p4, p5, p6, p7⟩ := bu1.push hb8 (by have := DJ (p.map (·.1)) b; rw [OI] at this; omega) (Kk x.1)
   have gC : (o7 8 C)[b]? = some (C b) := gQ hb8
   have hc := Ef p2
   have gA1 := bu1.get
   have st2 : vZ h' A b 1 [v'] (some (o7 8 C)) = some (h'.set A (o7 8 (v9 C b v'))) := by
    rw [wD (by rw [p4]; exact bu1.fl) (by simp [hb8]) p2, vJ hb8]
   have eb : (fun m => if m = b then zw (p.map (·.1)) b ++ [Kk x.1] else zw (p.map (·.1)) m) = zw ((p ++ [x]).map (·.1)) := by
    funext m
    rw [OS, List.map_singleton, FK]
    have : Gi x.1 = b := hb.symm
    rw [this]
    by_cases c : m = b
    · subst c; simp
    · rw [if_neg c, if_neg (by omega)]
   rw [eb] at p6
   obtain ⟨e', h2, C2, r1, r2, r3, r4, r5, r6⟩ := EY h0 rd hv hm' A hA q (p ++ [x]) (by rw [hp]; simp) (h'.set A (o7 8 (v9 C b v'))) _ (fun i c q => by have := h0.lt _ _ q; rw [xY (by omega), p7 i (by omega)]; exact x1 i c q) (by simp; omega) p6
   have w1 : ((p ++ [x]).length : Int) = (p.length : Int) + 1 := by simp
   rw [w1] at r1
   refine ⟨e', h2, C2, vp ?_ r1, r2, r3, r4, by rw [r5]; simp [p4, f1], by simp at r6; omega⟩
   rw [← hE] at b2
   have a0 : h.alloc [.str ⟨#[]⟩, .bool false, .aQ, .int .i64 0, .int .i64 0, .int .i64 0, .str ⟨#[]⟩, .int .i64 0, .int .i64 0] = g0 := eg0.symm
   have pI : (0 : Int) ≤ (b : Int) ∧ (b : Int) < 8 := ⟨by omega, by omega⟩
   clear r1 r2 r3 r4 r5 r6 p6 eb hE hv rd a1 a2 x1 low bu bu1 k1 hx hm hm' m2 hb may hp eg0 eg1
   generalize Kk x.1 = D at *
   generalize o7 8 (v9 C b v') = T2 at *
   generalize o7 8 C = T1 at *
   simp (disch := omega) only [go_sem, xP, AP.f177L1, b1, b2, a0, z0, lE, cE, st, z1, rE, E0, k1', k2, gA1, gC, p1, hc, p3, st2]
theorem ES {f : Nat → Int} (i : Nat) : (List.range (i + 1)).map f = (List.range i).map f ++ [f i] := by rw [List.range_succ, OS]; rfl
theorem DE (h0 : H) (C : Nat → AV) (ls : Nat → List Int) (hb : ∀ m, m < 8 → (ls m).all Cs = true ∧ (ls m).length < 1000000) : ∀ (n i : Nat), i + n = 8 → ∀ (h : H) (ov : AV), (∀ m, m < 8 → Rd h (C m) (ints (ls m))) → yh 1 h ov i (ints ((List.range i).map fun b => yu (ls b))) → h.floor ≤ h.next →
 (∀ m, m < 8 → ∀ j, (C m).id? = some j → ov.id? ≠ some j ∧ j < h.next) → Ext h0 h → h0.next ≤ h.next → (∀ j, ov.id? = some j → h0.next ≤ j) →
 ∃ e' h' ov', Lp AP.A [10, 42, 43] AP.f177L0 [(10, ov), (42, .agg (o7 8 C)), (43, .int .i64 i)] h = some (.exit 2, e', h') ∧ look e' 10 = ov' ∧ yh 1 h' ov' 8 (ints ((List.range 8).map fun b => yu (ls b))) ∧ Ext h0 h' ∧ h'.floor = h.floor ∧ h.next ≤ h'.next ∧ ∀ j, ov'.id? = some j → h0.next ≤ j
 | 0, i, hi, h, ov, iT, o, hf, sep, hx, hn, hge => by
   obtain rfl : i = 8 := by omega
   refine ⟨[(10, ov), (42, .agg (o7 8 C)), (43, .int .i64 8), (44, .bool false)], h, ov, vo ?_, rfl, o, hx, rfl, wV _, hge⟩
   generalize o7 8 C = T at *
   simp (disch := omega) only [go_sem, xP, AP.f177L0]
 | n + 1, i, hi, h, ov, iT, o, hf, sep, hx, hn, hge => by
   obtain ⟨ha, hl⟩ := hb i (by omega)
   have k1 := Hc h (C i) (ls i) (iT i (by omega)) (by omega)
   rw [G9 ha] at k1
   have k1' : aS AP.A 93 [C i] h = some (.bV [.int .i64 (yu (ls i)), .int .i64 0], h) := k1
   obtain ⟨v', h', p1, p2, p3, p4, p5, p6⟩ := o.push hf (z := 8) (m := 1) (by omega) (by omega) [.int .i64 (yu (ls i))] rfl rfl (by simp [roomy]; omega)
   have e : ints ((List.range i).map fun b => yu (ls b)) ++ [.int .i64 (yu (ls i))] = ints ((List.range (i + 1)).map fun b => yu (ls b)) := by rw [ES]; simp [ints, I]
   rw [e] at p2
   have yH : ∀ j, j < h.next → ov.id? ≠ some j → h'.get j = h.get j := fun j a b => p5 j b a
   have gC : nM false 8 1 (.agg (o7 8 C)) (.int .i64 i) = some (C i) := by
    show (dx (.int .i64 (i : Int)) 8).bind _ = _
    rw [Mc ⟨by omega, by omega⟩, wS, zq, OZ]
    exact gQ (by omega)
   obtain ⟨e', h2, ov', r1, r2⟩ := DE h0 C ls hb n (i + 1) (by omega) h' v' (fun m hm => (iT m hm).Bl fun j q => yH j (sep m hm j q).2 (sep m hm j q).1) p2 (by rw [p3]; omega) (fun m hm j q => by
    have := (sep m hm j q).2
    rw [p6]
    exact ⟨fun q2 => by have := wL q2; omega, by omega⟩) (fun j c q => by
     have := h0.lt _ _ q
     rw [yH j (by omega) (fun q2 => by have := hge j q2; omega)]; exact hx j c q) (by omega) (fun j q => by rw [p6] at q; have := wL q; omega)
   have w1 : ((i + 1 : Nat) : Int) = (i : Int) + 1 := by omega
   rw [w1] at r1
   refine ⟨e', h2, ov', vp ?_ r1, r2.1, r2.2.1, r2.2.2.1, by rw [r2.2.2.2.1, p3], by have := r2.2.2.2.2.1; omega, r2.2.2.2.2.2⟩
   have scC : (C i).sc = true := by
    have := iT i (by omega)
    cases hc : C i with
    | bot => rw [hc] at this; cases this.1
    | agg _ => rw [hc] at this; cases this.1
    | bV _ => rw [hc] at this; cases this.1
    | _ => rfl
   clear r1 r2 yH iT o sep hx p2 e hb
   generalize yu (ls i) = D at *
   generalize o7 8 C = T at *
   generalize C i = Ci at *
   simp (disch := omega) only [go_sem, xP, AP.f177L0, gC, k1', p1, wT, xE]
theorem GH (l : List yD) : yK l = (List.range 8).map fun b => yu (zw l b) := rfl
theorem GJ (h : H) (hf : h.floor ≤ h.next) (v : AV) (l : List xZ) (hvs : v.sc = true) (hn : l.length < 1125899906842624) (rd : zf 9 h v l.length (xW l)) (hv : ∀ x ∈ l, ze h x ∧ x.2.sc = true) :
 ∃ w h', aS AP.A 177 [.agg [v]] h = some (.bV [w, .int .i64 (if yW (l.map (·.1)) then 0 else 1600)], h') ∧ Jh 1 h w h' (if yW (l.map (·.1)) then yK (l.map (·.1)) else []).length (ints (if yW (l.map (·.1)) then yK (l.map (·.1)) else [])) := by
 obtain ⟨g1, eg1⟩ : ∃ g, g = h.alloc [v] := ⟨_, rfl⟩
 have hx1 : Ext h g1 := by rw [eg1]; exact (Ext.refl h).alloc _
 have z1 : g1.get h.next = some [v] := by rw [eg1]; exact xL rfl
 have f1 : g1.floor = h.floor := by rw [eg1]; simp
 have n1 : g1.next = h.next + 1 := by rw [eg1]; simp
 have rd1 := rd.mono fun i c q => hx1 i c q
 have hv1 : ∀ x ∈ l, ze g1 x ∧ x.2.sc = true := fun x hx => ⟨(hv x hx).1.mono hx1, (hv x hx).2⟩
 have k1 := GS g1 v l hvs hn rd1 hv1
 have ln := rd1.len
 cases hm : yW (l.map (·.1)) with
 | false =>
   rw [hm] at k1
   refine ⟨.aQ, g1, ?_, ⟨yh.nil, hx1, f1, by omega, fun i q => by cases q⟩⟩
   refine vG (fn := AP.f177) (h2 := g1) (e := [(2, .aQ), (3, .int .i64 1600)]) (vs := [.aQ, .int .i64 1600]) rfl rfl rfl ?_ rfl
   clear rd rd1 hv hv1 hx1
   simp (disch := omega) only [go_sem, xP, AP.f177, hvs, ← eg1, z1, A7, k1]
 | true =>
   rw [hm] at k1
   have m1 := hm
   unfold yW at m1
   rw [wW] at m1
   have m2 := (yQ m1.1).1
   rw [OI] at m2
   obtain ⟨g2, eg2⟩ : ∃ g, g = g1.alloc (o7 8 fun _ => .aQ) := ⟨_, rfl⟩
   have hx2 : Ext g1 g2 := by rw [eg2]; exact (Ext.refl g1).alloc _
   have z2 : g2.get h.next = some [v] := hx2 _ _ z1
   have bu := Bu.new (h := g1) (by omega)
   rw [← eg2] at bu
   obtain ⟨e', g3, C, r1, r2, r3, r4, r5, r6⟩ := EY g1 rd1 hv1 hm g1.next (wV _) l [] rfl g2 (fun _ => .aQ) hx2 (by rw [eg2]; simp) bu
   have r1' : Lp AP.A [4, 19, 20, 21] AP.f177L1 [(4, .aE (h.next + 1) 0), (19, v), (20, .int .i64 l.length), (21, .int .i64 0)] g2 = some (.exit 0, e', g3) := by rw [← n1]; exact r1
   rw [n1] at r2 r3
   have a2 : g1.alloc [.aQ, .aQ, .aQ, .aQ, .aQ, .aQ, .aQ, .aQ] = g2 := eg2.symm
   have z3 := r3.get
   have rT : iT true 8 (o7 8 C) 0 = some (.agg (o7 8 C)) := rfl
   have n2 : g2.next = h.next + 2 := by rw [eg2]; simp [n1]
   have f2 : g2.floor = h.floor := by rw [eg2]; simp [f1]
   obtain ⟨e2, g4, ov, s1, s2, s3, s4, s5, s6, s7⟩ := DE h C (zw (l.map (·.1))) (fun m _ => ⟨HU _ _, by have := DJ (l.map (·.1)) m; rw [OI] at this; omega⟩) 8 0 rfl g3 .aQ (fun m hm => by
    have o := (r3.own m hm).rd
    exact ⟨by have := o.1; rw [qZ]; exact this, o.2.2⟩) yh.nil r3.nx (fun m hm j q => ⟨(fun q2 => by cases q2), ((r3.own m hm).lt q).2⟩) (fun i c q => r4 i c (hx1 i c q)) (by omega) (fun j q => by cases q)
   have s1' : Lp AP.A [10, 42, 43] AP.f177L0 [(10, .aQ), (42, .agg (o7 8 C)), (43, .int .i64 0)] g3 = some (.exit 2, e2, g4) := s1
   refine ⟨ov, g4, ?_, ⟨by rw [if_pos rfl, y7, GH]; exact s3, s4, by rw [s5, r5, f2], by omega, s7⟩⟩
   rw [if_pos rfl]
   refine vG (fn := AP.f177) (h2 := g4) (e := [(2, ov), (3, .int .i64 0)]) (vs := [ov, .int .i64 0]) rfl rfl rfl ?_ rfl
   clear rd rd1 hv hv1 hx1 hx2 r1 s1 s3 s4 r3 bu eg2
   generalize o7 8 C = T at *
   simp (disch := omega) only [go_sem, xP, AP.f177, hvs, ← eg1, z1, n1, A7, k1, a2, z2, ln, uz, r1', r2, z3, rT, s1', s2]
def AX (l : List Int) : AV := if l.all Cs && decide (l.length = 8) then .bV [.int .i64 (yu l), .int .i64 0] else .bV [.int .i64 0, .int .i64 1600]
theorem ET (h : H) (v : AV) (l : List Int) (rd : Rd h v (ints l)) (hl : l.length < 1125899906842624) : aS AP.A 181 [v] h = some (AX l, h) := by
 have xf : Ext h h.eJ := fun i c q => q
 have k1 := Hc h.eJ v l (rd.mono fun i c q => xf i c q) hl
 have r2 := (rd.mono fun i c q => xf i c q : Rd h.eJ v (ints l)).LR
 rw [qZ] at r2
 have ln := r2.len
 unfold AX
 unfold DZ at k1
 cases ha : l.all Cs with
 | false =>
   rw [ha] at k1
   have k1' : aS AP.A 93 [v] h.eJ = some (.bV [.int .i64 0, .int .i64 1500], h.eJ) := k1
   refine vX (fn := AP.f181) (h2 := h.eJ) (e := [(2, .int .i64 0), (3, .int .i64 1600)]) rfl rfl rfl ?_ rfl rfl
   clear rd r2 k1
   simp (disch := omega) only [go_sem, xP, AP.f181, k1', ln]
 | true =>
   rw [ha] at k1
   have k1' : aS AP.A 93 [v] h.eJ = some (.bV [.int .i64 (yu l), .int .i64 0], h.eJ) := k1
   by_cases c : l.length = 8
   · have c' : (l.length : Int) = 8 := by omega
     rw [dt c]
     refine vX (fn := AP.f181) (h2 := h.eJ) (e := [(2, .int .i64 (yu l)), (3, .int .i64 0)]) rfl rfl rfl ?_ rfl rfl
     clear rd r2 k1
     generalize yu l = M at *
     simp (disch := omega) only [go_sem, xP, AP.f181, k1', ln]
   · have c' : ¬ (l.length : Int) = 8 := by omega
     rw [df c]
     refine vX (fn := AP.f181) (h2 := h.eJ) (e := [(2, .int .i64 0), (3, .int .i64 1600)]) rfl rfl rfl ?_ rfl rfl
     clear rd r2 k1
     generalize yu l = M at *
     simp (disch := omega) only [go_sem, xP, AP.f181, k1', ln]
def Ji (p : Option Int) (b : Int) : Bool := decide (0 ≤ b) && (decide (b < 8) && (match p with | none => true | some q => decide (q < b)))
theorem C4 (p : Option Int) (b : Int) (l : List Int) : AG p (b :: l) = (Ji p b && AG (some b) l) := by cases p <;> (rw [AG]; rfl)
theorem EZ {v : AV} {l : List Int} (hl : l.length < 1125899906842624) (h : H) (rd : Rd h v (ints l)) : ∀ (q p : List Int), l = p ++ q →
 (∃ e', Lp AP.A [0, 5, 6, 7] AP.f184L0 [(0, v), (5, v), (6, .int .i64 l.length), (7, .int .i64 p.length)] h = some (.exit 0, e', h) ∧ AG p.getLast? q = true) ∨
 (∃ e', Lp AP.A [0, 5, 6, 7] AP.f184L0 [(0, v), (5, v), (6, .int .i64 l.length), (7, .int .i64 p.length)] h = some (.ret, e', h) ∧ look e' 2 = .bool false ∧ AG p.getLast? q = false)
 | [], p, hp => by
   rw [OJ] at hp; subst hp
   refine .inl ⟨[(0, v), (5, v), (6, .int .i64 l.length), (7, .int .i64 l.length), (8, .bool false)], vo ?_, rfl⟩
   simp (disch := omega) only [go_sem, xP, AP.f184L0]
 | x :: q, p, hp => by
   have hlen : l.length = p.length + (q.length + 1) := by rw [hp]; simp
   have hx : l[p.length]? = some x := by rw [hp]; simp
   obtain ⟨ad, a1, a2⟩ := rd.Ad
   have b1 := a1 p.length ⟨by omega, by omega⟩
   have b2 := a2 h (Ext.refl h) p.length x hx
   have ih := EZ hl h rd q (p ++ [x]) (by rw [hp]; simp)
   have w1 : ((p ++ [x]).length : Int) = (p.length : Int) + 1 := by simp
   rw [w1, List.getLast?_concat] at ih
   rw [C4]
   have step : aM (aS AP.A) bH AP.f184L0 (az [(0, v), (5, v), (6, .int .i64 l.length), (7, .int .i64 p.length)] [0, 5, 6, 7]) h = if Ji p.getLast? x then some (.normal, [(0, v), (5, v), (6, .int .i64 l.length), (7, .int .i64 ((p.length : Int) + 1))], h) else some (.ret, [(2, .bool false)], h) := by
    unfold Ji
    cases hq : p.getLast? with
    | none =>
      have hp0 : p = [] := List.getLast?_eq_none_iff.1 hq
      have hp1 : p.length = 0 := by rw [hp0]; rfl
      clear ih rd a1 a2 hp w1
      by_cases c1 : 0 ≤ x
      · by_cases c2 : x < 8
        · simp only [dt c1, dt c2, Bool.and_self, if_true]
          simp (disch := omega) only [go_sem, xP, AP.f184L0, b1, b2]
        · simp only [dt c1, df c2, OH, OM, wT, xE]
          simp (disch := omega) only [go_sem, xP, AP.f184L0, b1, b2]
      · simp only [df c1, OH, wT, xE]
        simp (disch := omega) only [go_sem, xP, AP.f184L0, b1, b2]
    | some y =>
      obtain ⟨p', rfl⟩ : ∃ p', p = p' ++ [y] := List.getLast?_eq_some_iff.1 hq
      have hpl : (p' ++ [y]).length = p'.length + 1 := by simp
      have hy : l[p'.length]? = some y := by rw [hp]; simp
      have bj := a1 p'.length ⟨by omega, by omega⟩
      have lj := a2 h (Ext.refl h) p'.length y hy
      have n2 : (((p' ++ [y]).length : Nat) : Int) - 1 = (p'.length : Int) := by rw [hpl]; omega
      have n3 : 0 < (((p' ++ [y]).length : Nat) : Int) := by rw [hpl]; omega
      clear ih rd a1 a2 hp w1 hx hy hq
      generalize (p' ++ [y]).length = pl at *
      by_cases c1 : 0 ≤ x
      · by_cases c2 : x < 8
        · by_cases c3 : y < x
          · rw [dt c1, dt c2]
            simp only [dt c3, Bool.and_self, if_true]
            simp (disch := omega) only [go_sem, xP, AP.f184L0, b1, b2, bj, lj, n2]
          · rw [dt c1, dt c2]
            simp only [df c3, OM, wT, xE]
            simp (disch := omega) only [go_sem, xP, AP.f184L0, b1, b2, bj, lj, n2]
        · simp only [dt c1, df c2, OH, OM, wT, xE]
          simp (disch := omega) only [go_sem, xP, AP.f184L0, b1, b2]
      · simp only [df c1, OH, wT, xE]
        simp (disch := omega) only [go_sem, xP, AP.f184L0, b1, b2]
   by_cases hok : Ji p.getLast? x = true
   · rw [if_pos hok] at step
     rw [hok, Bool.true_and]
     rcases ih with ⟨e', r1, r2⟩ | ⟨e', r1, r2, r3⟩
     · exact .inl ⟨e', vp step r1, r2⟩
     · exact .inr ⟨e', vp step r1, r2, r3⟩
   · have hok' : Ji p.getLast? x = false := by simpa using hok
     rw [if_neg hok] at step
     rw [hok', OH]
     exact .inr ⟨_, vN step, rfl, rfl⟩
theorem Jm (h : H) (v : AV) (l : List Int) (rd : Rd h v (ints l)) (hl : l.length < 1125899906842624) : aS AP.A 184 [v] h = some (.bool (zO l), h) := by
 have xf : Ext h h.eJ := fun i c q => q
 have rdf : Rd h.eJ v (ints l) := rd.mono fun i c q => xf i c q
 have r2 := rdf.LR
 rw [qZ] at r2
 have ln := r2.len
 unfold zO
 rcases EZ hl h.eJ rdf l [] rfl with ⟨e', r1, r3⟩ | ⟨e', r1, r3, r4⟩
 · have r1' : Lp AP.A [0, 5, 6, 7] AP.f184L0 [(0, v), (5, v), (6, .int .i64 l.length), (7, .int .i64 0)] h.eJ = some (.exit 0, e', h.eJ) := r1
   have r3' : AG none l = true := r3
   rw [r3']
   refine vX (fn := AP.f184) (h2 := h.eJ) (e := [(2, .bool true)]) rfl rfl rfl ?_ rfl rfl
   clear rd rdf r2 r1 r3
   simp (disch := omega) only [go_sem, xP, AP.f184, ln, uz, r1']
 · have r1' : Lp AP.A [0, 5, 6, 7] AP.f184L0 [(0, v), (5, v), (6, .int .i64 l.length), (7, .int .i64 0)] h.eJ = some (.ret, e', h.eJ) := r1
   have r4' : AG none l = false := r4
   rw [r4']
   refine vX (fn := AP.f184) (h2 := h.eJ) (e := e') (vs := [.bool false]) rfl rfl rfl ?_ (by simp only [AP.f184, cT, oS, r3]; rfl) rfl
   clear rd rdf r2 r1 r4
   simp (disch := omega) only [go_sem, xP, AP.f184, ln, uz, r1']
theorem Ff {v : AV} {l : List Int} (hl : l.length < 1125899906842624) (h : H) (rd : Rd h v (ints l)) (y : Int) : ∀ (q p : List Int), l = p ++ q →
 (∃ e', Lp AP.A [0, 1, 7, 8] AP.f189L0 [(0, v), (1, .int .i64 y), (7, .int .i64 l.length), (8, .int .i64 p.length)] h = some (.exit 0, e', h) ∧ q.contains y = false) ∨
 (∃ e', Lp AP.A [0, 1, 7, 8] AP.f189L0 [(0, v), (1, .int .i64 y), (7, .int .i64 l.length), (8, .int .i64 p.length)] h = some (.ret, e', h) ∧ (∃ k : Nat, look e' 4 = .int .i64 k) ∧ q.contains y = true)
 | [], p, hp => by
   rw [OJ] at hp; subst hp
   refine .inl ⟨[(0, v), (1, .int .i64 y), (7, .int .i64 l.length), (8, .int .i64 l.length), (9, .bool false)], vo ?_, rfl⟩
   simp (disch := omega) only [go_sem, xP, AP.f189L0]
 | x :: q, p, hp => by
   have hlen : l.length = p.length + (q.length + 1) := by rw [hp]; simp
   have hx : l[p.length]? = some x := by rw [hp]; simp
   obtain ⟨ad, a1, a2⟩ := rd.Ad
   have b1 := a1 p.length ⟨by omega, by omega⟩
   have b2 := a2 h (Ext.refl h) p.length x hx
   have ih := Ff hl h rd y q (p ++ [x]) (by rw [hp]; simp)
   have w1 : ((p ++ [x]).length : Int) = (p.length : Int) + 1 := by simp
   rw [w1] at ih
   by_cases c : y = x
   · refine .inr ⟨[(4, .int .i64 p.length)], vN ?_, ⟨p.length, rfl⟩, by simp [c]⟩
     clear ih rd a1 a2 hp w1
     simp (disch := omega) only [go_sem, xP, AP.f189L0, b1, b2, c]
   · have step : aM (aS AP.A) bH AP.f189L0 (az [(0, v), (1, .int .i64 y), (7, .int .i64 l.length), (8, .int .i64 p.length)] [0, 1, 7, 8]) h = some (.normal, [(0, v), (1, .int .i64 y), (7, .int .i64 l.length), (8, .int .i64 ((p.length : Int) + 1))], h) := by
      clear ih rd a1 a2 hp w1
      simp (disch := omega) only [go_sem, xP, AP.f189L0, b1, b2]
     have ec : (x :: q).contains y = q.contains y := by simp [c]
     rw [ec]
     rcases ih with ⟨e', r1, r2⟩ | ⟨e', r1, r2, r3⟩
     · exact .inl ⟨e', vp step r1, r2⟩
     · exact .inr ⟨e', vp step r1, r2, r3⟩
theorem FT (h : H) (v : AV) (l : List Int) (y : Int) (rd : Rd h v (ints l)) (hl : l.length < 1125899906842624) : aS AP.A 185 [v, .int .i64 y] h = some (.bool (l.contains y), h) := by
 have xf : Ext h h.eJ := fun i c q => q
 have rdf : Rd h.eJ.eJ v (ints l) := rd.mono fun i c q => xf i c q
 have r2 := rdf.LR
 rw [qZ] at r2
 have ln := r2.len
 have k1 : ∃ k : Int, aS AP.A 189 [v, .int .i64 y] h.eJ = some (.int .i64 k, h.eJ) ∧ (0 ≤ k ↔ l.contains y = true) := by
  rcases Ff hl h.eJ.eJ rdf y l [] rfl with ⟨e', r1, r3⟩ | ⟨e', r1, ⟨k, r3⟩, r4⟩
  · have r1' : Lp AP.A [0, 1, 7, 8] AP.f189L0 [(0, v), (1, .int .i64 y), (7, .int .i64 l.length), (8, .int .i64 0)] h.eJ.eJ = some (.exit 0, e', h.eJ.eJ) := r1
    refine ⟨-1, vX (fn := AP.f189) (h2 := h.eJ.eJ) (e := [(4, .int .i64 (-1))]) rfl rfl rfl ?_ rfl rfl, by rw [r3]; simp⟩
    clear rd rdf r2 r1 r3
    simp (disch := omega) only [go_sem, xP, AP.f189, ln, uz, r1']
  · have r1' : Lp AP.A [0, 1, 7, 8] AP.f189L0 [(0, v), (1, .int .i64 y), (7, .int .i64 l.length), (8, .int .i64 0)] h.eJ.eJ = some (.ret, e', h.eJ.eJ) := r1
    refine ⟨k, vX (fn := AP.f189) (h2 := h.eJ.eJ) (e := e') (vs := [.int .i64 k]) rfl rfl rfl ?_ (by simp only [AP.f189, cT, oS, r3]; rfl) rfl, by rw [r4]; simp⟩
    clear rd rdf r2 r1 r4 r3
    simp (disch := omega) only [go_sem, xP, AP.f189, ln, uz, r1']
 obtain ⟨k, k1, k2⟩ := k1
 refine vX (fn := AP.f185) (h2 := h.eJ) (e := [(4, .bool (l.contains y))]) rfl rfl rfl ?_ rfl rfl
 clear rd rdf r2
 cases hc : l.contains y with
 | true =>
   have := k2.2 hc
   clear k2
   simp (disch := omega) only [go_sem, xP, AP.f185, k1]
 | false =>
   have : ¬ 0 ≤ k := fun q => by rw [hc] at k2; cases k2.1 q
   clear k2
   simp (disch := omega) only [go_sem, xP, AP.f185, k1]
abbrev Aj := Ol × AV
def N7 (x : Aj) : List AV := [.str x.1.1, x.2]
def zP (l : List Aj) : List AV := l.flatMap N7
theorem HT (x : Aj) : (N7 x).length = 2 := rfl
theorem EG (l : List Aj) (x : Aj) : zP (l ++ [x]) = zP l ++ N7 x := by simp [zP]
structure ID (h0 h : H) (ov : AV) (x : Aj) : Prop where
 ex : ∃ j, x.2 = .aF j 0 4 1 ∧ h.get j = some (ints x.1.2) ∧ h0.next ≤ j ∧ ov.id? ≠ some j ∧ h.floor ≤ j
 l4 : x.1.2.length = 4
theorem ID.mono {h0 h g : H} {ov ov' : AV} {x : Aj} (b : ID h0 h ov x) (hf : g.floor = h.floor) (hg : ∀ j, j < h.next → ov.id? ≠ some j → g.get j = h.get j) (ho : ∀ j, j < h.next → ov.id? ≠ some j → ov'.id? ≠ some j) : ID h0 g ov' x := by
 obtain ⟨j, e1, e2, e3, e4, e5⟩ := b.ex
 have := h.lt _ _ e2
 exact ⟨⟨j, e1, by rw [hg j this e4]; exact e2, e3, ho j this e4, by rw [hf]; exact e5⟩, b.l4⟩
theorem DF (l : List yD) (e : yD) (bs : List Int) : yU (l ++ [e]) bs = if bs.contains ((Gi e : Nat) : Int) then yU l bs ++ [(e.name, e.vec)] else yU l bs := by
 unfold yU
 rw [List.filter_append, OS]
 by_cases c : bs.contains ((Gi e : Nat) : Int) = true
 · rw [if_pos c, List.filter_cons, if_pos c]; rfl
 · rw [if_neg c, List.filter_cons, if_neg c]; simp
theorem EF (l : List yD) (bs : List Int) : (yU l bs).length ≤ l.length := by unfold yU; rw [OI]; exact List.length_filter_le _ _
theorem C5 {v w : AV} {l : List xZ} {bs : List Int} (h0 : H) (rd : zf 9 h0 v l.length (xW l)) (hv : ∀ x ∈ l, ze h0 x ∧ x.2.sc = true) (hm : yW (l.map (·.1)) = true) (rdb : Rd h0 w (ints bs)) (hbs : bs.length < 1125899906842624) : ∀ (q p : List xZ), l = p ++ q → ∀ (h : H) (ov : AV) (acc : List Aj), Ext h0 h → h0.next ≤ h.next → h.floor ≤ h.next →
 yh 2 h ov acc.length (zP acc) → acc.map (·.1) = yU (p.map (·.1)) bs → (∀ x ∈ acc, ID h0 h ov x) → (∀ j, ov.id? = some j → h0.next ≤ j) →
 ∃ e' h' ov' acc', Lp AP.A [1, 6, 18, 19, 20] AP.f178L0 [(1, w), (6, ov), (18, v), (19, .int .i64 l.length), (20, .int .i64 p.length)] h = some (.exit 0, e', h') ∧ look e' 6 = ov' ∧ yh 2 h' ov' acc'.length (zP acc') ∧ acc'.map (·.1) = yU (l.map (·.1)) bs ∧ (∀ x ∈ acc', ID h0 h' ov' x) ∧ Ext h0 h' ∧ h'.floor = h.floor ∧ h.next ≤ h'.next ∧ ∀ j, ov'.id? = some j → h0.next ≤ j
 | [], p, hp, h, ov, acc, hx, hn, hf, o, ha, hb, hge => by
   rw [OJ] at hp; subst hp
   refine ⟨[(1, w), (6, ov), (18, v), (19, .int .i64 l.length), (20, .int .i64 l.length), (21, .bool false)], h, ov, acc, vo ?_, rfl, o, ha, hb, hx, rfl, wV _, hge⟩
   simp (disch := omega) only [go_sem, xP, AP.f178L0]
 | x :: q, p, hp, h, ov, acc, hx, hn, hf, o, ha, hb, hge => by
   unfold yW at hm
   have hm' := hm
   rw [wW] at hm
   obtain ⟨m1, m2, m3⟩ := yQ hm.1
   rw [OI] at m1
   have hl : l[p.length]? = some x := by rw [hp]; simp
   have hlen : l.length = p.length + (q.length + 1) := by rw [hp]; simp
   have may : y0 x.1 = true := List.all_eq_true.1 hm.2 x.1 (by rw [hp]; simp)
   have nsz := zM (m2 x.1 (by rw [hp]; simp)).1
   have v4 : x.1.vec.length = 4 := (zV (m2 x.1 (by rw [hp]; simp)).2.1).1
   obtain ⟨ad, a1, a2⟩ := rd.Na
   have b1 := a1 p.length ⟨by omega, by omega⟩
   obtain ⟨_, b2⟩ := a2 h hx p.length x hl
   obtain ⟨ok, sc⟩ := hv x (by rw [hp]; simp)
   obtain ⟨E, hE⟩ : ∃ E, E = xO x.1 x.2 := ⟨_, rfl⟩
   have lE : E.length = 9 := by rw [hE]; rfl
   have cE : AV.aD E = true := by rw [hE]; exact Az sc
   have E0 : E[0]? = some (.str x.1.name) := by rw [hE]; rfl
   have E2 : E[2]? = some x.2 := by rw [hE]; rfl
   obtain ⟨g0, eg0⟩ : ∃ g, g = h.alloc Z9 := ⟨_, rfl⟩
   obtain ⟨g1, eg1⟩ : ∃ g, g = g0.set h.next E := ⟨_, rfl⟩
   have z0 : g0.get h.next = some Z9 := by rw [eg0, xL rfl]
   have st : vZ g0 h.next 0 9 E (some Z9) = some g1 := by rw [eg1]; exact Ah (by rw [eg0]; simp; exact hf) lE rfl cE
   have z1 : g1.get h.next = some E := by rw [eg1, yg rfl, z0]; rfl
   have low : ∀ i, i < h.next → g1.get i = h.get i := fun i hi => by rw [eg1, xY (by omega), eg0, xU (by omega)]
   have f1 : g1.floor = h.floor := by rw [eg1, eg0]; simp
   have n1 : g1.next = h.next + 1 := by rw [eg1, eg0]; simp
   have x1 : Ext h0 g1 := fun i c q => by rw [low i (by have := h0.lt _ _ q; omega)]; exact hx i c q
   have k2 := BN g1 x.1.name (by omega)
   have k3 := FT g1 w bs ((Gi x.1 : Nat) : Int) (rdb.mono fun i c q => x1 i c q) hbs
   have a0 : h.alloc [.str ⟨#[]⟩, .bool false, .aQ, .int .i64 0, .int .i64 0, .int .i64 0, .str ⟨#[]⟩, .int .i64 0, .int .i64 0] = g0 := eg0.symm
   have w1 : ((p ++ [x]).length : Int) = (p.length : Int) + 1 := by simp
   have k2' : aS AP.A 179 [.str x.1.name] g1 = some (.int .i64 ((Gi x.1 : Nat) : Int), g1) := k2
   have al := congrArg List.length ha
   rw [OI] at al
   have bl := EF (p.map (·.1)) bs
   rw [OI] at bl
   have bs' := DF (p.map (·.1)) x.1 bs
   cases hc : bs.contains ((Gi x.1 : Nat) : Int) with
   | false =>
     rw [hc] at k3
     rw [hc, if_neg (by decide)] at bs'
     obtain ⟨e', h2, ov', acc', r1, r2⟩ := C5 h0 rd hv hm' rdb hbs q (p ++ [x]) (by rw [hp]; simp) g1 ov acc x1 (by omega) (by omega) (o.mono f1 fun i q => low i (o.lt q).2) (by rw [OS, List.map_singleton, bs']; exact ha) (fun y hy => (hb y hy).mono f1 (fun j q1 _ => low j q1) (fun _ _ q => q)) hge
     rw [w1] at r1
     refine ⟨e', h2, ov', acc', vp ?_ r1, r2.1, r2.2.1, r2.2.2.1, r2.2.2.2.1, r2.2.2.2.2.1, by rw [r2.2.2.2.2.2.1, f1], by have := r2.2.2.2.2.2.2.1; omega, r2.2.2.2.2.2.2.2⟩
     rw [← hE] at b2
     clear r1 r2 hE hv rd a1 a2 x1 low hx hm hm' m2 may hp eg0 eg1 o hb ha rdb bs' k2 al bl
     generalize ((Gi x.1 : Nat) : Int) = B at *
     simp (disch := omega) only [go_sem, xP, AP.f178L0, b1, b2, a0, z0, lE, cE, st, z1, E0, E2, k2', k3]
   | true =>
     rw [hc] at k3
     rw [hc, if_pos rfl] at bs'
     have k4 := HY g1 x.2 x.1.vec (ok.mono x1).vec (by omega) (by omega) (by omega)
     rw [v4] at k4
     obtain ⟨g2, eg2⟩ : ∃ g, g = ((g1.alloc []).del g1.next).alloc (ints x.1.vec) := ⟨_, rfl⟩
     rw [← eg2] at k4
     have low2 : ∀ i, i < g1.next → g2.get i = g1.get i := fun i hi => by rw [eg2, xU (by simp; omega), zU (by omega), xU (by omega)]
     have f2 : g2.floor = h.floor := by rw [eg2]; simp [f1]
     have n2 : g2.next = h.next + 3 := by rw [eg2]; simp [n1]
     have z2 : g2.get h.next = some E := by rw [low2 _ (by omega)]; exact z1
     have zv : g2.get (g1.next + 1) = some (ints x.1.vec) := by rw [eg2, xL (by simp)]
     have lo2 : ∀ i, i < h.next → g2.get i = h.get i := fun i hi => by rw [low2 i (by omega), low i hi]
     have x2 : Ext h0 g2 := fun i c q => by rw [lo2 i (by have := h0.lt _ _ q; omega)]; exact hx i c q
     have o2 : yh 2 g2 ov acc.length (zP acc) := o.mono f2 fun i q => lo2 i (o.lt q).2
     obtain ⟨v', h', p1, p2, p3, p4, p5, p6⟩ := o2.push (by omega) (z := 40) (m := 1) (by omega) (by omega) [.str x.1.name, .aF (g1.next + 1) 0 4 1] rfl rfl (by simp [roomy]; omega)
     have ea : zP acc ++ [.str x.1.name, .aF (g1.next + 1) 0 4 1] = zP (acc ++ [((x.1.name, x.1.vec), .aF (g1.next + 1) 0 4 1)]) := by rw [EG]; rfl
     rw [ea] at p2
     have ovl : ∀ j, ov.id? = some j → j < h.next := fun j q => (o.lt q).2
     obtain ⟨e', h2, ov', acc', r1, r2⟩ := C5 h0 rd hv hm' rdb hbs q (p ++ [x]) (by rw [hp]; simp) h' v' (acc ++ [((x.1.name, x.1.vec), .aF (g1.next + 1) 0 4 1)]) (fun i c q => by
      have := h0.lt _ _ q
      rw [p5 i (fun q2 => by have := hge i q2; omega) (by omega)]; exact x2 i c q) (by omega) (by omega) (by rw [xD, List.length_singleton]; exact p2) (by rw [OS, OS, List.map_singleton, List.map_singleton, bs', ha]) (fun y hy => by
      rcases List.mem_append.1 hy with hy | hy
      · refine (hb y hy).mono (by rw [p3, f2]) (fun j q1 q2 => by rw [p5 j q2 (by omega), lo2 j q1]) (fun j q1 _ => by rw [p6]; intro q2; have := wL q2; omega)
      · obtain rfl : y = _ := OY.1 hy
        refine ⟨⟨g1.next + 1, rfl, ?_, by omega, by rw [p6]; intro q2; have := wL q2; omega, by rw [p3, f2]; omega⟩, v4⟩
        rw [p5 _ (fun q2 => by have := ovl _ q2; omega) (by omega)]
        exact zv) (fun j q => by rw [p6] at q; have := wL q; omega)
     rw [w1] at r1
     refine ⟨e', h2, ov', acc', vp ?_ r1, r2.1, r2.2.1, r2.2.2.1, r2.2.2.2.1, r2.2.2.2.2.1, by rw [r2.2.2.2.2.2.1, p3, f2], by have := r2.2.2.2.2.2.2.1; omega, r2.2.2.2.2.2.2.2⟩
     rw [← hE] at b2
     clear r1 r2 hE hv rd a1 a2 x1 low hx hm hm' m2 may hp eg0 eg1 o o2 hb ha rdb bs' k2 al bl lo2 low2 x2 p2 ea zv eg2 ovl
     generalize ((Gi x.1 : Nat) : Int) = B at *
     simp (disch := omega) only [go_sem, xP, AP.f178L0, b1, b2, a0, z0, lE, cE, st, z1, z2, E0, E2, k2', k3, k4, p1]
theorem DG (h : H) (hf : h.floor ≤ h.next) (v w : AV) (l : List xZ) (bs : List Int) (hvs : v.sc = true) (hn : l.length < 1125899906842624) (rd : zf 9 h v l.length (xW l)) (hv : ∀ x ∈ l, ze h x ∧ x.2.sc = true) (rdb : Rd h w (ints bs)) (hbs : bs.length < 1125899906842624) :
 ∃ ov h' acc, aS AP.A 178 [.agg [v], w] h = some (.bV [ov, .int .i64 (if yW (l.map (·.1)) && zO bs then 0 else 1600)], h') ∧ Jh 2 h ov h' acc.length (zP acc) ∧ acc.map (·.1) = (if yW (l.map (·.1)) && zO bs then yU (l.map (·.1)) bs else []) ∧ ∀ x ∈ acc, ID h h' ov x := by
 obtain ⟨g1, eg1⟩ : ∃ g, g = h.alloc [v] := ⟨_, rfl⟩
 have hx1 : Ext h g1 := by rw [eg1]; exact (Ext.refl h).alloc _
 have z1 : g1.get h.next = some [v] := by rw [eg1]; exact xL rfl
 have f1 : g1.floor = h.floor := by rw [eg1]; simp
 have n1 : g1.next = h.next + 1 := by rw [eg1]; simp
 have rd1 := rd.mono fun i c q => hx1 i c q
 have hv1 : ∀ x ∈ l, ze g1 x ∧ x.2.sc = true := fun x hx => ⟨(hv x hx).1.mono hx1, (hv x hx).2⟩
 have rdb1 : Rd g1 w (ints bs) := rdb.mono fun i c q => hx1 i c q
 have k1 := GS g1 v l hvs hn rd1 hv1
 have k2 := Jm g1 w bs rdb1 hbs
 have ln := rd1.len
 cases hm : yW (l.map (·.1)) with
 | false =>
   rw [hm] at k1
   refine ⟨.aQ, g1, [], ?_, ⟨yh.nil, hx1, f1, by omega, fun i q => by cases q⟩, rfl, fun x hx => by cases hx⟩
   refine vG (fn := AP.f178) (h2 := g1) (e := [(4, .aQ), (5, .int .i64 1600)]) (vs := [.aQ, .int .i64 1600]) rfl rfl rfl ?_ rfl
   clear rd rd1 hv hv1 hx1 rdb rdb1
   simp (disch := omega) only [go_sem, xP, AP.f178, hvs, ← eg1, z1, A7, k1, k2]
 | true =>
   rw [hm] at k1
   cases hb : zO bs with
   | false =>
     rw [hb] at k2
     refine ⟨.aQ, g1, [], ?_, ⟨yh.nil, hx1, f1, by omega, fun i q => by cases q⟩, rfl, fun x hx => by cases hx⟩
     refine vG (fn := AP.f178) (h2 := g1) (e := [(4, .aQ), (5, .int .i64 1600)]) (vs := [.aQ, .int .i64 1600]) rfl rfl rfl ?_ rfl
     clear rd rd1 hv hv1 hx1 rdb rdb1
     simp (disch := omega) only [go_sem, xP, AP.f178, hvs, ← eg1, z1, A7, k1, k2]
   | true =>
     rw [hb] at k2
     obtain ⟨e', g2, ov, acc, r1, r2, r3, r4, r5, r6, r7, r8, r9⟩ := C5 g1 rd1 hv1 hm rdb1 hbs l [] rfl g1 .aQ [] (Ext.refl _) (wV _) (by omega) yh.nil rfl (fun x hx => by cases hx) (fun j q => by cases q)
     have r1' : Lp AP.A [1, 6, 18, 19, 20] AP.f178L0 [(1, w), (6, .aQ), (18, v), (19, .int .i64 l.length), (20, .int .i64 0)] g1 = some (.exit 0, e', g2) := r1
     refine ⟨ov, g2, acc, ?_, ⟨r3, fun i c q => r6 i c (hx1 i c q), by rw [r7, f1], by omega, fun j q => by have := r9 j q; omega⟩, r4, fun x hx => ?_⟩
     · refine vG (fn := AP.f178) (h2 := g2) (e := [(4, ov), (5, .int .i64 0)]) (vs := [ov, .int .i64 0]) rfl rfl rfl ?_ rfl
       clear rd rd1 hv hv1 hx1 rdb rdb1 r1 r3 r4 r5 r6
       simp (disch := omega) only [go_sem, xP, AP.f178, hvs, ← eg1, z1, A7, k1, k2, ln, uz, r1', r2]
     · have b := r5 x hx
       obtain ⟨j, q1, q2, q3, q4, q5⟩ := b.ex
       exact ⟨⟨j, q1, q2, by omega, q4, q5⟩, b.l4⟩
theorem GK (h : H) (hf : h.floor ≤ h.next) (v : AV) (l : List xZ) (hvs : v.sc = true) (hn : l.length < 1125899906842624) (rd : zf 9 h v l.length (xW l)) (hv : ∀ x ∈ l, ze h x ∧ x.2.sc = true) (hm : yW (l.map (·.1)) = true) :
 ∃ i h', aS AP.A 177 [.agg [v]] h = some (.bV [.aF i 0 8 1, .int .i64 0], h') ∧ h'.get i = some (ints (yK (l.map (·.1)))) ∧ Ext h h' ∧ h'.floor = h.floor ∧ h.next ≤ h'.next ∧ h.next ≤ i := by
 obtain ⟨w, h', k, g⟩ := GJ h hf v l hvs hn rd hv
 simp only [hm, if_true] at k g
 rw [y7] at g
 obtain ⟨_, ⟨_, q⟩ | ⟨i, q1, q2, _⟩⟩ := g.own
 · cases q
 · subst q1; exact ⟨i, h', k, q2, g.ext, g.fl, g.nx, g.ge i rfl⟩
theorem Km (h : H) (hf : h.floor ≤ h.next) (v : AV) (l : List xZ) (hvs : v.sc = true) (hn : l.length < 1125899906842624) (rd : zf 9 h v l.length (xW l)) (hv : ∀ x ∈ l, ze h x ∧ x.2.sc = true) (hm : yW (l.map (·.1)) = false) :
 ∃ h', aS AP.A 177 [.agg [v]] h = some (.bV [.aQ, .int .i64 1600], h') ∧ Ext h h' ∧ h'.floor = h.floor ∧ h.next ≤ h'.next := by
 obtain ⟨w, h', k, g⟩ := GJ h hf v l hvs hn rd hv
 simp only [hm, wT, xE] at k g
 obtain ⟨_, ⟨q, _⟩ | ⟨i, _, _, _, q⟩⟩ := g.own
 · subst q; exact ⟨h', k, g.ext, g.fl, g.nx⟩
 · simp at q
theorem DI (h : H) (hf : h.floor ≤ h.next) (v w : AV) (l : List xZ) (bs : List Int) (hvs : v.sc = true) (hn : l.length < 1125899906842624) (rd : zf 9 h v l.length (xW l)) (hv : ∀ x ∈ l, ze h x ∧ x.2.sc = true) (rdb : Rd h w (ints bs)) (hbs : bs.length < 1125899906842624) (hm : (yW (l.map (·.1)) && zO bs) = true) :
 ∃ ov h' acc, aS AP.A 178 [.agg [v], w] h = some (.bV [ov, .int .i64 0], h') ∧ Jh 2 h ov h' acc.length (zP acc) ∧ acc.map (·.1) = yU (l.map (·.1)) bs ∧ ∀ x ∈ acc, ID h h' ov x := by
 have := DG h hf v w l bs hvs hn rd hv rdb hbs
 simpa only [hm, if_true] using this
theorem BM (h : H) (hf : h.floor ≤ h.next) (v w : AV) (l : List xZ) (bs : List Int) (hvs : v.sc = true) (hn : l.length < 1125899906842624) (rd : zf 9 h v l.length (xW l)) (hv : ∀ x ∈ l, ze h x ∧ x.2.sc = true) (rdb : Rd h w (ints bs)) (hbs : bs.length < 1125899906842624) (hm : (yW (l.map (·.1)) && zO bs) = false) :
 ∃ h', aS AP.A 178 [.agg [v], w] h = some (.bV [.aQ, .int .i64 1600], h') ∧ Ext h h' ∧ h'.floor = h.floor ∧ h.next ≤ h'.next := by
 obtain ⟨ov, h', acc, k, g, q, _⟩ := DG h hf v w l bs hvs hn rd hv rdb hbs
 simp only [hm, wT, xE] at k q
 have : acc = [] := by simpa using q
 subst this
 obtain ⟨_, ⟨q, _⟩ | ⟨i, _, _, _, q⟩⟩ := g.own
 · subst q; exact ⟨h', k, g.ext, g.fl, g.nx⟩
 · simp at q
theorem EH {A : bh} {f g : Nat} (e : A f = A g) (args : List AV) (h : H) : ∀ n, aU A n f args h = aU A n g args h
 | 0 => rfl
 | n + 1 => by simp only [aU, e]
theorem EI {A : bh} {f g : Nat} (e : A f = A g) (args : List AV) (h : H) {r} (k : aS A g args h = some r) : aS A f args h = some r := by
 obtain ⟨n, hn⟩ := fw k
 exact oh (n := n) (by rw [EH e]; exact hn)
theorem Cc (h : H) (name text : ByteArray) (node : Nat) (xS : Int) (hn : node < 4) (ht : text.size < 1125899906842624) :
 aS AP.A 180 [.str name, .int .i64 node, .int .i64 xS, .str text] h = some (.agg (xO (A9 name node xS text) (yY ([0, 0, 0, 0].set node xS))), h) :=
 EI (show AP.A 180 = AP.A 99 from rfl) _ _ (Iy h name text node xS hn ht)
structure Jg (h0 h : H) (ov : AV) (x : xZ) : Prop where
 ok : ze h x
 sc : x.2.sc = true
 id : ∀ i, x.2.id? = some i → h0.next ≤ i ∧ i < h.next ∧ ov.id? ≠ some i ∧ h.floor ≤ i
 wr : ∃ i cs, x.2 = .aF i 0 x.1.vec.length 1 ∧ h.get i = some cs ∧ (0 < x.1.vec.length → cs = ints x.1.vec)
theorem Jg.mono {h0 h g : H} {ov ov' : AV} {x : xZ} (b : Jg h0 h ov x) (hf : g.floor = h.floor) (hn : h.next ≤ g.next) (hg : ∀ j c, ov.id? ≠ some j → h.get j = some c → g.get j = some c) (ho : ∀ j, j < h.next → ov.id? ≠ some j → ov'.id? ≠ some j) : Jg h0 g ov' x := by
 obtain ⟨i, cs, e1, e2, e3⟩ := b.wr
 have q := b.id i (by rw [e1]; rfl)
 have e4 := hg i cs q.2.2.1 e2
 exact ⟨b.ok.Bl fun k q' => (by rw [e1] at q'; obtain rfl := wL q'; rw [e4, e2]), b.sc, fun i q => ⟨(b.id i q).1, by have := (b.id i q).2.1; omega, ho i (b.id i q).2.1 (b.id i q).2.2.1, by rw [hf]; exact (b.id i q).2.2.2⟩, ⟨i, cs, e1, e4, e3⟩⟩
theorem E3 {v : AV} {l : List xZ} (hn0 : l.length < 1000000000) (h0 : H) (rd : zf 9 h0 v l.length (xW l)) (hv : ∀ x ∈ l, ze h0 x ∧ x.2.sc = true ∧ x.1.vec.length < 20000000000000) : ∀ (q p : List xZ), l = p ++ q → ∀ (h : H) (ov : AV) (acc : List xZ), Ext h0 h → h0.next ≤ h.next → h.floor ≤ h.next →
 yh 9 h ov acc.length (xW acc) → acc.map (·.1) = p.map (·.1) → (∀ x ∈ acc, Jg h0 h ov x) → (∀ j, ov.id? = some j → h0.next ≤ j) → h0.floor = h.floor →
 ∃ e' h' ov' acc', Lp AP.A [0, 3, 4] AP.f204L0 [(0, v), (3, ov), (4, .int .i64 p.length)] h = some (.exit 0, e', h') ∧ look e' 3 = ov' ∧ yh 9 h' ov' acc'.length (xW acc') ∧ acc'.map (·.1) = l.map (·.1) ∧ (∀ x ∈ acc', Jg h0 h' ov' x) ∧ Ext h0 h' ∧ h'.floor = h.floor ∧ h.next ≤ h'.next ∧ ∀ j, ov'.id? = some j → h0.next ≤ j
 | [], p, hp, h, ov, acc, hx, hn, hf, o, ha, hb, hge, hfl => by
   rw [OJ] at hp; subst hp
   have ln := (rd.mono fun i c q => hx i c q).len
   refine ⟨[(0, v), (3, ov), (4, .int .i64 l.length), (8, .bool false)], h, ov, acc, vo ?_, rfl, o, ha, hb, hx, rfl, wV _, hge⟩
   simp (disch := omega) only [go_sem, xP, AP.f204L0, ln]
 | x :: q, p, hp, h, ov, acc, hx, hn, hf, o, ha, hb, hge, hfl => by
   have hl : l[p.length]? = some x := by rw [hp]; simp
   have hlen : l.length = p.length + (q.length + 1) := by rw [hp]; simp
   have ln := (rd.mono fun i c q => hx i c q).len
   obtain ⟨ad, a1, a2⟩ := rd.Na
   have b1 := a1 p.length ⟨by omega, by omega⟩
   obtain ⟨_, b2⟩ := a2 h hx p.length x hl
   obtain ⟨ok, sc, vl⟩ := hv x (by rw [hp]; simp)
   obtain ⟨g1, u, k1, hu, ru, f1, n1, x1, gu⟩ := HZ h hf x.1 x.2 sc (ok.mono hx) vl
   have scu : u.sc = true := by rw [hu]; split <;> rfl
   have idu : ∃ j cs, u = .aF j 0 x.1.vec.length 1 ∧ h.next ≤ j ∧ g1.get j = some cs ∧ (0 < x.1.vec.length → cs = ints x.1.vec) := by
    by_cases c : x.1.vec = []
    · rw [if_pos c] at hu
      have r := ru.1
      rw [hu] at r
      simp only [aT, if_true] at r
      cases hg : g1.get (h.next + 2) with
      | none => rw [hg] at r; cases r
      | some cs => exact ⟨h.next + 2, cs, by rw [hu, c]; rfl, by omega, hg, fun q => by rw [c] at q; simp at q⟩
    · rw [if_neg c] at hu
      exact ⟨h.next + 3, _, hu, by omega, gu (List.length_pos_iff.2 c), fun _ => rfl⟩
   obtain ⟨j, cs, ej, hj, gj, hcs⟩ := idu
   have jn := g1.lt _ _ gj
   have o1 : yh 9 g1 ov acc.length (xW acc) := o.mono f1 fun i q => by
    obtain ⟨_, o⟩ := o
    rcases o with ⟨rfl, _⟩ | ⟨i', rfl, o1, _⟩
    · cases q
    · obtain rfl := wL q; rw [o1]; exact x1 _ _ o1
   obtain ⟨E, hE⟩ : ∃ E, E = xO x.1 u := ⟨_, rfl⟩
   have lE : E.length = 9 := by rw [hE]; rfl
   have cE : AV.aD E = true := by rw [hE]; exact Az scu
   have fE : setFrom Z9 0 E = E := by rw [hE]; rfl
   have al := congrArg List.length ha
   rw [OI, OI] at al
   obtain ⟨v', h', p1, p2, p3, p4, p5, p6⟩ := o1.push (by omega) (z := 104) (m := 1) (by omega) (by omega) E (by rw [lE]) cE (by simp [roomy]; omega)
   have ea : xW acc ++ E = xW (acc ++ [(x.1, u)]) := by rw [EJ, hE]
   rw [ea] at p2
   obtain ⟨e', h2, ov', acc', r1, r2⟩ := E3 hn0 h0 rd hv q (p ++ [x]) (by rw [hp]; simp) h' v' (acc ++ [(x.1, u)]) (fun i c q => by
    have := h0.lt _ _ q
    rw [p5 i (fun q2 => by have := hge i q2; omega) (by omega)]; exact x1 _ _ (hx i c q)) (by omega) (by omega) (by rw [xD, List.length_singleton]; exact p2) (by rw [OS, OS, ha]; rfl) (fun y hy => by
    rcases List.mem_append.1 hy with hy | hy
    · refine (hb y hy).mono (by rw [p3, f1]) (by omega) (fun j c q1 q2 => by rw [p5 j q1 (by have := h.lt _ _ q2; omega)]; exact x1 _ _ q2) (fun j q1 _ => by rw [p6]; intro q2; have := wL q2; omega)
    · obtain rfl : y = _ := OY.1 hy
      have gj' : h'.get j = g1.get j := p5 j (fun q2 => by have := (o.lt q2).2; omega) jn
      refine ⟨⟨?_, ok.vl, ok.nl, ok.pl⟩, scu, fun i q => ?_, ⟨j, cs, ej, by rw [gj']; exact gj, hcs⟩⟩
      · exact ru.Bl fun i q => by rw [ej] at q; obtain rfl := wL q; exact gj'
      · rw [show ((x.1, u) : xZ).2 = u from rfl, ej] at q
        obtain rfl := wL q
        exact ⟨by omega, by omega, by rw [p6]; intro q2; have := wL q2; omega, by rw [p3, f1]; omega⟩) (fun j q => by rw [p6] at q; have := wL q; omega) (by rw [p3, f1, hfl])
   have w1 : ((p ++ [x]).length : Int) = (p.length : Int) + 1 := by simp
   rw [w1] at r1
   refine ⟨e', h2, ov', acc', vp ?_ r1, r2.1, r2.2.1, r2.2.2.1, r2.2.2.2.1, r2.2.2.2.2.1, by rw [r2.2.2.2.2.2.1, p3, f1], by have := r2.2.2.2.2.2.2.1; omega, r2.2.2.2.2.2.2.2⟩
   rw [← hE] at k1
   clear r1 r2 hv rd a1 a2 x1 hx hp o o1 hb ha ea p2 gu ru
   generalize xO x.1 x.2 = F at *
   simp (disch := omega) only [go_sem, xP, AP.f204L0, ln, b1, b2, k1, lE, cE, fE, p1]
theorem GF (h : H) (hf : h.floor ≤ h.next) (v : AV) (l : List xZ) (hn0 : l.length < 1000000000) (rd : zf 9 h v l.length (xW l)) (hv : ∀ x ∈ l, ze h x ∧ x.2.sc = true ∧ x.1.vec.length < 20000000000000) :
 ∃ w h' acc, aS AP.A 204 [v] h = some (w, h') ∧ Jh 9 h w h' acc.length (xW acc) ∧ acc.map (·.1) = l.map (·.1) ∧ ∀ x ∈ acc, Jg h h' w x := by
 obtain ⟨e', h', ov', acc, r1, r2, r3, r4, r5, r6, r7, r8, r9⟩ := E3 hn0 h rd hv l [] rfl h .aQ [] (Ext.refl h) (wV _) hf yh.nil rfl (fun x hx => by cases hx) (fun j q => by cases q) rfl
 have r1' : Lp AP.A [0, 3, 4] AP.f204L0 [(0, v), (3, .aQ), (4, .int .i64 0)] h = some (.exit 0, e', h') := r1
 refine ⟨ov', h', acc, ?_, ⟨r3, r6, r7, r8, r9⟩, r4, r5⟩
 refine vG (fn := AP.f204) (h2 := h') (e := [(2, ov')]) (vs := [ov']) rfl rfl rfl ?_ rfl
 clear rd hv r1 r3 r4 r5 r6
 simp (disch := omega) only [go_sem, xP, AP.f204, uz, r1', r2]
theorem H0 (h : H) (hf : h.floor ≤ h.next) (v : AV) (l : List xZ) (hvs : v.sc = true) (hn0 : l.length < 1000000000) (rd : zf 9 h v l.length (xW l)) (hv : ∀ x ∈ l, ze h x ∧ x.2.sc = true ∧ x.1.vec.length < 20000000000000) :
 ∃ w h' acc, aS AP.A 196 [.agg [v]] h = some (.agg [w], h') ∧ Jh 9 h w h' acc.length (xW acc) ∧ acc.map (·.1) = l.map (·.1) ∧ ∀ x ∈ acc, Jg h h' w x := by
 obtain ⟨g1, eg1⟩ : ∃ g, g = h.alloc [v] := ⟨_, rfl⟩
 obtain ⟨g2, eg2⟩ : ∃ g, g = g1.alloc [.aQ] := ⟨_, rfl⟩
 have n1 : g1.next = h.next + 1 := by rw [eg1]; simp
 have n2 : g2.next = h.next + 2 := by rw [eg2]; simp [n1]
 have f2 : g2.floor = h.floor := by rw [eg2, eg1]; simp
 have x2 : Ext h g2 := by rw [eg2, eg1]; exact ((Ext.refl h).alloc _).alloc _
 have z1 : g2.get h.next = some [v] := by rw [eg2, xU (by omega), eg1, xL rfl]
 have z2 : g2.get (h.next + 1) = some [.aQ] := by rw [eg2, xL (by omega)]
 obtain ⟨w, g3, acc, k1, gen, ha, hb⟩ := GF g2 (by omega) v l hn0 (rd.mono fun i c q => x2 i c q) (fun x hx => ⟨(hv x hx).1.mono x2, (hv x hx).2⟩)
 have z3 := gen.ext _ _ z2
 have hw := gen.own.sc
 have cw := Ef hw
 obtain ⟨g4, eg4⟩ : ∃ g, g = g3.set (h.next + 1) [w] := ⟨_, rfl⟩
 have st : vZ g3 (h.next + 1) 0 1 [w] (some [.aQ]) = some g4 := by rw [wD (by rw [gen.fl, f2]; omega) (by simp) hw, eg4]; rfl
 have z4 : g4.get (h.next + 1) = some [w] := by rw [eg4, yg rfl, z3]; rfl
 have yH : ∀ i, i ≠ h.next + 1 → g4.get i = g3.get i := fun i hi => by rw [eg4, xY hi]
 have gn := gen.nx
 refine ⟨w, g4, acc, ?_, ⟨gen.own.mono (by rw [eg4]; simp) (fun i q => yH i (by have := gen.ge i q; omega)), fun i c q => ?_, by rw [eg4]; simp [gen.fl, f2], by rw [eg4]; simp; omega, fun i q => by have := gen.ge i q; omega⟩, ha, fun x hx => ?_⟩
 · refine vG (fn := AP.f196) (h2 := g4) (e := [(2, .aE (h.next + 1) 0)]) (vs := [.agg [w]]) rfl rfl rfl ?_ (by simp only [AP.f196, cT, oS, oG, sS, z4, vh]; rfl)
   clear rd hv hb ha gen yH x2
   simp (disch := omega) only [go_sem, xP, AP.f196, hvs, ← eg1, n1, ← eg2, z1, k1, z3, hw, cw, st]
 · have := h.lt _ _ q
   rw [yH i (by omega)]; exact gen.ext _ _ (x2 _ _ q)
 · have b := hb x hx
   obtain ⟨j, cs, q1, q2, q3⟩ := b.wr
   have q4 := b.id j (by rw [q1]; rfl)
   exact ⟨b.ok.Bl fun i q => yH i (by have := (b.id i q).1; omega), b.sc, fun i q => ⟨by have := (b.id i q).1; omega, by rw [eg4]; simp; exact (b.id i q).2.1, (b.id i q).2.2.1, by rw [eg4]; simp; exact (b.id i q).2.2.2⟩, ⟨j, cs, q1, by rw [yH j (by omega)]; exact q2, q3⟩⟩
structure Gk (h : H) (v : AV) (l : List Aj) : Prop where
 rd : zf 2 h v l.length (zP l)
 vec : ∀ x ∈ l, Rd h x.2 (ints x.1.2) ∧ x.1.2.length < 1125899906842624
theorem Gk.mono {h g : H} {v : AV} {l : List Aj} (r : Gk h v l) (e : Ext h g) : Gk g v l := ⟨r.rd.mono fun i c q => e i c q, fun x hx => ⟨(r.vec x hx).1.mono fun i c q => e i c q, (r.vec x hx).2⟩⟩
theorem Gk.at_ {h : H} {v : AV} {l : List Aj} (r : Gk h v l) : ∃ ad : Int → Nat → AV, (∀ i : Int, 0 ≤ i ∧ i < l.length → gS 2 v (.int .i64 i) = some (ad i 0) ∧ fS 0 (ad i 0) = some (ad i 0) ∧ fS 1 (ad i 0) = some (ad i 1)) ∧
 (∀ (i : Nat) (x : Aj), l[i]? = some x → bZ false 1 (ad i 0) h = some (.str x.1.1) ∧ bZ false 1 (ad i 1) h = some x.2) := by
 obtain ⟨ad, a1, a2, a4, a3⟩ := r.rd.at_
 refine ⟨ad, fun i hi => ⟨a1 i hi, a2 i 0 0 hi, a2 i 0 1 hi⟩, fun i x hx => ?_⟩
 have hi : i < l.length := (wR.1 hx).1
 have g := fun k (hk : k < 2) => BW (f := k) HT hx hk
 refine ⟨(a3 h fun _ _ q => q).1 i 0 _ ⟨by omega, by omega⟩ ?_, (a3 h fun _ _ q => q).1 i 1 _ ⟨by omega, by omega⟩ ?_⟩
 · rw [zq]; exact g 0 (by omega)
 · rw [zq]; exact g 1 (by omega)
theorem Fl {v w : AV} {a b : List Aj} (hab : a.length = b.length) (hl : a.length < 1000000) (h : H) (ra : Gk h v a) (rb : Gk h w b) : ∀ (q r p p' : List Aj), a = p ++ q → b = p' ++ r → p.length = p'.length →
 (∃ e', Lp AP.A [0, 1, 5] AP.f182L0 [(0, v), (1, w), (5, .int .i64 p.length)] h = some (.exit 0, e', h) ∧ q.map (·.1) = r.map (·.1)) ∨
 (∃ e', Lp AP.A [0, 1, 5] AP.f182L0 [(0, v), (1, w), (5, .int .i64 p.length)] h = some (.ret, e', h) ∧ look e' 4 = .bool false ∧ q.map (·.1) ≠ r.map (·.1))
 | [], r, p, p', ha, hb, hp => by
   rw [OJ] at ha; subst ha
   have hr : r = [] := by
    have : b.length = p'.length + r.length := by rw [hb]; simp
    exact OT (by omega)
   have ln := ra.rd.len
   refine .inl ⟨[(0, v), (1, w), (5, .int .i64 a.length), (14, .bool false)], vo ?_, by rw [hr]⟩
   simp (disch := omega) only [go_sem, xP, AP.f182L0, ln]
 | x :: q, [], p, p', ha, hb, hp => by
   exfalso
   have h1 : a.length = p.length + (q.length + 1) := by rw [ha]; simp
   have h2 : b.length = p'.length := by rw [hb]; simp
   omega
 | x :: q, y :: r, p, p', ha, hb, hp => by
   have h1 : a.length = p.length + (q.length + 1) := by rw [ha]; simp
   have hx : a[p.length]? = some x := by rw [ha]; simp
   have hy : b[p.length]? = some y := by rw [hb, hp]; simp
   have ln := ra.rd.len
   obtain ⟨ad, a1, a2⟩ := ra.at_
   obtain ⟨bd, b1, b2⟩ := rb.at_
   obtain ⟨a3, a4, a5⟩ := a1 p.length ⟨by omega, by omega⟩
   obtain ⟨b3, b4, b5⟩ := b1 p.length ⟨by omega, by omega⟩
   obtain ⟨a6, a7⟩ := a2 p.length x hx
   obtain ⟨b6, b7⟩ := b2 p.length y hy
   obtain ⟨vx, lx⟩ := ra.vec x (by rw [ha]; simp)
   obtain ⟨vy, ly⟩ := rb.vec y (by rw [hb]; simp)
   have k1 := Fk h x.2 y.2 x.1.2 y.1.2 vx vy lx
   have en : bD .neq (.str x.1.1) (.str y.1.1) = some (.bool (!(x.1.1.data.toList == y.1.1.data.toList))) := Dq _ _
   have ih := Fl hab hl h ra rb q r (p ++ [x]) (p' ++ [y]) (by rw [ha]; simp) (by rw [hb]; simp) (by simp [hp])
   have w1 : ((p ++ [x]).length : Int) = (p.length : Int) + 1 := by simp
   rw [w1] at ih
   obtain ⟨B1, hB1⟩ : ∃ B, B = (x.1.1.data.toList == y.1.1.data.toList) := ⟨_, rfl⟩
   rw [← hB1] at en
   have key : x.1 = y.1 ↔ B1 = true ∧ x.1.2 = y.1.2 := by
    constructor
    · intro e; rw [hB1, e]; simp
    · rintro ⟨e1, e2⟩
      have e3 : x.1.1 = y.1.1 := by
       rw [hB1, beq_iff_eq] at e1
       have e4 : x.1.1.data = y.1.1.data := Array.ext' e1
       cases h1 : x.1.1; cases h2 : y.1.1; rw [h1, h2] at e4; simp_all
      exact Prod.ext e3 e2
   by_cases hk : x.1 = y.1
   · obtain ⟨k2, k3⟩ := key.1 hk
     rw [k2] at en
     rw [dt k3] at k1
     have step : aM (aS AP.A) bH AP.f182L0 (az [(0, v), (1, w), (5, .int .i64 p.length)] [0, 1, 5]) h = some (.normal, [(0, v), (1, w), (5, .int .i64 ((p.length : Int) + 1))], h) := by
      clear ih ra rb a1 a2 b1 b2 vx vy ha hb key
      simp (disch := omega) only [go_sem, xP, AP.f182L0, ln, a3, a4, a5, a6, a7, b3, b4, b5, b6, b7, en, k1]
     rw [OU, OU]
     rcases ih with ⟨e', r1, r2⟩ | ⟨e', r1, r2, r3⟩
     · exact .inl ⟨e', vp step r1, by rw [hk, r2]⟩
     · exact .inr ⟨e', vp step r1, r2, fun q => r3 (List.cons.inj q).2⟩
   · refine .inr ⟨[(4, .bool false)], vN ?_, rfl, fun q => hk (List.cons.inj q).1⟩
     cases B1 with
     | false =>
       clear ih ra rb a1 a2 b1 b2 vx vy ha hb key
       simp (disch := omega) only [go_sem, xP, AP.f182L0, ln, a3, a4, a5, a6, a7, b3, b4, b5, b6, b7, en, k1]
     | true =>
       rw [df (fun q => hk (key.2 ⟨rfl, q⟩))] at k1
       clear ih ra rb a1 a2 b1 b2 vx vy ha hb key
       simp (disch := omega) only [go_sem, xP, AP.f182L0, ln, a3, a4, a5, a6, a7, b3, b4, b5, b6, b7, en, k1]
theorem Ix (h : H) (v w : AV) (a b : List Aj) (ra : Gk h v a) (rb : Gk h w b) (hl : a.length < 1000000) : aS AP.A 182 [v, w] h = some (.bool (decide (a.map (·.1) = b.map (·.1))), h) := by
 have xf : Ext h h.eJ := fun i c q => q
 have l1 := (ra.mono xf).rd.len
 have l2 := (rb.mono xf).rd.len
 by_cases c : a.length = b.length
 · have c' : (a.length : Int) = b.length := by omega
   rcases Fl c hl h.eJ (ra.mono xf) (rb.mono xf) a b [] [] rfl rfl rfl with ⟨e', r1, r2⟩ | ⟨e', r1, r2, r3⟩
   · have r1' : Lp AP.A [0, 1, 5] AP.f182L0 [(0, v), (1, w), (5, .int .i64 0)] h.eJ = some (.exit 0, e', h.eJ) := r1
     rw [dt r2]
     refine vX (fn := AP.f182) (h2 := h.eJ) (e := [(4, .bool true)]) rfl rfl rfl ?_ rfl rfl
     clear ra rb r1 r2
     simp (disch := omega) only [go_sem, xP, AP.f182, l1, l2, uz, r1']
   · have r1' : Lp AP.A [0, 1, 5] AP.f182L0 [(0, v), (1, w), (5, .int .i64 0)] h.eJ = some (.ret, e', h.eJ) := r1
     rw [df r3]
     refine vX (fn := AP.f182) (h2 := h.eJ) (e := e') (vs := [.bool false]) rfl rfl rfl ?_ (by simp only [AP.f182, cT, oS, r2]; rfl) rfl
     clear ra rb r1 r3
     simp (disch := omega) only [go_sem, xP, AP.f182, l1, l2, uz, r1']
 · have c' : ¬ (a.length : Int) = b.length := by omega
   have e : a.map (·.1) ≠ b.map (·.1) := fun q => c (by have := congrArg List.length q; simpa using this)
   rw [df e]
   refine vX (fn := AP.f182) (h2 := h.eJ) (e := [(4, .bool false)]) rfl rfl rfl ?_ rfl rfl
   clear ra rb
   simp (disch := omega) only [go_sem, xP, AP.f182, l1, l2]
theorem Jh.N8 {h h' : H} {ov : AV} {acc : List Aj} (g : Jh 2 h ov h' acc.length (zP acc)) (b : ∀ x ∈ acc, ID h h' ov x) : Gk h' ov acc :=
 ⟨g.own.rd, fun x hx => by
  obtain ⟨j, e1, e2, _⟩ := (b x hx).ex
  have := (b x hx).l4
  exact ⟨by rw [e1]; exact Rd.obj e2 this, by omega⟩⟩
theorem EL : yW [eA] = true := by decide +kernel
theorem Ih : yW [] = true := by decide +kernel
theorem EB : (yK [eA])[yo nA % 8]? = some (yu (zw [eA] (yo nA % 8))) ∧ yu (zw [eA] (yo nA % 8)) ≠ 0 ∧ yu (yK [eA]) ≠ 0 ∧ yK [] = [0, 0, 0, 0, 0, 0, 0, 0] ∧ yU [eA] [((yo nA % 8 : Nat) : Int)] = [(nA, [1, 0, 0, 0])] ∧ zO [((yo nA % 8 : Nat) : Int)] = true ∧ zO [8] = false := by decide +kernel
theorem EP {g : H} {n : Nat} {E : List AV} (hg : g.get n = some E) (hE : E.length = 9) : zf 9 g (.aF n 0 1 9) 1 E := by
 refine ⟨?_, by omega, fun _ => by simp⟩
 simp only [aT, if_true, hg, wS, w8, Nat.one_mul]
 rw [if_pos (by omega), ON, xu (by omega)]
theorem Df {g : H} {n : Nat} {x : Int} (hg : g.get n = some [.int .i64 x]) : Rd g (.aF n 0 1 1) (ints [x]) := Rd.obj (l := [x]) hg rfl
set_option maxHeartbeats 4000000 in
theorem FH (h : H) : aS AP.A 176 [] h = some (.bool true, h) := by
 obtain ⟨a1, a2, a3, a4, a5, a6, a7⟩ := EB
 obtain ⟨b, hb⟩ : ∃ b, b = yo nA % 8 := ⟨_, rfl⟩
 have hb8 : b < 8 := by omega
 rw [← hb] at a1 a2 a5 a6
 obtain ⟨E, hE⟩ : ∃ E, E = xO eA (yY [1, 0, 0, 0]) := ⟨_, rfl⟩
 have lE : E.length = 9 := by rw [hE]; rfl
 have cE : AV.aD E = true := by rw [hE]; exact Az (AZ _)
 have fE : setFrom Z9 0 E = E := by rw [hE]; rfl
 have okE : ∀ g, ze g (eA, yY [1, 0, 0, 0]) := fun g => ze.au (e := eA) rfl (by decide) (by decide)
 have hv : ∀ g, ∀ x ∈ [((eA, yY [1, 0, 0, 0]) : xZ)], ze g x ∧ x.2.sc = true := fun g x hx => by obtain rfl := OY.1 hx; exact ⟨okE g, AZ [1, 0, 0, 0]⟩
 have eE : xW [((eA, yY [1, 0, 0, 0]) : xZ)] = E := by rw [hE]; rfl
 have rd1 : ∀ (g : H) (n : Nat), g.get n = some E → zf 9 g (.aF n 0 1 9) [((eA, yY [1, 0, 0, 0]) : xZ)].length (xW [((eA, yY [1, 0, 0, 0]) : xZ)]) := fun g n hg => by rw [eE]; exact EP hg lE
 have k0 : ∀ g, aS AP.A 180 [.str ⟨#[97]⟩, .int .i64 0, .int .i64 1, .str ⟨#[104, 105]⟩] g = some (.agg E, g) := fun g => by rw [hE]; exact Cc g nA Es 0 1 (by omega) (by decide)
 obtain ⟨G, hG⟩ : ∃ G, G = ((h.eJ.alloc E).alloc [.aQ]).set (h.next + 1) [.aF h.next 0 1 9] := ⟨_, rfl⟩
 have g1 : G.get h.next = some E := by rw [hG]; simp (disch := first | omega | (simp only [ym, OA, OC, w8, Nat.reduceAdd]; first | done | omega | fail) | fail) only [ym, Ap, OE, OA, OC, w8, Nat.reduceAdd]
 have g2 : G.get (h.next + 1) = some [.aF h.next 0 1 9] := by rw [hG]; simp (disch := first | omega | (simp only [ym, OA, OC, w8, Nat.reduceAdd]; first | done | omega | fail) | fail) only [ym, Ap, OE, OA, OC, w8, Nat.reduceAdd]
 have gf : G.floor = h.next := by rw [hG]; simp
 have gn : G.next = h.next + 1 + 1 := by rw [hG]; simp
 obtain ⟨i1, h1, k1, o1, e1, f1, n1, ge1⟩ := GK G (by omega) _ _ rfl (by simp) (rd1 G h.next g1) (hv G) EL
 have z11 := e1 _ _ g1
 have z12 := e1 _ _ g2
 obtain ⟨i2, h2, k2, o2, e2, f2, n2, ge2⟩ := GK h1 (by omega) .aQ [] rfl (by simp) ⟨rfl, rfl, fun s q => by cases q⟩ (fun x hx => by cases hx) Ih
 have o2' : h2.get i2 = some (ints [0, 0, 0, 0, 0, 0, 0, 0]) := by rw [← a4]; exact o2
 have z21 := e2 _ _ z11
 have z22 := e2 _ _ z12
 have o12 : h2.get i1 = some (ints (yK [eA])) := e2 _ _ o1
 have k3 := ET h2 (.aF i1 0 8 1) (yK [eA]) (Rd.obj o12 (y7 _)) (by rw [y7]; omega)
 have r3 : AX (yK [eA]) = .bV [.int .i64 (yu (yK [eA])), .int .i64 0] := by unfold AX; rw [GI, y7]; rfl
 rw [r3] at k3
 have k4 := fun g => BN g nA (by decide)
 rw [← hb] at k4
 obtain ⟨H3, hH3⟩ : ∃ g, g = h2.alloc [.int .i64 b] := ⟨_, rfl⟩
 have x3 : Ext h2 H3 := by rw [hH3]; exact (Ext.refl h2).alloc _
 have z31 := x3 _ _ z21
 have z32 := x3 _ _ z22
 have f3 : H3.floor = h.next := by rw [hH3]; simp [f2, f1, gf]
 have n3 : H3.next = h2.next + 1 := by rw [hH3]; simp
 obtain ⟨v5, h5, acc, k5, e5, q5, b5⟩ := DI H3 (by omega) _ (.aF h2.next 0 1 1) _ [(b : Int)] rfl (by simp) (rd1 H3 h.next z31) (hv H3) (Df (by rw [hH3, xL rfl])) (by simp) (by rw [a6, Bool.and_true]; exact EL)
 have q5' : acc.map (·.1) = [(nA, [1, 0, 0, 0])] := q5.trans a5
 have z51 := e5.ext _ _ z31
 have z52 := e5.ext _ _ z32
 have f5 := e5.fl
 have n5 := e5.nx
 obtain ⟨H6, hH6⟩ : ∃ g, g = h5.alloc [.int .i64 8] := ⟨_, rfl⟩
 have x6 : Ext h5 H6 := by rw [hH6]; exact (Ext.refl h5).alloc _
 have z61 := x6 _ _ z51
 have f6 : H6.floor = h.next := by rw [hH6]; simp [f5, f3]
 have n6 : H6.next = h5.next + 1 := by rw [hH6]; simp
 obtain ⟨h7, k7, e7, f7, n7⟩ := BM H6 (by omega) _ (.aF h5.next 0 1 1) _ [8] rfl (by simp) (rd1 H6 h.next z61) (hv H6) (Df (by rw [hH6, xL rfl])) (by simp) (by rw [a7, OM])
 have k8 : ∀ g, aS AP.A 181 [.aQ] g = some (.bV [.int .i64 0, .int .i64 1600], g) := fun g => ET g .aQ [] ⟨rfl, fun s q => by cases q⟩ (by simp)
 have up : Ext h2 h7 := fun i c q => e7 _ _ (x6 _ _ (e5.ext _ _ (x3 _ _ q)))
 have o17 := up _ _ o12
 have o27 := up _ _ o2'
 have z72 : h7.get (h.next + 1) = some [.aF h.next 0 1 9] := up _ _ z22
 have rb7 : Gk h7 v5 acc := (e5.N8 b5).mono fun i c q => e7 _ _ (x6 _ _ q)
 obtain ⟨Y, hY⟩ : ∃ g, g = h7.alloc [.int .i64 0, .int .i64 0, .int .i64 0, .int .i64 0, .int .i64 0, .int .i64 0, .int .i64 0, .int .i64 0] := ⟨_, rfl⟩
 have k9 : aS AP.A 106 [.aF i2 0 8 1, .aF h7.next 0 8 1] Y = some (.bool true, Y) := by
  have y1 : Ext h7 Y := by rw [hY]; exact (Ext.refl h7).alloc _
  have := Fk Y (.aF i2 0 8 1) (.aF h7.next 0 8 1) [0, 0, 0, 0, 0, 0, 0, 0] [0, 0, 0, 0, 0, 0, 0, 0] (Rd.obj (y1 _ _ o27) rfl) (Rd.obj (l := [0, 0, 0, 0, 0, 0, 0, 0]) (by rw [hY, xL rfl]; rfl) rfl) (by simp)
  rw [dt rfl] at this; exact this
 have yn : Y.next = h7.next + 1 := by rw [hY]; simp
 have yi : Y.get i1 = some (ints (yK [eA])) := by rw [hY, xU (by have := h7.lt _ _ o17; omega)]; exact o17
 obtain ⟨W, hW⟩ : ∃ g, g = (Y.alloc [.int .i64 1, .int .i64 0, .int .i64 0, .int .i64 0]).alloc [.str ⟨#[97]⟩, .aF (h7.next + 1) 0 4 1] := ⟨_, rfl⟩
 have k10 : aS AP.A 182 [v5, .aF (h7.next + 1 + 1) 0 1 2] W = some (.bool true, W) := by
  have xw : Ext h7 W := by rw [hW, hY]; exact (((Ext.refl h7).alloc _).alloc _).alloc _
  have := Ix W v5 (.aF (h7.next + 1 + 1) 0 1 2) acc [((nA, [1, 0, 0, 0]), .aF (h7.next + 1) 0 4 1)] (rb7.mono xw) ⟨⟨by simp only [aT, if_true]; rw [hW, xL (by simp; omega)]; rfl, rfl, fun _ => by simp⟩, fun x hx => by
   obtain rfl := OY.1 hx
   exact ⟨Rd.obj (l := [1, 0, 0, 0]) (by rw [hW, xU (by simp; omega), xL (by omega)]; rfl) rfl, by simp⟩⟩ (by have := congrArg List.length q5'; rw [OI] at this; simp at this; omega)
  rw [dt (by rw [q5']; rfl)] at this; exact this
 have k11 := fun (g : H) n => IV g n
 simp only [I] at k11
 have ld : (ints (yK [eA]))[b]? = some (.int .i64 (yu (zw [eA] b))) := uW a1
 obtain ⟨D, hD⟩ : ∃ D, D = yu (zw [eA] b) := ⟨_, rfl⟩
 obtain ⟨R, hR⟩ : ∃ R, R = yu (yK [eA]) := ⟨_, rfl⟩
 rw [← hD] at ld a2
 rw [← hR] at k3 a3
 have ne1 : (D != 0) = true := by rw [bne_iff_ne]; exact a2
 have ne2 : (R != 0) = true := by rw [bne_iff_ne]; exact a3
 have iL := qZ (yK [eA])
 rw [y7] at iL
 have k1' : aS AP.A 177 [.agg [.aF h.next 0 1 9]] G = some (.bV [.aF i1 0 8 1, .int .i64 0], h1) := k1
 have k2' : aS AP.A 177 [.agg [.aQ]] h1 = some (.bV [.aF i2 0 8 1, .int .i64 0], h2) := k2
 have k5' : aS AP.A 178 [.agg [.aF h.next 0 1 9], .aF h2.next 0 1 1] H3 = some (.bV [v5, .int .i64 0], h5) := k5
 have k7' : aS AP.A 178 [.agg [.aF h.next 0 1 9], .aF h5.next 0 1 1] H6 = some (.bV [.aQ, .int .i64 1600], h7) := k7
 have k4' : ∀ g, aS AP.A 179 [.str ⟨#[97]⟩] g = some (.int .i64 b, g) := k4
 have gg := hG.symm
 have hh3 := hH3.symm
 have hh6 := hH6.symm
 have hy := hY.symm
 have hw := hW.symm
 have hbI : (0 : Int) ≤ (b : Int) ∧ (b : Int) < 8 := ⟨by omega, by omega⟩
 obtain ⟨hF, hh⟩ : ∃ hF, aM (aS AP.A) bH AP.f176.body (params 0 []) h.eJ = some (.ret, [(0, .bool true)], hF) := by
  clear e1 e2 e5 e7 b5 q5 q5' rb7 up x3 x6 hv okE rd1 hE hb hD hR a1 a4 a5 a6 a7 k1 k2 k5 k7 k4 r3 hG hH3 hH6 hY hW eE
  generalize ints (yK [eA]) = L at *
  refine ⟨?_, ?_⟩
  rotate_left
  simp (disch := first | omega | (simp only [ym, OA, OC, w8, Nat.reduceAdd]; first | done | omega | fail) | (simp (disch := first | omega | (simp only [ym, OA, OC, w8, Nat.reduceAdd]; first | done | omega | fail) | fail) only [ym, Ap, OE, OA, OC, w8, Nat.reduceAdd, g2, z12, z22, z32, z52, z72, gn, n3, n6, yn, yi]; done) | fail) only [go_sem, xP, Ec, AP.f176, k0, lE, cE, fE, gg, g2, k1', z12, k2', z22, k3, k4', hh3, z32, n3, k5', z52, hh6, n6, k7', k8, hy, k9, yi, ld, iL, hw, k10, k11, ne1, ne2, Bn, eo, yn, A7]
  rfl
 exact vX (fn := AP.f176) (h2 := hF) (e := [(0, .bool true)]) rfl rfl rfl hh rfl rfl
theorem FG (x : Int) (k : Nat) (hk : k ≤ 62) : bits .and .i64 x ((2 ^ k - 1 : Nat) : Int) = x % ((2 ^ k : Nat) : Int) := by
 have h2 : 2 ^ k ≤ 2 ^ 62 := OP (by omega) hk
 have h3 : 0 < 2 ^ k := Nat.pow_pos (by omega)
 show IntKind.wrap .i64 (((BitVec.ofInt 64 x &&& BitVec.ofInt 64 ((2 ^ k - 1 : Nat) : Int)).toNat : Nat) : Int) = _
 rw [BitVec.toNat_and, yG 64 (2 ^ k - 1) (by omega), BitVec.toNat_ofInt, Nat.and_two_pow_sub_one_eq_mod, xH (by
  have := Nat.mod_lt (x % ((2 ^ 64 : Nat) : Int)).toNat h3
  omega)]
 have e : (((x % ((2 ^ 64 : Nat) : Int)).toNat : Nat) : Int) = x % ((2 ^ 64 : Nat) : Int) := Int.toNat_of_nonneg (Int.emod_nonneg _ (by decide))
 rw [Int.natCast_emod, e]
 refine Int.emod_emod_of_dvd x ?_
 refine Int.natCast_dvd_natCast.2 (Nat.pow_dvd_pow 2 (by omega))
theorem HN (x : Int) : bits .and .i64 x 1023 = x % 1024 := FG x 10 (by omega)
theorem N1 (x : Int) (n : Nat) (hn : 0 < n) : ∃ r : Nat, r < n ∧ (IntKind.wrap .u64 x).tmod (n : Int) = r := by
 have h0 : 0 ≤ IntKind.wrap .u64 x := by simp only [IntKind.wrap, IntKind.signed, IntKind.bits]; simp; omega
 obtain ⟨m, hm⟩ : ∃ m : Nat, IntKind.wrap .u64 x = m := ⟨(IntKind.wrap .u64 x).toNat, by omega⟩
 rw [hm]
 exact ⟨m % n, Nat.mod_lt _ hn, by rw [Int.tmod_eq_emod_of_nonneg (by omega)]; omega⟩
theorem ED {a d : Nat} (ha : a < 4294967296) (hd : d < 4294967296) : bits .xor .i64 (a : Int) (d : Int) = ((a ^^^ d : Nat) : Int) := by
 have h3 : a ^^^ d < 4294967296 := zI ha hd
 show IntKind.wrap .i64 (((BitVec.ofInt 64 (a : Int) ^^^ BitVec.ofInt 64 (d : Int)).toNat : Nat) : Int) = _
 rw [BitVec.toNat_xor, yG 64 a (by omega), yG 64 d (by omega)]
 exact xH (by omega)
theorem Mb {a d : Nat} (hd : d ≠ 0) : a ^^^ d ≠ a := by
 intro h
 have : a ^^^ (a ^^^ d) = a ^^^ a := by rw [h]
 rw [← Nat.xor_assoc, Nat.xor_self, Nat.zero_xor] at this
 exact hd this
theorem Iq (e : yD) : y0 e = (yT e.name && (yB e && yN e) && (e.gone || (match yR e.method e.packed e.size with | some t => decide ((yo t : Int) = e.Cq) | none => false))) := by
 unfold y0 Aa
 have hm : zG [e] = (yT e.name && (yB e && yN e)) := by simp [zG, Bt, C7]
 rw [hm]
 cases (yT e.name && (yB e && yN e)) with
 | false => rfl
 | true =>
   rw [if_neg (by decide)]
   cases e.gone with
   | true => rfl
   | false =>
     rw [if_neg (by decide)]
     cases yR e.method e.packed e.size with
     | none => rfl
     | some t =>
       dsimp only
       by_cases c : (yo t : Int) = e.Cq
       · rw [if_pos c]; simp [c]
       · rw [if_neg c]; simp [c]
def eX (X : Int) : yD := { eA with Cq := X }
theorem IL {X : Int} (h : X ≠ (yo Es : Nat)) : yW [eX X] = false := by
 have : y0 (eX X) = false := by
  rw [Iq]
  have u : yR 0 Es 2 = some Es := by decide +kernel
  have : yR (eX X).method (eX X).packed (eX X).size = some Es := u
  rw [this]
  show (_ && (false || decide ((yo Es : Int) = X))) = false
  rw [df (fun q => h q.symm), Bool.or_self, OM]
 unfold yW
 simp [this]
set_option maxHeartbeats 4000000 in
theorem Gz (which x : Int) (h : H) : aS AP.A 194 [.int .i64 which, .int .i64 x] h = some (.bool true, h) := by
 obtain ⟨d, hd⟩ : ∃ d, d = 1 + x % 1024 := ⟨_, rfl⟩
 have hd2 : 1 ≤ d ∧ d ≤ 1024 := by omega
 have b1 := HN x
 have ww1 : IntKind.wrap .i64 (1 + x % 1024) = d := by rw [hd]; exact wi (by omega)
 obtain ⟨r, hr, hu⟩ := N1 which 4 (by omega)
 obtain ⟨s, hs, hu2⟩ := N1 which 5 (by omega)
 have rm : bD .rem (.int .u64 (IntKind.wrap .u64 which)) (.int .u64 4) = some (.int .u64 r) := by
  show (if (4 : Int) = 0 then none else some (AV.int .u64 ((IntKind.wrap .u64 which).tmod 4))) = _
  rw [if_neg (by decide), show (IntKind.wrap .u64 which).tmod 4 = (r : Int) from hu]
 have rm2 : bD .rem (.int .u64 (IntKind.wrap .u64 which)) (.int .u64 5) = some (.int .u64 s) := by
  show (if (5 : Int) = 0 then none else some (AV.int .u64 ((IntKind.wrap .u64 which).tmod 5))) = _
  rw [if_neg (by decide), show (IntKind.wrap .u64 which).tmod 5 = (s : Int) from hu2]
 have cr : IntKind.wrap .i64 (r : Int) = r := wi (by omega)
 have cs : IntKind.wrap .i64 (s : Int) = s := wi (by omega)
 have k0 : ∀ g, aS AP.A 176 [] g = some (.bool true, g) := FH
 obtain ⟨X, hX⟩ : ∃ Y, Y = bits .xor .i64 (yo Es : Nat) d := ⟨_, rfl⟩
 have ne : X ≠ (yo Es : Nat) := by
  obtain ⟨n, hn⟩ : ∃ n : Nat, d = n := ⟨d.toNat, by omega⟩
  have := H8 Es
  rw [hX, hn, ED (by omega) (by omega)]
  have := Mb (a := yo Es) (d := n) (by omega)
  omega
 obtain ⟨E, hE⟩ : ∃ E, E = xO eA (yY [1, 0, 0, 0]) := ⟨_, rfl⟩
 have lE : E.length = 9 := by rw [hE]; rfl
 have cE : AV.aD E = true := by rw [hE]; exact Az (AZ _)
 have fE : setFrom Z9 0 E = E := by rw [hE]; rfl
 have okE : ∀ g, ze g (eA, yY [1, 0, 0, 0]) := fun g => ze.au (e := eA) rfl (by decide) (by decide)
 have hv : ∀ g, ∀ x ∈ [((eA, yY [1, 0, 0, 0]) : xZ)], ze g x ∧ x.2.sc = true := fun g x hx => by obtain rfl := OY.1 hx; exact ⟨okE g, AZ [1, 0, 0, 0]⟩
 have hv' : ∀ g, ∀ x ∈ [((eA, yY [1, 0, 0, 0]) : xZ)], ze g x ∧ x.2.sc = true ∧ x.1.vec.length < 20000000000000 := fun g x hx => by obtain rfl := OY.1 hx; exact ⟨okE g, AZ [1, 0, 0, 0], by show 4 < _; omega⟩
 have eE : xW [((eA, yY [1, 0, 0, 0]) : xZ)] = E := by rw [hE]; rfl
 have rd1 : ∀ (g : H) (n : Nat), g.get n = some E → zf 9 g (.aF n 0 1 9) [((eA, yY [1, 0, 0, 0]) : xZ)].length (xW [((eA, yY [1, 0, 0, 0]) : xZ)]) := fun g n hg => by rw [eE]; exact EP hg lE
 have ks : ∀ g, aS AP.A 180 [.str ⟨#[97]⟩, .int .i64 0, .int .i64 1, .str ⟨#[104, 105]⟩] g = some (.agg E, g) := fun g => by rw [hE]; exact Cc g nA Es 0 1 (by omega) (by decide)
 obtain ⟨G, hG⟩ : ∃ G, G = ((h.eJ.alloc E).alloc [.aQ]).set (h.next + 1) [.aF h.next 0 1 9] := ⟨_, rfl⟩
 have g1 : G.get h.next = some E := by rw [hG]; simp (disch := first | omega | (simp only [ym, OA, OC, w8, Nat.reduceAdd]; first | done | omega | fail) | fail) only [ym, Ap, OE, OA, OC, w8, Nat.reduceAdd]
 have g2 : G.get (h.next + 1) = some [.aF h.next 0 1 9] := by rw [hG]; simp (disch := first | omega | (simp only [ym, OA, OC, w8, Nat.reduceAdd]; first | done | omega | fail) | fail) only [ym, Ap, OE, OA, OC, w8, Nat.reduceAdd]
 have gf : G.floor = h.next := by rw [hG]; simp
 have gn : G.next = h.next + 1 + 1 := by rw [hG]; simp
 obtain ⟨w, h1, acc, k1, e1, m1, c1⟩ := H0 G (by omega) (.aF h.next 0 1 9) _ rfl (by simp) (rd1 G h.next g1) (hv' G)
 have z1 := e1.ext _ _ g1
 have z2 := e1.ext _ _ g2
 have n1 := e1.nx
 obtain ⟨u, rfl⟩ : ∃ u, acc = [(eA, u)] := by
  match acc, m1 with
  | [(e, u)], m1 => simp at m1; subst m1; exact ⟨u, rfl⟩
 obtain ⟨cu1, cu2, cu3, i, ci, q1, q2, q3⟩ := c1 (eA, u) (OY.2 rfl)
 obtain ⟨j, rfl, oj, oj2⟩ : ∃ j, w = .aF j 0 1 9 ∧ h1.get j = some (xO eA u) ∧ h1.floor ≤ j := by
  obtain ⟨_, ⟨_, q⟩ | ⟨j, p1, p2, p3, _⟩⟩ := e1.own
  · cases q
  · exact ⟨j, p1, by rw [p2]; rfl, p3⟩
 have ge := e1.ge j rfl
 have ji : j ≠ i := fun q => (cu3 i (by rw [q1]; rfl)).2.2.1 (by rw [← q]; rfl)
 have hq3 := q3 (by show 0 < 4; omega)
 subst hq3
 have q1' : u = .aF i 0 4 1 := q1
 subst q1'
 obtain ⟨F, hF⟩ : ∃ F, F = xO eA (.aF i 0 4 1) := ⟨_, rfl⟩
 obtain ⟨F2, hF2⟩ : ∃ F, F = xO (eX X) (.aF i 0 4 1) := ⟨_, rfl⟩
 rw [← hF] at oj
 have F8 : F[8]? = some (.int .i64 (yo Es : Nat)) := by rw [hF]; rfl
 have lF : F.length = 9 := by rw [hF]; rfl
 have sF : F.set 8 (.int .i64 X) = F2 := by rw [hF, hF2]; rfl
 obtain ⟨H2, hH2⟩ : ∃ g, g = (h1.alloc [.aQ]).set h1.next [.aF j 0 1 9] := ⟨_, rfl⟩
 have jn := h1.lt _ _ oj
 have iN := h1.lt _ _ q2
 have y1 : H2.get h1.next = some [.aF j 0 1 9] := by rw [hH2]; simp (disch := first | omega | (simp only [ym, OA, OC, w8, Nat.reduceAdd]; first | done | omega | fail) | fail) only [ym, Ap, OE, OA, OC, w8, Nat.reduceAdd]
 have yk : ∀ k, k < h1.next → H2.get k = h1.get k := fun k hk => by rw [hH2, xY (by omega), xU (by omega)]
 have yj : H2.get j = some F := by rw [yk j jn]; exact oj
 have yf : H2.floor = h.next := by rw [hH2]; simp [e1.fl, gf]
 have yn : H2.next = h1.next + 1 := by rw [hH2]; simp
 obtain ⟨H3, hH3⟩ : ∃ g, g = H2.set j F2 := ⟨_, rfl⟩
 have st3 : vZ H2 j 8 1 [.int .i64 X] (some F) = some H3 := by rw [wD (by omega) (by omega) rfl, sF, hH3]
 have x1 : H3.get h1.next = some [.aF j 0 1 9] := by rw [hH3, xY (by omega)]; exact y1
 have xk : ∀ k, k < h1.next → k ≠ j → H3.get k = h1.get k := fun k hk hj => by rw [hH3, xY hj, yk k hk]
 have xj : H3.get j = some F2 := by rw [hH3, yg rfl, yj]; rfl
 have xf : H3.floor = h.next := by rw [hH3]; simp [yf]
 have xn : H3.next = h1.next + 1 := by rw [hH3]; simp [yn]
 have xi : H3.get i = some (ints eA.vec) := by rw [xk i iN (fun q => ji q.symm)]; exact q2
 have x0 : H3.get h.next = some E := by rw [xk _ (by omega) (by omega)]; exact z1
 have x00 : H3.get (h.next + 1) = some [.aF h.next 0 1 9] := by rw [xk _ (by omega) (by omega)]; exact z2
 have rdX : ∀ g : H, g.get j = some F2 → zf 9 g (.aF j 0 1 9) [((eX X, .aF i 0 4 1) : xZ)].length (xW [((eX X, .aF i 0 4 1) : xZ)]) := fun g hg => by
  have : xW [((eX X, .aF i 0 4 1) : xZ)] = F2 := by rw [hF2]; rfl
  rw [this]; exact EP hg (by rw [hF2]; rfl)
 have hvX : ∀ g : H, g.get i = some (ints eA.vec) → ∀ x ∈ [((eX X, .aF i 0 4 1) : xZ)], ze g x ∧ x.2.sc = true := fun g hg x hx => by
  obtain rfl := OY.1 hx
  exact ⟨ze.obj (e := eX X) (l := eA.vec) hg rfl rfl (by show nA.size < _; decide) (by show Es.size < _; decide), rfl⟩
 obtain ⟨h4, k4, e4, f4, n4⟩ := Km H3 (by omega) (.aF j 0 1 9) _ rfl (by simp) (rdX H3 xj) (hvX H3 xi) (IL ne)
 obtain ⟨H5, hH5⟩ : ∃ g, g = h4.alloc [.int .i64 1] := ⟨_, rfl⟩
 have e5 : Ext H3 H5 := by rw [hH5]; exact e4.alloc _
 have f5 : H5.floor = h.next := by rw [hH5]; simp [f4, xf]
 have n5 : H5.next = h4.next + 1 := by rw [hH5]; simp
 obtain ⟨h6, k6, e6, f6, n6⟩ := BM H5 (by omega) (.aF j 0 1 9) (.aF h4.next 0 1 1) _ [1] rfl (by simp) (rdX H5 (e5 _ _ xj)) (hvX H5 (e5 _ _ xi)) (Df (by rw [hH5, xL rfl])) (by simp) (by rw [show yW ([((eX X, .aF i 0 4 1) : xZ)].map (·.1)) = false from IL ne, OH])
 obtain ⟨H7, hH7⟩ : ∃ g, g = ((((h6.alloc [.int .i64 (-d)]).alloc [.int .i64 (7 + d)]).alloc [.int .i64 1, .int .i64 1]).alloc [.int .i64 2, .int .i64 1]).alloc [.aF h6.next 0 1 1, .aF (h6.next + 1) 0 1 1, .aF (h6.next + 1 + 1) 0 2 1, .aF (h6.next + 1 + 1 + 1) 0 2 1] := ⟨_, rfl⟩
 have e7 : Ext H3 H7 := by rw [hH7]; exact fun i c q => (((((Ext.refl h6).alloc _).alloc _).alloc _).alloc _).alloc _ _ _ (e6 _ _ (e5 _ _ q))
 have f7 : H7.floor = h.next := by rw [hH7]; simp [f6, f5]
 have n7 : H7.next = h6.next + 1 + 1 + 1 + 1 + 1 := by rw [hH7]; simp
 have t7 : H7.get (h6.next + 1 + 1 + 1 + 1) = some [.aF h6.next 0 1 1, .aF (h6.next + 1) 0 1 1, .aF (h6.next + 1 + 1) 0 2 1, .aF (h6.next + 1 + 1 + 1) 0 2 1] := by rw [hH7]; simp (disch := first | omega | (simp only [ym, OA, OC, w8, Nat.reduceAdd]; first | done | omega | fail) | fail) only [ym, Ap, OE, OA, OC, w8, Nat.reduceAdd]
 obtain ⟨vr, bs, j1, j2, j3, j4⟩ : ∃ vr bs, ([.aF h6.next 0 1 1, .aF (h6.next + 1) 0 1 1, .aF (h6.next + 1 + 1) 0 2 1, .aF (h6.next + 1 + 1 + 1) 0 2 1] : List AV)[r]? = some vr ∧ Rd H7 vr (ints bs) ∧ zO bs = false ∧ bs.length < 10 := by
  match r, hr with
  | 0, _ => exact ⟨_, [-d], rfl, Rd.obj (l := [-d]) (by rw [hH7]; simp (disch := first | omega | (simp only [ym, OA, OC, w8, Nat.reduceAdd]; first | done | omega | fail) | fail) only [ym, Ap, OE, OA, OC, w8, Nat.reduceAdd]; rfl) rfl, by unfold zO; rw [C4]; unfold Ji; rw [df (by omega), OH, OH], by simp⟩
  | 1, _ => exact ⟨_, [7 + d], rfl, Rd.obj (l := [7 + d]) (by rw [hH7]; simp (disch := first | omega | (simp only [ym, OA, OC, w8, Nat.reduceAdd]; first | done | omega | fail) | fail) only [ym, Ap, OE, OA, OC, w8, Nat.reduceAdd]; rfl) rfl, by unfold zO; rw [C4]; unfold Ji; rw [df (by omega : ¬ 7 + d < 8), OH, OM, OH], by simp⟩
  | 2, _ => exact ⟨_, [1, 1], rfl, Rd.obj (l := [1, 1]) (by rw [hH7]; simp (disch := first | omega | (simp only [ym, OA, OC, w8, Nat.reduceAdd]; first | done | omega | fail) | fail) only [ym, Ap, OE, OA, OC, w8, Nat.reduceAdd]; rfl) rfl, by decide, by simp⟩
  | 3, _ => exact ⟨_, [2, 1], rfl, Rd.obj (l := [2, 1]) (by rw [hH7]; simp (disch := first | omega | (simp only [ym, OA, OC, w8, Nat.reduceAdd]; first | done | omega | fail) | fail) only [ym, Ap, OE, OA, OC, w8, Nat.reduceAdd]; rfl) rfl, by decide, by simp⟩
 obtain ⟨h8, k8, e8, f8, n8⟩ := BM H7 (by omega) (.aF h.next 0 1 9) vr _ bs rfl (by simp) (rd1 H7 h.next (e7 _ _ x0)) (hv H7) j2 (by omega) (by rw [j3, OM])
 obtain ⟨H9, hH9⟩ : ∃ g, g = ((((h8.alloc [.int .i64 0, .int .i64 0, .int .i64 0, .int .i64 0, .int .i64 0, .int .i64 0, .int .i64 0]).alloc [.int .i64 0, .int .i64 0, .int .i64 0, .int .i64 0, .int .i64 0, .int .i64 0, .int .i64 0, .int .i64 0, .int .i64 0]).alloc [.int .i64 0, .int .i64 0, .int .i64 0, .int .i64 0, .int .i64 0, .int .i64 0, .int .i64 0, .int .i64 (-d)]).alloc [.int .i64 0, .int .i64 (4294967295 + d), .int .i64 0, .int .i64 0, .int .i64 0, .int .i64 0, .int .i64 0, .int .i64 0]).alloc [.aQ, .aF h8.next 0 7 1, .aF (h8.next + 1) 0 9 1, .aF (h8.next + 1 + 1) 0 8 1, .aF (h8.next + 1 + 1 + 1) 0 8 1] := ⟨_, rfl⟩
 have e9 : Ext H3 H9 := by rw [hH9]; exact fun i c q => (((((Ext.refl h8).alloc _).alloc _).alloc _).alloc _).alloc _ _ _ (e8 _ _ (e7 _ _ q))
 have f9 : H9.floor = h.next := by rw [hH9]; simp [f8, f7]
 have n9 : H9.next = h8.next + 1 + 1 + 1 + 1 + 1 := by rw [hH9]; simp
 have t9 : H9.get (h8.next + 1 + 1 + 1 + 1) = some [.aQ, .aF h8.next 0 7 1, .aF (h8.next + 1) 0 9 1, .aF (h8.next + 1 + 1) 0 8 1, .aF (h8.next + 1 + 1 + 1) 0 8 1] := by rw [hH9]; simp (disch := first | omega | (simp only [ym, OA, OC, w8, Nat.reduceAdd]; first | done | omega | fail) | fail) only [ym, Ap, OE, OA, OC, w8, Nat.reduceAdd]
 obtain ⟨vs, ds, l1, l2, l3, l4⟩ : ∃ vs ds, ([.aQ, .aF h8.next 0 7 1, .aF (h8.next + 1) 0 9 1, .aF (h8.next + 1 + 1) 0 8 1, .aF (h8.next + 1 + 1 + 1) 0 8 1] : List AV)[s]? = some vs ∧ Rd H9 vs (ints ds) ∧ AX ds = .bV [.int .i64 0, .int .i64 1600] ∧ ds.length < 10 := by
  match s, hs with
  | 0, _ => exact ⟨_, [], rfl, ⟨rfl, fun s q => by cases q⟩, rfl, by simp⟩
  | 1, _ => exact ⟨_, [0, 0, 0, 0, 0, 0, 0], rfl, Rd.obj (l := [0, 0, 0, 0, 0, 0, 0]) (by rw [hH9]; simp (disch := first | omega | (simp only [ym, OA, OC, w8, Nat.reduceAdd]; first | done | omega | fail) | fail) only [ym, Ap, OE, OA, OC, w8, Nat.reduceAdd]; rfl) rfl, by unfold AX; rw [if_neg (by decide)], by simp⟩
  | 2, _ => exact ⟨_, [0, 0, 0, 0, 0, 0, 0, 0, 0], rfl, Rd.obj (l := [0, 0, 0, 0, 0, 0, 0, 0, 0]) (by rw [hH9]; simp (disch := first | omega | (simp only [ym, OA, OC, w8, Nat.reduceAdd]; first | done | omega | fail) | fail) only [ym, Ap, OE, OA, OC, w8, Nat.reduceAdd]; rfl) rfl, by unfold AX; rw [if_neg (by decide)], by simp⟩
  | 3, _ => exact ⟨_, [0, 0, 0, 0, 0, 0, 0, -d], rfl, Rd.obj (l := [0, 0, 0, 0, 0, 0, 0, -d]) (by rw [hH9]; simp (disch := first | omega | (simp only [ym, OA, OC, w8, Nat.reduceAdd]; first | done | omega | fail) | fail) only [ym, Ap, OE, OA, OC, w8, Nat.reduceAdd]; rfl) rfl, by unfold AX; rw [if_neg]; simp [Cs]; omega, by simp⟩
  | 4, _ => exact ⟨_, [0, 4294967295 + d, 0, 0, 0, 0, 0, 0], rfl, Rd.obj (l := [0, 4294967295 + d, 0, 0, 0, 0, 0, 0]) (by rw [hH9]; simp (disch := first | omega | (simp only [ym, OA, OC, w8, Nat.reduceAdd]; first | done | omega | fail) | fail) only [ym, Ap, OE, OA, OC, w8, Nat.reduceAdd]; rfl) rfl, by unfold AX; rw [if_neg]; simp [Cs]; omega, by simp⟩
 have k9 := ET H9 vs ds l2 (by omega)
 rw [l3] at k9
 obtain ⟨v10, h10, acc10, k10, e10, m10, _⟩ := DI H9 (by omega) (.aF h.next 0 1 9) .aQ _ [] rfl (by simp) (rd1 H9 h.next (e9 _ _ x0)) (hv H9) ⟨rfl, fun s q => by cases q⟩ (by simp) (by rw [show yW ([((eA, yY [1, 0, 0, 0]) : xZ)].map (·.1)) = true from EL]; rfl)
 have m10' : acc10 = [] := by simpa [yU] using m10
 subst m10'
 have hv10 : v10 = .aQ := by
  obtain ⟨_, ⟨q, _⟩ | ⟨_, _, _, _, q⟩⟩ := e10.own
  · exact q
  · simp at q
 subst hv10
 have k11 := fun (g : H) n => IV g n
 simp only [I] at k11
 have gg := hG.symm
 have hh2 := hH2.symm
 have hh5 := hH5.symm
 have hh7 := hH7.symm
 have hh9 := hH9.symm
 have xq : bits .xor .i64 (yo Es : Nat) d = X := hX.symm
 have z3 : h4.get h1.next = some [.aF j 0 1 9] := e4 _ _ x1
 have z7 : H7.get (h.next + 1) = some [.aF h.next 0 1 9] := e7 _ _ x00
 have z9 : H9.get (h.next + 1) = some [.aF h.next 0 1 9] := e9 _ _ x00
 have wn : IntKind.wrap .i64 (0 - d) = -d := by rw [wi (by omega)]; omega
 have wa : IntKind.wrap .i64 (7 + d) = 7 + d := wi (by omega)
 have wb4 : IntKind.wrap .i64 (4294967295 + d) = 4294967295 + d := wi (by omega)
 have rI : (0 : Int) ≤ (r : Int) ∧ (r : Int) < 4 := ⟨by omega, by omega⟩
 have sI : (0 : Int) ≤ (s : Int) ∧ (s : Int) < 5 := ⟨by omega, by omega⟩
 obtain ⟨hZ, hh⟩ : ∃ hZ, aM (aS AP.A) bH AP.f194.body (params 0 [.int .i64 which, .int .i64 x]) h.eJ = some (.ret, [(4, .bool true)], hZ) := by
  clear e1 e4 e5 e6 e7 e8 e9 e10 c1 m1 m10 hv hv' okE rd1 hE hF hF2 hG hH2 hH3 hH5 hH7 hH9 hX hd ne eE rdX hvX yk xk cu1 cu2 cu3 j2 j3 l2 l3 q1 q2 q3 xi xj x0 x00 hu hu2
  generalize yo Es = CC at *
  refine ⟨?_, ?_⟩
  rotate_left
  simp (disch := first | omega | (simp only [ym, OA, OC, w8, Nat.reduceAdd]; first | done | omega | fail) | (simp (disch := first | omega | (simp only [ym, OA, OC, w8, Nat.reduceAdd]; first | done | omega | fail) | fail) only [ym, Ap, OE, OA, OC, w8, Nat.reduceAdd, g2, y1, z3, z7, z9, gn, n5, n7, n9, t7, t9, yj]; done) | fail) only [go_sem, xP, Ec, AP.f194, b1, ww1, rm, rm2, cr, cs, k0, ks, lE, cE, fE, gg, g2, k1, hh2, y1, yj, F8, lF, xq, st3, x1, k4, z3, hh5, k6, wn, wa, wb4, hh7, z7, t7, j1, k8, hh9, t9, l1, k9, z9, k10, k11, A7, n7, n9, vV, Bn, eo]
  rfl
 exact vX (fn := AP.f194) (h2 := hZ) (e := [(4, .bool true)]) rfl rfl rfl hh rfl rfl
theorem Bs (r : List (Ty × List AV)) (h : r.map (·.1) = [EM, EM]) (hp : ∀ x ∈ r, Sh reachBytes x.1 x.2) : aS AP.A 194 (r.map kO) H.empty = some (.bool true, H.empty) := by
 obtain ⟨x, y, rfl, h1, h2⟩ := Oh h hp
 obtain ⟨a, rfl, _⟩ := Hp h1
 obtain ⟨b, rfl, _⟩ := Hp h2
 exact Gz a b H.empty
end Ab
