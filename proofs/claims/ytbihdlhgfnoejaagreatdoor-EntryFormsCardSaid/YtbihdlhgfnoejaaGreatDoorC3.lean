/- Part C3. -/
import Derived.Test.YtbihdlhgfnoejaaGreatDoorC2
set_option linter.unusedSimpArgs false
set_option linter.unusedVariables false
set_option maxRecDepth 100000
namespace Ab
open Go
structure WX (h0 h : H) (w : Nat) (bs : List Nat) (ov : AV) : Prop where
 wr : Wr h w bs ov
 ext : Ext h0 h
 lw : h0.next ≤ w
 ln : h0.next ≤ h.next
 lo : ∀ j, ov.id? = some j → h0.next ≤ j
theorem WX.step {h0 h h' : H} {w : Nat} {bs bs' : List Nat} {ov ov' : AV} (x : WX h0 h w bs ov) (wr : Wr h' w bs' ov') (f : HA h w ov h' ov') : WX h0 h' w bs' ov' :=
 ⟨wr, fun i c hi => by
  have := h0.lt _ _ hi
  have := x.ln
  have := x.lw
  rw [f.yg i (by omega) (by omega) (fun q => by have := x.lo i q; omega), x.ext i c hi], x.lw, by have := f.next; have := x.ln; omega, fun j hj => by
  rcases f.ids j hj with q | q
  · exact x.lo j q
  · have := x.ln; omega⟩
theorem WX.turn {h0 h h' : H} {w : Nat} {bs : List Nat} {ov : AV} (x : WX h0 h w bs ov) (hf : h'.floor = h.floor) (hn : h.next ≤ h'.next) (hk : ∀ i, i < h.next → h'.get i = h.get i) : WX h0 h' w bs ov :=
 ⟨⟨by rw [hk w (h.lt _ _ x.wr.get), x.wr.get], x.wr.own.mono hf fun i q => hk i (x.wr.own.lt q).2, by rw [hf]; exact x.wr.fl, by rw [hf]; exact wk x.wr.Lm hn, x.wr.ne, x.wr.Og⟩,
   fun i c hi => by have := h0.lt _ _ hi; have := x.ln; rw [hk i (by omega), x.ext i c hi], x.lw, wk x.ln hn, x.lo⟩
def DZ (E : List (Int × Int)) (s : Nat) : Prop := ∃ n v : Nat, E[s]? = some ((n : Int), (v : Int)) ∧ 1 ≤ n ∧ n ≤ 15 ∧ v < 2 ^ n
def wN (E : List (Int × Int)) (s : Nat) : List Nat := zI (E.getD s (0, 0)).2.toNat (E.getD s (0, 0)).1.toNat
theorem DZ.bits {E : List (Int × Int)} {s : Nat} (o : DZ E s) : ∃ n v : Nat, E[s]? = some ((n : Int), (v : Int)) ∧ 1 ≤ n ∧ n ≤ 15 ∧ v < 2 ^ n ∧ wN E s = zI v n := by
 obtain ⟨n, v, h, h1, h2, h3⟩ := o
 refine ⟨n, v, h, h1, h2, h3, ?_⟩
 unfold wN
 rw [VH, h]; rfl
theorem DZ.lt {E : List (Int × Int)} {s : Nat} (o : DZ E s) : s < E.length := by
 obtain ⟨n, v, h, _⟩ := o
 exact (vN.1 h).1
theorem zU.Kd {h : H} {v : AV} {E : List (Int × Int)} (r : zU 2 h v E.length (E.flatMap xU)) : ∃ ad : Int → AV,
 (∀ i : Int, 0 ≤ i ∧ i < E.length → gG 2 v (.int .i64 i) = some (ad i)) ∧
 ∀ g : H, Ext h g → ∀ (i : Nat) (p : Int × Int), E[i]? = some p → cJ true 2 (ad i) g = some (.agg [.int .i64 p.1, .int .i64 p.2]) := by
 obtain ⟨ad, a1, a2, _, a3⟩ := r.at_
 refine ⟨fun i => ad i 0, a1, fun g hg i t ht => ?_⟩
 obtain ⟨b1, b2⟩ := a3 g hg
 have hi : i < E.length := (vN.1 ht).1
 have hI : (0 : Int) ≤ (i : Int) ∧ (i : Int) < E.length := ⟨by omega, by omega⟩
 have ti : ((i : Int)).toNat = i := by omega
 rw [b2 i hI, ti, GY Ar ht]; rfl
def xf (E D : List (Int × Int)) (t : Tok) : List Nat :=
 if t.len = 0 then wN E t.lit.toNat
 else wN E (xS t.len.toNat) ++ (w8 (AX t.len.toNat) (Ao t.len.toNat) ++ (wN D (yj t.xa.toNat) ++ w8 (AU t.xa.toNat) (Ai t.xa.toNat)))
def xW (E D : List (Int × Int)) (ts : List Tok) : List Nat := ts.flatMap (xf E D)
def Lq (E D : List (Int × Int)) (t : Tok) : Prop :=
 (t.len = 0 ∧ 0 ≤ t.lit ∧ DZ E t.lit.toNat) ∨ (3 ≤ t.len ∧ t.len ≤ 258 ∧ 1 ≤ t.xa ∧ t.xa ≤ 32768 ∧ DZ E (xS t.len.toNat) ∧ DZ D (yj t.xa.toNat))
theorem G6 {k : Nat} (h1 : 3 ≤ k) (h2 : k ≤ 258) : Ao k ≤ 5 ∧ AX k < 2 ^ Ao k := by
 obtain ⟨a1, a2, a3, a4⟩ := Aq h1 h2
 obtain ⟨a, b, hab⟩ := Cg a1 a2
 have := EN hab
 refine ⟨by unfold Ao; rw [hab]; show b ≤ 5; omega, ?_⟩
 unfold AX Ao; omega
theorem GQ {k : Nat} (h1 : 1 ≤ k) (h2 : k ≤ 32768) : Ai k ≤ 13 ∧ AU k < 2 ^ Ai k := by
 obtain ⟨a2, a3, a4⟩ := Aj h1 h2
 obtain ⟨a, b, hab⟩ := A4 a2
 have := Dj hab
 refine ⟨by unfold Ai; rw [hab]; show b ≤ 13; omega, ?_⟩
 unfold AU Ai; omega
theorem DY {E D : List (Int × Int)} {t : Tok} (o : Lq E D t) : (xf E D t).length ≤ 48 := by
 rcases o with ⟨h1, h2, h3⟩ | ⟨h1, h2, h3, h4, h5, h6⟩
 · obtain ⟨n, v, _, q1, q2, q3, q4⟩ := h3.bits
   rw [xf, if_pos h1, q4, xw]; omega
 · obtain ⟨n, v, _, q1, q2, q3, q4⟩ := h5.bits
   obtain ⟨n', v', _, q1', q2', q3', q4'⟩ := h6.bits
   have l := G6 (k := t.len.toNat) (by omega) (by omega)
   have d := GQ (k := t.xa.toNat) (by omega) (by omega)
   rw [xf, if_neg (by omega), q4, q4']
   simp only [wo, xw, w8, xc]; omega
theorem Lf {v lv dv : AV} {ts : List Tok} {E D : List (Int × Int)} (hn : ts.length < 1000000) (h0 : H) (rd : zU 3 h0 v ts.length (xC ts)) (rl : zU 2 h0 lv E.length (E.flatMap xU)) (rx : zU 2 h0 dv D.length (D.flatMap xU)) (w i : Nat) (t : Tok) (ht : ts[i]? = some t) (o : Lq E D t) (h : H) (bs : List Nat) (ov : AV) (x : WX h0 h w bs ov) (hb : bs.length + 48 ≤ 65000) :
 ∃ h' ov', aM (aS AP.A) bG AP.f36L0 (ay [(0, .aE w 0), (1, v), (2, lv), (3, dv), (8, .int .i64 i)] [0, 1, 2, 3, 8]) h = some (.normal, [(0, .aE w 0), (1, v), (2, lv), (3, dv), (8, .int .i64 (i + 1 : Nat))], h') ∧ WX h0 h' w (bs ++ xf E D t) ov' := by
 have ln := rd.len
 obtain ⟨ad, a1, a2, a3⟩ := rd.Ld
 have hi : i < ts.length := (vN.1 ht).1
 have hI : (0 : Int) ≤ (i : Int) ∧ (i : Int) < ts.length := ⟨by omega, by omega⟩
 have b1 := a1 _ hI
 have b2 := a2 i 0 1 hI
 have b20 := a2 i 0 0 hI
 have b22 := a2 i 0 2 hI
 obtain ⟨b3, b4, b5, _⟩ := a3 h x.ext _ _ ht
 obtain ⟨le, l1, l2⟩ := rl.Kd
 have n1 : ((i + 1 : Nat) : Int) = (i : Int) + 1 := by omega
 rcases o with ⟨c0, h2, h3⟩ | ⟨h1, h2, h3, h4, h5, h6⟩
 · obtain ⟨y, hy⟩ : ∃ y : Nat, t.lit = y := VP h2
   have yt : t.lit.toNat = y := by omega
   have yl := h3.lt
   obtain ⟨n, c, q0, q1, q2, q3, q4⟩ := h3.bits
   rw [yt] at q0 q4 yl
   have e1 := l1 y ⟨by omega, by omega⟩
   have e2 := l2 h x.ext _ _ q0
   obtain ⟨h', ov', k1, k2, k3⟩ := C9 x.wr c n q1 q2 q3 (by omega)
   rw [hy] at b3
   rw [c0] at b4
   refine ⟨h', ov', ?_, ?_⟩
   · rw [n1]
     clear rd rl rx a1 a2 a3 l1 l2 x k2 k3 q4 b5 h3 ht q3
     simp (disch := omega) only [go_sem, wH, AP.f36L0, ln, b1, b2, b20, b3, b4, e1, e2, k1]
   · rw [xf, if_pos c0, yt, q4]
     exact x.step k2 k3
 · obtain ⟨L, hL⟩ : ∃ y : Nat, t.len = y := VP (by omega)
   obtain ⟨K, hK⟩ : ∃ y : Nat, t.xa = y := VP (by omega)
   have Lt : t.len.toNat = L := by omega
   have Kt : t.xa.toNat = K := by omega
   rw [Lt] at h5
   rw [Kt] at h6
   have lb := G6 (k := L) (by omega) (by omega)
   have db := GQ (k := K) (by omega) (by omega)
   obtain ⟨de, d1, d2⟩ := rx.Kd
   have ll := h5.lt
   have dl := h6.lt
   obtain ⟨n, c, q0, q1, q2, q3, q4⟩ := h5.bits
   obtain ⟨n', c', p0, p1, p2, p3, p4⟩ := h6.bits
   have kl : ∀ g : H, aS AP.A 28 [.int .i64 L] g = _ := fun g => Ih g L (by omega) (by omega)
   have kd : ∀ g : H, aS AP.A 29 [.int .i64 K] g = _ := fun g => LS g K (by omega) (by omega)
   have e1 := l1 (xS L) ⟨by omega, by omega⟩
   have f1 := d1 (yj K) ⟨by omega, by omega⟩
   obtain ⟨h1', eh1⟩ : ∃ g, g = (h.alloc [.int .i64 0, .int .i64 0, .int .i64 0]).set h.next [.int .i64 (xS L : Nat), .int .i64 (Ao L : Nat), .int .i64 (AX L : Nat)] := ⟨_, rfl⟩
   have x1 : WX h0 h1' w bs ov := x.turn (by rw [eh1]; simp) (by rw [eh1]; simp) fun j hj => by rw [eh1, wJ (by omega), wR (by omega)]
   have g1 : h1'.get h.next = some [.int .i64 (xS L : Nat), .int .i64 (Ao L : Nat), .int .i64 (AX L : Nat)] := by rw [eh1, wQ rfl, wM rfl]; rfl
   have nx1 : h1'.next = h.next + 1 := by rw [eh1]; simp
   have e2 := l2 h1' x1.ext _ _ q0
   obtain ⟨h2', o2, k1, k2, k3⟩ := C9 x1.wr c n q1 q2 q3 (by omega)
   have x2 := x1.step k2 k3
   have hw := h.lt _ _ x.wr.get
   have hon : ov.id? ≠ some h.next := fun q => by have := (x.wr.own.lt q).2; omega
   have g2 : h2'.get h.next = _ := (k3.yg h.next (by omega) (by omega) hon).trans g1
   obtain ⟨h3', o3, k4, k5, k6⟩ := zR x2.wr (AX L) (Ao L) (by omega) lb.2 (by simp [xw]; omega)
   have x3 := x2.step k5 k6
   have nx3 : h1'.next ≤ h3'.next := wk k3.next k6.next
   obtain ⟨_, _, b5', _⟩ := a3 h3' x3.ext _ _ ht
   obtain ⟨h4, eh4⟩ : ∃ g, g = (h3'.alloc [.int .i64 0, .int .i64 0, .int .i64 0]).set h3'.next [.int .i64 (yj K : Nat), .int .i64 (Ai K : Nat), .int .i64 (AU K : Nat)] := ⟨_, rfl⟩
   have x4 : WX h0 h4 w _ o3 := x3.turn (h' := h4) (by rw [eh4]; simp) (by rw [eh4]; simp) fun j hj => by rw [eh4, wJ (by omega), wR (by omega)]
   have g4 : h4.get h3'.next = some [.int .i64 (yj K : Nat), .int .i64 (Ai K : Nat), .int .i64 (AU K : Nat)] := by rw [eh4, wQ rfl, wM rfl]; rfl
   have f2 := d2 h4 x4.ext _ _ p0
   obtain ⟨h5', o5, m1, m2, m3⟩ := C9 x4.wr c' n' p1 p2 p3 (by simp [xw, w8, xc]; omega)
   have x5 := x4.step m2 m3
   have hw3 := h3'.lt _ _ x3.wr.get
   have hon3 : o3.id? ≠ some h3'.next := fun q => by have := (x3.wr.own.lt q).2; omega
   have g5 : h5'.get h3'.next = _ := (m3.yg h3'.next (by rw [eh4]; simp) (by omega) hon3).trans g4
   obtain ⟨h6', o6, m4, m5, m6⟩ := zR x5.wr (AU K) (Ai K) (by omega) db.2 (by simp [xw, w8, xc]; omega)
   have x6 := x5.step m5 m6
   rw [hL] at b4
   rw [hK] at b5'
   have fl1 : h.floor ≤ h.next := x.wr.Lm
   have fl3 : h3'.floor ≤ h3'.next := x3.wr.Lm
   have cL : ¬ (L : Int) = 0 := by omega
   refine ⟨h6', o6, ?_, ?_⟩
   · rw [n1]
     clear rd rl rx a1 a2 a3 l1 l2 d1 d2 x x1 x2 x3 x4 x5 x6 k2 k3 k5 k6 m2 m3 m5 m6 q4 p4 b5 h5 h6 ht b3 hon hon3 lb db p3 q3 hI hb
     generalize xS L = S at *
     generalize Ao L = B at *
     generalize AX L = V at *
     generalize yj K = S' at *
     generalize Ai K = B' at *
     generalize AU K = V' at *
     simp (disch := omega) only [go_sem, wH, AP.f36L0, ln, b1, b2, b22, b4, b5', e1, e2, f1, f2, kl, kd, cL, ← eh1, ← eh4, g1, g2, g4, g5, k1, k4, m1, m4]
   · rw [xf, if_neg (by omega), Lt, Kt, q4, p4]
     rw [VT, VT, VT] at x6
     exact x6
theorem GA {E D : List (Int × Int)} : ∀ {ts : List Tok}, (∀ t ∈ ts, Lq E D t) → (xW E D ts).length ≤ 48 * ts.length
 | [], _ => by simp [xW]
 | t :: ts, h => by
   have a := DY (h t (by simp))
   have b := GA (E := E) (D := D) (ts := ts) fun u hu => h u (by simp [hu])
   unfold xW at *
   simp only [VQ, wo, VK]; omega
theorem GC {v lv dv : AV} {ts : List Tok} {E D : List (Int × Int)} (hn : ts.length < 1000000) (h0 : H) (rd : zU 3 h0 v ts.length (xC ts)) (rl : zU 2 h0 lv E.length (E.flatMap xU)) (rx : zU 2 h0 dv D.length (D.flatMap xU)) (ok : ∀ t ∈ ts, Lq E D t) (w : Nat) : ∀ (q p : List Tok) (bs : List Nat) (h : H) (ov : AV), ts = p ++ q → WX h0 h w bs ov → bs.length + 48 * q.length ≤ 65000 →
 ∃ e' h' ov', Lp AP.A [0, 1, 2, 3, 8] AP.f36L0 [(0, .aE w 0), (1, v), (2, lv), (3, dv), (8, .int .i64 p.length)] h = some (.exit 0, e', h') ∧ look e' 0 = .aE w 0 ∧ look e' 2 = lv ∧ WX h0 h' w (bs ++ xW E D q) ov'
 | [], p, bs, h, ov, hp, x, hb => by
   rw [V4] at hp; subst hp
   have ln := rd.len
   refine ⟨[(0, .aE w 0), (1, v), (2, lv), (3, dv), (8, .int .i64 ts.length), (16, .bool false)], h, ov, ux ?_, rfl, rfl, by simpa [xW] using x⟩
   simp (disch := omega) only [go_sem, wH, AP.f36L0, ln]
 | t :: q, p, bs, h, ov, hp, x, hb => by
   have ht : ts[p.length]? = some t := by rw [hp]; simp
   have o := ok t (vV ht)
   have tl := DY o
   simp only [VK] at hb
   obtain ⟨h1, o1, s1, x1⟩ := Lf hn h0 rd rl rx w p.length t ht o h bs ov x (by omega)
   have hlen : (((p ++ [t]).length : Nat) : Int) = ((p.length + 1 : Nat) : Int) := by simp
   obtain ⟨e', h', ov', r1, r2, r3, r4⟩ := GC hn h0 rd rl rx ok w q (p ++ [t]) _ h1 o1 (by rw [hp]; simp) x1 (by simp; omega)
   rw [hlen] at r1
   refine ⟨e', h', ov', uy s1 r1, r2, r3, ?_⟩
   have e : bs ++ xW E D (t :: q) = bs ++ xf E D t ++ xW E D q := by unfold xW; rw [VQ, VT]
   rw [e]; exact r4
theorem MZ {v lv dv : AV} {ts : List Tok} {E D : List (Int × Int)} (hn : ts.length < 1000000) (h0 : H) (rd : zU 3 h0 v ts.length (xC ts)) (rl : zU 2 h0 lv E.length (E.flatMap xU)) (rx : zU 2 h0 dv D.length (D.flatMap xU)) (ok : ∀ t ∈ ts, Lq E D t) (o256 : DZ E 256) (w : Nat) (bs : List Nat) (h : H) (ov : AV) (x : WX h0 h w bs ov) (hb : bs.length + 48 * ts.length ≤ 65000) :
 ∃ h' ov', aS AP.A 36 [.aE w 0, v, lv, dv] h = some (.bU [], h') ∧ WX h0 h' w (bs ++ (xW E D ts ++ wN E 256)) ov' := by
 obtain ⟨e', h1, o1, r1, r2, r3, x1⟩ := GC hn h0 rd rl rx ok w ts [] bs h ov rfl x hb
 have r1' : Lp AP.A [0, 1, 2, 3, 8] AP.f36L0 [(0, .aE w 0), (1, v), (2, lv), (3, dv), (8, .int .i64 0)] h = some (.exit 0, e', h1) := r1
 obtain ⟨n, c, q0, q1, q2, q3, q4⟩ := o256.bits
 obtain ⟨le, l1, l2⟩ := rl.Kd
 have ll := o256.lt
 have e1 := l1 256 ⟨by omega, by omega⟩
 have e2 : cJ true 2 (le 256) h1 = _ := l2 h1 x1.ext _ _ q0
 have tb := GA ok
 obtain ⟨h', ov', k1, k2, k3⟩ := C9 x1.wr c n q1 q2 q3 (by rw [wo]; omega)
 have x2 := x1.step k2 k3
 rw [← q4, VT] at x2
 obtain ⟨e2', he⟩ : ∃ e2', aM (aS AP.A) bG AP.f36.body (params 0 [.aE w 0, v, lv, dv]) h = some (.normal, e2', h') := by
  clear rd rl rx x x1 k2 k3 x2 q4 l1 l2 ok o256 r1
  refine ⟨?_, ?_⟩
  rotate_left
  · simp (disch := omega) only [go_sem, wH, AP.f36, th, r1', r2, r3, e1, e2, k1]
    rfl
 exact ⟨h', ov', xM (fn := AP.f36) (e := e2') (vs := []) rfl rfl rfl he rfl, x2⟩
structure Ro (h : H) (f : Nat) (vs : List AV) (cs : List (List AV)) : Prop where
 get : h.get f = some vs
 own : ∀ (i : Nat) (v : AV) (c : List AV), vs[i]? = some v → cs[i]? = some c → wW 1 h v c.length c
 len : vs.length = cs.length
 ne : ∀ (i : Nat) (v : AV), vs[i]? = some v → v.id? ≠ some f
 Nd : ∀ (i j : Nat) (v u : AV), i ≠ j → vs[i]? = some v → vs[j]? = some u → ∀ id, v.id? = some id → u.id? ≠ some id
 fl : h.floor ≤ f
 Lm : h.floor ≤ h.next
structure Lo (h h' : H) : Prop where
 floor : h'.floor = h.floor
 next : h.next ≤ h'.next
 yg : ∀ i, i < h.floor → h'.get i = h.get i
theorem Lo.refl (h : H) : Lo h h := ⟨rfl, vR _, fun _ _ => rfl⟩
theorem Lo.trans {a b c : H} (x : Lo a b) (y : Lo b c) : Lo a c := ⟨y.floor.trans x.floor, wk x.next y.next, fun i hi => (y.yg i (by rw [x.floor]; exact hi)).trans (x.yg i hi)⟩
theorem Ext.lo {h0 a b : H} (x : Ext h0 a) (y : Lo a b) (hf : a.floor = h0.next) : Ext h0 b := fun i c hi => by
 rw [y.yg i (by rw [hf]; exact h0.lt _ _ hi), x i c hi]
theorem Ro.push {h : H} {f : Nat} {vs : List AV} {cs : List (List AV)} (r : Ro h f vs cs) (k : Nat) {v : AV} {c : List AV} (hv : vs[k]? = some v) (hc : cs[k]? = some c) (x : AV) (sc : x.sc = true) {z : Nat} (hz : roomy z (c.length + 1) = true) :
 ∃ v' h1, lL (h.alloc [x]) 1 z v (.aF h.next 0 1 1) = some (v', h1) ∧ h1.get f = some vs ∧ h1.floor = h.floor ∧ Ro (h1.set f (vs.set k v')) f (vs.set k v') (cs.set k (c ++ [x])) ∧ Lo h (h1.set f (vs.set k v')) := by
 have o := r.own k v c hv hc
 have hfl := h.lt _ _ r.get
 obtain ⟨v', h1, p1, p2, p3, p4, p5, p6⟩ := o.push r.Lm (z := z) (m := 1) (by omega) (by omega) [x] rfl (by simp [AV.aC, sc]) hz
 have hk : k < vs.length := (vN.1 hv).1
 have gf : h1.get f = some vs := by rw [p5 f (r.ne k v hv) hfl, r.get]
 have key : ∀ (i : Nat) (u : AV), (vs.set k v')[i]? = some u → (i = k ∧ u = v') ∨ (i ≠ k ∧ vs[i]? = some u) := by
  intro i u hu
  by_cases e : k = i
  · subst e
    rw [VZ, if_pos rfl, if_pos hk] at hu
    exact .inl ⟨rfl, (vG hu).symm⟩
  · rw [VZ, if_neg e] at hu
    exact .inr ⟨fun q => e q.symm, hu⟩
 have jb : ∀ (i : Nat) (u : AV), vs[i]? = some u → ∀ id, u.id? = some id → id < h.next := by
  intro i u hu id hid
  have hi : i < cs.length := by rw [← r.len]; exact (vN.1 hu).1
  exact ((r.own i u _ hu (VL hi)).lt hid).2
 refine ⟨v', h1, p1, gf, p3, ⟨?_, ?_, ?_, ?_, ?_, ?_, ?_⟩, ⟨by simp [p3], by simp; omega, ?_⟩⟩
 · rw [wQ rfl, gf]; rfl
 · intro i u d hu hd
   rcases key i u hu with ⟨rfl, rfl⟩ | ⟨hne, hu⟩
   · rw [VZ, if_pos rfl, if_pos (by rw [← r.len]; exact hk)] at hd
     obtain rfl := vG hd
     have : (c ++ [x]).length = c.length + 1 := by simp
     rw [this]
     exact p2.mono (by simp) fun j hj => by rw [wJ]; rw [p6] at hj; have := vG hj; omega
   · rw [VZ, if_neg (fun q => hne q.symm)] at hd
     exact (r.own i u d hu hd).mono (by simp [p3]) fun j hj => by
      rw [wJ (fun q => r.ne i u hu (by rw [hj, q])), p5 j (fun q => r.Nd i k u v hne hu hv j hj q) (jb i u hu j hj)]
 · simp [r.len]
 · intro i u hu
   rcases key i u hu with ⟨rfl, rfl⟩ | ⟨hne, hu⟩
   · rw [p6]; intro q; have := vG q; omega
   · exact r.ne i u hu
 · intro i j u w hij hu hw id hid
   rcases key i u hu with ⟨e1, e2⟩ | ⟨hne, hu2⟩
   · rcases key j w hw with ⟨e3, e4⟩ | ⟨hne2, hw2⟩
     · exact absurd (e1.trans e3.symm) hij
     · intro q; have := jb j w hw2 id q; rw [e2, p6] at hid; have := vG hid; omega
   · rcases key j w hw with ⟨e3, e4⟩ | ⟨hne2, hw2⟩
     · intro q; have := jb i u hu2 id hid; rw [e4, p6] at q; have := vG q; omega
     · exact r.Nd i j u w hij hu2 hw2 id hid
 · simpa [p3] using r.fl
 · simp [p3]; have := r.Lm; omega
 · intro i hi
   have := r.fl
   rw [wJ (by omega), p5 i (fun q => by have := (o.lt q).1; omega) (by have := r.Lm; omega)]
theorem Ro.put {h : H} {f : Nat} {vs : List AV} {cs : List (List AV)} (r : Ro h f vs cs) (k i : Nat) {v : AV} {c : List AV} (hv : vs[k]? = some v) (hc : cs[k]? = some c) (x : AV) (sc : x.sc = true) (hi : i < c.length) :
 ∃ id, v = .aF id 0 c.length 1 ∧ h.get id = some c ∧ h.floor ≤ id ∧ id ≠ f ∧ (∀ (j : Nat) (u : AV), j ≠ k → vs[j]? = some u → u.id? ≠ some id) ∧ Ro (h.set id (c.set i x)) f vs (cs.set k (c.set i x)) ∧ Lo h (h.set id (c.set i x)) := by
 have o := r.own k v c hv hc
 rcases o.2 with ⟨_, q⟩ | ⟨id, q1, q2, q3, q4⟩
 · omega
 have hid : v.id? = some id := by rw [q1]; rfl
 have hne : id ≠ f := fun q => r.ne k v hv (by rw [hid, q])
 have hk : k < vs.length := (vN.1 hv).1
 refine ⟨id, q1, q2, q3, hne, fun j u hj hu q => r.Nd j k u v hj hu hv id q hid, ⟨?_, ?_, ?_, r.ne, r.Nd, by simpa using r.fl, by simpa using r.Lm⟩, ⟨by simp, by simp, fun j hj => by rw [wJ (by omega)]⟩⟩
 · rw [wJ hne.symm, r.get]
 · intro j u d hu hd
   by_cases e : k = j
   · subst e
     rw [hv] at hu
     obtain rfl := vG hu
     rw [VZ, if_pos rfl, if_pos (by rw [← r.len]; exact hk)] at hd
     obtain rfl := vG hd
     have lc : (c.set i x).length = c.length := V0
     rw [lc]
     exact ⟨by omega, .inr ⟨id, q1, by rw [wQ rfl, q2]; rfl, by simpa using q3, q4⟩⟩
   · rw [VZ, if_neg e] at hd
     exact (r.own j u d hu hd).mono (by simp) fun m hm => by rw [wJ]; intro q; subst q; exact r.Nd j k u v (fun q => e q.symm) hu hv m hm hid
 · simp [r.len]
def FN (F : List Bool) : List AV := F.map .bool
theorem CA (F : List Bool) : (FN F).length = F.length := by simp [FN]
theorem Ns {F : List Bool} {i : Nat} {b : Bool} (h : F[i]? = some b) : (FN F)[i]? = some (.bool b) := by simp [FN, h]
abbrev Ol (W U : List Int) (F : List Bool) : List (List AV) := [ints W, ints U, FN F]
theorem wW.cells {n : Nat} {h : H} {v : AV} {k : Nat} {cs : List AV} (o : wW n h v k cs) : v.cells = [v] := by
 rcases o.2 with ⟨e, _⟩ | ⟨id, e, _⟩ <;> rw [e] <;> rfl
theorem LX {h : H} {f : Nat} {W U : List Int} {F : List Bool} {wv uv fv : AV} (r : Ro h f [wv, uv, fv] (Ol W U F)) (x : Int) (hl : W.length < 100000 ∧ U.length < 100000 ∧ F.length < 100000) :
 ∃ h' wv' uv' fv', aS AP.A 70 [.aE f 0, .int .i64 x] h = some (.bU [], h') ∧ Ro h' f [wv', uv', fv'] (Ol (W ++ [x]) (U ++ [-1]) (F ++ [true])) ∧ Lo h h' := by
 have rz : ∀ n z, n < 100000 → 1 ≤ z → z ≤ 8 → roomy z (n + 1) = true := fun n z h1 h2 h3 => yB ⟨h2, by
  have : (n + 1 + (n + 1) / 4 + 512) * z ≤ 1000000 * 8 := Nat.mul_le_mul (by omega) h3
  omega⟩
 obtain ⟨v1, h1, a1, a2, a3, a4, a5⟩ := r.push 0 rfl rfl (.int .i64 x) rfl (z := 8) (rz _ _ (by rw [qy]; exact hl.1) (by omega) (by omega))
 simp only [List.set_cons_zero] at a4 a5
 obtain ⟨g1, eg1⟩ : ∃ g, g = h1.set f [v1, uv, fv] := ⟨_, rfl⟩
 rw [← eg1] at a4 a5
 obtain ⟨v2, h2, b1, b2, b3, b4, b5⟩ := a4.push 1 rfl rfl (.int .i64 (-1)) rfl (z := 8) (rz _ _ (by rw [qy]; exact hl.2.1) (by omega) (by omega))
 simp only [List.set_cons_succ, List.set_cons_zero] at b4 b5
 obtain ⟨g2, eg2⟩ : ∃ g, g = h2.set f [v1, v2, fv] := ⟨_, rfl⟩
 rw [← eg2] at b4 b5
 obtain ⟨v3, h3, c1, c2, c3, c4, c5⟩ := b4.push 2 rfl rfl (.bool true) rfl (z := 1) (rz _ _ (by rw [CA]; exact hl.2.2) (by omega) (by omega))
 simp only [List.set_cons_succ, List.set_cons_zero] at c4 c5
 obtain ⟨g3, eg3⟩ : ∃ g, g = h3.set f [v1, v2, v3] := ⟨_, rfl⟩
 rw [← eg3] at c4 c5
 have e : Ol (W ++ [x]) (U ++ [-1]) (F ++ [true]) = [ints W ++ [.int .i64 x], ints U ++ [.int .i64 (-1)], FN F ++ [.bool true]] := by
  unfold Ol FN; rw [qx, qx, List.map_append]; rfl
 have gf := r.get
 have gf1 := a4.get
 have gf2 := b4.get
 have f1 : h1.floor ≤ f := by have := r.fl; omega
 have f2 : h2.floor ≤ f := by have := a4.fl; omega
 have f3 : h3.floor ≤ f := by have := b4.fl; omega
 have k1 := (a4.own 0 _ _ rfl rfl).cells
 have k2 := (b4.own 1 _ _ rfl rfl).cells
 have k3 := (c4.own 2 _ _ rfl rfl).cells
 have s1 : v1.sc = true := (a4.own 0 _ _ rfl rfl).sc
 have s2 : v2.sc = true := (b4.own 1 _ _ rfl rfl).sc
 have s3 : v3.sc = true := (c4.own 2 _ _ rfl rfl).sc
 refine ⟨g3, v1, v2, v3, xM (fn := AP.f70) (e := []) (vs := []) rfl rfl rfl ?_ rfl, by rw [e]; exact c4, a5.trans (b5.trans c5)⟩
 clear a4 a5 b4 b5 c4 c5 r e rz
 simp (disch := omega) only [go_sem, wH, AP.f70, gf, gf1, gf2, a1, a2, b1, b2, c1, c2, s1, s2, s3, k1, k2, k3, f1, f2, f3, ← eg1, ← eg2, ← eg3]
def xK (W : List Int) (F : List Bool) : Nat → Nat → Int → Int
 | 0, _, a => a
 | m + 1, i, a => xK W F m (i + 1) (if F.getD i false = true ∧ (a < 0 ∨ W.getD i 0 < W.getD a.toNat 0) then i else a)
theorem Cb {W : List Int} {F : List Bool} {n : Nat} : ∀ (m i : Nat) (a : Int), i + m = n → (a = -1 ∨ (0 ≤ a ∧ a < n)) → (xK W F m i a = -1 ∨ (0 ≤ xK W F m i a ∧ xK W F m i a < n))
 | 0, i, a, _, h => h
 | m + 1, i, a, hi, h => by
   rw [xK]
   refine Cb m (i + 1) _ (by omega) ?_
   split
   · right; omega
   · exact h
theorem DK {h : H} {f iw ifr n : Nat} {uv : AV} {W : List Int} {F : List Bool} (gf : h.get f = some [.aF iw 0 n 1, uv, .aF ifr 0 n 1]) (gw : h.get iw = some (ints W)) (gb : h.get ifr = some (FN F)) (hW : W.length = n) (hF : F.length = n) (hn : n < 100000) : ∀ (m i : Nat) (a : Int), i + m = n → (a = -1 ∨ (0 ≤ a ∧ a < n)) →
 Lp AP.A [0, 3, 4] AP.f71L0 [(0, .aE f 0), (3, .int .i64 a), (4, .int .i64 i)] h = some (.exit 0, [(0, .aE f 0), (3, .int .i64 (xK W F m i a)), (4, .int .i64 n), (11, .bool false)], h)
 | 0, i, a, hi, ha => by
   obtain rfl : i = n := by omega
   refine ux ?_
   rw [xK]
   simp (disch := omega) only [go_sem, wH, AP.f71L0, gf]
 | m + 1, i, a, hi, ha => by
   have lw : (ints W).length = n := by rw [qy, hW]
   have lb : (FN F).length = n := by rw [CA, hF]
   have n1 : ((i + 1 : Nat) : Int) = (i : Int) + 1 := by omega
   obtain ⟨b, hb⟩ : ∃ b, F[i]? = some b := ⟨_, VL (by omega)⟩
   obtain ⟨x, hx⟩ : ∃ x, W[i]? = some x := ⟨_, VL (by omega)⟩
   have gb' := Ns hb
   have gx := tU hx
   simp only [I] at gx
   have fb : F.getD i false = b := by rw [VH, hb]; rfl
   have fx : W.getD i 0 = x := by rw [VH, hx]; rfl
   have hk : 0 ≤ a → ∃ k : Nat, a = k ∧ k < n ∧ (ints W)[k]? = some (.int .i64 (W.getD k 0)) := fun h0 => by
    refine ⟨a.toNat, by omega, by omega, ?_⟩
    have := tU (l := W) (i := a.toNat) (x := W.getD a.toNat 0) (by rw [VH, VL (by omega)]; rfl)
    exact this
   have r1 := DK gf gw gb hW hF hn m (i + 1) (if F.getD i false = true ∧ (a < 0 ∨ W.getD i 0 < W.getD a.toNat 0) then i else a) (by omega) (by
    split
    · right; omega
    · exact ha)
   rw [xK]
   refine uy ?_ r1
   rw [n1, fb, fx]
   clear r1 hb hx
   generalize ints W = IW at *
   generalize FN F = BF at *
   cases b with
   | false =>
     rw [if_neg (by simp)]
     simp (disch := omega) only [go_sem, wH, AP.f71L0, gf, gw, gb, lw, lb, gb']
   | true =>
     by_cases c : a < 0
     · rw [if_pos ⟨rfl, .inl c⟩]
       simp (disch := omega) only [go_sem, wH, AP.f71L0, gf, gw, gb, lw, lb, gb', VM c]
     · obtain ⟨k, rfl, hkn, gk⟩ := hk (by omega)
       have tk : ((k : Nat) : Int).toNat = k := by omega
       rw [tk]
       have c' : ¬ ((k : Nat) : Int) < 0 := c
       by_cases c2 : x < W.getD k 0
       · rw [if_pos ⟨rfl, .inr c2⟩]
         generalize W.getD k 0 = y at *
         clear fx fb ha hk c
         simp (disch := omega) only [go_sem, wH, AP.f71L0, gf, gw, gb, lw, lb, gb', gx, gk, VJ c', VM c2]
       · rw [if_neg (by rintro ⟨_, q | q⟩; exact c' q; exact c2 q)]
         generalize W.getD k 0 = y at *
         clear fx fb ha hk c
         simp (disch := omega) only [go_sem, wH, AP.f71L0, gf, gw, gb, lw, lb, gb', gx, gk, VJ c', VJ c2]
def xz (W : List Int) (F : List Bool) : Nat := (xK W F W.length 0 (-1)).toNat
theorem H5 {h : H} {f : Nat} {W U : List Int} {F : List Bool} {wv uv fv : AV} (r : Ro h f [wv, uv, fv] (Ol W U F)) (hF : F.length = W.length) (hn : W.length < 100000) (h0 : 0 ≤ xK W F W.length 0 (-1)) :
 ∃ h', aS AP.A 71 [.aE f 0] h = some (.int .i64 (xz W F : Nat), h') ∧ Ro h' f [wv, uv, fv] (Ol W U (F.set (xz W F) false)) ∧ Lo h h' := by
 have rg := Cb (W := W) (F := F) (n := W.length) W.length 0 (-1) (by omega) (.inl rfl)
 have hA : xK W F W.length 0 (-1) = ((xz W F : Nat) : Int) := by unfold xz; omega
 have hAn : xz W F < W.length := by omega
 obtain ⟨n, en⟩ : ∃ n, n = W.length := ⟨_, rfl⟩
 obtain ⟨ifr, q1, q2, q3, q4, q5, q6, q7⟩ := r.put 2 (xz W F) (v := fv) (c := FN F) rfl rfl (.bool false) rfl (by rw [CA, hF]; exact hAn)
 rw [CA, hF, ← en] at q1
 obtain ⟨iw, p1, p2, _⟩ := r.put 0 (xz W F) (v := wv) (c := ints W) rfl rfl (.int .i64 0) rfl (by rw [qy]; exact hAn)
 rw [qy, ← en] at p1
 have gf := r.get
 rw [q1, p1] at gf
 have L := DK gf p2 q2 en.symm (hF.trans en.symm) (by omega) n 0 (-1) (by omega) (.inl rfl)
 rw [en, hA, ← en] at L
 have L' : Lp AP.A [0, 3, 4] AP.f71L0 [(0, .aE f 0), (3, .int .i64 (-1)), (4, .int .i64 0)] h = _ := L
 have lb : (FN F).length = n := by rw [CA, hF, en]
 have es : (FN F).set (xz W F) (.bool false) = FN (F.set (xz W F) false) := by simp [FN, List.map_set]
 rw [es] at q6 q7
 have q6' : Ro (h.set ifr (FN (F.set (xz W F) false))) f [wv, uv, fv] (Ol W U (F.set (xz W F) false)) := q6
 have fl := r.fl
 refine ⟨h.set ifr (FN (F.set (xz W F) false)), uM (fn := AP.f71) (e := [(2, .int .i64 (xz W F : Nat))]) (vs := [.int .i64 (xz W F : Nat)]) rfl rfl rfl ?_ rfl, q6', q7⟩
 rw [← en] at hAn
 clear q6 q6' q7 q5 r rg hA L p1 q1 h0
 generalize xz W F = A at *
 generalize FN F = BF at *
 generalize FN (F.set A false) = BF2 at *
 simp (disch := omega) only [go_sem, wH, AP.f71, th, L', gf, q2, lb, es]
structure FS where
 W : List Int
 U : List Int
 F : List Bool
def FS.add (s : FS) (x : Int) : FS := ⟨s.W ++ [x], s.U ++ [-1], s.F ++ [true]⟩
def FS.a (s : FS) : Nat := xz s.W s.F
def FS.F1 (s : FS) : List Bool := s.F.set s.a false
def FS.b (s : FS) : Nat := xz s.W s.F1
def FS.F2 (s : FS) : List Bool := s.F1.set s.b false
def FS.sum (s : FS) : Int := s.W.getD s.a 0 + s.W.getD s.b 0
def FS.Je (s : FS) : FS := FS.add ⟨s.W, (s.U.set s.a s.U.length).set s.b s.U.length, s.F2⟩ s.sum
structure FS.ok (s : FS) : Prop where
 lu : s.U.length = s.W.length
 lf : s.F.length = s.W.length
 l1 : 0 ≤ xK s.W s.F s.W.length 0 (-1)
 l2 : 0 ≤ xK s.W s.F1 s.W.length 0 (-1)
 sm : 0 ≤ s.sum ∧ s.sum < 1000000000000000
abbrev FS.C (s : FS) : List (List AV) := Ol s.W s.U s.F
theorem F7 {W : List Int} {F : List Bool} (h : 0 ≤ xK W F W.length 0 (-1)) : xz W F < W.length := by
 have rg := Cb (W := W) (F := F) (n := W.length) W.length 0 (-1) (by omega) (.inl rfl)
 unfold xz; omega
theorem yf (l : List Int) (i : Nat) (x : Int) : (ints l).set i (.int .i64 x) = ints (l.set i x) := by simp [ints, List.map_set, I]
theorem QM {h : H} {f : Nat} {s : FS} {wv uv fv : AV} {N : Nat} {x : AV} {i : Nat} (r : Ro h f [wv, uv, fv] s.C) (ok : s.ok) (hn : s.W.length < 10000) (ln : jy false x = some (.int .i64 N)) (hi : i < N) (hN : N < 100000) :
 ∃ h' wv' uv' fv', aM (aS AP.A) bG AP.f56L2 (ay [(0, x), (3, .aE f 0), (5, .int .i64 i)] [0, 3, 5]) h = some (.normal, [(0, x), (3, .aE f 0), (5, .int .i64 (i + 1 : Nat))], h') ∧ Ro h' f [wv', uv', fv'] s.Je.C ∧ Lo h h' := by
 obtain ⟨lu, lf, l1, l2, sm⟩ := ok
 have la := F7 l1
 have lb := F7 l2
 change s.a < s.W.length at la
 change s.b < s.W.length at lb
 obtain ⟨h1, k1, r1, o1⟩ := H5 r lf (by omega) l1
 obtain ⟨h2, k2, r2, o2⟩ := H5 r1 (by rw [V0]; exact lf) (by omega) l2
 change aS AP.A 71 [.aE f 0] h = some (.int .i64 (s.a : Nat), h1) at k1
 change aS AP.A 71 [.aE f 0] h1 = some (.int .i64 (s.b : Nat), h2) at k2
 obtain ⟨iw, p1, p2, p3, p4, p5, _⟩ := r2.put 0 s.a (v := wv) (c := ints s.W) rfl rfl (.int .i64 0) rfl (by rw [qy]; exact la)
 obtain ⟨iu, q1, q2, q3, q4, q5, r3, o3⟩ := r2.put 1 s.a (v := uv) (c := ints s.U) rfl rfl (.int .i64 s.U.length) rfl (by rw [qy]; omega)
 rw [yf] at r3 o3
 obtain ⟨h3, eh3⟩ : ∃ g, g = h2.set iu (ints (s.U.set s.a s.U.length)) := ⟨_, rfl⟩
 rw [← eh3] at r3 o3
 obtain ⟨iu2, q1', q2', q3', q4', q5', r4, o4⟩ := r3.put 1 s.b (v := uv) (c := ints (s.U.set s.a s.U.length)) rfl rfl (.int .i64 s.U.length) rfl (by rw [qy, V0]; omega)
 rw [yf] at r4 o4
 have : iu2 = iu := by rw [q1] at q1'; injection q1' with a _ _ _; exact a.symm
 subst this
 obtain ⟨h4, eh4⟩ : ∃ g, g = h3.set iu2 (ints ((s.U.set s.a s.U.length).set s.b s.U.length)) := ⟨_, rfl⟩
 rw [← eh4] at r4 o4
 obtain ⟨h5, wv', uv', fv', k5, r5, o5⟩ := LX r4 s.sum (by
  refine ⟨by omega, by rw [V0, V0]; omega, by rw [V0, V0]; omega⟩)
 refine ⟨h5, wv', uv', fv', ?_, r5, o1.trans (o2.trans (o3.trans (o4.trans o5)))⟩
 have hwu : iw ≠ iu2 := by
  intro e
  exact p5 1 uv (by omega) rfl (by rw [q1, e]; rfl)
 have gf2 := r2.get
 have gf3 := r3.get
 have gf4 := r4.get
 have gw4 : h4.get iw = some (ints s.W) := by rw [eh4, wJ hwu, eh3, wJ hwu, p2]
 rw [p1, q1] at gf2 gf3 gf4
 rw [qy] at gf2 gf3 gf4
 rw [qy] at gf2 gf3 gf4
 have n1 : ((i + 1 : Nat) : Int) = (i : Int) + 1 := by omega
 have luI := qy s.U
 have lwI := qy s.W
 have lsI := qy (s.U.set s.a s.U.length)
 rw [V0] at lsI
 have e1 := yf s.U s.a s.U.length
 have e2 := yf (s.U.set s.a s.U.length) s.b s.U.length
 have ga : (ints s.W)[s.a]? = some (.int .i64 (s.W.getD s.a 0)) := tU (by rw [VH, VL la]; rfl)
 have gb : (ints s.W)[s.b]? = some (.int .i64 (s.W.getD s.b 0)) := tU (by rw [VH, VL lb]; rfl)
 have es : s.W.getD s.a 0 + s.W.getD s.b 0 = s.sum := rfl
 clear r r1 r2 r3 r4 r5 o1 o2 o3 o4 o5 p5 q5 q5' l1 l2 p1 q1 q1'
 rw [n1]
 generalize ints ((s.U.set s.a s.U.length).set s.b s.U.length) = U2 at *
 generalize ints (s.U.set s.a s.U.length) = U1 at *
 generalize ints s.U = U0 at *
 generalize ints s.W = W0 at *
 generalize s.W.getD s.a 0 = wa at *
 generalize s.W.getD s.b 0 = wb0 at *
 generalize s.sum = S at *
 generalize s.a = a at *
 generalize s.b = b at *
 generalize s.U.length = ul at *
 generalize s.W.length = wl at *
 subst lu
 simp (disch := omega) only [go_sem, wH, AP.f56L2, ln, k1, k2, gf2, gf3, gf4, q2, q2', gw4, luI, lwI, lsI, ga, gb, e1, e2, es, ← eh3, ← eh4, k5]
def FS.zr : Nat → FS → FS
 | 0, s => s
 | n + 1, s => FS.zr n s.Je
theorem FS.J8 (s : FS) : s.Je.W.length = s.W.length + 1 := by simp [FS.Je, FS.add]
theorem FS.A7 : ∀ (n : Nat) (s : FS), (FS.zr n s).W.length = s.W.length + n
 | 0, s => rfl
 | n + 1, s => by rw [FS.zr, FS.A7 n, FS.J8]; omega
theorem FX {f : Nat} {N : Nat} {x : AV} (hN : N < 1000) : ∀ (m i : Nat) (s : FS) (h : H) (wv uv fv : AV), i + m = N → Ro h f [wv, uv, fv] s.C → (∀ k, k < m → (FS.zr k s).ok) → s.W.length + m < 10000 → jy false x = some (.int .i64 N) →
 ∃ h' wv' uv' fv', Lp AP.A [0, 3, 5] AP.f56L2 [(0, x), (3, .aE f 0), (5, .int .i64 i)] h = some (.exit 2, [(0, x), (3, .aE f 0), (5, .int .i64 N), (29, .bool false)], h') ∧ Ro h' f [wv', uv', fv'] (FS.zr m s).C ∧ Lo h h'
 | 0, i, s, h, wv, uv, fv, hi, r, ok, hl, ln => by
   obtain rfl : i = N := by omega
   refine ⟨h, wv, uv, fv, ux ?_, r, Lo.refl h⟩
   simp (disch := omega) only [go_sem, wH, AP.f56L2, ln]
 | m + 1, i, s, h, wv, uv, fv, hi, r, ok, hl, ln => by
   obtain ⟨h1, w1, u1, f1, k1, r1, o1⟩ := QM r (ok 0 (by omega)) (by omega) ln (show i < N by omega) (by omega)
   obtain ⟨h', w', u', f', k2, r2, o2⟩ := FX hN m (i + 1) s.Je h1 w1 u1 f1 (by omega) r1 (fun k hk => ok (k + 1) (by omega)) (by rw [FS.J8]; omega) ln
   exact ⟨h', w', u', f', uy k1 k2, r2, o1.trans o2⟩
def AN (ws : List Int) : FS := ⟨ws, List.replicate ws.length (-1), List.replicate ws.length true⟩
theorem L9 (p : List Int) (x : Int) : AN (p ++ [x]) = (AN p).add x := by
 unfold AN FS.add
 simp only [wo, Wi, List.replicate_succ']
theorem FU {f : Nat} {x : AV} {ws : List Int} (hn : ws.length < 1000) (h0 : H) (rd : Rd h0 x (ints ws)) : ∀ (q p : List Int) (h : H) (wv uv fv : AV), ws = p ++ q → Ext h0 h → h.floor = h0.next → Ro h f [wv, uv, fv] (AN p).C →
 ∃ h' wv' uv' fv', Lp AP.A [0, 3, 4] AP.f56L3 [(0, x), (3, .aE f 0), (4, .int .i64 p.length)] h = some (.exit 0, [(0, x), (3, .aE f 0), (4, .int .i64 ws.length), (17, .bool false)], h') ∧ Ro h' f [wv', uv', fv'] (AN ws).C ∧ Lo h h'
 | [], p, h, wv, uv, fv, hp, hx, hf, r => by
   rw [V4] at hp; subst hp
   have ln := rd.len
   rw [qy] at ln
   simp only [I] at ln
   refine ⟨h, wv, uv, fv, ux ?_, r, Lo.refl h⟩
   simp (disch := omega) only [go_sem, wH, AP.f56L3, ln]
 | y :: q, p, h, wv, uv, fv, hp, hx, hf, r => by
   have ln := rd.len
   rw [qy] at ln
   simp only [I] at ln
   have hl : ws.length = p.length + (q.length + 1) := by rw [hp]; simp
   obtain ⟨ad, a1, a2⟩ := rd.xY
   have b1 := a1 p.length ⟨by omega, by omega⟩
   have b2 := a2 h hx p.length y (by rw [hp]; simp)
   obtain ⟨h1, w1, u1, f1, k1, r1, o1⟩ := LX r y (by simp [AN]; omega)
   have r1' : Ro h1 f [w1, u1, f1] (AN (p ++ [y])).C := by rw [L9]; exact r1
   obtain ⟨h', w', u', f', k2, r2, o2⟩ := FU hn h0 rd q (p ++ [y]) h1 w1 u1 f1 (by rw [hp]; simp) (hx.lo o1 hf) (by rw [o1.floor, hf]) r1'
   have n1 : (((p ++ [y]).length : Nat) : Int) = (p.length : Int) + 1 := by simp
   refine ⟨h', w', u', f', uy ?_ k2, r2, o1.trans o2⟩
   rw [n1]
   clear r r1 r1' k2 r2 o1 o2 hx rd a1 a2
   simp (disch := omega) only [go_sem, wH, AP.f56L3, ln, b1, b2, k1]
def Az (U : List Int) : Nat → Int → Nat
 | 0, _ => 0
 | m + 1, j => if 0 ≤ j then Az U m (U.getD j.toNat (-1)) + 1 else 0
def FE (U : List Int) : Prop := ∀ j : Nat, j < U.length → U.getD j (-1) = -1 ∨ ((j : Int) < U.getD j (-1) ∧ U.getD j (-1) < U.length)
theorem GI {h : H} {f iu n : Nat} {wv fv x ov : AV} {U : List Int} {i : Nat} (gf : h.get f = some [wv, .aF iu 0 n 1, fv]) (gu : h.get iu = some (ints U)) (hU : U.length = n) (hn : n < 10000) (ok : FE U) : ∀ (m : Nat) (j : Int) (k : Nat), (j = -1 ∨ (0 ≤ j ∧ j < n)) → (0 ≤ j → (n : Int) ≤ j + m) → k + m < 100000 →
 ∃ j', Lp AP.A [0, 3, 8, 9, 10, 11] AP.f56L0 [(0, x), (3, .aE f 0), (8, ov), (9, .int .i64 i), (10, .int .i64 k), (11, .int .i64 j)] h = some (.exit 6, [(0, x), (3, .aE f 0), (8, ov), (9, .int .i64 i), (10, .int .i64 (k + Az U m j : Nat)), (11, .int .i64 j'), (89, .bool false)], h)
 | 0, j, k, hj, hm, hk => by
   obtain rfl : j = -1 := by omega
   refine ⟨-1, ux ?_⟩
   rw [Az]
   simp (disch := omega) only [go_sem, wH, AP.f56L0]
 | m + 1, j, k, hj, hm, hk => by
   by_cases c : 0 ≤ j
   · obtain ⟨q, rfl⟩ := VP c
     have hq : q < n := by omega
     have o := ok q (by omega)
     have lu : (ints U).length = n := by rw [qy, hU]
     have gq : (ints U)[q]? = some (.int .i64 (U.getD q (-1))) := tU (by rw [VH, VL (by omega)]; rfl)
     rw [hU] at o
     obtain ⟨j', r1⟩ := GI (x := x) (ov := ov) (i := i) gf gu hU hn ok m (U.getD q (-1)) (k + 1) (by omega) (by omega) (by omega)
     have n1 : ((k + 1 : Nat) : Int) = (k : Int) + 1 := by omega
     have tq : ((q : Nat) : Int).toNat = q := by omega
     rw [Az, if_pos c, tq]
     rw [show k + (Az U m (U.getD q (-1)) + 1) = k + 1 + Az U m (U.getD q (-1)) by omega]
     refine ⟨j', uy ?_ r1⟩
     rw [n1]
     clear r1 o ok
     generalize U.getD q (-1) = y at *
     generalize ints U = IU at *
     simp (disch := omega) only [go_sem, wH, AP.f56L0, gf, gu, lu, gq]
   · rw [Az, if_neg c]
     refine ⟨j, ux ?_⟩
     simp (disch := omega) only [go_sem, wH, AP.f56L0]
def Di (U : List Int) (n : Nat) : List Int := (List.range n).map fun i => ((Az U U.length (U.getD i (-1)) : Nat) : Int)
theorem KK (U : List Int) (n : Nat) : Di U (n + 1) = Di U n ++ [((Az U U.length (U.getD n (-1)) : Nat) : Int)] := by simp [Di, List.range_succ]
theorem LP (U : List Int) (n : Nat) : (Di U n).length = n := by simp [Di]
theorem HX {f iu n N : Nat} {wv fv x : AV} {U : List Int} (hU : U.length = n) (hn : n < 10000) (ok : FE U) (hN : N ≤ n) (ln : jy false x = some (.int .i64 N)) (B : Nat) : ∀ (m i : Nat) (h : H) (ov : AV), i + m = N → h.get f = some [wv, .aF iu 0 n 1, fv] → h.get iu = some (ints U) → f < B → iu < B → B ≤ h.next → wW 1 h ov i (ints (Di U i)) → h.floor ≤ h.next → (∀ j, ov.id? = some j → B ≤ j) →
 ∃ h' ov', Lp AP.A [0, 3, 8, 9] AP.f56L1 [(0, x), (3, .aE f 0), (8, ov), (9, .int .i64 i)] h = some (.exit 4, [(0, x), (3, .aE f 0), (8, ov'), (9, .int .i64 N), (78, .bool false)], h') ∧ wW 1 h' ov' N (ints (Di U N)) ∧ h'.floor = h.floor
 | 0, i, h, ov, hi, gf, gu, hf, hiu, hB, ow, hfl, hov => by
   obtain rfl : i = N := by omega
   refine ⟨h, ov, ux ?_, ow, rfl⟩
   simp (disch := omega) only [go_sem, wH, AP.f56L1, ln]
 | m + 1, i, h, ov, hi, gf, gu, hf, hiu, hB, ow, hfl, hov => by
   have o := ok i (by omega)
   rw [hU] at o
   have lu : (ints U).length = n := by rw [qy, hU]
   have gq : (ints U)[i]? = some (.int .i64 (U.getD i (-1))) := tU (by rw [VH, VL (by omega)]; rfl)
   obtain ⟨j', L⟩ := GI (x := x) (ov := ov) (i := i) gf gu hU hn ok n (U.getD i (-1)) 0 (by omega) (by omega) (by omega)
   rw [vW] at L
   obtain ⟨v', h1, p1, p2, p3, p4, p5, p6⟩ := ow.push hfl (z := 8) (m := 1) (by omega) (by omega) [.int .i64 (Az U n (U.getD i (-1)) : Nat)] rfl rfl (yB (by omega))
   have e := KK U i
   rw [hU] at e
   have ow2 : wW 1 h1 v' (i + 1) (ints (Di U (i + 1))) := by rw [e, qx]; exact p2
   obtain ⟨h', ov', r1, r2, r3⟩ := HX hU hn ok hN ln B m (i + 1) h1 v' (by omega) (by rw [p5 f (fun q => by have := hov f q; omega) (by omega), gf]) (by rw [p5 iu (fun q => by have := hov iu q; omega) (by omega), gu]) hf hiu (by omega) ow2 (by omega) (fun j hj => by rw [p6] at hj; have := vG hj; omega)
   have n1 : ((i + 1 : Nat) : Int) = (i : Int) + 1 := by omega
   have L' : Lp AP.A [0, 3, 8, 9, 10, 11] AP.f56L0 [(0, x), (3, .aE f 0), (8, ov), (9, .int .i64 i), (10, .int .i64 0), (11, .int .i64 (U.getD i (-1)))] h = _ := L
   refine ⟨h', ov', uy ?_ r1, r2, by omega⟩
   rw [n1]
   clear r1 r2 r3 ow2 e p2 p5 p6 ok o L hov ow
   generalize Az U n (U.getD i (-1)) = K at *
   generalize U.getD i (-1) = y at *
   generalize ints U = IU at *
   simp (disch := omega) only [go_sem, wH, AP.f56L1, ln, gf, gu, lu, gq, th, L', p1]
def wP (ws : List Int) : List Int := Di (FS.zr (ws.length - 1) (AN ws)).U ws.length
theorem LQ (h : H) (x : AV) (ws : List Int) (h2 : 1 ≤ ws.length) (hn : ws.length < 1000) (rd : Rd h x (ints ws)) (ok : ∀ k, k < ws.length - 1 → (FS.zr k (AN ws)).ok) (up : FE (FS.zr (ws.length - 1) (AN ws)).U) (lu : (FS.zr (ws.length - 1) (AN ws)).U.length = (FS.zr (ws.length - 1) (AN ws)).W.length) :
 aS AP.A 56 [x] h = some (Aa 1 ws.length (ints (wP ws)), h) := by
 have E9 : Rd h.ez x (ints ws) := rd.mono (wG h)
 have ln := rd.len
 rw [qy] at ln
 simp only [I] at ln
 obtain ⟨h1, eh1⟩ : ∃ g, g = h.ez.alloc [.aQ, .aQ, .aQ] := ⟨_, rfl⟩
 have g1 : h1.get h.next = some [.aQ, .aQ, .aQ] := by rw [eh1, wM (by simp)]
 have r0 : Ro h1 h.next [.aQ, .aQ, .aQ] (AN []).C := by
  have nl : ∀ (i : Nat) (v : AV), ([.aQ, .aQ, .aQ] : List AV)[i]? = some v → v = .aQ := by
   intro i v hv
   have := vV hv
   simp at this; exact this
  refine ⟨g1, ?_, rfl, ?_, ?_, by rw [eh1]; simp, by rw [eh1]; simp⟩
  · intro i v c hv hc
    have := nl i v hv
    subst this
    have hc' : c = [] := by
     have := vV hc
     simp [AN, ints, FN] at this; exact this
    subst hc'
    exact wW.nil
  · intro i v hv; rw [nl i v hv]; simp [AV.id?]
  · intro i j v u _ hv _ id hid; rw [nl i v hv] at hid; simp [AV.id?] at hid
 obtain ⟨h2', w2, u2, f2, k2, r2, o2⟩ := FU hn h.ez E9 ws [] h1 .aQ .aQ .aQ rfl (by rw [eh1]; exact (Ext.refl _).alloc _) (by rw [eh1]; simp) r0
 have k2' : Lp AP.A [0, 3, 4] AP.f56L3 [(0, x), (3, .aE h.next 0), (4, .int .i64 0)] h1 = _ := k2
 obtain ⟨h3, w3, u3, f3, k3, r3, o3⟩ := FX (N := ws.length) (x := x) hn (ws.length - 1) 1 (AN ws) h2' w2 u2 f2 (by omega) r2 ok (by simp [AN]; omega) ln
 have k3' : Lp AP.A [0, 3, 5] AP.f56L2 [(0, x), (3, .aE h.next 0), (5, .int .i64 1)] h2' = _ := k3
 unfold wP
 have wl := FS.A7 (ws.length - 1) (AN ws)
 have wl0 : (AN ws).W.length = ws.length := rfl
 generalize hS : FS.zr (ws.length - 1) (AN ws) = S at *
 obtain ⟨iu, q1, q2, q3, q4, q5, _⟩ := r3.put 1 0 (v := u3) (c := ints S.U) rfl rfl (.int .i64 0) rfl (by rw [qy]; omega)
 rw [qy] at q1
 have gf := r3.get
 rw [q1] at gf
 obtain ⟨h4, o4, k4, ow4, fl4⟩ := HX (x := x) (N := ws.length) (f := h.next) (iu := iu) (wv := w3) (fv := f3) (n := S.U.length) (U := S.U) rfl (by omega) up (by omega) ln h3.next ws.length 0 h3 .aQ (by omega) gf q2 (h3.lt _ _ gf) (h3.lt _ _ q2) (vR _) wW.nil r3.Lm (fun j hj => by simp [AV.id?] at hj)
 have k4' : Lp AP.A [0, 3, 8, 9] AP.f56L1 [(0, x), (3, .aE h.next 0), (8, .aQ), (9, .int .i64 0)] h3 = _ := k4
 have hnx : h.ez.next = h.next := rfl
 have fl : h4.floor = h.next := by rw [fl4, o3.floor, o2.floor, eh1]; simp
 refine u7 (fn := AP.f56) (h2 := h4) (e := [(2, o4)]) (vs := [o4]) rfl rfl rfl ?_ rfl ?_
 · clear k2 k3 k4 r0 r2 r3 ow4 rd E9 ok up o2 o3 q5
   simp (disch := omega) only [go_sem, wH, AP.f56, hnx, ← eh1, th, k2', k3', k4']
 · exact ow4.yC (fl := h.next) (m := 14) (t := true) (by omega)
def Cx (u v : AV) : Prop := ∀ j, u.id? = some j → v.id? ≠ some j
theorem Cx.symm {u v : AV} (a : Cx u v) : Cx v u := fun j h q => a j q h
def xA : Nat → List Int → List Int
 | _, [] => []
 | i, c :: r => if 0 < c then (i : Int) :: xA (i + 1) r else xA (i + 1) r
def zS : List Int → List Int
 | [] => []
 | c :: r => if 0 < c then c :: zS r else zS r
theorem wW.E9 {h : H} {v : AV} {cs : List AV} (o : wW 1 h v cs.length cs) : Rd h v cs := ⟨o.rd.1, o.rd.2.2⟩
theorem wW.OA {h : H} {v : AV} {l : List Int} (o : wW 1 h v l.length (ints l)) : Rd h v (ints l) := by
 refine wW.E9 ?_
 rw [qy]; exact o
theorem EP {x mv : AV} {C : List Int} (hC : C.length < 1000) (hr : ∀ y ∈ C, 0 ≤ y ∧ y ≤ 2147483647) (h0 : H) (rd : Rd h0 x (ints C)) : ∀ (q p S W : List Int) (h : H) (sv wv : AV), C = p ++ q → Ext h0 h → h.floor = h0.next → h.floor ≤ h.next → wW 1 h sv S.length (ints S) → wW 1 h wv W.length (ints W) → Cx sv wv → S.length ≤ p.length → W.length ≤ p.length →
 ∃ h' sv' wv', Lp AP.A [0, 1, 6, 7, 8] AP.f30L3 [(0, x), (1, mv), (6, sv), (7, wv), (8, .int .i64 p.length)] h = some (.exit 0, [(0, x), (1, mv), (6, sv'), (7, wv'), (8, .int .i64 C.length), (33, .bool false)], h') ∧ wW 1 h' sv' (S ++ xA p.length q).length (ints (S ++ xA p.length q)) ∧ wW 1 h' wv' (W ++ zS q).length (ints (W ++ zS q)) ∧ Cx sv' wv' ∧ h'.floor = h.floor ∧ h'.floor ≤ h'.next
 | [], p, S, W, h, sv, wv, hp, hx, hf, hfl, os, ow, ap, hS, hW => by
   rw [V4] at hp; subst hp
   have ln := rd.len
   rw [qy] at ln
   simp only [I] at ln
   refine ⟨h, sv, wv, ux ?_, by simpa [xA] using os, by simpa [zS] using ow, ap, rfl, hfl⟩
   simp (disch := omega) only [go_sem, wH, AP.f30L3, ln]
 | y :: q, p, S, W, h, sv, wv, hp, hx, hf, hfl, os, ow, ap, hS, hW => by
   have ln := rd.len
   rw [qy] at ln
   simp only [I] at ln
   have hl : C.length = p.length + (q.length + 1) := by rw [hp]; simp
   obtain ⟨ad, a1, a2⟩ := rd.xY
   have b1 := a1 p.length ⟨by omega, by omega⟩
   have hyC : C[p.length]? = some y := by rw [hp]; simp
   have b2 := a2 h hx p.length y hyC
   have yr := hr y (vV hyC)
   have n1 : (((p ++ [y]).length : Nat) : Int) = (p.length : Int) + 1 := by simp
   have n2 : (p ++ [y]).length = p.length + 1 := by simp
   by_cases c : 0 < y
   · obtain ⟨v1, h1, p1, p2, p3, p4, p5, p6⟩ := os.push hfl (z := 8) (m := 1) (by omega) (by omega) [.int .i64 p.length] rfl rfl (yB (by omega))
     have ow1 : wW 1 h1 wv W.length (ints W) := ow.mono p3 fun j hj => p5 j (fun e => ap j e hj) (ow.lt hj).2
     have hx1 : Ext h0 h1 := fun i d hi => by
      have := h0.lt _ _ hi
      rw [p5 i (fun e => by have := (os.lt e).1; omega) (by omega), hx i d hi]
     have b3 := a2 h1 hx1 p.length y hyC
     obtain ⟨v2, h2, q1, q2, q3, q4, q5, q6⟩ := ow1.push (by omega) (z := 8) (m := 1) (by omega) (by omega) [.int .i64 y] rfl rfl (yB (by omega))
     have hx2 : Ext h0 h2 := fun i d hi => by
      have := h0.lt _ _ hi
      rw [q5 i (fun e => by have := (ow1.lt e).1; omega) (by omega), hx1 i d hi]
     have os2 : wW 1 h2 v1 (S ++ [(p.length : Int)]).length (ints (S ++ [(p.length : Int)])) := by
      rw [qx, wo]
      exact p2.mono (by omega) fun j hj => q5 j (fun e => by rw [p6] at hj; have := vG hj; have := (ow.lt e).2; omega) (p2.lt hj).2
     have ow2 : wW 1 h2 v2 (W ++ [y]).length (ints (W ++ [y])) := by rw [qx, wo]; exact q2
     obtain ⟨h', sv', wv', r1, r2, r3, r4, r5, r6⟩ := EP hC hr h0 rd q (p ++ [y]) (S ++ [(p.length : Int)]) (W ++ [y]) h2 v1 v2 (by rw [hp]; simp) hx2 (by omega) (by omega) os2 ow2 (fun j hj e => by rw [p6] at hj; rw [q6] at e; have := vG hj; have := vG e; omega) (by simp; omega) (by simp; omega)
     rw [xA, if_pos c, zS, if_pos c]
     rw [n2, VT] at r2
     rw [VT] at r3
     refine ⟨h', sv', wv', uy ?_ r1, r2, r3, r4, by omega, r6⟩
     rw [n1]
     clear r1 r2 r3 r4 os ow os2 ow2 ow1 hx hx1 hx2 rd a1 a2 hr p2 p5 q2 q5 ap
     simp (disch := omega) only [go_sem, wH, AP.f30L3, ln, b1, b2, b3, p1, q1]
   · obtain ⟨h', sv', wv', r1, r2, r3, r4, r5, r6⟩ := EP hC hr h0 rd q (p ++ [y]) S W h sv wv (by rw [hp]; simp) hx hf hfl os ow ap (by simp; omega) (by simp; omega)
     rw [xA, if_neg c, zS, if_neg c]
     rw [n2] at r2
     refine ⟨h', sv', wv', uy ?_ r1, r2, r3, r4, by omega, r6⟩
     rw [n1]
     clear r1 r2 r3 r4 os ow hx rd a1 a2 hr ap
     simp (disch := omega) only [go_sem, wH, AP.f30L3, ln, b1, b2]
def xi : List Int → List Int → List Int → List Int
 | s :: ss, d :: ds, o => xi ss ds (o.set s.toNat d)
 | _, _, o => o
theorem ya : ∀ (ss ds o : List Int), (xi ss ds o).length = o.length
 | [], _, o => by simp [xi]
 | s :: ss, [], o => by simp [xi]
 | s :: ss, d :: ds, o => by rw [xi, ya ss ds, V0]
def AY : List Int → Int → Int
 | [], m => m
 | d :: ds, m => AY ds (xG m d)
theorem Ext.Hr {hb h : H} {o : Nat} (x : Ext hb h) (hn : hb.get o = none) (c : List AV) : Ext hb (h.set o c) := fun i d q => by
 have : i ≠ o := fun e => by rw [e, hn] at q; cases q
 rw [wJ this, x i d q]
theorem Gg {mv wv dv sv : AV} {S D : List Int} {n oid : Nat} (hS : S.length < 1000) (hDS : D.length = S.length) (hn : n < 1000) (hr : ∀ s ∈ S, 0 ≤ s ∧ s < n) (hb : H) (rds : Rd hb sv (ints S)) (rdd : Rd hb dv (ints D)) (hno : hb.get oid = none) : ∀ (q p s1 s2 : List Int) (O : List Int) (m : Int) (h : H), D = p ++ q → S = s1 ++ s2 → s1.length = p.length → Ext hb h → O.length = n → h.get oid = some (ints O) → h.floor ≤ oid → (∀ d ∈ q, 0 ≤ d ∧ d < 1000) → 0 ≤ m →
 ∃ h', Lp AP.A [1, 6, 7, 9, 10, 11, 12] AP.f30L1 [(1, mv), (6, sv), (7, wv), (9, .aF oid 0 n 1), (10, dv), (11, .int .i64 m), (12, .int .i64 p.length)] h = some (.exit 4, [(1, mv), (6, sv), (7, wv), (9, .aF oid 0 n 1), (10, dv), (11, .int .i64 (AY q m)), (12, .int .i64 D.length), (103, .bool false)], h') ∧ h'.get oid = some (ints (xi s2 q O)) ∧ h'.floor = h.floor ∧ h'.next = h.next ∧ (∀ i, i ≠ oid → h'.get i = h.get i)
 | [], p, s1, s2, O, m, h, hp, hs, hl, hx, hO, go, hfo, hd, hm => by
   rw [V4] at hp; subst hp
   have ln := rdd.len
   rw [qy] at ln
   simp only [I] at ln
   have e : xi s2 [] O = O := by cases s2 <;> rfl
   rw [e]
   refine ⟨h, ux ?_, go, rfl, rfl, fun _ _ => rfl⟩
   rw [AY]
   simp (disch := omega) only [go_sem, wH, AP.f30L1, ln]
 | d :: q, p, s1, s2, O, m, h, hp, hs, hl, hx, hO, go, hfo, hd, hm => by
   have ln := rdd.len
   rw [qy] at ln
   simp only [I] at ln
   have hDl : D.length = p.length + (q.length + 1) := by rw [hp]; simp
   have hSl : S.length = s1.length + s2.length := by rw [hs]; simp
   obtain ⟨s, s2, rfl⟩ : ∃ s r, s2 = s :: r := by
    cases s2 with
    | nil => simp at hSl; omega
    | cons s r => exact ⟨s, r, rfl⟩
   have dr := hd d (by simp)
   have hs' : S[p.length]? = some s := by rw [hs, ← hl]; simp
   have sr := hr s (vV hs')
   obtain ⟨sn, rfl⟩ := VP sr.1
   obtain ⟨as, a1, a2⟩ := rds.xY
   obtain ⟨ad, d1, d2⟩ := rdd.xY
   have b1 := a1 p.length ⟨by omega, by omega⟩
   have b2 := a2 h hx p.length _ hs'
   have c1 := d1 p.length ⟨by omega, by omega⟩
   have c2 := d2 h hx p.length d (by rw [hp]; simp)
   have lO : (ints O).length = n := by rw [qy, hO]
   have es := yf O sn d
   have tsn : ((sn : Nat) : Int).toNat = sn := by omega
   have fr' : ∀ i, i ≠ oid → (h.set oid (ints (O.set sn d))).get i = h.get i := fun i hi => wJ hi
   have hx2 := hx.Hr hno (ints (O.set sn d))
   have gO : (h.set oid (ints (O.set sn d))).get oid = some (ints (O.set sn d)) := by rw [wQ rfl, go]; rfl
   obtain ⟨h', k1, k2, k3, k4, k5⟩ := Gg hS hDS hn hr hb rds rdd hno q (p ++ [d]) (s1 ++ [(sn : Int)]) s2 (O.set sn d) (xG m d) (h.set oid (ints (O.set sn d))) (by rw [hp]; simp) (by rw [hs]; simp) (by simp [hl]) hx2 (by rw [V0, hO]) gO (by simpa using hfo) (fun e he => hd e (by simp [he])) (by unfold xG; split <;> omega)
   have b1' : gG 1 dv (.int .i64 p.length) = some (ad p.length) := c1
   have c3 : cJ false 1 (ad p.length) (h.set oid (ints (O.set sn d))) = some (.int .i64 d) := d2 _ hx2 p.length d (by rw [hp]; simp)
   have n1 : (((p ++ [d]).length : Nat) : Int) = (p.length : Int) + 1 := by simp
   rw [xi, tsn, AY]
   refine ⟨h', uy ?_ k1, k2, by rw [k3]; simp, by rw [k4]; simp, fun i hi => (k5 i hi).trans (fr' i hi)⟩
   rw [n1]
   have snn : sn < n := by omega
   clear k1 k2 k3 k4 k5 fr' hx hx2 rds rdd a1 a2 d1 d2 hd hr hs hp hs'
   generalize ints (O.set sn d) = O2 at *
   generalize ints O = O1 at *
   simp (disch := omega) only [go_sem, wH, AP.f30L1, ln, b1, b2, c1, c2, c3, go, lO, es, Ms, JQ]
def BK (w : Int) : Int := (w + 1) / 2
def xE (ws : List Int) : List Int := ws.map BK
theorem zF (ws : List Int) : (xE ws).length = ws.length := by simp [xE]
theorem FY {mv sv ov : AV} {n wid : Nat} (hn : n < 1000) : ∀ (q p : List Int) (h : H), p.length + q.length = n → (∀ y ∈ q, 0 ≤ y ∧ y < 1000000000000) → h.get wid = some (ints (xE p ++ q)) → h.floor ≤ wid → h.floor ≤ h.next →
 ∃ h', Lp AP.A [1, 6, 7, 9, 13] AP.f30L0 [(1, mv), (6, sv), (7, .aF wid 0 n 1), (9, ov), (13, .int .i64 p.length)] h = some (.exit 6, [(1, mv), (6, sv), (7, .aF wid 0 n 1), (9, ov), (13, .int .i64 n), (129, .bool false)], h') ∧ h'.get wid = some (ints (xE (p ++ q))) ∧ h'.floor = h.floor ∧ h'.next = h.next ∧ (∀ i, i ≠ wid → h'.get i = h.get i)
 | [], p, h, hl, hr, hg, hf, hfl => by
   obtain rfl : p.length = n := by simpa using hl
   refine ⟨h, ux ?_, by simpa using hg, rfl, rfl, fun _ _ => rfl⟩
   simp (disch := omega) only [go_sem, wH, AP.f30L0]
 | y :: q, p, h, hl, hr, hg, hf, hfl => by
   have yr := hr y (by simp)
   simp only [VK] at hl
   have n1 : (((p ++ [y]).length : Nat) : Int) = (p.length : Int) + 1 := by simp
   have hp : (xE p).length = p.length := zF p
   have ix : (ints (xE p ++ y :: q))[p.length]? = some (.int .i64 y) := tU (by rw [V3 (by omega), hp]; simp)
   have il : (ints (xE p ++ y :: q)).length = n := by rw [qy, wo, hp, VK]; omega
   have st : (ints (xE p ++ y :: q)).set p.length (.int .i64 (BK y)) = ints (xE (p ++ [y]) ++ q) := by
    rw [yf, List.set_append_right _ _ (by omega), hp, Nat.sub_self]
    simp [xE]
   have q1 : bw .quo (.int .i64 (y + 1)) (.int .i64 2) = some (.int .i64 (BK y)) := by
    rw [sV _ _ _ (by omega), Int.tdiv_eq_ediv_of_nonneg (by omega), wi (by omega)]; rfl
   have g2 : (h.set wid (ints (xE (p ++ [y]) ++ q))).get wid = some (ints (xE (p ++ [y]) ++ q)) := by rw [wQ rfl, hg]; rfl
   obtain ⟨h', k1, k2, k3, k4, k5⟩ := FY (mv := mv) (sv := sv) (ov := ov) hn q (p ++ [y]) (h.set wid (ints (xE (p ++ [y]) ++ q))) (by simp; omega) (fun e he => hr e (by simp [he])) g2 (by simpa using hf) (by simpa using hfl)
   refine ⟨h', uy ?_ k1, by rw [k2]; simp, by rw [k3]; simp, by rw [k4]; simp, fun i hi => by rw [k5 i hi, wJ hi]⟩
   rw [n1]
   clear k1 k2 k3 k4 k5 g2 hr
   generalize ints (xE p ++ y :: q) = A at *
   generalize ints (xE (p ++ [y]) ++ q) = B at *
   simp (disch := omega) only [go_sem, wH, AP.f30L0, ix, il, st, q1, hg]
def Gj (ws : List Int) : Prop := ws = [] ∨ (1 ≤ ws.length ∧ ws.length ≤ 288 ∧ (∀ k, k < ws.length - 1 → (FS.zr k (AN ws)).ok) ∧ FE (FS.zr (ws.length - 1) (AN ws)).U ∧ (FS.zr (ws.length - 1) (AN ws)).U.length = (FS.zr (ws.length - 1) (AN ws)).W.length)
theorem Ko (U : List Int) : ∀ (m : Nat) (j : Int), Az U m j ≤ m
 | 0, j => vR _
 | m + 1, j => by
   rw [Az]
   split
   · have := Ko U m (U.getD j.toNat (-1)); omega
   · omega
theorem DF {ws : List Int} (o : Gj ws) : ∀ d ∈ wP ws, 0 ≤ d ∧ d < 1000 := by
 intro d hd
 rcases o with rfl | ⟨h1, h2, _, _, h5⟩
 · simp [wP, Di] at hd
 · unfold wP Di at hd
   obtain ⟨i, _, rfl⟩ := V6.1 hd
   have := Ko (FS.zr (ws.length - 1) (AN ws)).U (FS.zr (ws.length - 1) (AN ws)).U.length ((FS.zr (ws.length - 1) (AN ws)).U.getD i (-1))
   rw [h5, FS.A7] at this
   rw [h5, FS.A7]
   have : (AN ws).W.length = ws.length := rfl
   omega
theorem A3 (ws : List Int) : (wP ws).length = ws.length := LP _ _
theorem KL (h : H) (x : AV) (ws : List Int) (rd : Rd h x (ints ws)) (o : Gj ws) : aS AP.A 56 [x] h = some (Aa 1 ws.length (ints (wP ws)), h) := by
 rcases o with rfl | ⟨h1, h2, h3, h4, h5⟩
 · have ln := rd.len
   simp only [I, qy] at ln
   have ln' : jy false x = some (.int .i64 0) := ln
   have l3 : ∀ g : H, Lp AP.A [0, 3, 4] AP.f56L3 [(0, x), (3, .aE h.next 0), (4, .int .i64 0)] g = some (.exit 0, [(0, x), (3, .aE h.next 0), (4, .int .i64 0), (17, .bool false)], g) := fun g => by
    refine ux ?_
    simp (disch := omega) only [go_sem, wH, AP.f56L3, ln']
   have l2 : ∀ g : H, Lp AP.A [0, 3, 5] AP.f56L2 [(0, x), (3, .aE h.next 0), (5, .int .i64 1)] g = some (.exit 2, [(0, x), (3, .aE h.next 0), (5, .int .i64 1), (29, .bool false)], g) := fun g => by
    refine ux ?_
    simp (disch := omega) only [go_sem, wH, AP.f56L2, ln']
   have l1 : ∀ g : H, Lp AP.A [0, 3, 8, 9] AP.f56L1 [(0, x), (3, .aE h.next 0), (8, .aQ), (9, .int .i64 0)] g = some (.exit 4, [(0, x), (3, .aE h.next 0), (8, .aQ), (9, .int .i64 0), (78, .bool false)], g) := fun g => by
    refine ux ?_
    simp (disch := omega) only [go_sem, wH, AP.f56L1, ln']
   have hnx : h.ez.next = h.next := rfl
   refine u7 (fn := AP.f56) (h2 := h.ez.alloc [.aQ, .aQ, .aQ]) (e := [(2, .aQ)]) (vs := [.aQ]) rfl rfl rfl ?_ rfl rfl
   simp (disch := omega) only [go_sem, wH, AP.f56, hnx, th, l1, l2, l3]
 · exact LQ h x ws h1 (by omega) rd h3 h4 h5
def BQ (S : List Int) : Nat → List Int → List Int → List Int
 | 0, W, O => xi S (wP W) O
 | K + 1, W, O => BQ S K (xE W) (xi S (wP W) O)
theorem Jg {h : H} {v : AV} {k : Nat} {cs : List AV} (o : wW 1 h v k cs) (hk : 0 < k) : ∃ id, v = .aF id 0 k 1 ∧ h.get id = some cs ∧ h.floor ≤ id := by
 rcases o.2 with ⟨_, q⟩ | ⟨id, q1, q2, q3, _⟩
 · omega
 · exact ⟨id, q1, q2, q3⟩
theorem Ml {S W O : List Int} {h : H} {sv wv : AV} {n oid : Nat} {most : Int} (hW : W.length = S.length) (hS : S.length ≤ 288) (hn : n ≤ 288) (hO : O.length = n) (hr : ∀ s ∈ S, 0 ≤ s ∧ s < n) (hfl : h.floor ≤ h.next) (os : wW 1 h sv S.length (ints S)) (ow : wW 1 h wv W.length (ints W)) (go : h.get oid = some (ints O)) (hfo : h.floor ≤ oid) (ap : Cx sv wv) (ns : sv.id? ≠ some oid) (nw : wv.id? ≠ some oid) (o : Gj W) (hm : 1 ≤ most ∧ most ≤ 15) (wr : ∀ y ∈ W, 0 ≤ y ∧ y < 1000000000000) :
 (AY (wP W) 0 ≤ most → ∃ h', aM (aS AP.A) bG AP.f30L2 (ay [(1, .int .i64 most), (6, sv), (7, wv), (9, .aF oid 0 n 1)] [1, 6, 7, 9]) h = some (.ret, [(4, .aF oid 0 n 1), (5, .int .i64 0)], h') ∧ h'.get oid = some (ints (xi S (wP W) O)) ∧ h'.floor = h.floor) ∧
 (most < AY (wP W) 0 → W ≠ [] → ∃ h', aM (aS AP.A) bG AP.f30L2 (ay [(1, .int .i64 most), (6, sv), (7, wv), (9, .aF oid 0 n 1)] [1, 6, 7, 9]) h = some (.normal, [(1, .int .i64 most), (6, sv), (7, wv), (9, .aF oid 0 n 1)], h') ∧ h'.get oid = some (ints (xi S (wP W) O)) ∧ wW 1 h' sv S.length (ints S) ∧ wW 1 h' wv (xE W).length (ints (xE W)) ∧ h'.floor = h.floor ∧ h'.floor ≤ h'.next) := by
 have k1 := KL h wv W ow.OA o
 have dl := A3 W
 have dr := DF o
 obtain ⟨D, eD⟩ : ∃ D, D = wP W := ⟨_, rfl⟩
 rw [← eD] at k1 dl dr ⊢
 obtain ⟨hb, ehb⟩ : ∃ g, g = h.del oid := ⟨_, rfl⟩
 have hbn : hb.get oid = none := by rw [ehb, H.eI, if_pos rfl]
 have ext : Ext hb h := fun i c q => by
  rw [ehb, H.eI] at q
  split at q
  · cases q
  · exact q
 have hbk : ∀ i, i ≠ oid → hb.get i = h.get i := fun i hi => by rw [ehb, H.eI, if_neg hi]
 have rs : Rd hb sv (ints S) := (os.mono (by rw [ehb]; simp) fun i q => hbk i (fun e => ns (by rw [q, e]))).OA
 have rdd : Rd hb (Aa 1 W.length (ints D)) (ints D) := by
  have := Hp (n := 1) (k := D.length) (h := hb) (cs := ints D) (by rw [qy]; omega)
  rw [dl] at this
  exact ⟨by have := this.1; rw [qy, dl]; exact this, this.2.2⟩
 obtain ⟨h1, L1, g1, f1, n1, t1⟩ := Gg (mv := .int .i64 most) (wv := wv) (O := O) (oid := oid) (h := h) (s1 := []) (p := []) (q := D) (s2 := S) (m := 0) (by omega) (dl.trans hW) (by omega) hr hb rs rdd hbn rfl rfl rfl ext hO go hfo dr (by omega)
 have L1' : Lp AP.A [1, 6, 7, 9, 10, 11, 12] AP.f30L1 [(1, .int .i64 most), (6, sv), (7, wv), (9, .aF oid 0 n 1), (10, Aa 1 W.length (ints D)), (11, .int .i64 0), (12, .int .i64 0)] h = _ := L1
 constructor
 · intro c
   refine ⟨h1, ?_, g1, f1⟩
   clear L1 rs rdd os ow dr hr wr
   generalize Aa 1 W.length (ints D) = dv at *
   generalize AY D 0 = M at *
   simp (disch := omega) only [go_sem, wH, AP.f30L2, k1, th, L1', VM c]
 · intro c hne
   have hWp : 0 < W.length := List.length_pos_iff.2 hne
   obtain ⟨wid, q1, q2, q3⟩ := Jg ow hWp
   have hwo : wid ≠ oid := fun e => nw (by rw [q1, e]; rfl)
   have hsw : ∀ j, sv.id? = some j → j ≠ wid := fun j hj e => ap j hj (by rw [q1, e]; rfl)
   obtain ⟨h2, L2, g2, f2, n2, t2⟩ := FY (mv := .int .i64 most) (sv := sv) (ov := .aF oid 0 n 1) (n := W.length) (wid := wid) (by omega) W [] h1 (by simp) wr (by rw [t1 wid hwo, q2]; rfl) (by omega) (by omega)
   have L2' : Lp AP.A [1, 6, 7, 9, 13] AP.f30L0 [(1, .int .i64 most), (6, sv), (7, .aF wid 0 W.length 1), (9, .aF oid 0 n 1), (13, .int .i64 0)] h1 = _ := L2
   have os2 : wW 1 h2 sv S.length (ints S) := os.mono (by omega) fun j hj => by
    rw [t2 j (hsw j hj), t1 j (fun e => ns (by rw [hj, e]))]
   have ow2 : wW 1 h2 wv (xE W).length (ints (xE W)) := by
    rw [zF]
    exact ⟨by rw [qy, zF]; omega, .inr ⟨wid, q1, by simpa using g2, by omega, hWp⟩⟩
   refine ⟨h2, ?_, by rw [t2 oid hwo.symm, g1], os2, ow2, by omega, by omega⟩
   clear L1 L2 rs rdd os ow os2 ow2 dr hr wr
   rw [q1] at L1' k1 ⊢
   have c' : ¬ AY D 0 ≤ most := by omega
   generalize Aa 1 W.length (ints D) = dv at *
   generalize AY D 0 = M at *
   simp (disch := omega) only [go_sem, wH, AP.f30L2, k1, th, L1', L2', VJ c']
inductive yX (most : Int) : Nat → List Int → Prop
 | last {W : List Int} : Gj W → AY (wP W) 0 ≤ most → yX most 0 W
 | more {K : Nat} {W : List Int} : Gj W → most < AY (wP W) 0 → W ≠ [] → yX most K (xE W) → yX most (K + 1) W
theorem KR {W : List Int} (wr : ∀ y ∈ W, 0 ≤ y ∧ y < 1000000000000) : ∀ y ∈ xE W, 0 ≤ y ∧ y < 1000000000000 := by
 intro y hy
 obtain ⟨z, hz, rfl⟩ := V6.1 hy
 have := wr z hz
 unfold BK; omega
theorem J6 {S : List Int} {sv wv : AV} {n oid : Nat} {most : Int} (hS : S.length ≤ 288) (hn : n ≤ 288) (hr : ∀ s ∈ S, 0 ≤ s ∧ s < n) (ap : Cx sv wv) (ns : sv.id? ≠ some oid) (nw : wv.id? ≠ some oid) (hm : 1 ≤ most ∧ most ≤ 15) : ∀ (K : Nat) (W O : List Int) (h : H), yX most K W → W.length = S.length → O.length = n → h.floor ≤ h.next → wW 1 h sv S.length (ints S) → wW 1 h wv W.length (ints W) → h.get oid = some (ints O) → h.floor ≤ oid → (∀ y ∈ W, 0 ≤ y ∧ y < 1000000000000) →
 ∃ h', Lp AP.A [1, 6, 7, 9] AP.f30L2 [(1, .int .i64 most), (6, sv), (7, wv), (9, .aF oid 0 n 1)] h = some (.ret, [(4, .aF oid 0 n 1), (5, .int .i64 0)], h') ∧ h'.get oid = some (ints (BQ S K W O)) ∧ h'.floor = h.floor
 | 0, W, O, h, r, hW, hO, hfl, os, ow, go, hfo, wr => by
   cases r with
   | last o c =>
     obtain ⟨h', k, g, f⟩ := (Ml hW hS hn hO hr hfl os ow go hfo ap ns nw o hm wr).1 c
     exact ⟨h', uT k, g, f⟩
 | K + 1, W, O, h, r, hW, hO, hfl, os, ow, go, hfo, wr => by
   cases r with
   | more o c hne r =>
     obtain ⟨h1, k, g, os1, ow1, f, fl⟩ := (Ml hW hS hn hO hr hfl os ow go hfo ap ns nw o hm wr).2 c hne
     obtain ⟨h', k2, g2, f2⟩ := J6 hS hn hr ap ns nw hm K (xE W) _ h1 r (by rw [zF, hW]) (by rw [ya, hO]) fl os1 ow1 g (by omega) (KR wr)
     exact ⟨h', uy k k2, g2, by omega⟩
def z9 (S : List Int) : List Int := if S.length = 1 then (if 0 < S.getD 0 0 then [0, S.getD 0 0] else S ++ [1]) else S
def BG (S W : List Int) : List Int := if S.length = 1 then (if 0 < S.getD 0 0 then [1, W.getD 0 0] else W ++ [1]) else W
theorem NX {S W : List Int} (h : W.length = S.length) : (BG S W).length = (z9 S).length := by
 unfold BG z9
 split
 · split
   · rfl
   · simp [h]
 · exact h
theorem UY {x : AV} {most : Int} {S W : List Int} {h : H} {sv wv : AV} (hl : W.length = S.length) (hS : S.length ≤ 288) (hfl : h.floor ≤ h.next) (os : wW 1 h sv S.length (ints S)) (ow : wW 1 h wv W.length (ints W)) (ap : Cx sv wv) :
 ∃ h' sv' wv', aM (aS AP.A) bG (at_ 4 AP.f30.body) [(0, x), (1, .int .i64 most), (6, sv), (7, wv)] h = some (.normal, [(0, x), (1, .int .i64 most), (6, sv'), (7, wv')], h') ∧ wW 1 h' sv' (z9 S).length (ints (z9 S)) ∧ wW 1 h' wv' (BG S W).length (ints (BG S W)) ∧ Cx sv' wv' ∧ h'.floor = h.floor ∧ h'.floor ≤ h'.next := by
 have ln := os.rd.len
 by_cases c1 : S.length = 1
 · obtain ⟨s0, rfl⟩ : ∃ s, S = [s] := by
    match S, c1 with
    | [s], _ => exact ⟨s, rfl⟩
   obtain ⟨w0, rfl⟩ : ∃ s, W = [s] := by
    match W, hl with
    | [s], _ => exact ⟨s, rfl⟩
   obtain ⟨sid, q1, q2, q3⟩ := Jg os (by simp)
   obtain ⟨wid, p1, p2, p3⟩ := Jg ow (by simp)
   simp only [VK, VN, ints, VR, Wk, I] at q1 q2 p1 p2
   subst q1
   subst p1
   by_cases c2 : 0 < s0
   · have e1 : z9 [s0] = [0, s0] := by simp [z9, c2]
     have e2 : BG [s0] [w0] = [1, w0] := by simp [BG, c2]
     rw [e1, e2]
     refine ⟨(h.alloc [.int .i64 0, .int .i64 s0]).alloc [.int .i64 1, .int .i64 w0], .aF h.next 0 2 1, .aF (h.next + 1) 0 2 1, ?_, ⟨rfl, .inr ⟨h.next, rfl, ?_, by simpa using hfl, by simp⟩⟩, ⟨rfl, .inr ⟨h.next + 1, rfl, ?_, by simp; omega, by simp⟩⟩, ?_, by simp, by simp; omega⟩
     · have w2 := h.lt _ _ p2
       simp (disch := first | omega | (simp only [y7, VK, VN, vW, Nat.reduceAdd]; first | done | omega | fail) | (simp (disch := first | omega | (simp only [y7, VK, VN, vW, Nat.reduceAdd]; first | done | omega | fail) | fail) only [y7, Gp, VO, VK, VN, vW, Nat.reduceAdd]; done) | fail) only [go_sem, wH, Hx, AP.f30, q2, p2, VM c2]
     · rw [wR (by simp), wM rfl]; rfl
     · rw [wM (by simp)]; rfl
     · intro j hj e; have := vG hj; have := vG e; omega
   · have e1 : z9 [s0] = [s0, 1] := by simp [z9, c2]
     have e2 : BG [s0] [w0] = [w0, 1] := by simp [BG, c2]
     rw [e1, e2]
     obtain ⟨v1, h1, a1, a2, a3, a4, a5, a6⟩ := os.push hfl (z := 8) (m := 1) (by omega) (by omega) [.int .i64 1] rfl rfl (yB (by simp))
     have ow1 : wW 1 h1 (.aF wid 0 1 1) 1 (ints [w0]) := ow.mono a3 fun j hj => a5 j (fun e => ap j e hj) (ow.lt hj).2
     obtain ⟨v2, h2, b1, b2, b3, b4, b5, b6⟩ := ow1.push (by omega) (z := 8) (m := 1) (by omega) (by omega) [.int .i64 1] rfl rfl (yB (by simp))
     refine ⟨h2, v1, v2, ?_, ?_, b2, fun j hj e => by rw [a6] at hj; rw [b6] at e; have := vG hj; have := vG e; omega, by omega, by omega⟩
     · clear os ow ow1 ap a2 b2 a5 b5
       simp only [VK, VN] at a1 b1 ln
       simp (disch := omega) only [go_sem, wH, AP.f30, yd, yh, ln, q2, p2, a1, b1, VJ c2]
     · exact a2.mono b3 fun j hj => b5 j (fun e => by rw [a6] at hj; have := vG hj; have := vG e; have := h.lt _ _ p2; omega) (a2.lt hj).2
 · have e1 : z9 S = S := by simp [z9, c1]
   have e2 : BG S W = W := by simp [BG, c1]
   rw [e1, e2]
   refine ⟨h, sv, wv, ?_, os, ow, ap, rfl, hfl⟩
   have c1' : ¬ ((S.length : Int) = 1) := by omega
   clear os ow ap
   simp (disch := omega) only [go_sem, wH, AP.f30, yd, yh, ln]
theorem yP : ∀ (i : Nat) (C : List Int), (xA i C).length = (zS C).length
 | i, [] => rfl
 | i, c :: r => by
   rw [xA, zS]
   split
   · simp [yP (i + 1) r]
   · exact yP (i + 1) r
theorem Ac : ∀ (i : Nat) (C : List Int), (xA i C).length ≤ C.length
 | i, [] => vR _
 | i, c :: r => by
   have := Ac (i + 1) r
   rw [xA]
   split <;> simp <;> omega
theorem zg : ∀ (i : Nat) (C : List Int), ∀ s ∈ xA i C, (i : Int) ≤ s ∧ s < i + C.length
 | i, [], s, h => by simp [xA] at h
 | i, c :: r, s, h => by
   rw [xA] at h
   split at h
   · rcases wj.1 h with q | q
     · subst q; simp; omega
     · have := zg (i + 1) r s q; simp only [VK]; omega
   · have := zg (i + 1) r s h; simp only [VK]; omega
theorem AA : ∀ (C : List Int), ∀ y ∈ zS C, y ∈ C ∧ 0 < y
 | [], y, h => by simp [zS] at h
 | c :: r, y, h => by
   rw [zS] at h
   split at h
   · rcases wj.1 h with q | q
     · subst q; exact ⟨by simp, by assumption⟩
     · have := AA r y q; exact ⟨by simp [this.1], this.2⟩
   · have := AA r y h; exact ⟨by simp [this.1], this.2⟩
theorem IB {S : List Int} {n : Nat} (hn : 2 ≤ n) (h : ∀ s ∈ S, 0 ≤ s ∧ s < n) : ∀ s ∈ z9 S, 0 ≤ s ∧ s < n := by
 intro s hs
 unfold z9 at hs
 split at hs
 · split at hs
   · rename_i h1 h2
     rcases wj.1 hs with q | q
     · subst q; omega
     · simp at q
       subst q
       match S, h1 with
       | [t], _ => exact h t (by simp)
   · rcases Wb.1 hs with q | q
     · exact h s q
     · simp at q; subst q; omega
 · exact h s hs
theorem Mz {S W : List Int} (hl : W.length = S.length) (h : ∀ y ∈ W, 0 ≤ y ∧ y < 1000000000000) : ∀ y ∈ BG S W, 0 ≤ y ∧ y < 1000000000000 := by
 intro s hs
 unfold BG at hs
 split at hs
 · split at hs
   · rename_i h1 h2
     rcases wj.1 hs with q | q
     · subst q; omega
     · simp at q
       subst q
       rw [← hl] at h1
       match W, h1 with
       | [t], _ => exact h t (by simp)
   · rcases Wb.1 hs with q | q
     · exact h s q
     · simp at q; subst q; omega
 · exact h s hs
theorem DP {S : List Int} {n : Nat} (hn : 2 ≤ n) (h : S.length ≤ n) : (z9 S).length ≤ n := by
 unfold z9
 split
 · split
   · simpa using hn
   · simp; omega
 · exact h
theorem zN (n : Nat) : zm n [.int .i64 0] = ints (List.replicate n 0) := by
 unfold zm; rw [Hq]; simp [ints, I]
def xj (C : List Int) : List Int := z9 (xA 0 C)
def xQ (C : List Int) : List Int := BG (xA 0 C) (zS C)
theorem G7 (C : List Int) : (xQ C).length = (xj C).length := NX (yP 0 C).symm
def xF (C : List Int) (K : Nat) : List Int := BQ (xj C) K (xQ C) (List.replicate C.length 0)
theorem Ch (h : H) (x : AV) (C : List Int) (m K : Nat) (h2 : 2 ≤ C.length) (hn : C.length ≤ 288) (rd : Rd h x (ints C)) (hm : 1 ≤ m ∧ m ≤ 15) (hr : ∀ y ∈ C, 0 ≤ y ∧ y ≤ 2147483647) (hs : (xj C).length ≤ 2 ^ m) (ro : yX m K (xQ C)) :
 aS AP.A 30 [x, .int .i64 m] h = some (.bU [Aa 1 C.length (ints (xF C K)), .int .i64 0], h) := by
 have E9 : Rd h.ez x (ints C) := rd.mono (wG h)
 have ln := rd.len
 rw [qy] at ln
 simp only [I] at ln
 obtain ⟨h1, sv, wv, L1, os, ow, ap, f1, fl1⟩ := EP (mv := .int .i64 m) (by omega) hr h.ez E9 C [] [] [] h.ez .aQ .aQ rfl (Ext.refl _) rfl (by simp) wW.nil wW.nil (fun j hj => by simp [AV.id?] at hj) (by simp) (by simp)
 have L1' : Lp AP.A [0, 1, 6, 7, 8] AP.f30L3 [(0, x), (1, .int .i64 m), (6, .aQ), (7, .aQ), (8, .int .i64 0)] h.ez = _ := L1
 simp only [List.nil_append, VN] at os ow
 have sl := Ac 0 C
 obtain ⟨h2', sv2, wv2, P, os2, ow2, ap2, f2, fl2⟩ := UY (x := x) (most := m) (yP 0 C).symm (by omega) fl1 os ow ap
 change wW 1 h2' sv2 (xj C).length (ints (xj C)) at os2
 change wW 1 h2' wv2 (xQ C).length (ints (xQ C)) at ow2
 have hSl : (xj C).length ≤ C.length := DP h2 sl
 have hSr : ∀ s ∈ xj C, 0 ≤ s ∧ s < C.length := IB h2 fun s hs => by have := zg 0 C s hs; omega
 have hWr : ∀ y ∈ xQ C, 0 ≤ y ∧ y < 1000000000000 := Mz (yP 0 C).symm fun y hy => by
  have := hr y (AA C y hy).1; omega
 have hWS := G7 C
 obtain ⟨h3, eh3⟩ : ∃ g, g = h2'.alloc (zm C.length [.int .i64 0]) := ⟨_, rfl⟩
 have g3 : h3.get h2'.next = some (ints (List.replicate C.length 0)) := by rw [eh3, wM rfl, zN]
 have os3 : wW 1 h3 sv2 (xj C).length (ints (xj C)) := os2.mono (by rw [eh3]; simp) fun j hj => by rw [eh3, wR (by have := (os2.lt hj).2; omega)]
 have ow3 : wW 1 h3 wv2 (xQ C).length (ints (xQ C)) := ow2.mono (by rw [eh3]; simp) fun j hj => by rw [eh3, wR (by have := (ow2.lt hj).2; omega)]
 have fl3 : h3.floor = h.next := by rw [eh3]; simp [f2, f1]
 obtain ⟨h4, L4, g4, f4⟩ := J6 (n := C.length) (oid := h2'.next) (most := m) (by omega) hn hSr ap2 (fun q => by have := (os2.lt q).2; omega) (fun q => by have := (ow2.lt q).2; omega) (by omega) K (xQ C) (List.replicate C.length 0) h3 ro hWS (by simp) (by rw [eh3]; simp; omega) os3 ow3 g3 (by rw [eh3]; simp; omega) hWr
 have s1 : qe .shl .i64 1 (m : Int) = some (.int .i64 ((2 ^ m : Nat) : Int)) := by
  have := zC (a := 1) (s := m) (by omega) (by
   have : 2 ^ m ≤ 2 ^ 15 := VS (by omega) hm.2
   omega)
  rwa [Nat.one_mul] at this
 have lS : jy false sv2 = some (.int .i64 (xj C).length) := os2.rd.len
 have t5 : aM (aS AP.A) bG (Nf 5 AP.f30.body) [(0, x), (1, .int .i64 m), (6, sv2), (7, wv2)] h2' = some (.ret, [(4, .aF h2'.next 0 C.length 1), (5, .int .i64 0)], h4) := by
  clear os ow os2 ow2 os3 ow3 rd E9 hSr hWr ro hr L1 P
  generalize 2 ^ m = M at *
  generalize (xj C).length = sL at *
  simp (disch := omega) only [go_sem, wH, AP.f30, N5, N4, lS, s1, ln, ← eh3, th, L4]
 have lo : (xF C K).length = C.length := by
  unfold xF
  have : ∀ (K : Nat) (S W O : List Int), (BQ S K W O).length = O.length := by
   intro K
   induction K with
   | zero => intro S W O; rw [BQ, ya]
   | succ K ih => intro S W O; rw [BQ, ih, ya]
  rw [this]; simp
 have ow4 : wW 1 h4 (.aF h2'.next 0 C.length 1) C.length (ints (xF C K)) := ⟨by rw [qy, lo]; omega, .inr ⟨h2'.next, rfl, g4, by rw [f4, fl3]; have := fl2; rw [f2, f1] at this; simpa using this, by omega⟩⟩
 refine u7 (fn := AP.f30) (h2 := h4) (e := [(4, .aF h2'.next 0 C.length 1), (5, .int .i64 0)]) (vs := [.aF h2'.next 0 C.length 1, .int .i64 0]) rfl rfl rfl ?_ rfl ?_
 · have hb : AP.f30.body = .seq (at_ 0 AP.f30.body) (.seq (at_ 1 AP.f30.body) (.seq (at_ 2 AP.f30.body) (.seq (at_ 3 AP.f30.body) (.seq (at_ 4 AP.f30.body) (Nf 5 AP.f30.body))))) := rfl
   have a0 : aM (aS AP.A) bG (at_ 0 AP.f30.body) (params 0 [x, .int .i64 m]) h.ez = some (.normal, [(0, x), (1, .int .i64 m)], h.ez) := by
    simp (disch := omega) only [go_sem, wH, AP.f30, yd, yh]
   have a1 : aM (aS AP.A) bG (at_ 1 AP.f30.body) [(0, x), (1, .int .i64 m)] h.ez = some (.normal, [(0, x), (1, .int .i64 m)], h.ez) := by
    clear os ow os2 ow2 os3 ow3 rd E9 hSr hWr ro hr L1 P t5
    simp (disch := omega) only [go_sem, wH, AP.f30, yd, yh, ln]
   have a2 : aM (aS AP.A) bG (at_ 2 AP.f30.body) [(0, x), (1, .int .i64 m)] h.ez = some (.normal, [(0, x), (1, .int .i64 m), (6, .aQ), (7, .aQ)], h.ez) := by
    simp (disch := omega) only [go_sem, wH, AP.f30, yd, yh]
   have a3 : aM (aS AP.A) bG (at_ 3 AP.f30.body) [(0, x), (1, .int .i64 m), (6, .aQ), (7, .aQ)] h.ez = some (.normal, [(0, x), (1, .int .i64 m), (6, sv), (7, wv)], h1) := by
    simp (disch := omega) only [go_sem, wH, AP.f30, yd, yh, th, L1']
   rw [hb, sS, a0, tP, sS, a1, tP, sS, a2, tP, sS, a3, tP, sS, P, tP, t5]
 · have s1 := ow4.yC (fl := h.next) (m := 13) (t := true) (by omega)
   show (fV (snap h4.get h.next 15 true) [.aF h2'.next 0 C.length 1, .int .i64 0]).bind _ = _
   simp only [fV, s1, vO]
   rfl
theorem EL (W : List Int) (F : List Bool) : ∀ (m i : Nat) (a : Int), (a = -1 ∧ (∀ j, j < i → F.getD j false = false)) ∨ (∃ k : Nat, a = k ∧ k < i ∧ F.getD k false = true ∧ ∀ j, j < i → F.getD j false = true → W.getD k 0 ≤ W.getD j 0) →
 (xK W F m i a = -1 ∧ (∀ j, j < i + m → F.getD j false = false)) ∨ (∃ k : Nat, xK W F m i a = k ∧ k < i + m ∧ F.getD k false = true ∧ ∀ j, j < i + m → F.getD j false = true → W.getD k 0 ≤ W.getD j 0)
 | 0, i, a, h => by simpa [xK] using h
 | m + 1, i, a, h => by
   rw [xK]
   have e : i + (m + 1) = i + 1 + m := by omega
   rw [e]
   refine EL W F m (i + 1) _ ?_
   by_cases c : F.getD i false = true ∧ (a < 0 ∨ W.getD i 0 < W.getD a.toNat 0)
   · rw [if_pos c]
     refine .inr ⟨i, rfl, by omega, c.1, fun j hj hf => ?_⟩
     by_cases q : j = i
     · subst q; exact Wl _
     · rcases h with ⟨_, h2⟩ | ⟨k, rfl, h1, h2, h3⟩
       · rw [h2 j (by omega)] at hf; cases hf
       · have := h3 j (by omega) hf
         have tk : ((k : Nat) : Int).toNat = k := by omega
         rw [tk] at c
         have := c.2
         omega
   · rw [if_neg c]
     rcases h with ⟨rfl, h2⟩ | ⟨k, rfl, h1, h2, h3⟩
     · refine .inl ⟨rfl, fun j hj => ?_⟩
       by_cases q : j = i
       · subst q
         cases e : F.getD j false with
         | false => rfl
         | true => exact absurd ⟨e, .inl (by omega)⟩ c
       · exact h2 j (by omega)
     · refine .inr ⟨k, rfl, by omega, h2, fun j hj hf => ?_⟩
       by_cases q : j = i
       · subst q
         have tk : ((k : Nat) : Int).toNat = k := by omega
         rw [tk] at c
         have : ¬ (W.getD j 0 < W.getD k 0) := fun x => c ⟨hf, .inr x⟩
         omega
       · exact h3 j (by omega) hf
theorem EM {W : List Int} {F : List Bool} (hl : F.length = W.length) {i : Nat} (hi : F.getD i false = true) : 0 ≤ xK W F W.length 0 (-1) ∧ xz W F < W.length ∧ F.getD (xz W F) false = true ∧ ∀ j, F.getD j false = true → W.getD (xz W F) 0 ≤ W.getD j 0 := by
 have hiL : ∀ j, F.getD j false = true → j < F.length := by
  intro j hj
  rw [VH] at hj
  cases e : F[j]? with
  | none => rw [e] at hj; cases hj
  | some b => exact (vN.1 e).1
 rcases EL W F W.length 0 (-1) (.inl ⟨rfl, fun j hj => by omega⟩) with ⟨_, h2⟩ | ⟨k, h1, h2, h3, h4⟩
 · have := h2 i (by have := hiL i hi; omega)
   rw [hi] at this; cases this
 · have ek : xz W F = k := by unfold xz; rw [h1]; omega
   rw [ek]
   exact ⟨by omega, by omega, h3, fun j hj => h4 j (by have := hiL j hj; omega) hj⟩
def NZ (U : List Int) : Nat → Nat → Nat → Prop
 | 0, i, r => i = r
 | d + 1, i, r => ∃ j : Nat, U[i]? = some (j : Int) ∧ NZ U d j r
theorem E4 {U : List Int} : ∀ {d i r : Nat} {j : Nat}, NZ U d i r → U[r]? = some (j : Int) → NZ U (d + 1) i j
 | 0, i, r, j, h, hj => by
   have : i = r := h
   subst this
   exact ⟨j, hj, rfl⟩
 | d + 1, i, r, j, ⟨k, h1, h2⟩, hj => ⟨k, h1, E4 h2 hj⟩
theorem Ke {U : List Int} (up : FE U) : ∀ {d i r : Nat}, NZ U d i r → U.getD r (-1) = -1 → ∀ m, d ≤ m → Az U m (U.getD i (-1)) = d
 | 0, i, r, h, hr, m, hm => by
   have : i = r := h
   subst this
   rw [hr]
   cases m with
   | zero => rfl
   | succ m => rw [Az, if_neg (by omega)]
 | d + 1, i, r, ⟨j, h1, h2⟩, hr, m, hm => by
   obtain ⟨m, rfl⟩ : ∃ k, m = k + 1 := ⟨m - 1, by omega⟩
   have e : U.getD i (-1) = (j : Int) := by rw [VH, h1]; rfl
   rw [e, Az, if_pos (by omega)]
   have tj : ((j : Nat) : Int).toNat = j := by omega
   rw [tj, Ke up h2 hr m (by omega)]
theorem JE {U : List Int} (up : FE U) : ∀ {d i r : Nat}, NZ U d i r → i + d ≤ r
 | 0, i, r, h => by
   have : i = r := h
   omega
 | d + 1, i, r, ⟨j, h1, h2⟩ => by
   have := JE up h2
   have hi := (vN.1 h1).1
   have e : U.getD i (-1) = (j : Int) := by rw [VH, h1]; rfl
   have := up i hi
   rw [e] at this
   omega
def zL (U : List Int) (a b : Nat) : List Int := (U.set a U.length).set b U.length ++ [-1]
theorem F4 (U : List Int) (a b : Nat) : (zL U a b).length = U.length + 1 := by simp [zL]
theorem Dm {U : List Int} {a b i : Nat} (hi : i < U.length) (ha : a ≠ i) (hb : b ≠ i) : (zL U a b)[i]? = U[i]? := by
 unfold zL
 rw [Wa (by simpa using hi), VZ, if_neg hb, VZ, if_neg ha]
theorem J2 {U : List Int} {a b : Nat} (ha : a < U.length) : (zL U a b)[a]? = some (U.length : Int) := by
 unfold zL
 rw [Wa (by simpa using ha), VZ]
 split
 · rename_i e; subst e; simp [ha]
 · rw [VZ, if_pos rfl, if_pos ha]
theorem J3 {U : List Int} {a b : Nat} (hb : b < U.length) : (zL U a b)[b]? = some (U.length : Int) := by
 unfold zL
 rw [Wa (by simpa using hb), VZ, if_pos rfl, if_pos (by simpa using hb)]
theorem J4 {U : List Int} {a b : Nat} : (zL U a b)[U.length]? = some (-1) := by
 unfold zL
 rw [V3 (by simp)]; simp
theorem C4 {U : List Int} {a b : Nat} (ha : U[a]? = some (-1)) (hb : U[b]? = some (-1)) : ∀ {d i r : Nat}, NZ U d i r → NZ (zL U a b) d i r
 | 0, i, r, h => h
 | d + 1, i, r, ⟨j, h1, h2⟩ => by
   refine ⟨j, ?_, C4 ha hb h2⟩
   rw [Dm (vN.1 h1).1 (fun e => by rw [e, h1] at ha; have := vG ha; omega) (fun e => by rw [e, h1] at hb; have := vG hb; omega), h1]
theorem Li {U : List Int} {a b : Nat} (ha : a < U.length) (hb : b < U.length) (up : FE U) : FE (zL U a b) := by
 intro j hj
 rw [F4] at hj ⊢
 by_cases e : j = U.length
 · subst e
   left
   rw [VH, J4]; rfl
 · by_cases ea : a = j
   · subst ea
     right
     rw [VH, J2 ha]
     simp; omega
   · by_cases eb : b = j
     · subst eb
       right
       rw [VH, J3 hb]
       simp; omega
     · have := up j (by omega)
       rw [VH, Dm (by omega) ea eb, ← VH]
       omega
theorem FS.Um (s : FS) : s.Je.U = zL s.U s.a s.b := rfl
abbrev Tr := Nat × List (Nat × Nat)
def kr (D : Nat) (l : List (Nat × Nat)) : Nat := (l.map fun p => 2 ^ (D - p.2)).sum
structure BD (bal : Bool) (n : Nat) (tot : Int) (s : FS) (T : List Tr) : Prop where
 lu : s.U.length = s.W.length
 lf : s.F.length = s.W.length
 root : ∀ t ∈ T, s.F.getD t.1 false = true ∧ s.U[t.1]? = some (-1)
 free : ∀ i, s.F.getD i false = true → ∃ t ∈ T, t.1 = i
 nd : (T.map (·.1)).Nodup
 pt : ∀ t ∈ T, ∀ p ∈ t.2, NZ s.U p.2 p.1 t.1
 leaves : (T.flatMap fun t => t.2.map (·.1)).Perm (List.range n)
 EJ : ∀ t ∈ T, ∀ D, (∀ p ∈ t.2, p.2 ≤ D) → kr D t.2 = 2 ^ D
 ne : ∀ t ∈ T, t.2 ≠ []
 Lj : ∀ t ∈ T, 1 ≤ s.W.getD t.1 0
 up : FE s.U
 sum : (T.map fun t => s.W.getD t.1 0).sum = tot
 Np : bal = true → ∀ t ∈ T, ∀ u ∈ T, s.W.getD t.1 0 ≤ 2 * s.W.getD u.1 0
 Kz : bal = true → ∀ t ∈ T, ∀ p ∈ t.2, (3 : Int) ^ p.2 ≤ s.W.getD t.1 0 * 2 ^ p.2
theorem K7 {l l' : List Int} (p : l.Perm l') : l.sum = l'.sum := by
 induction p with
 | nil => rfl
 | cons x _ ih => simp only [Wd, ih]
 | swap x y l => simp only [Wd]; omega
 | trans _ _ h1 h2 => exact h1.trans h2
theorem Gl {l l' : List Nat} (p : l.Perm l') : l.sum = l'.sum := by
 induction p with
 | nil => rfl
 | cons x _ ih => simp only [Wd, ih]
 | swap x y l => simp only [Wd]; omega
 | trans _ _ h1 h2 => exact h1.trans h2
theorem BD.perm {bal : Bool} {n : Nat} {tot : Int} {s : FS} {T T' : List Tr} (v : BD bal n tot s T) (p : T.Perm T') : BD bal n tot s T' where
 lu := v.lu
 lf := v.lf
 root t h := v.root t (p.mem_iff.2 h)
 free i h := by
  obtain ⟨t, h1, h2⟩ := v.free i h
  exact ⟨t, p.mem_iff.1 h1, h2⟩
 nd := (p.map _).nodup_iff.1 v.nd
 pt t h := v.pt t (p.mem_iff.2 h)
 leaves := ((p.flatMap_right _).symm).trans v.leaves
 EJ t h := v.EJ t (p.mem_iff.2 h)
 ne t h := v.ne t (p.mem_iff.2 h)
 Lj t h := v.Lj t (p.mem_iff.2 h)
 up := v.up
 sum := by rw [← v.sum]; exact (K7 (p.map _)).symm
 Np hb t h u h2 := v.Np hb t (p.mem_iff.2 h) u (p.mem_iff.2 h2)
 Kz hb t h := v.Kz hb t (p.mem_iff.2 h)
def AH (l : List (Nat × Nat)) : List (Nat × Nat) := l.map fun p => (p.1, p.2 + 1)
theorem KT {D : Nat} {l : List (Nat × Nat)} : kr (D + 1) (AH l) = kr D l := by
 unfold kr AH
 rw [List.map_map]
 congr 1
 refine We fun p _ => ?_
 show 2 ^ (D + 1 - (p.2 + 1)) = _
 rw [Nat.add_sub_add_right]
theorem QU (D : Nat) (a b : List (Nat × Nat)) : kr D (a ++ b) = kr D a + kr D b := by simp [kr]
theorem getD_set_ne {α : Type} {l : List α} {i j : Nat} {x d : α} (h : i ≠ j) : (l.set i x).getD j d = l.getD j d := by
 rw [VH, VZ, if_neg h, ← VH]
theorem B7 {l : List Bool} {i : Nat} : (l.set i false).getD i false = false := by
 rw [VH, VZ, if_pos rfl]
 split <;> rfl
theorem BD.two {bal : Bool} {n : Nat} {tot : Int} {s : FS} {T : List Tr} (v : BD bal n tot s T) (h2 : 2 ≤ T.length) :
 ∃ ta tb T2, T.Perm (ta :: tb :: T2) ∧ ta.1 = s.a ∧ tb.1 = s.b ∧ 0 ≤ xK s.W s.F s.W.length 0 (-1) ∧ 0 ≤ xK s.W s.F1 s.W.length 0 (-1) ∧ s.W.getD s.a 0 ≤ s.W.getD s.b 0 ∧ (∀ t ∈ T2, s.W.getD s.b 0 ≤ s.W.getD t.1 0) := by
 obtain ⟨t0, t1, T0, rfl⟩ : ∃ t0 t1 T0, T = t0 :: t1 :: T0 := by
  match T, h2 with
  | t0 :: t1 :: T0, _ => exact ⟨t0, t1, T0, rfl⟩
 obtain ⟨l1, la, fa, ma⟩ := EM v.lf (v.root t0 (by simp)).1
 obtain ⟨ta, hta, ea⟩ := v.free _ fa
 have p1 := List.perm_cons_erase hta
 have v1 := v.perm p1
 obtain ⟨T1, eT1⟩ : ∃ T1, T1 = (t0 :: t1 :: T0).erase ta := ⟨_, rfl⟩
 rw [← eT1] at p1 v1
 have lT1 : T1 ≠ [] := by
  intro e
  have := p1.length_eq
  rw [e] at this
  simp at this
 obtain ⟨tx, hx⟩ := List.exists_mem_of_ne_nil _ lT1
 have nd1 : ∀ t ∈ T1, t.1 ≠ ta.1 := by
  intro t ht e
  have := v1.nd
  rw [VR, List.nodup_cons] at this
  exact this.1 (V6.2 ⟨t, ht, e⟩)
 have f1 : ∀ t ∈ T1, s.F1.getD t.1 false = true := by
  intro t ht
  have := (v1.root t (by simp [ht])).1
  show (s.F.set s.a false).getD t.1 false = true
  rw [getD_set_ne (by have := nd1 t ht; intro e; exact this (by rw [ea, ← e]; rfl)), this]
 obtain ⟨l2, lb, fb, mb⟩ := EM (W := s.W) (F := s.F1) (by show (s.F.set s.a false).length = _; rw [V0]; exact v.lf) (f1 tx hx)
 have hnb : s.a ≠ s.b := by
  intro e
  have fb' : s.F1.getD s.b false = true := fb
  rw [← e] at fb'
  have : (s.F.set s.a false).getD s.a false = true := fb'
  rw [B7] at this; cases this
 have fb2 : s.F.getD s.b false = true := by
  have fb' : (s.F.set s.a false).getD s.b false = true := fb
  rwa [getD_set_ne hnb] at fb'
 obtain ⟨tb, htb, eb⟩ := v1.free _ fb2
 have htb1 : tb ∈ T1 := by
  rcases wj.1 htb with q | q
  · subst q; exact absurd (ea.symm.trans eb) hnb
  · exact q
 have p2 := List.perm_cons_erase htb1
 refine ⟨ta, tb, T1.erase tb, p1.trans (p2.cons ta), ea, eb, l1, l2, ma _ fb2, fun t ht => mb _ (f1 t (List.mem_of_mem_erase ht))⟩
theorem BD.step {bal : Bool} {n : Nat} {tot : Int} {s : FS} {T : List Tr} (v : BD bal n tot s T) (h2 : 2 ≤ T.length) (ht : tot < 1000000000000000) : s.ok ∧ ∃ T', T'.length + 1 = T.length ∧ BD bal n tot s.Je T' := by
 obtain ⟨ta, tb, T2, p, ea, eb, l1, l2, wab, wbt⟩ := v.two h2
 have lT := p.length_eq
 have v1 := v.perm p
 have nd := v1.nd
 rw [VR, VR, List.nodup_cons, List.nodup_cons] at nd
 obtain ⟨nd1, nd2, nd3⟩ := nd
 have ra := v1.root ta (by simp)
 have rb := v1.root tb (by simp)
 rw [ea] at ra
 rw [eb] at rb
 have hla : s.a < s.U.length := (vN.1 ra.2).1
 have hlb : s.b < s.U.length := (vN.1 rb.2).1
 have wa := v1.Lj ta (by simp)
 have wb1 := v1.Lj tb (by simp)
 rw [ea] at wa
 rw [eb] at wb1
 have sm := v1.sum
 rw [VR, VR, Wd, Wd, ea, eb] at sm
 have nn : 0 ≤ (T2.map fun t => s.W.getD t.1 0).sum := by
  have : ∀ l : List Tr, (∀ t ∈ l, 1 ≤ s.W.getD t.1 0) → 0 ≤ (l.map fun t => s.W.getD t.1 0).sum := by
   intro l
   induction l with
   | nil => intro _; simp
   | cons x l ih => intro h; have := ih fun t ht => h t (by simp [ht]); have := h x (by simp); simp only [VR, Wd]; omega
  exact this T2 fun t ht => v1.Lj t (by simp [ht])
 have es : s.sum = s.W.getD s.a 0 + s.W.getD s.b 0 := rfl
 refine ⟨⟨v.lu, v.lf, l1, l2, by omega⟩, (s.U.length, AH (ta.2 ++ tb.2)) :: T2, by rw [lT]; simp, ?_⟩
 have nT2 : ∀ t ∈ T2, t.1 ≠ s.a ∧ t.1 ≠ s.b ∧ t.1 < s.U.length := fun t ht => ⟨fun e => nd1 (by simp only [wj, V6]; exact .inr ⟨t, ht, by rw [e, ea]⟩), fun e => nd2 (V6.2 ⟨t, ht, by rw [e, eb]⟩), (vN.1 (v1.root t (by simp [ht])).2).1⟩
 have mW : ∀ i, i < s.W.length → s.Je.W.getD i 0 = s.W.getD i 0 := fun i hi => by
  show (s.W ++ [s.sum]).getD i 0 = _
  rw [VH, Wa hi, ← VH]
 have mWn : s.Je.W.getD s.U.length 0 = s.sum := by
  show (s.W ++ [s.sum]).getD s.U.length 0 = _
  rw [v.lu, VH, V3 (vR _)]; simp
 have lF2 : s.F2.length = s.W.length := by show ((s.F.set s.a false).set s.b false).length = _; rw [V0, V0, v.lf]
 have mF : ∀ i, i < s.W.length → s.Je.F.getD i false = s.F2.getD i false := fun i hi => by
  show (s.F2 ++ [true]).getD i false = _
  rw [VH, Wa (by omega), ← VH]
 have mFn : s.Je.F.getD s.U.length false = true := by
  show (s.F2 ++ [true]).getD s.U.length false = _
  rw [v.lu, VH, V3 (by omega), lF2]; simp
 have F2o : ∀ i, i ≠ s.a → i ≠ s.b → s.F2.getD i false = s.F.getD i false := fun i h1 h2 => by
  show ((s.F.set s.a false).set s.b false).getD i false = _
  rw [getD_set_ne h2.symm, getD_set_ne h1.symm]
 have F2a : s.a ≠ s.b → s.F2.getD s.a false = false := fun h => by
  show ((s.F.set s.a false).set s.b false).getD s.a false = _
  rw [getD_set_ne h.symm, B7]
 have F2b : s.F2.getD s.b false = false := B7
 have hab : s.a ≠ s.b := fun e => nd1 (by simp only [wj]; exact .inl (by rw [ea, eb, e]))
 have jl : ∀ p ∈ ta.2 ++ tb.2, NZ (zL s.U s.a s.b) (p.2 + 1) p.1 s.U.length := fun q hq => by
  rcases Wb.1 hq with h | h
  · have := v1.pt ta (by simp) q h
    rw [ea] at this
    exact E4 (C4 ra.2 rb.2 this) (J2 hla)
  · have := v1.pt tb (by simp) q h
    rw [eb] at this
    exact E4 (C4 ra.2 rb.2 this) (J3 hlb)
 have lu := v.lu
 have lf := v.lf
 have getT2 : ∀ t ∈ T2, s.Je.W.getD t.1 0 = s.W.getD t.1 0 := fun t ht => mW _ (by have := (nT2 t ht).2.2; omega)
 have W2 : ∀ t ∈ (s.U.length, AH (ta.2 ++ tb.2)) :: T2, (t.1 = s.U.length ∧ t.2 = AH (ta.2 ++ tb.2) ∧ s.Je.W.getD t.1 0 = s.sum) ∨ (t ∈ T2 ∧ s.Je.W.getD t.1 0 = s.W.getD t.1 0) := fun t ht => by
  rcases wj.1 ht with q | q
  · subst q; exact .inl ⟨rfl, rfl, mWn⟩
  · exact .inr ⟨q, getT2 t q⟩
 constructor
 · show (zL s.U s.a s.b).length = (s.W ++ [s.sum]).length
   rw [F4]; simp [lu]
 · show (s.F2 ++ [true]).length = (s.W ++ [s.sum]).length
   simp [lF2]
 · intro t ht
   rcases wj.1 ht with q | q
   · subst q
     exact ⟨mFn, J4⟩
   · have n := nT2 t q
     have r := v1.root t (by simp [q])
     refine ⟨by rw [mF _ (by omega), F2o _ n.1 n.2.1]; exact r.1, ?_⟩
     rw [FS.Um, Dm n.2.2 n.1.symm n.2.1.symm]; exact r.2
 · intro i hi
   by_cases e : i = s.U.length
   · exact ⟨_, List.mem_cons_self .., e.symm⟩
   · have hiL : i < s.W.length := by
      apply V9
      intro c
      have : s.Je.F.length = s.W.length + 1 := by show (s.F2 ++ [true]).length = _; simp [lF2]
      rw [VH, V5 (by omega)] at hi
      cases hi
     rw [mF i hiL] at hi
     have h1 : i ≠ s.a := fun q => by rw [q, F2a hab] at hi; cases hi
     have h2 : i ≠ s.b := fun q => by rw [q, F2b] at hi; cases hi
     rw [F2o i h1 h2] at hi
     obtain ⟨t, ht, et⟩ := v1.free i hi
     rcases wj.1 ht with q | q
     · subst q; exact absurd (et.symm.trans ea) h1
     · rcases wj.1 q with q | q
       · subst q; exact absurd (et.symm.trans eb) h2
       · exact ⟨t, List.mem_cons_of_mem _ q, et⟩
 · rw [VR, List.nodup_cons]
   refine ⟨fun hm => ?_, nd3⟩
   obtain ⟨t, ht, e⟩ := V6.1 hm
   have := (nT2 t ht).2.2
   rw [e] at this
   exact absurd this (by simp)
 · intro t ht
   rcases wj.1 ht with q | q
   · subst q
     intro q hq
     obtain ⟨q', hq', rfl⟩ := V6.1 hq
     exact jl q' hq'
   · intro x hx
     exact C4 ra.2 rb.2 (v1.pt t (by simp [q]) x hx)
 · have lv := v1.leaves
   refine List.Perm.trans ?_ lv
   rw [VQ, VQ, VQ, ← VT]
   have : (AH (ta.2 ++ tb.2)).map (·.1) = ta.2.map (·.1) ++ tb.2.map (·.1) := by
    unfold AH; rw [List.map_map, List.map_append]; rfl
   rw [this]
 · intro t ht
   rcases wj.1 ht with q | q
   · subst q
     intro D hD
     have hne := v1.ne ta (by simp)
     obtain ⟨x, hx⟩ := List.exists_mem_of_ne_nil _ hne
     have h1 := hD (x.1, x.2 + 1) (V6.2 ⟨x, List.mem_append_left _ hx, rfl⟩)
     obtain ⟨D, rfl⟩ : ∃ E, D = E + 1 := ⟨D - 1, by simp at h1; omega⟩
     rw [KT, QU]
     rw [v1.EJ ta (by simp) D fun y hy => by have := hD (y.1, y.2 + 1) (V6.2 ⟨y, List.mem_append_left _ hy, rfl⟩); simp at this; omega]
     rw [v1.EJ tb (by simp) D fun y hy => by have := hD (y.1, y.2 + 1) (V6.2 ⟨y, List.mem_append_right _ hy, rfl⟩); simp at this; omega]
     rw [Nat.pow_succ]; omega
   · exact v1.EJ t (by simp [q])
 · intro t ht
   rcases wj.1 ht with q | q
   · subst q
     have hne := v1.ne ta (by simp)
     intro e
     have : AH (ta.2 ++ tb.2) = [] := e
     unfold AH at this
     rw [List.map_eq_nil_iff, List.append_eq_nil_iff] at this
     exact hne this.1
   · exact v1.ne t (by simp [q])
 · intro t ht
   rcases W2 t ht with ⟨_, _, e⟩ | ⟨q, e⟩
   · rw [e]; omega
   · rw [e]; exact v1.Lj t (by simp [q])
 · exact Li hla hlb v.up
 · rw [VR, Wd, mWn, We getT2]; omega
 · intro hb t ht u hu
   have b1 := v1.Np hb
   have ba := b1 tb (by simp) ta (by simp)
   rw [ea, eb] at ba
   rcases W2 t ht with ⟨_, _, e⟩ | ⟨q, e⟩
   · rcases W2 u hu with ⟨_, _, e'⟩ | ⟨q', e'⟩
     · rw [e, e']; omega
     · rw [e, e']; have := wbt u q'; omega
   · rcases W2 u hu with ⟨_, _, e'⟩ | ⟨q', e'⟩
     · rw [e, e']; have := b1 t (by simp [q]) ta (by simp); rw [ea] at this; omega
     · rw [e, e']; exact b1 t (by simp [q]) u (by simp [q'])
 · intro hb t ht x hx
   have b1 := v1.Np hb
   have ba := b1 tb (by simp) ta (by simp)
   have bb := b1 ta (by simp) tb (by simp)
   rw [ea, eb] at ba bb
   rcases W2 t ht with ⟨_, e2, e⟩ | ⟨q, e⟩
   · rw [e]
     rw [e2] at hx
     obtain ⟨y, hy, rfl⟩ := V6.1 hx
     have p2 : (0 : Int) < 2 ^ y.2 := Int.pow_pos (by omega)
     show (3 : Int) ^ (y.2 + 1) ≤ s.sum * 2 ^ (y.2 + 1)
     rw [Int.pow_succ, Int.pow_succ]
     have key : ∀ w : Int, (3 : Int) ^ y.2 ≤ w * 2 ^ y.2 → 3 * w ≤ 2 * s.sum → (3 : Int) ^ y.2 * 3 ≤ s.sum * (2 ^ y.2 * 2) := fun w h1 h2 => by
      have a1 : (3 : Int) ^ y.2 * 3 ≤ (w * 2 ^ y.2) * 3 := Int.mul_le_mul_of_nonneg_right h1 (by omega)
      have a2 : (3 * w) * 2 ^ y.2 ≤ (2 * s.sum) * 2 ^ y.2 := Int.mul_le_mul_of_nonneg_right h2 (by omega)
      have a3 : (w * 2 ^ y.2) * 3 = (3 * w) * 2 ^ y.2 := by rw [Int.mul_comm 3 w, Int.mul_assoc, Int.mul_assoc, Int.mul_comm _ 3]
      have a4 : s.sum * (2 ^ y.2 * 2) = (2 * s.sum) * 2 ^ y.2 := by rw [Int.mul_comm 2 s.sum, Int.mul_assoc, Int.mul_comm 2 (2 ^ y.2)]
      omega
     rcases Wb.1 hy with h | h
     · have := v1.Kz hb ta (by simp) y h
       rw [ea] at this
       exact key _ this (by omega)
     · have := v1.Kz hb tb (by simp) y h
       rw [eb] at this
       exact key _ this (by omega)
   · rw [e]; exact v1.Kz hb t (by simp [q]) x hx
def T0 (n : Nat) : List Tr := (List.range n).map fun i => (i, [(i, 0)])
theorem Fk : ∀ (ws : List Int), ((List.range ws.length).map fun i => ws.getD i 0).sum = ws.sum := by
 intro ws
 have : (List.range ws.length).map (fun i => ws.getD i 0) = ws := by
  apply List.ext_getElem?
  intro i
  rw [v7]
  by_cases h : i < ws.length
  · rw [Wn h, VL h]; simp [VH, h]
  · rw [V5 (by simp; omega), V5 (by omega)]; rfl
 rw [this]
theorem Bv {α : Type} {n i : Nat} {x d : α} (h : i < n) : (List.replicate n x).getD i d = x := by
 rw [VH, List.getElem?_replicate, if_pos h]; rfl
theorem BD.init (ws : List Int) (bal : Bool) (pos : ∀ y ∈ ws, 1 ≤ y) (hb : bal = true → ∀ y ∈ ws, y = 1) : BD bal ws.length ws.sum (AN ws) (T0 ws.length) := by
 have mem : ∀ t ∈ T0 ws.length, ∃ i, i < ws.length ∧ t = (i, [(i, 0)]) := fun t ht => by
  obtain ⟨i, hi, rfl⟩ := V6.1 ht
  exact ⟨i, Wp.1 hi, rfl⟩
 have gw : ∀ i, i < ws.length → ws.getD i 0 ∈ ws := fun i hi => by
  rw [VH, VL hi]; exact V8 hi
 constructor
 · simp [AN]
 · simp [AN]
 · intro t ht
   obtain ⟨i, hi, rfl⟩ := mem t ht
   exact ⟨Bv hi, by show (List.replicate ws.length (-1 : Int))[i]? = _; rw [List.getElem?_replicate, if_pos hi]⟩
 · intro i hi
   have : i < ws.length := by
    apply V9
    intro c
    have e : (AN ws).F.getD i false = false := by
     show (List.replicate ws.length true).getD i false = false
     rw [VH, V5 (by simp; omega)]; rfl
    rw [e] at hi; cases hi
   exact ⟨(i, [(i, 0)]), V6.2 ⟨i, Wp.2 this, rfl⟩, rfl⟩
 · unfold T0
   rw [List.map_map]
   have : ((fun t : Tr => t.1) ∘ fun i => ((i, [(i, 0)]) : Tr)) = id := rfl
   rw [this, List.map_id]; exact List.nodup_range
 · intro t ht q hq
   obtain ⟨i, hi, rfl⟩ := mem t ht
   simp at hq
   subst hq
   exact rfl
 · have : (T0 ws.length).flatMap (fun t => t.2.map (·.1)) = List.range ws.length := by
    unfold T0
    rw [List.flatMap_map]
    have : ∀ l : List Nat, (l.flatMap fun i => ([(i, 0)] : List (Nat × Nat)).map (·.1)) = l := by
     intro l
     induction l with
     | nil => rfl
     | cons x l ih => rw [VQ, ih]; rfl
    exact this _
   rw [this]
 · intro t ht D _
   obtain ⟨i, hi, rfl⟩ := mem t ht
   simp [kr]
 · intro t ht
   obtain ⟨i, hi, rfl⟩ := mem t ht
   simp
 · intro t ht
   obtain ⟨i, hi, rfl⟩ := mem t ht
   exact pos _ (gw i hi)
 · intro j hj
   have : j < ws.length := by simpa [AN] using hj
   exact .inl (Bv this)
 · unfold T0
   rw [List.map_map]
   exact Fk ws
 · intro h t ht u hu
   obtain ⟨i, hi, rfl⟩ := mem t ht
   obtain ⟨j, hj, rfl⟩ := mem u hu
   have a := hb h _ (gw i hi)
   have b := hb h _ (gw j hj)
   show ws.getD i 0 ≤ 2 * ws.getD j 0
   omega
 · intro h t ht q hq
   obtain ⟨i, hi, rfl⟩ := mem t ht
   simp at hq
   subst hq
   have a := hb h _ (gw i hi)
   show (3 : Int) ^ 0 ≤ ws.getD i 0 * 2 ^ 0
   rw [a]; simp
theorem BD.run {bal : Bool} {n : Nat} {tot : Int} (ht : tot < 1000000000000000) : ∀ (m : Nat) (s : FS) (T : List Tr), BD bal n tot s T → T.length = m + 1 → (∀ k, k < m → (FS.zr k s).ok) ∧ ∃ t, BD bal n tot (FS.zr m s) [t]
 | 0, s, T, v, h => by
   refine ⟨fun k hk => by omega, ?_⟩
   match T, h with
   | [t], _ => exact ⟨t, v⟩
 | m + 1, s, T, v, h => by
   obtain ⟨ok, T', hl, v'⟩ := v.step (by omega) ht
   obtain ⟨h1, t, h2⟩ := BD.run ht m s.Je T' v' (by omega)
   refine ⟨fun k hk => ?_, t, h2⟩
   cases k with
   | zero => exact ok
   | succ k => exact h1 k (by omega)
theorem QR (ws : List Int) (bal : Bool) (h1 : 1 ≤ ws.length) (pos : ∀ y ∈ ws, 1 ≤ y) (hs : ws.sum < 1000000000000000) (hb : bal = true → ∀ y ∈ ws, y = 1) :
 (∀ k, k < ws.length - 1 → (FS.zr k (AN ws)).ok) ∧ FE (FS.zr (ws.length - 1) (AN ws)).U ∧ (FS.zr (ws.length - 1) (AN ws)).U.length = (FS.zr (ws.length - 1) (AN ws)).W.length ∧
 (∀ D : Nat, (∀ d ∈ wP ws, d ≤ (D : Int)) → ((wP ws).map fun d => 2 ^ (D - d.toNat)).sum = 2 ^ D) ∧
 (bal = true → ∀ d ∈ wP ws, (3 : Int) ^ d.toNat ≤ ws.sum * 2 ^ d.toNat) ∧ (2 ≤ ws.length → ∀ d ∈ wP ws, 1 ≤ d) := by
 obtain ⟨ok, t, v⟩ := BD.run hs (ws.length - 1) (AN ws) (T0 ws.length) (BD.init ws bal pos hb) (by simp [T0]; omega)
 obtain ⟨S, hS⟩ : ∃ S, S = FS.zr (ws.length - 1) (AN ws) := ⟨_, rfl⟩
 have eD : wP ws = Di S.U ws.length := by rw [hS]; rfl
 rw [← hS] at v ⊢
 have up := v.up
 have rt := (v.root t (by simp)).2
 have rtD : S.U.getD t.1 (-1) = -1 := by rw [VH, rt]; rfl
 have rl := (vN.1 rt).1
 have lv := v.leaves
 simp only [VQ, List.flatMap_nil, V4] at lv
 have dep : ∀ q ∈ t.2, Az S.U S.U.length (S.U.getD q.1 (-1)) = q.2 := fun q hq => by
  have := v.pt t (by simp) q hq
  have l := JE up this
  exact Ke up this rtD _ (by omega)
 have pm : (wP ws).Perm (t.2.map fun q => ((q.2 : Nat) : Int)) := by
  rw [eD]
  unfold Di
  have := lv.symm.map (fun i => ((Az S.U S.U.length (S.U.getD i (-1)) : Nat) : Int))
  refine this.trans ?_
  rw [List.map_map]
  have e : t.2.map ((fun i => ((Az S.U S.U.length (S.U.getD i (-1)) : Nat) : Int)) ∘ fun x => x.1) = t.2.map fun q => ((q.2 : Nat) : Int) := We fun q hq => by
   show ((Az S.U S.U.length (S.U.getD q.1 (-1)) : Nat) : Int) = _
   rw [dep q hq]
  rw [e]
 have mem : ∀ d ∈ wP ws, ∃ q ∈ t.2, d = ((q.2 : Nat) : Int) := fun d hd => by
  obtain ⟨q, hq, rfl⟩ := V6.1 (pm.mem_iff.1 hd)
  exact ⟨q, hq, rfl⟩
 refine ⟨ok, up, v.lu, fun D hD => ?_, fun hbt d hd => ?_, fun h2 d hd => ?_⟩
 · have := Gl (pm.map fun d => 2 ^ (D - d.toNat))
   rw [this, List.map_map]
   have kk := v.EJ t (by simp) D fun q hq => by
    have := hD ((q.2 : Nat) : Int) (pm.mem_iff.2 (V6.2 ⟨q, hq, rfl⟩))
    omega
   rw [← kk]
   unfold kr
   congr 1
 · obtain ⟨q, hq, rfl⟩ := mem d hd
   have := v.Kz hbt t (by simp) q hq
   have sm := v.sum
   rw [VR, Wk, Wd, List.sum_nil, Int.add_zero] at sm
   rw [← sm]
   exact this
 · obtain ⟨q, hq, rfl⟩ := mem d hd
   have pq := v.pt t (by simp) q hq
   apply V9
   intro c
   have z : q.2 = 0 := by omega
   rw [z] at pq
   have e : q.1 = t.1 := pq
   have ql : q.1 < ws.length := Wp.1 (lv.mem_iff.1 (V6.2 ⟨q, hq, rfl⟩))
   have rr : S.W.length = ws.length + (ws.length - 1) := by rw [hS, FS.A7]; rfl
   have kk : ∀ D, (∀ p ∈ t.2, p.2 ≤ D) → kr D t.2 = 2 ^ D := v.EJ t (by simp)
   obtain ⟨D, hDD⟩ : ∃ D, ∀ p ∈ t.2, p.2 ≤ D := ⟨t.1, fun p hp => by have := JE up (v.pt t (by simp) p hp); omega⟩
   have k := kk D hDD
   have l2 : t.2.length = ws.length := by
    have := lv.length_eq
    simpa using this
   have pe := List.perm_cons_erase hq
   have : kr D t.2 = kr D (q :: t.2.erase q) := Gl (pe.map _)
   rw [this] at k
   have : kr D (q :: t.2.erase q) = 2 ^ (D - q.2) + kr D (t.2.erase q) := by simp [kr]
   rw [this, z, Nat.sub_zero] at k
   have le := pe.length_eq
   rw [VK] at le
   cases hE : t.2.erase q with
   | nil => rw [hE] at le; simp at le; omega
   | cons y r =>
     rw [hE] at k
     have : kr D (y :: r) = 2 ^ (D - y.2) + kr D r := by simp [kr]
     have := Nat.pow_pos (n := D - y.2) (show 0 < 2 by omega)
     omega
def yW (l : List Int) (i : Nat) : List Int := l.set i (l.getD i 0 + 1)
theorem zK (l : List Int) (i : Nat) : (yW l i).length = l.length := by simp [yW]
theorem CV {l : List Int} {i : Nat} {n : Int} (h : ∀ y ∈ l, 0 ≤ y ∧ y ≤ n) (hn : 0 ≤ n) : ∀ y ∈ yW l i, 0 ≤ y ∧ y ≤ n + 1 := by
 intro y hy
 rcases Wf hy with q | q
 · have := h y q; omega
 · subst q
   rw [VH]
   cases e : l[i]? with
   | none => simp; omega
   | some z => have := h z (vV e); simp; omega
def Bb (t : Tok) : Prop := (t.len = 0 ∧ 0 ≤ t.lit ∧ t.lit ≤ 255) ∨ (3 ≤ t.len ∧ t.len ≤ 258 ∧ 1 ≤ t.xa ∧ t.xa ≤ 32768)
def AE : List Tok → List Int → List Int
 | [], A => A
 | t :: r, A => AE r (if t.len = 0 then yW A t.lit.toNat else yW A (xS t.len.toNat))
def AR : List Tok → List Int → List Int
 | [], B => B
 | t :: r, B => AR r (if t.len = 0 then B else yW B (yj t.xa.toNat))
structure Ng (h h' : H) (a b : Nat) : Prop where
 floor : h'.floor = h.floor
 next : h.next ≤ h'.next
 yg : ∀ i, i < h.next → i ≠ a → i ≠ b → h'.get i = h.get i
theorem Ng.refl (h : H) (a b : Nat) : Ng h h a b := ⟨rfl, vR _, fun _ _ _ _ => rfl⟩
theorem Ng.trans {x y z : H} {a b : Nat} (p : Ng x y a b) (q : Ng y z a b) : Ng x z a b := ⟨q.floor.trans p.floor, wk p.next q.next, fun i h1 h2 h3 => (q.yg i (Nat.lt_of_lt_of_le h1 p.next) h2 h3).trans (p.yg i h1 h2 h3)⟩
theorem CR {l : List Int} {i : Nat} (h : i < l.length) : (ints l)[i]? = some (.int .i64 (l.getD i 0)) := tU (by rw [VH, VL h]; rfl)
theorem HW {v : AV} {ts : List Tok} (hn : ts.length < 1000000) (h0 : H) (rd : zU 3 h0 v ts.length (xC ts)) (ia ib i : Nat) (t : Tok) (ht : ts[i]? = some t) (o : Bb t) (hab : ia ≠ ib) (hia : h0.next ≤ ia) (hib : h0.next ≤ ib) {A B : List Int} {h : H} (hx : Ext h0 h) (ga : h.get ia = some (ints A)) (gb : h.get ib = some (ints B)) (hA : A.length = 286) (hB : B.length = 30) (rA : ∀ y ∈ A, 0 ≤ y ∧ y ≤ (i : Int) + 1) (rB : ∀ y ∈ B, 0 ≤ y ∧ y ≤ (i : Int) + 1) (fa : h.floor ≤ ia) (fb : h.floor ≤ ib) (hfl : h.floor ≤ h.next) :
 ∃ h', aM (aS AP.A) bG AP.f13L4 (ay [(0, v), (4, .aF ia 0 286 1), (5, .aF ib 0 30 1), (6, .int .i64 i)] [0, 4, 5, 6]) h = some (.normal, [(0, v), (4, .aF ia 0 286 1), (5, .aF ib 0 30 1), (6, .int .i64 (i + 1 : Nat))], h') ∧ h'.get ia = some (ints (AE [t] A)) ∧ h'.get ib = some (ints (AR [t] B)) ∧ Ng h h' ia ib := by
 have ln := rd.len
 obtain ⟨ad, a1, a2, a3⟩ := rd.Ld
 have hi : i < ts.length := (vN.1 ht).1
 have hI : (0 : Int) ≤ (i : Int) ∧ (i : Int) < ts.length := ⟨by omega, by omega⟩
 have b1 := a1 _ hI
 have b2 := a2 i 0 1 hI
 have b20 := a2 i 0 0 hI
 have b22 := a2 i 0 2 hI
 obtain ⟨b3, b4, b5, _⟩ := a3 h hx _ _ ht
 have n1 : ((i + 1 : Nat) : Int) = (i : Int) + 1 := by omega
 have la : (ints A).length = 286 := by rw [qy, hA]
 have lb : (ints B).length = 30 := by rw [qy, hB]
 have hian := h.lt _ _ ga
 have hibn := h.lt _ _ gb
 rcases o with ⟨c0, h2, h3⟩ | ⟨h1, h2, h3, h4⟩
 · obtain ⟨y, hy⟩ : ∃ y : Nat, t.lit = y := VP h2
   have yt : t.lit.toNat = y := by omega
   have gx := CR (l := A) (i := y) (by omega)
   have xr : 0 ≤ A.getD y 0 ∧ A.getD y 0 ≤ (i : Int) + 1 := by
    rw [VH, VL (by omega)]
    exact rA _ (V8 _)
   have es := yf A y (A.getD y 0 + 1)
   change _ = ints (yW A y) at es
   rw [hy] at b3
   rw [c0] at b4
   have yb : y ≤ 255 := by omega
   have eA : AE [t] A = yW A y := by rw [AE, if_pos c0, yt]; rfl
   have eB : AR [t] B = B := by rw [AR, if_pos c0]; rfl
   rw [eA, eB]
   refine ⟨h.set ia (ints (yW A y)), ?_, by rw [wQ rfl, ga]; rfl, by rw [wJ hab.symm, gb], ⟨by simp, by simp, fun j _ h2 _ => wJ h2⟩⟩
   rw [n1]
   clear rd a1 a2 a3 hx rA rB ht b5 h2 h3 eA eB
   generalize A.getD y 0 = z at *
   generalize ints (yW A y) = A2 at *
   generalize ints A = A0 at *
   generalize ints B = B0 at *
   simp (disch := omega) only [go_sem, wH, AP.f13L4, ln, b1, b2, b20, b3, b4, ga, la, gx, es]
 · obtain ⟨L, hL⟩ : ∃ y : Nat, t.len = y := VP (by omega)
   obtain ⟨K, hK⟩ : ∃ y : Nat, t.xa = y := VP (by omega)
   have Lt : t.len.toNat = L := by omega
   have Kt : t.xa.toNat = K := by omega
   have kl : ∀ g : H, aS AP.A 28 [.int .i64 L] g = _ := fun g => Ih g L (by omega) (by omega)
   have kd : ∀ g : H, aS AP.A 29 [.int .i64 K] g = _ := fun g => LS g K (by omega) (by omega)
   have sl := Aq (k := L) (by omega) (by omega)
   have sd := Aj (k := K) (by omega) (by omega)
   have slt : xS L < 286 := by omega
   have sdt : yj K < 30 := by omega
   obtain ⟨h1', eh1⟩ : ∃ g, g = (h.alloc [.int .i64 0, .int .i64 0, .int .i64 0]).set h.next [.int .i64 (xS L : Nat), .int .i64 (Ao L : Nat), .int .i64 (AX L : Nat)] := ⟨_, rfl⟩
   have kp1 : ∀ j, j < h.next → h1'.get j = h.get j := fun j hj => by rw [eh1, wJ (by omega), wR (by omega)]
   have x1 : Ext h0 h1' := fun j c hj => by
    have hj2 := h.lt _ _ (hx j c hj)
    rw [kp1 j hj2, hx j c hj]
   have g1 : h1'.get h.next = some [.int .i64 (xS L : Nat), .int .i64 (Ao L : Nat), .int .i64 (AX L : Nat)] := by rw [eh1, wQ rfl, wM rfl]; rfl
   have nx1 : h1'.next = h.next + 1 := by rw [eh1]; simp
   have fx1 : h1'.floor = h.floor := by rw [eh1]; simp
   obtain ⟨_, _, b5', _⟩ := a3 h1' x1 _ _ ht
   obtain ⟨h2', eh2⟩ : ∃ g, g = (h1'.alloc [.int .i64 0, .int .i64 0, .int .i64 0]).set h1'.next [.int .i64 (yj K : Nat), .int .i64 (Ai K : Nat), .int .i64 (AU K : Nat)] := ⟨_, rfl⟩
   have kp2 : ∀ j, j < h1'.next → h2'.get j = h1'.get j := fun j hj => by rw [eh2, wJ (by omega), wR (by omega)]
   have g2 : h2'.get h1'.next = some [.int .i64 (yj K : Nat), .int .i64 (Ai K : Nat), .int .i64 (AU K : Nat)] := by rw [eh2, wQ rfl, wM rfl]; rfl
   have g21 : h2'.get h.next = some [.int .i64 (xS L : Nat), .int .i64 (Ao L : Nat), .int .i64 (AX L : Nat)] := by rw [kp2 _ (by omega), g1]
   have ga2 : h2'.get ia = some (ints A) := by rw [kp2 ia (by omega), kp1 ia hian, ga]
   have gb2 : h2'.get ib = some (ints B) := by rw [kp2 ib (by omega), kp1 ib hibn, gb]
   have fx2 : h2'.floor = h.floor := by rw [eh2]; simp [fx1]
   have nx2 : h2'.next = h.next + 2 := by rw [eh2]; simp [nx1]
   have gx := CR (l := A) (i := xS L) (by omega)
   have gy := CR (l := B) (i := yj K) (by omega)
   have xr : 0 ≤ A.getD (xS L) 0 ∧ A.getD (xS L) 0 ≤ (i : Int) + 1 := by
    rw [VH, VL (by omega)]
    exact rA _ (V8 _)
   have yr : 0 ≤ B.getD (yj K) 0 ∧ B.getD (yj K) 0 ≤ (i : Int) + 1 := by
    rw [VH, VL (by omega)]
    exact rB _ (V8 _)
   have es := yf A (xS L) (A.getD (xS L) 0 + 1)
   change _ = ints (yW A (xS L)) at es
   have et := yf B (yj K) (B.getD (yj K) 0 + 1)
   change _ = ints (yW B (yj K)) at et
   rw [hL] at b4
   rw [hK] at b5'
   have cL : ¬ (L : Int) = 0 := by omega
   obtain ⟨h3', eh3⟩ : ∃ g, g = h2'.set ia (ints (yW A (xS L))) := ⟨_, rfl⟩
   have gb3 : h3'.get ib = some (ints B) := by rw [eh3, wJ hab.symm, gb2]
   have g31 : h3'.get h1'.next = some [.int .i64 (yj K : Nat), .int .i64 (Ai K : Nat), .int .i64 (AU K : Nat)] := by rw [eh3, wJ (by omega), g2]
   have eA : AE [t] A = yW A (xS L) := by rw [AE, if_neg (by omega), Lt]; rfl
   have eB : AR [t] B = yW B (yj K) := by rw [AR, if_neg (by omega), Kt]; rfl
   have fx3 : h3'.floor = h.floor := by rw [eh3]; simp [fx2]
   rw [eA, eB]
   refine ⟨h3'.set ib (ints (yW B (yj K))), ?_, by rw [wJ hab, eh3, wQ rfl, ga2]; rfl, by rw [wQ rfl, gb3]; rfl, ⟨by simp [fx3], by rw [eh3]; simp [nx2], fun j h1 h2 h3 => by rw [wJ h3, eh3, wJ h2, kp2 j (by omega), kp1 j h1]⟩⟩
   rw [n1]
   clear rd a1 a2 a3 hx x1 rA rB ht b5 h2 h3 eA eB b3 h1 h4 sl sd kp1 kp2
   generalize xS L = S at *
   generalize Ao L = B1 at *
   generalize AX L = V at *
   generalize yj K = S' at *
   generalize Ai K = B' at *
   generalize AU K = V' at *
   generalize A.getD S 0 = z at *
   generalize B.getD S' 0 = z' at *
   generalize ints (yW A S) = A2 at *
   generalize ints (yW B S') = B2 at *
   generalize ints A = A0 at *
   generalize ints B = B0 at *
   simp (disch := omega) only [go_sem, wH, AP.f13L4, ln, b1, b2, b22, b4, b5', kl, kd, cL, ← eh1, ← eh2, g1, g2, g21, ga2, gb2, la, lb, gx, gy, es, et, ← eh3, gb3, g31]
theorem CD : ∀ (ts : List Tok) (A : List Int), (AE ts A).length = A.length
 | [], A => rfl
 | t :: r, A => by rw [AE, CD r]; split <;> rw [zK]
theorem CF : ∀ (ts : List Tok) (A : List Int), (AR ts A).length = A.length
 | [], A => rfl
 | t :: r, A => by
   rw [AR, CF r]
   split
   · rfl
   · rw [zK]
theorem CE : ∀ (ts : List Tok) (A : List Int) (n : Int), 0 ≤ n → (∀ y ∈ A, 0 ≤ y ∧ y ≤ n) → ∀ y ∈ AE ts A, 0 ≤ y ∧ y ≤ n + ts.length
 | [], A, n, hn, h => by simpa [AE] using h
 | t :: r, A, n, hn, h => by
   intro y hy
   rw [AE] at hy
   have := CE r _ (n + 1) (by omega) (by split <;> exact CV h hn) y hy
   simp only [VK]; omega
theorem CG : ∀ (ts : List Tok) (A : List Int) (n : Int), 0 ≤ n → (∀ y ∈ A, 0 ≤ y ∧ y ≤ n) → ∀ y ∈ AR ts A, 0 ≤ y ∧ y ≤ n + ts.length
 | [], A, n, hn, h => by simpa [AR] using h
 | t :: r, A, n, hn, h => by
   intro y hy
   rw [AR] at hy
   have := CG r _ (n + 1) (by omega) (by
    split
    · intro z hz; have := h z hz; omega
    · exact CV h hn) y hy
   simp only [VK]; omega
theorem DE {v : AV} {ts : List Tok} (hn : ts.length < 1000000) (h0 : H) (rd : zU 3 h0 v ts.length (xC ts)) (ia ib : Nat) (ok : ∀ t ∈ ts, Bb t) (hab : ia ≠ ib) (hia : h0.next ≤ ia) (hib : h0.next ≤ ib) : ∀ (q p : List Tok) (A B : List Int) (h : H), ts = p ++ q → Ext h0 h → h0.next ≤ h.next → h.get ia = some (ints A) → h.get ib = some (ints B) → A.length = 286 → B.length = 30 → (∀ y ∈ A, 0 ≤ y ∧ y ≤ (p.length : Int) + 1) → (∀ y ∈ B, 0 ≤ y ∧ y ≤ (p.length : Int) + 1) → h.floor ≤ ia → h.floor ≤ ib → h.floor ≤ h.next →
 ∃ h', Lp AP.A [0, 4, 5, 6] AP.f13L4 [(0, v), (4, .aF ia 0 286 1), (5, .aF ib 0 30 1), (6, .int .i64 p.length)] h = some (.exit 0, [(0, v), (4, .aF ia 0 286 1), (5, .aF ib 0 30 1), (6, .int .i64 ts.length), (43, .bool false)], h') ∧ h'.get ia = some (ints (AE q A)) ∧ h'.get ib = some (ints (AR q B)) ∧ Ng h h' ia ib
 | [], p, A, B, h, hp, hx, hnx, ga, gb, hA, hB, rA, rB, fa, fb, hfl => by
   rw [V4] at hp; subst hp
   have ln := rd.len
   refine ⟨h, ux ?_, ga, gb, Ng.refl h ia ib⟩
   simp (disch := omega) only [go_sem, wH, AP.f13L4, ln]
 | t :: q, p, A, B, h, hp, hx, hnx, ga, gb, hA, hB, rA, rB, fa, fb, hfl => by
   have ht : ts[p.length]? = some t := by rw [hp]; simp
   have o := ok t (vV ht)
   obtain ⟨h1, s1, ga1, gb1, f1⟩ := HW hn h0 rd ia ib p.length t ht o hab hia hib hx ga gb hA hB rA rB fa fb hfl
   have n1 : (((p ++ [t]).length : Nat) : Int) = ((p.length + 1 : Nat) : Int) := by simp
   have hx1 : Ext h0 h1 := fun j c hj => by
    have := h0.lt _ _ hj
    rw [f1.yg j (by omega) (by omega) (by omega), hx j c hj]
   obtain ⟨h', k, g1, g2, f2⟩ := DE hn h0 rd ia ib ok hab hia hib q (p ++ [t]) (AE [t] A) (AR [t] B) h1 (by rw [hp]; simp) hx1 (wk hnx f1.next) ga1 gb1 (by rw [CD, hA]) (by rw [CF, hB]) (fun y hy => by have := CE [t] A _ (by omega) rA y hy; simp at this ⊢; omega) (fun y hy => by have := CG [t] B _ (by omega) rB y hy; simp at this ⊢; omega) (by rw [f1.floor]; exact fa) (by rw [f1.floor]; exact fb) (by rw [f1.floor]; exact wk hfl f1.next)
   rw [n1] at k
   exact ⟨h', uy s1 k, g1, g2, f1.trans f2⟩
def yI : List Int → List Int → List Int
 | [], C => C
 | d :: r, C => yI r (yW C d.toNat)
theorem CH : ∀ (ds C : List Int), (yI ds C).length = C.length
 | [], C => rfl
 | d :: r, C => by rw [yI, CH r, zK]
theorem CI : ∀ (ds A : List Int) (n : Int), 0 ≤ n → (∀ y ∈ A, 0 ≤ y ∧ y ≤ n) → ∀ y ∈ yI ds A, 0 ≤ y ∧ y ≤ n + ds.length
 | [], A, n, hn, h => by simpa [yI] using h
 | t :: r, A, n, hn, h => by
   intro y hy
   rw [yI] at hy
   have := CI r _ (n + 1) (by omega) (CV h hn) y hy
   simp only [VK]; omega
theorem DC {lv dv mv av : AV} {D : List Int} (hD : D.length < 1000) (hr : ∀ d ∈ D, 0 ≤ d ∧ d < 19) (ic : Nat) (hb : H) (rd : Rd hb av (ints D)) (hno : hb.get ic = none) : ∀ (q p C : List Int) (h : H), D = p ++ q → Ext hb h → h.get ic = some (ints C) → C.length = 19 → (∀ y ∈ C, 0 ≤ y ∧ y ≤ (p.length : Int)) → h.floor ≤ ic →
 ∃ h', Lp AP.A [0, 11, 13, 15, 16, 17] AP.f13L3 [(0, lv), (11, dv), (13, mv), (15, av), (16, .aF ic 0 19 1), (17, .int .i64 p.length)] h = some (.exit 2, [(0, lv), (11, dv), (13, mv), (15, av), (16, .aF ic 0 19 1), (17, .int .i64 D.length), (122, .bool false)], h') ∧ h'.get ic = some (ints (yI q C)) ∧ h'.floor = h.floor ∧ h'.next = h.next ∧ (∀ i, i ≠ ic → h'.get i = h.get i)
 | [], p, C, h, hp, hx, gc, hC, rC, fc => by
   rw [V4] at hp; subst hp
   have ln := rd.len
   rw [qy] at ln
   simp only [I] at ln
   refine ⟨h, ux ?_, gc, rfl, rfl, fun _ _ => rfl⟩
   simp (disch := omega) only [go_sem, wH, AP.f13L3, ln]
 | d :: q, p, C, h, hp, hx, gc, hC, rC, fc => by
   have ln := rd.len
   rw [qy] at ln
   simp only [I] at ln
   have hl : D.length = p.length + (q.length + 1) := by rw [hp]; simp
   obtain ⟨ad, a1, a2⟩ := rd.xY
   have b1 := a1 p.length ⟨by omega, by omega⟩
   have hd : D[p.length]? = some d := by rw [hp]; simp
   have dr := hr d (vV hd)
   obtain ⟨y, rfl⟩ := VP dr.1
   have b2 := a2 h hx p.length _ hd
   have lc : (ints C).length = 19 := by rw [qy, hC]
   have gx := CR (l := C) (i := y) (by omega)
   have xr : 0 ≤ C.getD y 0 ∧ C.getD y 0 ≤ (p.length : Int) := by
    rw [VH, VL (by omega)]
    exact rC _ (V8 _)
   have es := yf C y (C.getD y 0 + 1)
   change _ = ints (yW C y) at es
   have ty : ((y : Nat) : Int).toNat = y := by omega
   have g2 : (h.set ic (ints (yW C y))).get ic = some (ints (yW C y)) := by rw [wQ rfl, gc]; rfl
   obtain ⟨h', k, g, f, n, t⟩ := DC (lv := lv) (dv := dv) (mv := mv) hD hr ic hb rd hno q (p ++ [(y : Int)]) (yW C y) (h.set ic (ints (yW C y))) (by rw [hp]; simp) (hx.Hr hno _) g2 (by rw [zK, hC]) (fun z hz => by have := CV rC (by omega) z hz; simp; omega) (by simpa using fc)
   have n1 : (((p ++ [(y : Int)]).length : Nat) : Int) = (p.length : Int) + 1 := by simp
   rw [yI, ty]
   refine ⟨h', uy ?_ k, g, by rw [f]; simp, by rw [n]; simp, fun i hi => by rw [t i hi, wJ hi]⟩
   rw [n1]
   clear k g f n t g2 rd a1 a2 hr hp hd hx rC
   generalize C.getD y 0 = z at *
   generalize ints (yW C y) = C2 at *
   generalize ints C = C0 at *
   simp (disch := omega) only [go_sem, wH, AP.f13L3, ln, b1, b2, gc, lc, gx, es]
theorem IF {a0 a1 a2 a3 lv ov : AV} {L : List Int} (hL : L.length = 19) (ir : Nat) (hb : H) (rl : Rd hb lv (ints L)) (ro : Rd hb ov (ints wK)) (hno : hb.get ir = none) : ∀ (m i : Nat) (h : H), i + m = 19 → Ext hb h → h.get ir = some (ints ((wK.take i).map (fun o => L.getD o.toNat 0) ++ List.replicate m 0)) → h.floor ≤ ir →
 ∃ h', Lp AP.A [0, 11, 13, 15, 18, 20, 21, 22] AP.f13L2 [(0, a0), (11, a1), (13, a2), (15, a3), (18, lv), (20, ov), (21, .aF ir 0 19 1), (22, .int .i64 i)] h = some (.exit 4, [(0, a0), (11, a1), (13, a2), (15, a3), (18, lv), (20, ov), (21, .aF ir 0 19 1), (22, .int .i64 19), (142, .bool false)], h') ∧ h'.get ir = some (ints (wK.map (fun o => L.getD o.toNat 0))) ∧ h'.floor = h.floor ∧ h'.next = h.next ∧ (∀ i, i ≠ ir → h'.get i = h.get i)
 | 0, i, h, hi, hx, gr, fr => by
   obtain rfl : i = 19 := by omega
   have e : wK.take 19 = wK := rfl
   rw [e, List.replicate_zero, V4] at gr
   refine ⟨h, ux ?_, gr, rfl, rfl, fun _ _ => rfl⟩
   simp (disch := omega) only [go_sem, wH, AP.f13L2]
 | m + 1, i, h, hi, hx, gr, fr => by
   have hi19 : i < wK.length := by show i < 19; omega
   obtain ⟨ad, d1, d2⟩ := rl.xY
   obtain ⟨ao, o1, o2⟩ := ro.xY
   have b1 := o1 i ⟨by omega, by omega⟩
   have ho : wK[i]? = some (wK[i]) := VL hi19
   have orr : 0 ≤ wK[i] ∧ wK[i] < 19 := Bq _ (V8 hi19)
   have tk : wK.take (i + 1) = wK.take i ++ [wK[i]] := by rw [List.take_add_one, ho]; rfl
   obtain ⟨y, hy⟩ := VP orr.1
   have ho2 : wK[i]? = some (y : Int) := by rw [ho, hy]
   have b2 := o2 h hx i _ ho2
   have c1 := d1 y ⟨by omega, by omega⟩
   have lgy : L[y]? = some (L.getD y 0) := by rw [VH, VL (by omega)]; rfl
   have c2 := d2 h hx y _ lgy
   have ty : ((y : Nat) : Int).toNat = y := by omega
   have lr : (ints ((wK.take i).map (fun o => L.getD o.toNat 0) ++ List.replicate (m + 1) 0)).length = 19 := by
    rw [qy, wo, List.length_map, Wj, VU]; show min i 19 + (m + 1) = 19; omega
   have il : ((wK.take i).map (fun o => L.getD o.toNat 0)).length = i := by rw [List.length_map, Wj]; show min i 19 = i; omega
   have es : (ints ((wK.take i).map (fun o => L.getD o.toNat 0) ++ List.replicate (m + 1) 0)).set i (.int .i64 (L.getD y 0)) = ints ((wK.take (i + 1)).map (fun o => L.getD o.toNat 0) ++ List.replicate m 0) := by
    rw [yf, List.set_append_right _ _ (by omega), il, Nat.sub_self, tk, List.map_append, VT, hy]
    rfl
   have g2 : (h.set ir (ints ((wK.take (i + 1)).map (fun o => L.getD o.toNat 0) ++ List.replicate m 0))).get ir = some (ints ((wK.take (i + 1)).map (fun o => L.getD o.toNat 0) ++ List.replicate m 0)) := by rw [wQ rfl, gr]; rfl
   obtain ⟨h', k, g, f, n, t⟩ := IF (a0 := a0) (a1 := a1) (a2 := a2) (a3 := a3) hL ir hb rl ro hno m (i + 1) _ (by omega) (hx.Hr hno _) g2 (by simpa using fr)
   have n1 : ((i + 1 : Nat) : Int) = (i : Int) + 1 := by omega
   refine ⟨h', uy ?_ k, g, by rw [f]; simp, by rw [n]; simp, fun i hi => by rw [t i hi, wJ hi]⟩
   rw [n1]
   clear k g f n t g2 rl ro d1 d2 o1 o2 hx ho ho2 hy orr tk lgy il
   generalize L.getD y 0 = z at *
   generalize ints ((wK.take (i + 1)).map (fun o => L.getD o.toNat 0) ++ List.replicate m 0) = R2 at *
   generalize ints ((wK.take i).map (fun o => L.getD o.toNat 0) ++ List.replicate (m + 1) 0) = R0 at *
   simp (disch := omega) only [go_sem, wH, AP.f13L2, b1, b2, c1, c2, gr, lr, es]
def AZ (R : List Int) : List Nat := R.flatMap fun y => w8 y.toNat 3
theorem Fb : ∀ R : List Int, (AZ R).length = 3 * R.length
 | [] => rfl
 | y :: R => by
   have := Fb R
   unfold AZ at *
   rw [VQ, wo, this]; simp [w8, xc]; omega
theorem Gs {a0 a1 a2 a3 a4 rv : AV} {R : List Int} (h0 : H) (rr : Rd h0 rv (ints R)) (k : Nat) (hk : k ≤ R.length) (hR : R.length = 19) (w : Nat) (hr : ∀ y ∈ R, 0 ≤ y ∧ y < 8) : ∀ (m i : Nat) (bs : List Nat) (h : H) (ov : AV), i + m = k → WX h0 h w bs ov → bs.length + 3 * m ≤ 65000 →
 ∃ e' h' ov', Lp AP.A [0, 11, 13, 15, 18, 21, 23, 24, 25] AP.f13L1 [(0, a0), (11, a1), (13, a2), (15, a3), (18, a4), (21, rv), (23, .int .i64 k), (24, .aE w 0), (25, .int .i64 i)] h = some (.exit 6, e', h') ∧ look e' 0 = a0 ∧ look e' 11 = a1 ∧ look e' 13 = a2 ∧ look e' 15 = a3 ∧ look e' 18 = a4 ∧ look e' 24 = .aE w 0 ∧ WX h0 h' w (bs ++ AZ ((R.drop i).take m)) ov'
 | 0, i, bs, h, ov, hi, x, hb => by
   obtain rfl : i = k := by omega
   refine ⟨[(0, a0), (11, a1), (13, a2), (15, a3), (18, a4), (21, rv), (23, .int .i64 i), (24, .aE w 0), (25, .int .i64 i), (177, .bool false)], h, ov, ux ?_, rfl, rfl, rfl, rfl, rfl, rfl, by simpa [AZ] using x⟩
   simp (disch := omega) only [go_sem, wH, AP.f13L1]
 | m + 1, i, bs, h, ov, hi, x, hb => by
   obtain ⟨ad, d1, d2⟩ := rr.xY
   have b1 := d1 i ⟨by omega, by omega⟩
   have hg : R[i]? = some (R.getD i 0) := by rw [VH, VL (by omega)]; rfl
   have yr := hr _ (vV hg)
   obtain ⟨y, hy⟩ := VP yr.1
   rw [hy] at hg yr
   have b2 := d2 h x.ext i _ hg
   have dr : R.drop i = (y : Int) :: R.drop (i + 1) := by
    rw [List.drop_eq_getElem_cons (by omega)]
    rw [VL (by omega)] at hg
    rw [vG hg]
   obtain ⟨h1, o1, k1, w1, f1⟩ := zR x.wr y 3 (by omega) (by omega) (by omega)
   have k1' : aS AP.A 33 [.aE w 0, .int .i64 y, .int .i64 3] h = _ := k1
   have x1 := x.step w1 f1
   have hl1 : (bs ++ w8 y 3).length = bs.length + 3 := by simp [w8, xc]
   obtain ⟨e', h', ov', r1, r2, r3, r4, r5, r6, r7, x2⟩ := Gs (a0 := a0) (a1 := a1) (a2 := a2) (a3 := a3) (a4 := a4) h0 rr k hk hR w hr m (i + 1) _ h1 o1 (by omega) x1 (by rw [hl1]; omega)
   have n1 : ((i + 1 : Nat) : Int) = (i : Int) + 1 := by omega
   refine ⟨e', h', ov', uy ?_ r1, r2, r3, r4, r5, r6, r7, ?_⟩
   · rw [n1]
     clear r1 r2 r3 r4 r5 r6 r7 x2 x1 w1 f1 x rr d1 d2 hr dr hy hg
     simp (disch := omega) only [go_sem, wH, AP.f13L1, b1, b2, k1']
   · rw [dr, vY]
     have : AZ ((y : Int) :: (R.drop (i + 1)).take m) = w8 y 3 ++ AZ ((R.drop (i + 1)).take m) := by unfold AZ; rw [VQ]; rfl
     rw [this, ← VT]
     exact x2
def Ad (E : List (Int × Int)) (D : List Int) : List Nat := D.flatMap fun y => wN E y.toNat
theorem HC {E : List (Int × Int)} : ∀ {D : List Int}, (∀ y ∈ D, DZ E y.toNat) → (Ad E D).length ≤ 15 * D.length
 | [], _ => by simp [Ad]
 | y :: D, h => by
   have := HC (E := E) (D := D) fun z hz => h z (by simp [hz])
   obtain ⟨n, v, _, q1, q2, q3, q4⟩ := (h y (by simp)).bits
   unfold Ad at *
   rw [VQ, wo, q4, xw, VK]; omega
theorem E8 {a0 a1 a2 av ev : AV} {D : List Int} {E : List (Int × Int)} (h0 : H) (ra : Rd h0 av (ints D)) (re : zU 2 h0 ev E.length (E.flatMap xU)) (hD : D.length < 1000) (hE : E.length = 19) (w : Nat) (hr : ∀ y ∈ D, 0 ≤ y ∧ y < 19) (ok : ∀ y ∈ D, DZ E y.toNat) : ∀ (q p : List Int) (bs : List Nat) (h : H) (ov : AV), D = p ++ q → WX h0 h w bs ov → bs.length + 15 * q.length ≤ 65000 →
 ∃ e' h' ov', Lp AP.A [0, 11, 13, 15, 24, 26, 28] AP.f13L0 [(0, a0), (11, a1), (13, a2), (15, av), (24, .aE w 0), (26, ev), (28, .int .i64 p.length)] h = some (.exit 8, e', h') ∧ look e' 0 = a0 ∧ look e' 11 = a1 ∧ look e' 13 = a2 ∧ look e' 24 = .aE w 0 ∧ WX h0 h' w (bs ++ Ad E q) ov'
 | [], p, bs, h, ov, hp, x, hb => by
   rw [V4] at hp; subst hp
   have ln := ra.len
   rw [qy] at ln
   simp only [I] at ln
   refine ⟨[(0, a0), (11, a1), (13, a2), (15, av), (24, .aE w 0), (26, ev), (28, .int .i64 D.length), (194, .bool false)], h, ov, ux ?_, rfl, rfl, rfl, rfl, by simpa [Ad] using x⟩
   simp (disch := omega) only [go_sem, wH, AP.f13L0, ln]
 | d :: q, p, bs, h, ov, hp, x, hb => by
   have ln := ra.len
   rw [qy] at ln
   simp only [I] at ln
   have hl : D.length = p.length + (q.length + 1) := by rw [hp]; simp
   obtain ⟨ad, d1, d2⟩ := ra.xY
   obtain ⟨ae, e1, e2⟩ := re.Kd
   have b1 := d1 p.length ⟨by omega, by omega⟩
   have hd : D[p.length]? = some d := by rw [hp]; simp
   have dr := hr d (vV hd)
   have oc := ok d (vV hd)
   obtain ⟨y, rfl⟩ := VP dr.1
   have b2 := d2 h x.ext p.length _ hd
   have ty : ((y : Nat) : Int).toNat = y := by omega
   rw [ty] at oc
   obtain ⟨n, c, q0, q1, q2, q3, q4⟩ := oc.bits
   have yl := oc.lt
   have c1 := e1 y ⟨by omega, by omega⟩
   have c2 := e2 h x.ext _ _ q0
   simp only [VK] at hb
   obtain ⟨h1, o1, k1, w1, f1⟩ := C9 x.wr c n q1 q2 q3 (by omega)
   have x1 := x.step w1 f1
   have hl1 : (bs ++ zI c n).length = bs.length + n := by simp [xw]
   obtain ⟨e', h', ov', r1, r2, r3, r4, r5, x2⟩ := E8 (a0 := a0) (a1 := a1) (a2 := a2) h0 ra re hD hE w hr ok q (p ++ [(y : Int)]) _ h1 o1 (by rw [hp]; simp) x1 (by rw [hl1]; omega)
   have n1 : (((p ++ [(y : Int)]).length : Nat) : Int) = (p.length : Int) + 1 := by simp
   refine ⟨e', h', ov', uy ?_ r1, r2, r3, r4, r5, ?_⟩
   · rw [n1]
     clear r1 r2 r3 r4 r5 x2 x1 w1 f1 x ra re d1 d2 e1 e2 hr hp hd ok oc q4 q0 q3
     simp (disch := omega) only [go_sem, wH, AP.f13L0, ln, b1, b2, c1, c2, k1]
   · have : Ad E ((y : Int) :: q) = zI c n ++ Ad E q := by unfold Ad; rw [VQ, ty, q4]
     rw [this, ← VT]
     exact x2
theorem Vk {v0 : AV} {g : H} : aM (aS AP.A) bG (at_ 0 AP.f13.body) (params 0 [v0]) g = some (.normal, [(0, v0)], g) := by
 simp (disch := omega) only [go_sem, wH, AP.f13, yd, yh]
theorem Vl {v0 : AV} {g : H} (k : aS AP.A 27 [v0] g = some (.bool true, g)) : aM (aS AP.A) bG (at_ 1 AP.f13.body) [(0, v0)] g = some (.normal, [(0, v0)], g) := by
 simp (disch := omega) only [go_sem, wH, AP.f13, yd, yh, k]
theorem Vp {v0 v4 v5 v11 : AV} {g : H} (k : aS AP.A 30 [v4, .int .i64 15] g = some (.bU [v11, .int .i64 0], g)) : aM (aS AP.A) bG (at_ 5 AP.f13.body) [(0, v0), (4, v4), (5, v5)] g = some (.normal, [(0, v0), (5, v5), (11, v11)], g) := by
 simp (disch := omega) only [go_sem, wH, AP.f13, yd, yh, k]
theorem Vq {v0 v5 v11 v13 : AV} {g : H} (k : aS AP.A 30 [v5, .int .i64 15] g = some (.bU [v13, .int .i64 0], g)) : aM (aS AP.A) bG (at_ 6 AP.f13.body) [(0, v0), (5, v5), (11, v11)] g = some (.normal, [(0, v0), (11, v11), (13, v13)], g) := by
 simp (disch := omega) only [go_sem, wH, AP.f13, yd, yh, k]
theorem UC {v0 v11 v13 v15 v16 v18 : AV} {g : H} (k : aS AP.A 30 [v16, .int .i64 7] g = some (.bU [v18, .int .i64 0], g)) : aM (aS AP.A) bG (at_ 13 AP.f13.body) [(0, v0), (11, v11), (13, v13), (15, v15), (16, v16)] g = some (.normal, [(0, v0), (11, v11), (13, v13), (15, v15), (18, v18)], g) := by
 simp (disch := omega) only [go_sem, wH, AP.f13, yd, yh, k]
theorem UD {v0 v11 v13 v15 v18 v20 : AV} {g : H} (k : aS AP.A 32 [] g = some (v20, g)) : aM (aS AP.A) bG (at_ 14 AP.f13.body) [(0, v0), (11, v11), (13, v13), (15, v15), (18, v18)] g = some (.normal, [(0, v0), (11, v11), (13, v13), (15, v15), (18, v18), (20, v20)], g) := by
 simp (disch := omega) only [go_sem, wH, AP.f13, yd, yh, k]
theorem UG {v0 v11 v13 v15 v18 v21 v23 : AV} {g : H} (k : aS AP.A 31 [v21, .int .i64 4] g = some (v23, g)) : aM (aS AP.A) bG (at_ 17 AP.f13.body) [(0, v0), (11, v11), (13, v13), (15, v15), (18, v18), (21, v21)] g = some (.normal, [(0, v0), (11, v11), (13, v13), (15, v15), (18, v18), (21, v21), (23, v23)], g) := by
 simp (disch := omega) only [go_sem, wH, AP.f13, yd, yh, k]
theorem UH {v0 v11 v13 v15 v18 v21 v23 : AV} {g : H}  : aM (aS AP.A) bG (at_ 18 AP.f13.body) [(0, v0), (11, v11), (13, v13), (15, v15), (18, v18), (21, v21), (23, v23)] g = some (.normal, [(0, v0), (11, v11), (13, v13), (15, v15), (18, v18), (21, v21), (23, v23), (24, .aE g.next 0)], (g.alloc [.aQ, .int .i64 0])) := by
 simp (disch := omega) only [go_sem, wH, AP.f13, yd, yh]
theorem UI {v0 v11 v13 v15 v18 v21 v23 v24 : AV} {g g2 : H} (k : aS AP.A 33 [v24, .int .i64 5, .int .i64 3] g = some (.int .i64 0, g2)) : aM (aS AP.A) bG (at_ 19 AP.f13.body) [(0, v0), (11, v11), (13, v13), (15, v15), (18, v18), (21, v21), (23, v23), (24, v24)] g = some (.normal, [(0, v0), (11, v11), (13, v13), (15, v15), (18, v18), (21, v21), (23, v23), (24, v24)], g2) := by
 simp (disch := omega) only [go_sem, wH, AP.f13, yd, yh, k]
theorem UJ {v0 v11 v13 v15 v18 v21 v23 v24 : AV} {g g2 : H} {n : Nat} (ln : jy false v11 = some (.int .i64 n)) (hn : n < 1000) (k : aS AP.A 33 [v24, .int .i64 ((n : Int) - 257), .int .i64 5] g = some (.int .i64 0, g2)) : aM (aS AP.A) bG (at_ 20 AP.f13.body) [(0, v0), (11, v11), (13, v13), (15, v15), (18, v18), (21, v21), (23, v23), (24, v24)] g = some (.normal, [(0, v0), (11, v11), (13, v13), (15, v15), (18, v18), (21, v21), (23, v23), (24, v24)], g2) := by
 simp (disch := omega) only [go_sem, wH, AP.f13, yd, yh, ln, k]
theorem UK {v0 v11 v13 v15 v18 v21 v23 v24 : AV} {g g2 : H} {n : Nat} (ln : jy false v13 = some (.int .i64 n)) (hn : n < 1000) (k : aS AP.A 33 [v24, .int .i64 ((n : Int) - 1), .int .i64 5] g = some (.int .i64 0, g2)) : aM (aS AP.A) bG (at_ 21 AP.f13.body) [(0, v0), (11, v11), (13, v13), (15, v15), (18, v18), (21, v21), (23, v23), (24, v24)] g = some (.normal, [(0, v0), (11, v11), (13, v13), (15, v15), (18, v18), (21, v21), (23, v23), (24, v24)], g2) := by
 simp (disch := omega) only [go_sem, wH, AP.f13, yd, yh, ln, k]
theorem UL {v0 v11 v13 v15 v18 v21 v24 : AV} {g g2 : H} {n : Nat} (hn : n < 1000) (k : aS AP.A 33 [v24, .int .i64 ((n : Int) - 4), .int .i64 4] g = some (.int .i64 0, g2)) : aM (aS AP.A) bG (at_ 22 AP.f13.body) [(0, v0), (11, v11), (13, v13), (15, v15), (18, v18), (21, v21), (23, .int .i64 n), (24, v24)] g = some (.normal, [(0, v0), (11, v11), (13, v13), (15, v15), (18, v18), (21, v21), (23, .int .i64 n), (24, v24)], g2) := by
 simp (disch := omega) only [go_sem, wH, AP.f13, yd, yh, k]
theorem UM {v0 v11 v13 v15 v18 v21 v23 v24 : AV} {g g2 : H} {e : Env} (L : Lp AP.A [0, 11, 13, 15, 18, 21, 23, 24, 25] AP.f13L1 [(0, v0), (11, v11), (13, v13), (15, v15), (18, v18), (21, v21), (23, v23), (24, v24), (25, .int .i64 0)] g = some (.exit 6, e, g2)) (q0 : look e 0 = v0) (q11 : look e 11 = v11) (q13 : look e 13 = v13) (q15 : look e 15 = v15) (q18 : look e 18 = v18) (q24 : look e 24 = v24) : aM (aS AP.A) bG (at_ 23 AP.f13.body) [(0, v0), (11, v11), (13, v13), (15, v15), (18, v18), (21, v21), (23, v23), (24, v24)] g = some (.normal, [(0, v0), (11, v11), (13, v13), (15, v15), (18, v18), (24, v24)], g2) := by
 simp (disch := omega) only [go_sem, wH, AP.f13, yd, yh, th, L, q0, q11, q13, q15, q18, q24]
theorem UN {v0 v11 v13 v15 v18 v24 v26 : AV} {g : H} (k : aS AP.A 34 [v18] g = some (.bU [v26, .int .i64 0], g)) : aM (aS AP.A) bG (at_ 24 AP.f13.body) [(0, v0), (11, v11), (13, v13), (15, v15), (18, v18), (24, v24)] g = some (.normal, [(0, v0), (11, v11), (13, v13), (15, v15), (24, v24), (26, v26)], g) := by
 simp (disch := omega) only [go_sem, wH, AP.f13, yd, yh, k]
theorem UO {v0 v11 v13 v15 v24 v26 : AV} {g g2 : H} {e : Env} (L : Lp AP.A [0, 11, 13, 15, 24, 26, 28] AP.f13L0 [(0, v0), (11, v11), (13, v13), (15, v15), (24, v24), (26, v26), (28, .int .i64 0)] g = some (.exit 8, e, g2)) (q0 : look e 0 = v0) (q11 : look e 11 = v11) (q13 : look e 13 = v13) (q24 : look e 24 = v24) : aM (aS AP.A) bG (at_ 25 AP.f13.body) [(0, v0), (11, v11), (13, v13), (15, v15), (24, v24), (26, v26)] g = some (.normal, [(0, v0), (11, v11), (13, v13), (24, v24)], g2) := by
 simp (disch := omega) only [go_sem, wH, AP.f13, yd, yh, th, L, q0, q11, q13, q24]
theorem UP {v0 v11 v13 v24 v29 : AV} {g : H} (k : aS AP.A 34 [v11] g = some (.bU [v29, .int .i64 0], g)) : aM (aS AP.A) bG (at_ 26 AP.f13.body) [(0, v0), (11, v11), (13, v13), (24, v24)] g = some (.normal, [(0, v0), (13, v13), (24, v24), (29, v29)], g) := by
 simp (disch := omega) only [go_sem, wH, AP.f13, yd, yh, k]
theorem UQ {v0 v13 v24 v29 v31 : AV} {g : H} (k : aS AP.A 34 [v13] g = some (.bU [v31, .int .i64 0], g)) : aM (aS AP.A) bG (at_ 27 AP.f13.body) [(0, v0), (13, v13), (24, v24), (29, v29)] g = some (.normal, [(0, v0), (24, v24), (29, v29), (31, v31)], g) := by
 simp (disch := omega) only [go_sem, wH, AP.f13, yd, yh, k]
theorem UR {v0 v24 v29 v31 : AV} {g g2 : H} (k : aS AP.A 36 [v24, v0, v29, v31] g = some (.bU [], g2)) : aM (aS AP.A) bG (at_ 28 AP.f13.body) [(0, v0), (24, v24), (29, v29), (31, v31)] g = some (.normal, [(24, v24)], g2) := by
 simp (disch := omega) only [go_sem, wH, AP.f13, yd, yh, k]
theorem US {v24 : AV} {g : H} {t : ByteArray} (k : aS AP.A 37 [v24] g = some (.str t, g)) : aM (aS AP.A) bG (Nf 29 AP.f13.body) [(24, v24)] g = some (.ret, [(2, .str t), (3, .int .i64 0)], g) := by
 simp (disch := omega) only [go_sem, wH, AP.f13, N5, N4, k]
theorem LF {h : H} {cs : List AV} {N k : Nat} (hN : cs.length = N) (h0 : 0 < N) (hk : k ≤ N) : sZ h 1 (Aa 1 N cs) none (some (.int .i64 k)) none = some (.aV false cs 0 k 1) := by
 unfold Aa
 rw [if_neg (by omega)]
 exact Ed hN hk
theorem Vr {v0 v11 v13 : AV} {g : H} {cs : List AV} {N k : Nat} (hN : cs.length = N) (h0 : 0 < N) (hk : k ≤ N) (e : v11 = Aa 1 N cs) (u : aS AP.A 31 [Aa 1 N cs, .int .i64 257] g = some (.int .i64 k, g)) : aM (aS AP.A) bG (at_ 7 AP.f13.body) [(0, v0), (11, v11), (13, v13)] g = some (.normal, [(0, v0), (11, .aV false cs 0 k 1), (13, v13)], g) := by
 subst e
 have s := LF (h := g) hN h0 hk
 generalize Aa 1 N cs = S at *
 simp (disch := omega) only [go_sem, wH, AP.f13, yd, yh, u, s]
theorem Vs {v0 v11 v13 : AV} {g : H} {cs : List AV} {N k : Nat} (hN : cs.length = N) (h0 : 0 < N) (hk : k ≤ N) (e : v13 = Aa 1 N cs) (u : aS AP.A 31 [Aa 1 N cs, .int .i64 1] g = some (.int .i64 k, g)) : aM (aS AP.A) bG (at_ 8 AP.f13.body) [(0, v0), (11, v11), (13, v13)] g = some (.normal, [(0, v0), (11, v11), (13, .aV false cs 0 k 1)], g) := by
 subst e
 have s := LF (h := g) hN h0 hk
 generalize Aa 1 N cs = S at *
 simp (disch := omega) only [go_sem, wH, AP.f13, yd, yh, u, s]
theorem Vt {v0 v11 v13 v15 : AV} {g g2 : H} (p : lL (g.alloc []) 1 8 (.aF g.next 0 0 1) v11 = some (v15, g2)) : aM (aS AP.A) bG (at_ 9 AP.f13.body) [(0, v0), (11, v11), (13, v13)] g = some (.normal, [(0, v0), (11, v11), (13, v13), (15, v15)], g2) := by
 simp (disch := omega) only [go_sem, wH, AP.f13, yd, yh, p]
theorem Uz {v0 v11 v13 v15 v16 : AV} {g g2 : H} (p : lL g 1 8 v15 v13 = some (v16, g2)) : aM (aS AP.A) bG (at_ 10 AP.f13.body) [(0, v0), (11, v11), (13, v13), (15, v15)] g = some (.normal, [(0, v0), (11, v11), (13, v13), (15, v16)], g2) := by
 simp (disch := omega) only [go_sem, wH, AP.f13, yd, yh, p]
theorem UA {v0 v11 v13 v15 : AV} {g : H}  : aM (aS AP.A) bG (at_ 11 AP.f13.body) [(0, v0), (11, v11), (13, v13), (15, v15)] g = some (.normal, [(0, v0), (11, v11), (13, v13), (15, v15), (16, .aF g.next 0 19 1)], (g.alloc (zm 19 [.int .i64 0]))) := by
 simp (disch := omega) only [go_sem, wH, AP.f13, yd, yh]
theorem UE {v0 v11 v13 v15 v18 v20 : AV} {g : H}  : aM (aS AP.A) bG (at_ 15 AP.f13.body) [(0, v0), (11, v11), (13, v13), (15, v15), (18, v18), (20, v20)] g = some (.normal, [(0, v0), (11, v11), (13, v13), (15, v15), (18, v18), (20, v20), (21, .aF g.next 0 19 1)], (g.alloc (zm 19 [.int .i64 0]))) := by
 simp (disch := omega) only [go_sem, wH, AP.f13, yd, yh]
theorem UB {v0 v11 v13 v15 v16 x17 x122 : AV} {g g2 : H} (L : Lp AP.A [0, 11, 13, 15, 16, 17] AP.f13L3 [(0, v0), (11, v11), (13, v13), (15, v15), (16, v16), (17, .int .i64 0)] g = some (.exit 2, [(0, v0), (11, v11), (13, v13), (15, v15), (16, v16), (17, x17), (122, x122)], g2)) : aM (aS AP.A) bG (at_ 12 AP.f13.body) [(0, v0), (11, v11), (13, v13), (15, v15), (16, v16)] g = some (.normal, [(0, v0), (11, v11), (13, v13), (15, v15), (16, v16)], g2) := by
 simp (disch := omega) only [go_sem, wH, AP.f13, yd, yh, th, L]
theorem UF {v0 v11 v13 v15 v18 v20 v21 x22 x142 : AV} {g g2 : H} (L : Lp AP.A [0, 11, 13, 15, 18, 20, 21, 22] AP.f13L2 [(0, v0), (11, v11), (13, v13), (15, v15), (18, v18), (20, v20), (21, v21), (22, .int .i64 0)] g = some (.exit 4, [(0, v0), (11, v11), (13, v13), (15, v15), (18, v18), (20, v20), (21, v21), (22, x22), (142, x142)], g2)) : aM (aS AP.A) bG (at_ 16 AP.f13.body) [(0, v0), (11, v11), (13, v13), (15, v15), (18, v18), (20, v20), (21, v21)] g = some (.normal, [(0, v0), (11, v11), (13, v13), (15, v15), (18, v18), (21, v21)], g2) := by
 simp (disch := omega) only [go_sem, wH, AP.f13, yd, yh, th, L]
theorem Vo {v0 v4 v5 x6 x43 : AV} {g g2 : H} (L : Lp AP.A [0, 4, 5, 6] AP.f13L4 [(0, v0), (4, v4), (5, v5), (6, .int .i64 0)] g = some (.exit 0, [(0, v0), (4, v4), (5, v5), (6, x6), (43, x43)], g2)) : aM (aS AP.A) bG (at_ 4 AP.f13.body) [(0, v0), (4, v4), (5, v5)] g = some (.normal, [(0, v0), (4, v4), (5, v5)], g2) := by
 simp (disch := omega) only [go_sem, wH, AP.f13, yd, yh, th, L]
theorem Vm {v0 : AV} {g : H} : aM (aS AP.A) bG (at_ 2 AP.f13.body) [(0, v0)] g = some (.normal, [(0, v0), (4, .aF g.next 0 286 1), (5, .aF (g.next + 1) 0 30 1)], (g.alloc (zm 286 [.int .i64 0])).alloc (zm 30 [.int .i64 0])) := by
 simp (disch := first | omega | (simp only [y7, VK, VN, vW, Nat.reduceAdd]; first | done | omega | fail) | (simp (disch := first | omega | (simp only [y7, VK, VN, vW, Nat.reduceAdd]; first | done | omega | fail) | fail) only [y7, Gp, VO, VK, VN, vW, Nat.reduceAdd]; done) | fail) only [go_sem, wH, Hx, AP.f13, yd, yh]
theorem Vn {v0 v5 : AV} {g : H} {ia : Nat} {A : List AV} (ga : g.get ia = some A) (hA : A.length = 286) (fa : g.floor ≤ ia) : aM (aS AP.A) bG (at_ 3 AP.f13.body) [(0, v0), (4, .aF ia 0 286 1), (5, v5)] g = some (.normal, [(0, v0), (4, .aF ia 0 286 1), (5, v5)], g.set ia (A.set 256 (.int .i64 1))) := by
 simp (disch := omega) only [go_sem, wH, AP.f13, yd, yh, ga, hA]
theorem Nx : AP.f13.body = .seq (at_ 0 AP.f13.body) (.seq (at_ 1 AP.f13.body) (.seq (at_ 2 AP.f13.body) (.seq (at_ 3 AP.f13.body) (.seq (at_ 4 AP.f13.body) (.seq (at_ 5 AP.f13.body) (.seq (at_ 6 AP.f13.body) (.seq (at_ 7 AP.f13.body) (.seq (at_ 8 AP.f13.body) (.seq (at_ 9 AP.f13.body) (.seq (at_ 10 AP.f13.body) (.seq (at_ 11 AP.f13.body) (.seq (at_ 12 AP.f13.body) (.seq (at_ 13 AP.f13.body) (.seq (at_ 14 AP.f13.body) (.seq (at_ 15 AP.f13.body) (.seq (at_ 16 AP.f13.body) (.seq (at_ 17 AP.f13.body) (.seq (at_ 18 AP.f13.body) (.seq (at_ 19 AP.f13.body) (.seq (at_ 20 AP.f13.body) (.seq (at_ 21 AP.f13.body) (.seq (at_ 22 AP.f13.body) (.seq (at_ 23 AP.f13.body) (.seq (at_ 24 AP.f13.body) (.seq (at_ 25 AP.f13.body) (.seq (at_ 26 AP.f13.body) (.seq (at_ 27 AP.f13.body) (.seq (at_ 28 AP.f13.body) ((Nf 29 AP.f13.body)))))))))))))))))))))))))))))) := rfl
theorem zh (l : List Int) (k : Nat) : ∀ n, k ≤ xk l k n ∧ xk l k n ≤ max k n
 | 0 => ⟨vR _, by rw [xk]; omega⟩
 | n + 1 => by
   rw [xk]
   have := zh l k n
   split
   · omega
   · split
     · omega
     · omega
theorem Gc : ∀ (K : Nat) (S W O : List Int), (BQ S K W O).length = O.length
 | 0, S, W, O => by rw [BQ, ya]
 | K + 1, S, W, O => by rw [BQ, Gc K, ya]
theorem Bn (C : List Int) (K : Nat) : (xF C K).length = C.length := by unfold xF; rw [Gc]; simp
theorem Kf (h : H) (l : List Int) {k : Nat} (hk : k ≤ l.length) : Rd h (.aV false (ints l) 0 k 1) (ints (l.take k)) := by
 refine ⟨?_, by intro s e; cases e⟩
 have : (ints (l.take k)).length = k := by rw [qy, Wj]; omega
 rw [this]
 simp [aT, ints, hk, List.map_take]
def dA (ts : List Tok) : List Int := AE ts ((List.replicate 286 0).set 256 1)
def dB (ts : List Tok) : List Int := AR ts (List.replicate 30 0)
def CP (l : List Int) (k : Nat) : List Int := l.take (xk l k l.length)
theorem Ev (l : List Int) {k : Nat} (h : k ≤ l.length) : (CP l k).length = xk l k l.length := by
 have := zh l k l.length
 unfold CP; rw [Wj]; omega
def xI (ts : List Tok) (la lb Lc : List Int) : List Nat :=
 let all := la ++ lb
 let row := wK.map (fun o => Lc.getD o.toNat 0)
 let k := xk row 4 19
 w8 5 3 ++ (w8 (la.length - 257) 5 ++ (w8 (lb.length - 1) 5 ++ (w8 (k - 4) 4 ++ (AZ (row.take k) ++ (Ad (wB Lc) all ++ (xW (wB la) (wB lb) ts ++ wN (wB la) 256))))))
structure Hy (ts : List Tok) (KA KB KC : Nat) (la lb Lc : List Int) : Prop where
 PX : KO ts = true
 n : ts.length ≤ 300
 tok : ∀ t ∈ ts, Bb t
 ra : yX 15 KA (xQ (dA ts))
 rb : yX 15 KB (xQ (dB ts))
 ea : la = CP (xF (dA ts) KA) 257
 eb : lb = CP (xF (dB ts) KB) 1
 all : ∀ y ∈ la ++ lb, 0 ≤ y ∧ y < 19
 rc : yX 7 KC (xQ (yI (la ++ lb) (List.replicate 19 0)))
 ec : Lc = xF (yI (la ++ lb) (List.replicate 19 0)) KC
 row : ∀ y ∈ Lc, 0 ≤ y ∧ y < 8
 ca : wS la = 0 ∨ wS la = 302
 cb : wS lb = 0 ∨ wS lb = 302
 cc : wS Lc = 0 ∨ wS Lc = 302
 Gk : ∀ y ∈ la ++ lb, DZ (wB Lc) y.toNat
 Oy : ∀ t ∈ ts, Lq (wB la) (wB lb) t
 Ip : DZ (wB la) 256
theorem AG (l : List Int) : (wB l).length = l.length := by simp [wB]
theorem A9 (h : H) (l : List Int) : zU 2 h (Em l) (wB l).length ((wB l).flatMap xU) := by
 have := Hp (n := 2) (k := l.length) (h := h) (cs := (wB l).flatMap xU) (by rw [Dk Ar, AG])
 rw [AG]; exact this
theorem Ho (h : H) (l : List Int) : Rd h (Aa 1 l.length (ints l)) (ints l) := by
 have := Hp (n := 1) (k := l.length) (h := h) (cs := ints l) (by rw [qy]; omega)
 exact ⟨by have := this.1; rw [qy]; exact this, this.2.2⟩
theorem Ap {C : List Int} (h : 2 ≤ C.length) : (xj C).length ≤ C.length := DP h (Ac 0 C)
theorem Jt (h : H) (v : AV) (ts : List Tok) (KA KB KC : Nat) (la lb Lc : List Int) (ok : Hy ts KA KB KC la lb Lc) (rd : zU 3 h v ts.length (xC ts)) :
 aS AP.A 13 [v] h = some (.bU [.str (bytesOf (xy (xI ts la lb Lc))), .int .i64 0], h) := by
 obtain ⟨PX, hn, tok, ra, rb, ea, eb, hall, rc, ec, hrow, ca, cb, cc, Gk, Oy, Ip⟩ := ok
 have rd0 : zU 3 h.ez v ts.length (xC ts) := rd.mono fun i c q => q
 obtain ⟨h2', eh2⟩ : ∃ g, g = (h.ez.alloc (zm 286 [.int .i64 0])).alloc (zm 30 [.int .i64 0]) := ⟨_, rfl⟩
 have d2 := Vm (v0 := v) (g := h.ez)
 rw [← eh2] at d2
 change aM (aS AP.A) bG (at_ 2 AP.f13.body) [(0, v)] h.ez = some (.normal, [(0, v), (4, .aF h.next 0 286 1), (5, .aF (h.next + 1) 0 30 1)], h2') at d2
 have gA2 : h2'.get h.next = some (ints (List.replicate 286 0)) := by rw [eh2, wR (by simp), wM (by simp), zN]
 have gB2 : h2'.get (h.next + 1) = some (ints (List.replicate 30 0)) := by rw [eh2, wM (by simp), zN]
 have fl2 : h2'.floor = h.next := by rw [eh2]; simp
 have nx2 : h2'.next = h.next + 2 := by rw [eh2]; simp
 have x2 : Ext h.ez h2' := by rw [eh2]; exact ((Ext.refl _).alloc _).alloc _
 have d3 := Vn (v0 := v) (v5 := .aF (h.next + 1) 0 30 1) gA2 (by rw [qy]; simp) (by omega)
 rw [show (ints (List.replicate 286 0)).set 256 (.int .i64 1) = ints ((List.replicate 286 0).set 256 1) from yf _ _ _] at d3
 obtain ⟨h3', eh3⟩ : ∃ g, g = h2'.set h.next (ints ((List.replicate 286 0).set 256 1)) := ⟨_, rfl⟩
 rw [← eh3] at d3
 have gA3 : h3'.get h.next = some (ints ((List.replicate 286 0).set 256 1)) := by rw [eh3, wQ rfl, gA2]; rfl
 have gB3 : h3'.get (h.next + 1) = some (ints (List.replicate 30 0)) := by rw [eh3, wJ (by omega), gB2]
 have fl3 : h3'.floor = h.next := by rw [eh3]; simp [fl2]
 have nx3 : h3'.next = h.next + 2 := by rw [eh3]; simp [nx2]
 have x3 : Ext h.ez h3' := by rw [eh3]; exact x2.set (by simp) _
 obtain ⟨h4, L4, gA4, gB4, f4⟩ := DE (by omega) h.ez rd0 h.next (h.next + 1) tok (by omega) (by simp) (by simp) ts [] _ _ h3' rfl x3 (by simp; omega) gA3 gB3 (by simp) (by simp) (fun y hy => by
  rcases Wf hy with q | q
  · have := V7 q; omega
  · omega) (fun y hy => by have := V7 hy; omega) (by omega) (by omega) (by omega)
 change h4.get h.next = some (ints (dA ts)) at gA4
 change h4.get (h.next + 1) = some (ints (dB ts)) at gB4
 have d4 := Vo L4
 have fl4 : h4.floor = h.next := by rw [f4.floor, fl3]
 have nx4 : h.next + 2 ≤ h4.next := by have := f4.next; omega
 have x4 : Ext h.ez h4 := fun i c q => by
  have := h.ez.lt _ _ q
  simp at this
  rw [f4.yg i (by omega) (by omega) (by omega), x3 i c q]
 have lA : (dA ts).length = 286 := by unfold dA; rw [CD]; simp
 have lB : (dB ts).length = 30 := by unfold dB; rw [CF]; simp
 have rgA : ∀ y ∈ dA ts, 0 ≤ y ∧ y ≤ 2147483647 := fun y hy => by
  have := CE ts ((List.replicate 286 0).set 256 1) 1 (by omega) (fun y hy => by
   rcases Wf hy with q | q
   · have := V7 q; omega
   · omega) y hy
  omega
 have rgB : ∀ y ∈ dB ts, 0 ≤ y ∧ y ≤ 2147483647 := fun y hy => by
  have := CG ts (List.replicate 30 0) 0 (by omega) (fun y hy => by have := V7 hy; omega) y hy
  omega
 have rdA : Rd h4 (.aF h.next 0 286 1) (ints (dA ts)) := by
  have : wW 1 h4 (.aF h.next 0 286 1) (dA ts).length (ints (dA ts)) := by rw [lA]; exact ⟨by rw [qy, lA], .inr ⟨h.next, rfl, gA4, by omega, by omega⟩⟩
  exact this.OA
 have rdB : Rd h4 (.aF (h.next + 1) 0 30 1) (ints (dB ts)) := by
  have : wW 1 h4 (.aF (h.next + 1) 0 30 1) (dB ts).length (ints (dB ts)) := by rw [lB]; exact ⟨by rw [qy, lB], .inr ⟨h.next + 1, rfl, gB4, by omega, by omega⟩⟩
  exact this.OA
 have sA := Ap (C := dA ts) (by omega)
 have sB := Ap (C := dB ts) (by omega)
 have kA := Ch h4 _ (dA ts) 15 KA (by omega) (by omega) rdA (by omega) rgA (by omega) ra
 have kB := Ch h4 _ (dB ts) 15 KB (by omega) (by omega) rdB (by omega) rgB (by omega) rb
 have lLA := Bn (dA ts) KA
 have lLB := Bn (dB ts) KB
 generalize xF (dA ts) KA = LA at *
 generalize xF (dB ts) KB = LB at *
 rw [lA] at lLA
 rw [lB] at lLB
 have kA' : aS AP.A 30 [.aF h.next 0 286 1, .int .i64 15] h4 = some (.bU [Aa 1 LA.length (ints LA), .int .i64 0], h4) := by rw [lLA]; rw [lA] at kA; exact kA
 have kB' : aS AP.A 30 [.aF (h.next + 1) 0 30 1, .int .i64 15] h4 = some (.bU [Aa 1 LB.length (ints LB), .int .i64 0], h4) := by rw [lLB]; rw [lB] at kB; exact kB
 have d5 := Vp (v0 := v) (v5 := .aF (h.next + 1) 0 30 1) kA'
 have d6 := Vq (v0 := v) (v11 := Aa 1 LA.length (ints LA)) kB'
 have uA := JM h4 _ LA (by omega) (Ho h4 LA) 257 (by omega)
 have uB := JM h4 _ LB (by omega) (Ho h4 LB) 1 (by omega)
 have ugA := zh LA 257 LA.length
 have ugB := zh LB 1 LB.length
 have d7 := Vr (v0 := v) (v13 := Aa 1 LB.length (ints LB)) (qy LA) (by omega) (by omega) rfl uA
 have d8 := Vs (v0 := v) (v11 := .aV false (ints LA) 0 (xk LA 257 LA.length) 1) (qy LB) (by omega) (by omega) rfl uB
 have r11 : ∀ g : H, Rd g (.aV false (ints LA) 0 (xk LA 257 LA.length) 1) (ints la) := fun g => by rw [ea]; exact Kf g LA (by omega)
 have r13 : ∀ g : H, Rd g (.aV false (ints LB) 0 (xk LB 1 LB.length) 1) (ints lb) := fun g => by rw [eb]; exact Kf g LB (by omega)
 have lla : la.length = xk LA 257 LA.length := by rw [ea]; exact Ev LA (by omega)
 have llb : lb.length = xk LB 1 LB.length := by rw [eb]; exact Ev LB (by omega)
 generalize hv11 : AV.aV false (ints LA) 0 (xk LA 257 LA.length) 1 = v11 at *
 generalize hv13 : AV.aV false (ints LB) 0 (xk LB 1 LB.length) 1 = v13 at *
 have la1 : 257 ≤ la.length ∧ la.length ≤ 286 := by omega
 have lb1 : 1 ≤ lb.length ∧ lb.length ≤ 30 := by omega
 clear uA uB kA kB kA' kB' ugA ugB rdA rdB rgA rgB sA sB
 have a1 := FI (z := 8) (r11 h4).U5 (by omega) (by omega) (by rw [qy]; omega) (yB (by rw [qy]; omega)) (j5 la)
 obtain ⟨h5, eh5⟩ : ∃ g, g = ((h4.alloc []).del h4.next).alloc (ints la) := ⟨_, rfl⟩
 rw [← eh5] at a1
 rw [qy] at a1
 have d9 := Vt (v0 := v) (v13 := v13) a1
 have ow5 : wW 1 h5 (.aF (h4.next + 1) 0 la.length 1) la.length (ints la) := ⟨by rw [qy]; omega, .inr ⟨h4.next + 1, rfl, by rw [eh5, wM (by simp)], by rw [eh5]; simp; omega, by omega⟩⟩
 have fl5 : h5.floor = h.next := by rw [eh5]; simp [fl4]
 have nx5 : h4.next ≤ h5.next := by rw [eh5]; simp; omega
 have k5 : ∀ i, i < h4.next → h5.get i = h4.get i := fun i hi => by rw [eh5, wR (by simp; omega), A1 (by omega), wR (by omega)]
 obtain ⟨v15, h6, p1, ow6, fl6, nx6, k6, id6⟩ := ow5.app (by omega) (z := 8) (m := lb.length) (by omega) (by omega) (ints lb) (by rw [qy]; omega) (j5 lb) (yB (by omega))
 have a2 : lL h5 1 8 (.aF (h4.next + 1) 0 la.length 1) v13 = some (v15, h6) := by
  unfold lL
  rw [(r13 h5).1, vO, qy]
  exact p1
 have d10 := Uz (v0 := v) (v11 := v11) a2
 rw [← qx, ← wo] at ow6
 have k6' : ∀ i, i < h4.next → h6.get i = h4.get i := fun i hi => by
  rw [k6 i (fun e => by have := vG e; omega) (by omega), k5 i hi]
 have id6' : v15.id? = some h5.next := id6
 generalize hal : la ++ lb = all at *
 have lal : all.length ≤ 316 ∧ 0 < all.length := by rw [← hal, wo]; omega
 have d11 := UA (v0 := v) (v11 := v11) (v13 := v13) (v15 := v15) (g := h6)
 obtain ⟨h7, eh7⟩ : ∃ g, g = h6.alloc (zm 19 [.int .i64 0]) := ⟨_, rfl⟩
 rw [← eh7] at d11
 have gC7 : h7.get h6.next = some (ints (List.replicate 19 0)) := by rw [eh7, wM rfl, zN]
 have h6n : h6.get h6.next = none := by
  cases e : h6.get h6.next with
  | none => rfl
  | some c => have := h6.lt _ _ e; omega
 have x7 : Ext h6 h7 := by rw [eh7]; exact (Ext.refl _).alloc _
 obtain ⟨h8, L8, gC8, fl8, nx8, k8⟩ := DC (lv := v) (dv := v11) (mv := v13) (by omega) hall h6.next h6 ow6.OA h6n all [] _ h7 rfl x7 gC7 (by simp) (fun y hy => by have := V7 hy; simp; omega) (by rw [eh7]; simp; have := (ow6.lt id6').2; omega)
 have d12 := UB L8
 have lC : (yI all (List.replicate 19 0)).length = 19 := by rw [CH]; simp
 have rgC : ∀ y ∈ yI all (List.replicate 19 0), 0 ≤ y ∧ y ≤ 2147483647 := fun y hy => by
  have := CI all (List.replicate 19 0) 0 (by omega) (fun y hy => by have := V7 hy; omega) y hy
  omega
 have fl7 : h7.floor = h.next := by rw [eh7]; simp; omega
 have rdC : Rd h8 (.aF h6.next 0 19 1) (ints (yI all (List.replicate 19 0))) := by
  have : wW 1 h8 (.aF h6.next 0 19 1) (yI all (List.replicate 19 0)).length (ints (yI all (List.replicate 19 0))) := by
   rw [lC]; exact ⟨by rw [qy, lC], .inr ⟨h6.next, rfl, gC8, by rw [fl8, fl7]; have := (ow6.lt id6'); omega, by omega⟩⟩
  exact this.OA
 have sC := Ap (C := yI all (List.replicate 19 0)) (by omega)
 have kC := Ch h8 _ (yI all (List.replicate 19 0)) 7 KC (by omega) (by omega) rdC (by omega) rgC (by omega) rc
 have lLc : Lc.length = 19 := by rw [ec, Bn, lC]
 have kC' : aS AP.A 30 [.aF h6.next 0 19 1, .int .i64 7] h8 = some (.bU [Aa 1 Lc.length (ints Lc), .int .i64 0], h8) := by rw [lLc]; rw [← ec, lC] at kC; exact kC
 have d13 := UC (v0 := v) (v11 := v11) (v13 := v13) (v15 := v15) kC'
 have d14 := UD (v0 := v) (v11 := v11) (v13 := v13) (v15 := v15) (v18 := Aa 1 Lc.length (ints Lc)) (Mv h8)
 have d15 := UE (v0 := v) (v11 := v11) (v13 := v13) (v15 := v15) (v18 := Aa 1 Lc.length (ints Lc)) (v20 := y8 wK) (g := h8)
 obtain ⟨h9, eh9⟩ : ∃ g, g = h8.alloc (zm 19 [.int .i64 0]) := ⟨_, rfl⟩
 rw [← eh9] at d15
 have gR9 : h9.get h8.next = some (ints (List.replicate 19 0)) := by rw [eh9, wM rfl, zN]
 have h8n : h8.get h8.next = none := by
  cases e : h8.get h8.next with
  | none => rfl
  | some c => have := h8.lt _ _ e; omega
 have x9 : Ext h8 h9 := by rw [eh9]; exact (Ext.refl _).alloc _
 have fl8' : h8.floor = h.next := by rw [fl8, fl7]
 have nx8' : h6.next + 1 = h8.next := by rw [nx8, eh7]; simp
 have nx6' : h.next + 2 ≤ h6.next := by omega
 obtain ⟨h10, L10, gR10, fl10, nx10, k10⟩ := IF (a0 := v) (a1 := v11) (a2 := v13) (a3 := v15) lLc h8.next h8 (Ho h8 Lc) (zM h8 wK) h8n 19 0 h9 (by omega) x9 gR9 (by rw [eh9]; simp; omega)
 have d16 := UF L10
 obtain ⟨R, hR⟩ : ∃ R, R = wK.map (fun o => Lc.getD o.toNat 0) := ⟨_, rfl⟩
 rw [← hR] at gR10
 have lR : R.length = 19 := by rw [hR]; rfl
 have rR : ∀ y ∈ R, 0 ≤ y ∧ y < 8 := by
  intro y hy
  rw [hR] at hy
  obtain ⟨o, ho, rfl⟩ := V6.1 hy
  have := Bq o ho
  have hol : o.toNat < Lc.length := by omega
  rw [VH, VL hol]
  exact hrow _ (V8 hol)
 have fl10' : h10.floor = h.next := by rw [fl10, eh9]; simp [fl8']
 have nx10' : h8.next + 1 = h10.next := by rw [nx10, eh9]; simp
 have rdR : Rd h10 (.aF h8.next 0 19 1) (ints R) := by
  have : wW 1 h10 (.aF h8.next 0 19 1) R.length (ints R) := by
   rw [lR]; exact ⟨by rw [qy, lR], .inr ⟨h8.next, rfl, gR10, by omega, by omega⟩⟩
  exact this.OA
 have kU := JM h10 _ R (by omega) rdR 4 (by omega)
 have uk := zh R 4 R.length
 rw [lR] at uk
 have d17 := UG (v0 := v) (v11 := v11) (v13 := v13) (v15 := v15) (v18 := Aa 1 Lc.length (ints Lc)) kU
 rw [lR] at d17
 obtain ⟨k, hk⟩ : ∃ k, k = xk R 4 19 := ⟨_, rfl⟩
 rw [← hk] at d17 uk
 have b10 : ∀ i, i < h6.next → h10.get i = h6.get i := fun i hi => by
  rw [k10 i (by omega), eh9, wR (by omega), k8 i (by omega), eh7, wR (by omega)]
 have x10 : Ext h.ez h10 := fun i c q => by
  have hi := h.ez.lt _ _ q
  simp at hi
  rw [b10 i (by omega), k6' i (by omega), x4 i c q]
 have rdv : zU 3 h10 v ts.length (xC ts) := rd0.mono x10
 have rda : Rd h10 v15 (ints all) := (ow6.mono (by omega) fun i hi => b10 i (ow6.lt hi).2).OA
 have d18 := UH (v0 := v) (v11 := v11) (v13 := v13) (v15 := v15) (v18 := Aa 1 Lc.length (ints Lc)) (v21 := .aF h8.next 0 19 1) (v23 := .int .i64 (k : Nat)) (g := h10)
 obtain ⟨h11, eh11⟩ : ∃ g, g = h10.alloc [.aQ, .int .i64 0] := ⟨_, rfl⟩
 rw [← eh11] at d18
 have wx0 : WX h10 h11 h10.next [] .aQ := by
  refine ⟨⟨by rw [eh11, wM rfl]; rfl, wW.nil, by rw [eh11]; simp; omega, by rw [eh11]; simp; omega, by simp [AV.id?], fun b hb => by simp [xy, yN] at hb⟩, by rw [eh11]; exact (Ext.refl _).alloc _, vR _, by rw [eh11]; simp, fun j hj => by simp [AV.id?] at hj⟩
 obtain ⟨h12, o12, p12, w12, f12⟩ := zR wx0.wr 5 3 (by omega) (by omega) (by simp)
 have wx1 := wx0.step w12 f12
 have l1 : ([] ++ w8 5 3).length = 3 := by simp [w8, xc]
 obtain ⟨h13, o13, p13, w13, f13⟩ := zR wx1.wr (la.length - 257) 5 (by omega) (by omega) (by omega)
 have wx2 := wx1.step w13 f13
 have l2 : ([] ++ w8 5 3 ++ w8 (la.length - 257) 5).length = 8 := by simp [w8, xc]
 obtain ⟨h14, o14, p14, w14, f14⟩ := zR wx2.wr (lb.length - 1) 5 (by omega) (by omega) (by omega)
 have wx3 := wx2.step w14 f14
 have l3 : ([] ++ w8 5 3 ++ w8 (la.length - 257) 5 ++ w8 (lb.length - 1) 5).length = 13 := by simp [w8, xc]
 obtain ⟨h15, o15, p15, w15, f15⟩ := zR wx3.wr (k - 4) 4 (by omega) (by omega) (by omega)
 have wx4 := wx3.step w15 f15
 have l4 : ([] ++ w8 5 3 ++ w8 (la.length - 257) 5 ++ w8 (lb.length - 1) 5 ++ w8 (k - 4) 4).length = 17 := by simp [w8, xc]
 have p12' : aS AP.A 33 [.aE h10.next 0, .int .i64 5, .int .i64 3] h11 = some (.int .i64 0, h12) := p12
 have p13' : aS AP.A 33 [.aE h10.next 0, .int .i64 ((la.length : Int) - 257), .int .i64 5] h12 = some (.int .i64 0, h13) := by
  have e : ((la.length - 257 : Nat) : Int) = (la.length : Int) - 257 := by omega
  rw [e] at p13; exact p13
 have p14' : aS AP.A 33 [.aE h10.next 0, .int .i64 ((lb.length : Int) - 1), .int .i64 5] h13 = some (.int .i64 0, h14) := by
  have e : ((lb.length - 1 : Nat) : Int) = (lb.length : Int) - 1 := by omega
  rw [e] at p14; exact p14
 have p15' : aS AP.A 33 [.aE h10.next 0, .int .i64 ((k : Int) - 4), .int .i64 4] h14 = some (.int .i64 0, h15) := by
  have e : ((k - 4 : Nat) : Int) = (k : Int) - 4 := by omega
  rw [e] at p15; exact p15
 have ln11 : jy false v11 = some (.int .i64 la.length) := by have := (r11 h10).len; rw [qy] at this; exact this
 have ln13 : jy false v13 = some (.int .i64 lb.length) := by have := (r13 h10).len; rw [qy] at this; exact this
 have d19 := UI (v0 := v) (v11 := v11) (v13 := v13) (v15 := v15) (v18 := Aa 1 Lc.length (ints Lc)) (v21 := .aF h8.next 0 19 1) (v23 := .int .i64 (k : Nat)) p12'
 have d20 := UJ (v0 := v) (v13 := v13) (v15 := v15) (v18 := Aa 1 Lc.length (ints Lc)) (v21 := .aF h8.next 0 19 1) (v23 := .int .i64 (k : Nat)) ln11 (by omega) p13'
 have d21 := UK (v0 := v) (v11 := v11) (v15 := v15) (v18 := Aa 1 Lc.length (ints Lc)) (v21 := .aF h8.next 0 19 1) (v23 := .int .i64 (k : Nat)) ln13 (by omega) p14'
 have d22 := UL (v0 := v) (v11 := v11) (v13 := v13) (v15 := v15) (v18 := Aa 1 Lc.length (ints Lc)) (v21 := .aF h8.next 0 19 1) (n := k) (by omega) p15'
 obtain ⟨e16, h16, o16, L16, q0, q11, q13, q15, q18, q24, wx5⟩ := Gs (a0 := v) (a1 := v11) (a2 := v13) (a3 := v15) (a4 := Aa 1 Lc.length (ints Lc)) h10 rdR k (by omega) lR h10.next rR k 0 _ h15 o15 (by omega) wx4 (by omega)
 have d23 := UM L16 q0 q11 q13 q15 q18 q24
 have k24 := CK h16 _ Lc (by omega) (by omega) (Ho h16 Lc) cc
 have d24 := UN (v0 := v) (v11 := v11) (v13 := v13) (v15 := v15) (v24 := .aE h10.next 0) k24
 have l5 : ([] ++ w8 5 3 ++ w8 (la.length - 257) 5 ++ w8 (lb.length - 1) 5 ++ w8 (k - 4) 4 ++ AZ ((R.drop 0).take k)).length ≤ 17 + 57 := by
  rw [wo, l4, Fb, Wj]; omega
 obtain ⟨e17, h17, o17, L17, q0', q11', q13', q24', wx6⟩ := E8 (a0 := v) (a1 := v11) (a2 := v13) h10 rda (A9 h10 Lc) (by omega) (by rw [AG]; exact lLc) h10.next hall Gk all [] _ h16 o16 rfl wx5 (by omega)
 have d25 := UO L17 q0' q11' q13' q24'
 have k26 := CK h17 v11 la (by omega) (by omega) (r11 h17) ca
 have k27 := CK h17 v13 lb (by omega) (by omega) (r13 h17) cb
 have d26 := UP (v0 := v) (v13 := v13) (v24 := .aE h10.next 0) k26
 have d27 := UQ (v0 := v) (v24 := .aE h10.next 0) (v29 := Em la) k27
 have l6 := HC Gk
 obtain ⟨h18, o18, k28, wx7⟩ := MZ (by omega) h10 rdv (A9 h10 la) (A9 h10 lb) Oy Ip h10.next _ h17 o17 wx6 (by rw [wo]; omega)
 have d28 := UR k28
 have k29 := Hw wx7.wr
 have d29 := US k29
 have eB : [] ++ w8 5 3 ++ w8 (la.length - 257) 5 ++ w8 (lb.length - 1) 5 ++ w8 (k - 4) 4 ++ AZ ((R.drop 0).take k) ++ Ad (wB Lc) all ++ (xW (wB la) (wB lb) ts ++ wN (wB la) 256) = xI ts la lb Lc := by
  unfold xI
  simp only [List.nil_append, VT, Wc, hk, hR, hal]
 rw [eB] at d29
 have k1 := Ok h.ez v ts (by omega) rd0
 rw [PX] at k1
 have d0 := Vk (v0 := v) (g := h.ez)
 have d1 := Vl k1
 refine u7 (fn := AP.f13) (h2 := h18) (e := [(2, .str (bytesOf (xy (xI ts la lb Lc)))), (3, .int .i64 0)]) rfl rfl rfl ?_ rfl rfl
 rw [Nx, sS, d0, tP, sS, d1, tP, sS, d2, tP, sS, d3, tP, sS, d4, tP, sS, d5, tP, sS, d6, tP, sS, d7, tP]
 rw [sS, d8, tP, sS, d9, tP, sS, d10, tP, sS, d11, tP, sS, d12, tP, sS, d13, tP, sS, d14, tP, sS, d15, tP, sS, d16, tP]
 rw [sS, d17, tP, sS, d18, tP, sS, d19, tP, sS, d20, tP, sS, d21, tP, sS, d22, tP, sS, d23, tP, sS, d24, tP, sS, d25, tP]
 rw [sS, d26, tP, sS, d27, tP, sS, d28, tP, d29]
theorem Oz (c : Int) : ∀ k : Nat, c * 2 ^ k < 3 ^ k → 0 ≤ c → ∀ m : Nat, c * 2 ^ (k + m) < 3 ^ (k + m)
 | k, h, hc, 0 => h
 | k, h, hc, m + 1 => by
   have ih := Oz c k h hc m
   rw [← vQ, Int.pow_succ, Int.pow_succ, ← Int.mul_assoc]
   have p : (0 : Int) ≤ c * 2 ^ (k + m) := Int.mul_nonneg hc (Int.pow_nonneg (by omega))
   omega
theorem G8 : ∀ (ds : List Int) (a m : Int), (∀ d ∈ ds, d ≤ m) → a ≤ m → AY ds a ≤ m
 | [], a, m, _, h => h
 | d :: ds, a, m, hd, h => by
   rw [AY]
   refine G8 ds _ m (fun x hx => hd x (by simp [hx])) ?_
   have := hd d (by simp)
   unfold xG; split <;> omega
theorem J7 : ∀ (ds : List Int) (a : Int), a ≤ AY ds a ∧ ∀ d ∈ ds, d ≤ AY ds a
 | [], a => ⟨Wl _, by simp⟩
 | d :: ds, a => by
   have ⟨h1, h2⟩ := J7 ds (xG a d)
   have : a ≤ xG a d ∧ d ≤ xG a d := by unfold xG; split <;> omega
   rw [AY]
   refine ⟨by omega, fun x hx => ?_⟩
   rcases wj.1 hx with q | q
   · subst q; omega
   · exact h2 x q
theorem Ir : ∀ ws : List Int, (∀ y ∈ ws, y = 1) → ws.sum = ws.length
 | [], _ => rfl
 | y :: ws, h => by
   have := Ir ws fun z hz => h z (by simp [hz])
   have := h y (by simp)
   rw [Wd, VK]; omega
theorem Hk : ∀ ws : List Int, (∀ y ∈ ws, 1 ≤ y) → (ws.length : Int) ≤ ws.sum
 | [], _ => by simp
 | y :: ws, h => by
   have := Hk ws fun z hz => h z (by simp [hz])
   have := h y (by simp)
   rw [Wd, VK]; omega
theorem Dl : ∀ ws : List Int, (∀ y ∈ ws, 1 ≤ y) → (xE ws).sum ≤ ws.sum ∧ ((∃ y ∈ ws, y ≠ 1) → (xE ws).sum < ws.sum)
 | [], _ => ⟨Wl _, by simp⟩
 | y :: ws, h => by
   obtain ⟨h1, h2⟩ := Dl ws fun z hz => h z (by simp [hz])
   have hy := h y (by simp)
   have e : (xE (y :: ws)).sum = BK y + (xE ws).sum := by simp [xE]
   rw [e, Wd]
   have a : BK y ≤ y := by unfold BK; omega
   refine ⟨by omega, fun ⟨z, hz, hz1⟩ => ?_⟩
   rcases wj.1 hz with q | q
   · subst q
     have : BK z < z := by unfold BK; omega
     omega
   · have := h2 ⟨z, q, hz1⟩; omega
theorem FZ {ws : List Int} (h : ∀ y ∈ ws, 1 ≤ y) : ∀ y ∈ xE ws, 1 ≤ y := by
 intro y hy
 obtain ⟨z, hz, rfl⟩ := V6.1 hy
 have := h z hz
 unfold BK; omega
theorem EX {ws : List Int} (h1 : 1 ≤ ws.length) (ho : ∀ y ∈ ws, y = 1) {c : Int} {k : Nat} (hc : (ws.length : Int) ≤ c) (hk : c * 2 ^ (k + 1) < 3 ^ (k + 1)) (hs : ws.length ≤ 288) : ∀ d ∈ wP ws, d ≤ k := by
 intro d hd
 have sm := Ir ws ho
 obtain ⟨_, _, _, _, hb, _⟩ := QR ws true h1 (fun y hy => by have := ho y hy; omega) (by omega) (fun _ => ho)
 have b := hb rfl d hd
 apply V9
 intro q
 obtain ⟨m, hm⟩ : ∃ m : Nat, d.toNat = k + 1 + m := ⟨d.toNat - (k + 1), by omega⟩
 rw [hm] at b
 have := Oz c (k + 1) hk (by omega) m
 have p : (0 : Int) < 2 ^ (k + 1 + m) := Int.pow_pos (by omega)
 have : ws.sum * 2 ^ (k + 1 + m) ≤ c * 2 ^ (k + 1 + m) := Int.mul_le_mul_of_nonneg_right (by omega) (by omega)
 omega
theorem Iq {ws : List Int} (hl : ws.length ≤ 288) (pos : ∀ y ∈ ws, 1 ≤ y) (hs : ws.sum < 1000000000000000) : Gj ws := by
 by_cases e : ws = []
 · exact .inl e
 · have h1 : 1 ≤ ws.length := List.length_pos_iff.2 e
   obtain ⟨a, b, c, _⟩ := QR ws false h1 pos hs (fun h => by cases h)
   exact .inr ⟨h1, hl, a, b, c⟩
theorem K9 {most : Int} (hm : 0 ≤ most) : ∀ (f : Nat) (ws : List Int), ws.sum ≤ f → (∀ y ∈ ws, 1 ≤ y) → ws.sum < 1000000000000000 → ((13 ≤ most ∧ ws.length ≤ 288) ∨ (7 ≤ most ∧ ws.length ≤ 19)) → ∃ K, yX most K ws := by
 intro f
 induction f with
 | zero =>
   intro ws hf pos hs hl
   have := Hk ws pos
   have : ws = [] := List.length_eq_zero_iff.1 (by omega)
   subst this
   exact ⟨0, .last (.inl rfl) hm⟩
 | succ f ih =>
   intro ws hf pos hs hl
   have o := Iq (by omega) pos hs
   by_cases c : AY (wP ws) 0 ≤ most
   · exact ⟨0, .last o c⟩
   · have hne : ws ≠ [] := fun e => by subst e; exact c hm
     have h1 : 1 ≤ ws.length := List.length_pos_iff.2 hne
     have ho : ∃ y ∈ ws, y ≠ 1 := by
      apply V9
      intro q
      have all1 : ∀ y ∈ ws, y = 1 := fun y hy => V9 fun r => q ⟨y, hy, r⟩
      rcases hl with ⟨a, b⟩ | ⟨a, b⟩
      · have := EX (c := 288) (k := 13) h1 all1 (by omega) (by decide) (by omega)
        exact c (G8 _ _ _ (fun d hd => by have := this d hd; omega) hm)
      · have := EX (c := 19) (k := 7) h1 all1 (by omega) (by decide) (by omega)
        exact c (G8 _ _ _ (fun d hd => by have := this d hd; omega) hm)
     have hh := (Dl ws pos).2 ho
     obtain ⟨K, r⟩ := ih (xE ws) (by omega) (FZ pos) (by omega) (by rw [zF]; exact hl)
     exact ⟨K + 1, .more o (by omega) hne r⟩
theorem zf : ∀ (S D O : List Int) (p : Nat), (∀ s ∈ S, s.toNat ≠ p) → (xi S D O)[p]? = O[p]?
 | [], D, O, p, h => by simp [xi]
 | s :: S, [], O, p, h => by simp [xi]
 | s :: S, d :: D, O, p, h => by
   rw [xi, zf S D _ p fun t ht => h t (by simp [ht]), VZ, if_neg (h s (by simp))]
theorem Bw : ∀ (S D O : List Int) (j : Nat) (s d : Int), (S.map Int.toNat).Nodup → S[j]? = some s → D[j]? = some d → s.toNat < O.length → (xi S D O)[s.toNat]? = some d
 | [], D, O, j, s, d, nd, h1, h2, h3 => by simp at h1
 | t :: S, [], O, j, s, d, nd, h1, h2, h3 => by simp at h2
 | t :: S, e :: D, O, 0, s, d, nd, h1, h2, h3 => by
   simp at h1 h2
   subst h1; subst h2
   rw [VR, List.nodup_cons] at nd
   rw [xi, zf S D _ _ fun u hu q => nd.1 (V6.2 ⟨u, hu, q⟩), VZ, if_pos rfl, if_pos h3]
 | t :: S, e :: D, O, j + 1, s, d, nd, h1, h2, h3 => by
   rw [VR, List.nodup_cons] at nd
   rw [xi]
   exact Bw S D _ j s d nd.2 (by simpa using h1) (by simpa using h2) (by rw [V0]; exact h3)
theorem IJ {S D O : List Int} {n : Nat} (hl : D.length = S.length) (nd : (S.map Int.toNat).Nodup) (hO : O.length = n) (hr : ∀ s ∈ S, s.toNat < n) (hz : ∀ p, p < n → (∀ s ∈ S, s.toNat ≠ p) → O[p]? = some 0) : xi S D O = xi S D (List.replicate n 0) := by
 apply List.ext_getElem?
 intro p
 by_cases hp : p < n
 · by_cases c : ∃ s ∈ S, s.toNat = p
   · obtain ⟨s, hs, rfl⟩ := c
     obtain ⟨j, hj, ej⟩ := List.mem_iff_getElem.1 hs
     have h1 : S[j]? = some s := by rw [VL hj, ej]
     have h2 : D[j]? = some (D[j]'(by omega)) := VL (by omega)
     rw [Bw S D O j s _ nd h1 h2 (by omega), Bw S D _ j s _ nd h1 h2 (by simpa using hp)]
   · have c' : ∀ s ∈ S, s.toNat ≠ p := fun s hs q => c ⟨s, hs, q⟩
     rw [zf _ _ _ _ c', zf _ _ _ _ c', hz p hp c', List.getElem?_replicate, if_pos hp]
 · rw [V5 (by rw [ya]; omega), V5 (by rw [ya]; simp; omega)]
theorem EO {most : Int} {S : List Int} {n : Nat} (nd : (S.map Int.toNat).Nodup) (hr : ∀ s ∈ S, s.toNat < n) : ∀ (K : Nat) (W O : List Int), yX most K W → W.length = S.length → (∀ y ∈ W, 1 ≤ y) → W.sum < 1000000000000000 → O.length = n → (∀ p, p < n → (∀ s ∈ S, s.toNat ≠ p) → O[p]? = some 0) →
 ∃ W', W'.length = S.length ∧ (∀ y ∈ W', 1 ≤ y) ∧ W'.sum < 1000000000000000 ∧ AY (wP W') 0 ≤ most ∧ BQ S K W O = xi S (wP W') (List.replicate n 0)
 | 0, W, O, r, hl, pos, hs, hO, hz => by
   cases r with
   | last o c => exact ⟨W, hl, pos, hs, c, IJ (by rw [A3, hl]) nd hO hr hz⟩
 | K + 1, W, O, r, hl, pos, hs, hO, hz => by
   cases r with
   | more o c hne r =>
     have := (Dl W pos).1
     exact EO nd hr K (xE W) _ r (by rw [zF, hl]) (FZ pos) (by omega) (by rw [ya, hO]) (fun p hp hq => by rw [zf _ _ _ _ hq]; exact hz p hp hq)
theorem Kl (f : Int → Nat) : ∀ (O : List Int) (i : Nat) (d : Int), i < O.length → ((O.set i d).map f).sum + f (O.getD i 0) = (O.map f).sum + f d
 | [], i, d, h => by simp at h
 | x :: O, 0, d, h => by simp; omega
 | x :: O, i + 1, d, h => by
   have := Kl f O i d (by simpa using h)
   simp only [List.set_cons_succ, VR, Wd, List.getD_cons_succ]; omega
theorem Fe (f : Int → Nat) : ∀ (S D O : List Int), D.length = S.length → (S.map Int.toNat).Nodup → (∀ s ∈ S, s.toNat < O.length) → ((xi S D O).map f).sum + (S.map fun s => f (O.getD s.toNat 0)).sum = (O.map f).sum + (D.map f).sum
 | [], D, O, hl, nd, hr => by
   have : D = [] := List.length_eq_zero_iff.1 (by simpa using hl)
   subst this
   simp [xi]
 | s :: S, [], O, hl, nd, hr => by simp at hl
 | s :: S, d :: D, O, hl, nd, hr => by
   rw [VR, List.nodup_cons] at nd
   have ih := Fe f S D (O.set s.toNat d) (by simpa using hl) nd.2 (fun t ht => by rw [V0]; exact hr t (by simp [ht]))
   have e : (S.map fun t => f ((O.set s.toNat d).getD t.toNat 0)) = S.map fun t => f (O.getD t.toNat 0) := We fun t ht => by
    rw [getD_set_ne (fun q => nd.1 (V6.2 ⟨t, ht, q.symm⟩))]
   rw [e] at ih
   have ss := Kl f O s.toNat d (hr s (by simp))
   simp only [xi, VR, Wd]
   omega
def f15 (n : Nat) (x : Int) : Nat := if 1 ≤ x ∧ x ≤ n then 2 ^ (n - x.toNat) else 0
theorem Ga : ∀ n, wL [] n = 2 ^ n
 | 0 => rfl
 | n + 1 => by
   have c : yL [] (n + 1) = 0 := JS _
   rw [wL, Ga n, c, Int.pow_succ]; omega
theorem F8 (n : Nat) : ∀ (q p : List Int), wL (p ++ q) n = wL p n - ((q.map (f15 n)).sum : Nat)
 | [], p => by simp
 | x :: q, p => by
   have e : p ++ x :: q = (p ++ [x]) ++ q := by simp
   rw [e, F8 n q (p ++ [x]), Cc, VR, Wd]
   unfold f15
   split
   · push_cast; omega
   · push_cast; omega
theorem Bm (l : List Int) (n : Nat) : wL l n = 2 ^ n - ((l.map (f15 n)).sum : Nat) := by
 have := F8 n l []
 rwa [List.nil_append, Ga] at this
theorem F9 (l : List Int) : ∀ n, wI l n + yL l n + wL l n = 2 ^ n
 | 0 => by simp [wI, wL, yL]
 | n + 1 => by
   have := F9 l n
   rw [wI, wL, Int.pow_succ]; omega
theorem Jx {l : List Int} {n : Nat} (h : 0 ≤ wL l n) : ∀ m, m ≤ n → 0 ≤ wL l m := by
 have : ∀ k m, m + k = n → 0 ≤ wL l m := by
  intro k
  induction k with
  | zero => intro m hm; have : m = n := by omega
            subst this; exact h
  | succ k ih =>
    intro m hm
    have := ih (m + 1) (by omega)
    rw [wL] at this
    omega
 exact fun m hm => this (n - m) m (by omega)
theorem HS {l : List Int} {s : Nat} (hs : s < l.length) {n : Nat} (hn : 1 ≤ n) (e : l.getD s 0 = (n : Int)) : yL (l.take s) n < yL l n := by
 have a := BH hs n hn
 rw [if_pos e] at a
 have : ∀ (p q : List Int), yL p n ≤ yL (p ++ q) n := fun p q => by
  unfold yL; split
  · exact vR _
  · rw [List.countP_append]; omega
 have b := this (l.take (s + 1)) (l.drop (s + 1))
 rw [List.take_append_drop] at b
 omega
theorem Hd {l : List Int} (hl : 0 ≤ wL l 15) (hr : ∀ y ∈ l, 0 ≤ y ∧ y < 16) {s : Nat} (hs : s < l.length) (h1 : 1 ≤ l.getD s 0) : DZ (wB l) s := by
 have hm : l.getD s 0 ∈ l := by rw [VH, VL hs]; exact V8 hs
 have r := hr _ hm
 obtain ⟨n, hn⟩ := VP r.1
 have n1 : 1 ≤ n := by omega
 have lt := HS hs n1 hn
 have f := F9 l n
 have m := Jx hl n (by omega)
 have fb := (show 0 ≤ wI l n from by
  have : ∀ n, 0 ≤ wI l n := by
   intro n
   induction n with
   | zero => simp [wI]
   | succ n ih => rw [wI]; omega
  exact this n)
 have tn : ((n : Nat) : Int).toNat = n := by omega
 refine ⟨n, (wI l n + yL (l.take s) n).toNat, ?_, n1, by omega, ?_⟩
 · unfold wB
   rw [v7, Wn hs, VO]
   unfold BI
   rw [if_pos h1, hn, tn]
   congr 2
   omega
 · have e2 : ((2 ^ n : Nat) : Int) = (2 : Int) ^ n := by push_cast; rfl
   omega
theorem Gy : ∀ (C : List Int) (i : Nat), ((xA i C).map Int.toNat).Nodup
 | [], i => by simp [xA]
 | c :: r, i => by
   have ih := Gy r (i + 1)
   rw [xA]
   split
   · rw [VR, List.nodup_cons]
     refine ⟨fun h => ?_, ih⟩
     obtain ⟨s, hs, e⟩ := V6.1 h
     have := zg (i + 1) r s hs
     omega
   · exact ih
theorem Ct : ∀ (C : List Int) (i p : Nat), 0 < C.getD p 0 → ((i + p : Nat) : Int) ∈ xA i C
 | [], i, p, h => by simp at h
 | c :: r, i, 0, h => by
   rw [xA, if_pos (by simpa using h)]
   simp
 | c :: r, i, p + 1, h => by
   have ih := Ct r (i + 1) p (by simpa using h)
   have e : i + 1 + p = i + (p + 1) := by omega
   rw [e] at ih
   rw [xA]
   split
   · exact List.mem_cons_of_mem _ ih
   · exact ih
theorem Fm : ∀ (C : List Int) (i : Nat), (∀ y ∈ C, ¬ 0 < y) → xA i C = []
 | [], i, h => rfl
 | c :: r, i, h => by
   rw [xA, if_neg (h c (by simp))]
   exact Fm r (i + 1) fun y hy => h y (by simp [hy])
theorem IA {S : List Int} {s : Int} (h : s ∈ S) : s ∈ z9 S := by
 unfold z9
 split
 · rename_i h1
   match S, h1 with
   | [t], _ =>
     simp at h; subst h
     split <;> simp
 · exact h
theorem NW {S : List Int} (h : (S.map Int.toNat).Nodup) (hp : ∀ s ∈ S, 0 ≤ s) : ((z9 S).map Int.toNat).Nodup := by
 unfold z9
 split
 · rename_i h1
   match S, h1 with
   | [t], _ =>
     have := hp t (by simp)
     split
     · rename_i c
       simp at c ⊢
       omega
     · rename_i c
       simp at c ⊢
       omega
 · exact h
theorem Mx {S : List Int} (h : S ≠ []) : 2 ≤ (z9 S).length := by
 unfold z9
 split
 · rename_i h1
   split
   · simp
   · simp [h1]
 · rename_i h1
   have := List.length_pos_iff.2 h
   omega
theorem My {S W : List Int} (hl : W.length = S.length) (h : ∀ y ∈ W, 1 ≤ y) : ∀ y ∈ BG S W, 1 ≤ y := by
 intro s hs
 unfold BG at hs
 split at hs
 · rename_i h1
   rw [← hl] at h1
   match W, h1 with
   | [t], _ =>
     have := h t (by simp)
     split at hs
     · simp at hs; omega
     · simp at hs; omega
 · exact h s hs
theorem IQ {α : Type} : ∀ l : List α, (l.map fun _ => (0 : Nat)).sum = 0
 | [] => rfl
 | x :: l => by rw [VR, Wd, IQ l]
theorem KX {C : List Int} (h : ∀ y ∈ C, ¬ 0 < y) : xj C = [] := by
 unfold xj; rw [Fm C 0 h]; rfl
theorem Fj : ∀ (l : List Int) (b : Int), (∀ y ∈ l, y ≤ b) → l.sum ≤ b * l.length
 | [], b, _ => by simp
 | y :: l, b, h => by
   have := Fj l b fun z hz => h z (by simp [hz])
   have hy := h y (by simp)
   rw [Wd, VK]
   have e : b * ((l.length + 1 : Nat) : Int) = b * l.length + b := by rw [Int.natCast_add, Int.mul_add]; simp
   omega
theorem Ij {C : List Int} (hC : ∀ y ∈ C, 0 ≤ y ∧ y ≤ 2147483647) (h2 : 2 ≤ C.length) (hl : C.length ≤ 288) : (∀ y ∈ xQ C, 1 ≤ y) ∧ (xQ C).sum < 1000000000000000 := by
 have pos : ∀ y ∈ xQ C, 1 ≤ y := My (yP 0 C).symm fun y hy => by have := (AA C y hy).2; omega
 refine ⟨pos, ?_⟩
 have up : ∀ y ∈ xQ C, y ≤ 2147483647 := by
  intro y hy
  have w : ∀ z ∈ zS C, z ≤ 2147483647 := fun z hz => (hC z (AA C z hz).1).2
  unfold xQ BG at hy
  split at hy
  · rename_i h1
    rw [yP] at h1
    match hW : zS C, h1 with
    | [t], _ =>
      rw [hW] at w hy
      have := w t (by simp)
      split at hy
      · simp at hy; omega
      · simp at hy; omega
  · exact w y hy
 have := Fj (xQ C) 2147483647 up
 have l1 : (xQ C).length = (xj C).length := G7 C
 have l2 := Ap h2
 omega
theorem A6 {C : List Int} {most : Int} (hC : ∀ y ∈ C, 0 ≤ y ∧ y ≤ 2147483647) (h2 : 2 ≤ C.length) (hm : 0 ≤ most) (hl : (13 ≤ most ∧ C.length ≤ 288) ∨ (7 ≤ most ∧ C.length ≤ 19)) : ∃ K, yX most K (xQ C) := by
 obtain ⟨a, b⟩ := Ij hC h2 (by omega)
 have l1 : (xQ C).length = (xj C).length := G7 C
 have l2 := Ap h2
 exact K9 hm (xQ C).sum.toNat (xQ C) (by have := Hk _ a; omega) a b (by omega)
theorem Bp {C : List Int} {most : Int} {K : Nat} (hC : ∀ y ∈ C, 0 ≤ y ∧ y ≤ 2147483647) (h2 : 2 ≤ C.length) (hl : C.length ≤ 288) (hm : 0 ≤ most ∧ most ≤ 15) (r : yX most K (xQ C)) :
 (xF C K).length = C.length ∧ (∀ y ∈ xF C K, 0 ≤ y ∧ y ≤ most) ∧ (∀ p, 0 < C.getD p 0 → 1 ≤ (xF C K).getD p 0) ∧ ((∃ y ∈ C, 0 < y) → wL (xF C K) 15 = 0) ∧ ((∀ y ∈ C, ¬ 0 < y) → xF C K = List.replicate C.length 0) := by
 obtain ⟨a, b⟩ := Ij hC h2 hl
 have nd : ((xj C).map Int.toNat).Nodup := NW (Gy C 0) fun s hs => by have := zg 0 C s hs; omega
 have rg : ∀ s ∈ xj C, 0 ≤ s ∧ s < C.length := IB h2 fun s hs => by have := zg 0 C s hs; omega
 have rg' : ∀ s ∈ xj C, s.toNat < C.length := fun s hs => by have := rg s hs; omega
 obtain ⟨W', w1, w2, w3, w4, w5⟩ := EO nd rg' K (xQ C) (List.replicate C.length 0) r (G7 C) a b (by simp) (fun p hp _ => by rw [List.getElem?_replicate, if_pos hp])
 have e : xF C K = xi (xj C) (wP W') (List.replicate C.length 0) := w5
 have dl : (wP W').length = (xj C).length := by rw [A3, w1]
 have dm : ∀ d ∈ wP W', d ≤ most := fun d hd => by have := (J7 (wP W') 0).2 d hd; omega
 have o := Iq (ws := W') (by have := Ap h2; omega) w2 w3
 have d0 := DF o
 have gin : ∀ (j : Nat) (s d : Int), (xj C)[j]? = some s → (wP W')[j]? = some d → (xF C K)[s.toNat]? = some d := fun j s d h1 h2 => by
  rw [e]; exact Bw _ _ _ j s d nd h1 h2 (by simpa using rg' s (vV h1))
 have gout : ∀ p : Nat, (∀ s ∈ xj C, s.toNat ≠ p) → (xF C K)[p]? = (List.replicate C.length (0 : Int))[p]? := fun p hp => by rw [e, zf _ _ _ _ hp]
 have hu : xj C ≠ [] → 2 ≤ (xj C).length := fun hne => by
  refine Mx fun q => hne ?_
  unfold xj; rw [q]; rfl
 have h1w : xj C ≠ [] → _ := fun hne => QR W' false (by have := hu hne; omega) w2 w3 (fun h => by cases h)
 refine ⟨Bn C K, ?_, ?_, ?_, ?_⟩
 · intro y hy
   obtain ⟨p, hp⟩ := wc.1 hy
   by_cases c : ∃ s ∈ xj C, s.toNat = p
   · obtain ⟨s, hs, rfl⟩ := c
     obtain ⟨j, hj⟩ := wc.1 hs
     have jl := (vN.1 hj).1
     have hd : (wP W')[j]? = some ((wP W')[j]'(by omega)) := VL (by omega)
     rw [gin j s _ hj hd] at hp
     obtain rfl := vG hp
     have m := V8 (l := wP W') (n := j) (by omega)
     exact ⟨(d0 _ m).1, dm _ m⟩
   · rw [gout p fun s hs q => c ⟨s, hs, q⟩, List.getElem?_replicate] at hp
     split at hp
     · obtain rfl := vG hp; omega
     · cases hp
 · intro p hp
   have sm := Ct C 0 p hp
   rw [vW] at sm
   have hs : (p : Int) ∈ xj C := IA sm
   obtain ⟨j, hj⟩ := wc.1 hs
   have jl := (vN.1 hj).1
   have hd : (wP W')[j]? = some ((wP W')[j]'(by omega)) := VL (by omega)
   have g := gin j _ _ hj hd
   have tp : ((p : Nat) : Int).toNat = p := by omega
   rw [tp] at g
   rw [VH, g]
   have hne : xj C ≠ [] := fun q => by rw [q] at hs; simp at hs
   exact (h1w hne).2.2.2.2.2 (by have := hu hne; omega) _ (V8 _)
 · rintro ⟨y, hy, hpos⟩
   obtain ⟨p, hp⟩ := wc.1 hy
   have sm := Ct C 0 p (by rw [VH, hp]; exact hpos)
   have hs : ((0 + p : Nat) : Int) ∈ xj C := IA sm
   have hne : xj C ≠ [] := fun q => by rw [q] at hs; simp at hs
   have H := h1w hne
   have kr := H.2.2.2.1 15 (fun d hd => by have := dm d hd; omega)
   have one := H.2.2.2.2.2 (by have := hu hne; omega)
   have ss := Fe (f15 15) (xj C) (wP W') (List.replicate C.length 0) dl nd (fun s hs => by simpa using rg' s hs)
   rw [← e] at ss
   have z1 : ((xj C).map fun s => f15 15 ((List.replicate C.length (0 : Int)).getD s.toNat 0)).sum = 0 := by
    have : (xj C).map (fun s => f15 15 ((List.replicate C.length (0 : Int)).getD s.toNat 0)) = (xj C).map fun _ => 0 := We fun s hs => by
     rw [Bv (rg' s hs)]; rfl
    rw [this, IQ]
   have z2 : ((List.replicate C.length (0 : Int)).map (f15 15)).sum = 0 := by
    rw [List.map_replicate]
    have : f15 15 0 = 0 := rfl
    rw [this]; simp
   have z3 : (wP W').map (f15 15) = (wP W').map fun d => 2 ^ (15 - d.toNat) := We fun d hd => by
    unfold f15
    rw [if_pos ⟨one d hd, by have := dm d hd; omega⟩]
   rw [z1, z2, z3, kr] at ss
   rw [Bm, show ((xF C K).map (f15 15)).sum = 2 ^ 15 by omega]
   rfl
 · intro h
   rw [e, KX h]
   simp [xi]
theorem AM (l : List Int) (k : Nat) : ∀ n p, xk l k n ≤ p → p < n → ¬ 0 < l.getD p 0
 | 0, p, h1, h2 => by omega
 | n + 1, p, h1, h2 => by
   rw [xk] at h1
   split at h1
   · omega
   · split at h1
     · omega
     · by_cases e : p = n
       · subst e; assumption
       · exact AM l k n p h1 (by omega)
theorem JZ {l : List Int} (hr : ∀ y ∈ l, 0 ≤ y) (k n : Nat) : wL (CP l k) n = wL l n := by
 have e : l = CP l k ++ l.drop (xk l k l.length) := (List.take_append_drop _ _).symm
 have z : ((l.drop (xk l k l.length)).map (f15 n)).sum = 0 := by
  have : ∀ q : List Int, (∀ y ∈ q, y = 0) → (q.map (f15 n)).sum = 0 := by
   intro q
   induction q with
   | nil => intro _; rfl
   | cons x q ih =>
     intro h
     rw [VR, Wd, ih fun y hy => h y (by simp [hy]), h x (by simp)]
     unfold f15; simp
  refine this _ fun y hy => ?_
  obtain ⟨j, hj⟩ := wc.1 hy
  rw [v9] at hj
  have hl := (vN.1 hj).1
  have := AM l k l.length (xk l k l.length + j) (by omega) hl
  rw [VH, hj] at this
  have := hr y (List.mem_of_mem_drop hy)
  simp at *
  omega
 rw [Bm, Bm]
 have : (l.map (f15 n)).sum = ((CP l k).map (f15 n)).sum := by
  conv => lhs; rw [e]
  rw [List.map_append, List.sum_append, z, Nat.add_zero]
 rw [this]
theorem Nw {l : List Int} (k : Nat) {p : Nat} (h : 0 < l.getD p 0) : p < (CP l k).length ∧ (CP l k).getD p 0 = l.getD p 0 := by
 have hp : p < l.length := by
  apply V9
  intro c
  rw [VH, V5 (by omega)] at h
  simp at h
 have : p < xk l k l.length := by
  apply V9
  intro c
  exact AM l k l.length p (by omega) hp h
 unfold CP
 refine ⟨by rw [Wj]; omega, ?_⟩
 rw [VH, wm, if_pos this, ← VH]
theorem Af {l : List Int} (h1 : 1 ≤ l.length) (h2 : l.length ≤ 288) (hr : ∀ y ∈ l, 0 ≤ y ∧ y < 16) (h : 0 ≤ wL l 15) : wS l = if wL l 15 = 0 then 0 else 302 := by
 have hm : Cm l = true := by
  unfold Cm
  have : (ints l).any AQ = false := by
   rw [List.any_eq_false]
   intro x hx
   obtain ⟨y, hy, rfl⟩ := V6.1 hx
   have := hr y hy
   simp [AQ, I]; omega
  rw [this]; simp; omega
 unfold wS
 rw [if_neg (by rw [hm]; simp), if_neg (by omega)]
 split
 · rw [if_neg (by omega)]
 · rw [if_pos (by omega)]
theorem IG (s : ByteArray) (i j : Nat) : ∀ f k, (∀ m, m < k → yR s (i + m) = yR s (j + m)) → ∀ m, m < zO s i j f k → yR s (i + m) = yR s (j + m)
 | 0, k, h => by simpa [zO] using h
 | f + 1, k, h => by
   unfold zO
   split
   · rename_i q
     refine IG s i j f (k + 1) fun m hm => ?_
     by_cases e : m = k
     · subst e; exact q.2.2
     · exact h m (by omega)
   · exact h
theorem Ef (s : ByteArray) (i : Nat) (hi : i ≤ s.size) : ∀ (n : Nat) (b : Nat × Nat), n ≤ i → (b.1 = 0 ∨ (b.1 ≤ 258 ∧ 1 ≤ b.2 ∧ b.2 ≤ i ∧ i + b.1 ≤ s.size ∧ ∀ m, m < b.1 → yR s (i + m) = yR s (i - b.2 + m))) →
 ((yk s i n b).1 = 0 ∨ ((yk s i n b).1 ≤ 258 ∧ 1 ≤ (yk s i n b).2 ∧ (yk s i n b).2 ≤ i ∧ i + (yk s i n b).1 ≤ s.size ∧ ∀ m, m < (yk s i n b).1 → yR s (i + m) = yR s (i - (yk s i n b).2 + m)))
 | 0, b, hn, h => h
 | n + 1, b, hn, h => by
   unfold yk
   refine Ef s i hi n _ (by omega) ?_
   split
   · right
     refine ⟨Kg s i n, by show 1 ≤ i - n; omega, by show i - n ≤ i; omega, Gu s i n hi, fun m hm => ?_⟩
     have := IG s i n 258 0 (fun m hm => by omega) m hm
     have e : i - (i - n) = n := by omega
     show yR s (i + m) = yR s (i - (i - n) + m)
     rw [e]; exact this
   · exact h
def preB (s : ByteArray) (i : Nat) : List Nat := (List.range i).map (yR s)
theorem yx (s : ByteArray) (i : Nat) : (preB s i).length = i := by simp [preB]
theorem Gm (s : ByteArray) (i : Nat) : preB s (i + 1) = preB s i ++ [yR s i] := by simp [preB, List.range_succ]
theorem IC (s : ByteArray) {i j : Nat} (h : j < i) : (preB s i).getD j 0 = yR s j := by
 rw [VH, preB, v7, Wn h]; rfl
theorem JY (s : ByteArray) {d : Nat} (hd : 1 ≤ d) : ∀ (n i : Nat), d ≤ i → (∀ m, m < n → yR s (i + m) = yR s (i - d + m)) → I8 d n (preB s i) = preB s (i + n)
 | 0, i, h, _ => rfl
 | n + 1, i, h, hm => by
   have e0 := hm 0 (by omega)
   simp only [Nat.add_zero] at e0
   rw [I8, yx, IC s (by omega), ← e0, ← Gm, JY s hd n (i + 1) (by omega) fun m h2 => by
    have := hm (m + 1) (by omega)
    have a1 : i + (m + 1) = i + 1 + m := by omega
    have a2 : i - d + (m + 1) = i + 1 - d + m := by omega
    rw [a1, a2] at this; exact this]
   congr 1; omega
theorem JI (s : ByteArray) {i : Nat} (hi : i < s.size) : ((xV s i).1.len = 0 ∧ (xV s i).1.lit = yR s i ∧ (xV s i).1.xa = 0 ∧ (xV s i).2 = i + 1) ∨
 (∃ L D : Nat, (xV s i).1.len = L ∧ (xV s i).1.xa = D ∧ (xV s i).1.lit = 0 ∧ 3 ≤ L ∧ L ≤ 258 ∧ 1 ≤ D ∧ D ≤ i ∧ (xV s i).2 = i + L ∧ i + L ≤ s.size ∧ ∀ m, m < L → yR s (i + m) = yR s (i - D + m)) := by
 unfold xV
 split
 · exact .inl ⟨rfl, rfl, rfl, rfl⟩
 · rename_i c
   right
   rcases Ef s i (by omega) i (0, 0) (vR _) (.inl rfl) with h | ⟨h1, h2, h3, h4, h5⟩
   · omega
   · exact ⟨_, _, rfl, rfl, rfl, by omega, h1, h2, h3, rfl, h4, h5⟩
theorem Ay (s : ByteArray) (hs : s.size ≤ 300) : ∀ (f i : Nat), s.size - i ≤ f → i ≤ s.size → (Cu s f i).length ≤ s.size - i ∧ (∀ t ∈ Cu s f i, Bb t) ∧ w9 i (Cu s f i) = true ∧ zy (Cu s f i) (preB s i) = preB s s.size
 | 0, i, hf, hi => by
   have : i = s.size := by omega
   subst this
   simp [Cu, w9, zy]
 | f + 1, i, hf, hi => by
   rw [Cu]
   split
   · rename_i c
     have lt := I4 s i
     have le := I3 s i c
     obtain ⟨i1, i2, i3, i4⟩ := Ay s hs f (xV s i).2 (by omega) le
     have sp := JI s c
     refine ⟨by rw [VK]; omega, ?_, ?_, ?_⟩
     · intro t ht
       rcases wj.1 ht with q | q
       · subst q
         rcases sp with ⟨a, b, _, _⟩ | ⟨L, D, a, b, _, c1, c2, c3, c4, _, _, _⟩
         · have := zZ s i
           exact .inl ⟨a, by omega, by omega⟩
         · exact .inr ⟨by omega, by omega, by omega, by omega⟩
       · exact i2 t q
     · rw [w9]
       rcases sp with ⟨a, b, c0, d⟩ | ⟨L, D, a, b, c0, c1, c2, c3, c4, d, e, _⟩
       · have hb := zZ s i
         have st : yc (i : Int) (xV s i).1 = some ((i : Int) + 1) := by
          unfold yc
          rw [if_pos a, if_neg (by omega)]
         rw [st]
         simp only
         rw [if_neg (by omega)]
         have e : (((xV s i).2 : Nat) : Int) = (i : Int) + 1 := by omega
         rw [← e]; exact i3
       · have st : yc (i : Int) (xV s i).1 = some ((i : Int) + L) := by
          unfold yc
          rw [if_neg (by omega), if_neg (by omega), a]
         rw [st]
         simp only
         rw [if_neg (by omega)]
         have e' : (((xV s i).2 : Nat) : Int) = (i : Int) + L := by omega
         rw [← e']; exact i3
     · rw [zy]
       rcases sp with ⟨a, b, c0, d⟩ | ⟨L, D, a, b, c0, c1, c2, c3, c4, d, e, g⟩
       · have : xm (preB s i) (xV s i).1 = preB s (xV s i).2 := by
          unfold xm
          rw [if_pos a, b, d, Gm]; rfl
         rw [this]; exact i4
       · have : xm (preB s i) (xV s i).1 = preB s (xV s i).2 := by
          unfold xm
          rw [if_neg (by omega), a, b, d]
          exact JY s c3 L i c4 g
         rw [this]; exact i4
   · have : i = s.size := by omega
     subst this
     simp [w9, zy]
theorem EB (s : ByteArray) (hs : s.size ≤ 300) : KO (tokens s) = true := by
 obtain ⟨_, _, h3, h4⟩ := Ay s hs s.size 0 (by omega) (by omega)
 unfold KO Bg tokens
 have h3' : w9 0 (Cu s s.size 0) = true := h3
 rw [if_pos h3']
 have : zy (Cu s s.size 0) [] = preB s s.size := h4
 rw [this]
 simp only [xH, yx]
 simpa using hs
theorem EF (l : List Int) (i p : Nat) : l.getD p 0 ≤ (yW l i).getD p 0 := by
 unfold yW
 by_cases e : i = p
 · subst e
   by_cases h : i < l.length
   · rw [VH (l := l.set i _), VZ, if_pos rfl, if_pos h]
     show l.getD i 0 ≤ l.getD i 0 + 1
     omega
   · rw [List.set_eq_of_length_le (by omega)]; exact Wl _
 · rw [getD_set_ne e]; exact Wl _
theorem CU {l : List Int} {i : Nat} (h : i < l.length) : (yW l i).getD i 0 = l.getD i 0 + 1 := by
 unfold yW
 rw [VH (l := l.set i _), VZ, if_pos rfl, if_pos h]; rfl
theorem CC : ∀ (ts : List Tok) (A : List Int) (p : Nat), A.getD p 0 ≤ (AE ts A).getD p 0
 | [], A, p => Wl _
 | t :: r, A, p => by
   rw [AE]
   refine Int.le_trans ?_ (CC r _ p)
   split <;> exact EF _ _ _
theorem HP : ∀ (ts : List Tok) (A : List Int) (p : Nat), A.getD p 0 ≤ (AR ts A).getD p 0
 | [], A, p => Wl _
 | t :: r, A, p => by
   rw [AR]
   refine Int.le_trans ?_ (HP r _ p)
   split
   · exact Wl _
   · exact EF _ _ _
theorem HR : ∀ (ts : List Int) (A : List Int) (p : Nat), A.getD p 0 ≤ (yI ts A).getD p 0
 | [], A, p => Wl _
 | t :: r, A, p => by
   rw [yI]
   exact Int.le_trans (EF _ _ _) (HR r _ p)
theorem CY {A : List Int} (h : ∀ y ∈ A, 0 ≤ y) (p : Nat) : 0 ≤ A.getD p 0 := by
 rw [VH]
 cases e : A[p]? with
 | none => simp
 | some y => exact h y (vV e)
theorem JB {A : List Int} (h : ∀ y ∈ A, 0 ≤ y) (i : Nat) : ∀ y ∈ yW A i, 0 ≤ y := by
 intro y hy
 rcases Wf hy with q | q
 · exact h y q
 · have := CY h i; omega
theorem HO : ∀ (ts : List Tok) (A : List Int), (∀ y ∈ A, 0 ≤ y) → A.length = 286 → ∀ t ∈ ts, Bb t → (t.len = 0 → 1 ≤ (AE ts A).getD t.lit.toNat 0) ∧ (t.len ≠ 0 → 1 ≤ (AE ts A).getD (xS t.len.toNat) 0)
 | [], A, _, _, t, h, _ => by simp at h
 | u :: r, A, hA, hl, t, h, o => by
   rw [AE]
   rcases wj.1 h with q | q
   · subst q
     refine ⟨fun h0 => ?_, fun h0 => ?_⟩
     · rw [if_pos h0]
       refine Int.le_trans ?_ (CC r _ _)
       rcases o with ⟨_, b, c⟩ | ⟨a, _⟩
       · rw [CU (by omega)]
         have := CY hA t.lit.toNat; omega
       · omega
     · rw [if_neg h0]
       refine Int.le_trans ?_ (CC r _ _)
       rcases o with ⟨a, _⟩ | ⟨a, b, _⟩
       · exact absurd a h0
       · have := Aq (k := t.len.toNat) (by omega) (by omega)
         rw [CU (by omega)]
         have := CY hA (xS t.len.toNat); omega
   · exact HO r _ (by split <;> exact JB hA _) (by split <;> rw [zK, hl]) t q o
theorem HQ : ∀ (ts : List Tok) (A : List Int), (∀ y ∈ A, 0 ≤ y) → A.length = 30 → ∀ t ∈ ts, Bb t → t.len ≠ 0 → 1 ≤ (AR ts A).getD (yj t.xa.toNat) 0
 | [], A, _, _, t, h, _, _ => by simp at h
 | u :: r, A, hA, hl, t, h, o, h0 => by
   rw [AR]
   rcases wj.1 h with q | q
   · subst q
     rw [if_neg h0]
     refine Int.le_trans ?_ (HP r _ _)
     rcases o with ⟨a, _⟩ | ⟨a, b, c, d⟩
     · exact absurd a h0
     · have := Aj (k := t.xa.toNat) (by omega) (by omega)
       rw [CU (by omega)]
       have := CY hA (yj t.xa.toNat); omega
   · refine HQ r _ ?_ ?_ t q o h0
     · split
       · exact hA
       · exact JB hA _
     · split
       · exact hl
       · rw [zK, hl]
theorem Ek : ∀ (ds : List Int) (A : List Int), (∀ y ∈ A, 0 ≤ y) → A.length = 19 → ∀ y ∈ ds, 0 ≤ y ∧ y < 19 → 1 ≤ (yI ds A).getD y.toNat 0
 | [], A, _, _, t, h, _ => by simp at h
 | u :: r, A, hA, hl, t, h, o => by
   rw [yI]
   rcases wj.1 h with q | q
   · subst q
     refine Int.le_trans ?_ (HR r _ _)
     rw [CU (by omega)]
     have := CY hA t.toNat; omega
   · exact Ek r _ (JB hA _) (by rw [zK, hl]) t q o
theorem Bu (n : Nat) : ∀ y ∈ List.replicate n (0 : Int), 0 ≤ y ∧ y ≤ 0 := fun y hy => by have := V7 hy; omega
theorem Oi (ts : List Tok) (hn : ts.length ≤ 300) : (dA ts).length = 286 ∧ (∀ y ∈ dA ts, 0 ≤ y ∧ y ≤ 2147483647) ∧ 1 ≤ (dA ts).getD 256 0 := by
 have z : ∀ y ∈ (List.replicate 286 (0 : Int)).set 256 1, 0 ≤ y ∧ y ≤ 1 := fun y hy => by
  rcases Wf hy with q | q
  · have := V7 q; omega
  · omega
 refine ⟨by unfold dA; rw [CD, V0, VU], fun y hy => ?_, ?_⟩
 · have := CE ts _ 1 (by omega) z y hy; omega
 · have h : ((List.replicate 286 (0 : Int)).set 256 1).getD 256 0 = 1 := by decide
   have := CC ts ((List.replicate 286 0).set 256 1) 256
   rw [h] at this
   exact this
theorem Oj (ts : List Tok) (hn : ts.length ≤ 300) : (dB ts).length = 30 ∧ (∀ y ∈ dB ts, 0 ≤ y ∧ y ≤ 2147483647) := by
 refine ⟨by unfold dB; rw [CF, VU], fun y hy => ?_⟩
 have := CG ts _ 0 (by omega) (Bu 30) y hy; omega
theorem Mp {ts : List Tok} {la lb : List Int} {t : Tok} (o : Bb t) (hA : t.len = 0 → DZ (wB la) t.lit.toNat) (hL : t.len ≠ 0 → DZ (wB la) (xS t.len.toNat)) (hB : t.len ≠ 0 → DZ (wB lb) (yj t.xa.toNat)) : Lq (wB la) (wB lb) t := by
 rcases o with ⟨a, b, c⟩ | ⟨a, b, c, d⟩
 · exact .inl ⟨a, b, hA a⟩
 · exact .inr ⟨a, b, c, d, hL (by omega), hB (by omega)⟩
theorem Ey {C l : List Int} {K k m : Nat} (hC : ∀ y ∈ C, 0 ≤ y ∧ y ≤ 2147483647) (h2 : 2 ≤ C.length) (hl : C.length ≤ 288) (hk : k ≤ C.length) (hk1 : 1 ≤ k) (r : yX 15 K (xQ C)) (e : l = CP (xF C K) k) :
 (k ≤ l.length ∧ l.length ≤ C.length) ∧ (∀ y ∈ l, 0 ≤ y ∧ y < 16) ∧ (wS l = 0 ∨ wS l = 302) ∧ (∀ p, 0 < C.getD p 0 → DZ (wB l) p) ∧ 0 ≤ wL l 15 := by
 obtain ⟨f1, f2, f3, f4, f5⟩ := Bp hC h2 hl (by omega) r
 have ug := zh (xF C K) k (xF C K).length
 have ll : l.length = xk (xF C K) k (xF C K).length := by rw [e]; exact Ev _ (by omega)
 have hr : ∀ y ∈ l, 0 ≤ y ∧ y < 16 := fun y hy => by
  rw [e] at hy
  have := f2 y (List.mem_of_mem_take hy)
  omega
 have lc : wL l 15 = wL (xF C K) 15 := by rw [e]; exact JZ (fun y hy => (f2 y hy).1) k 15
 have l0 : 0 ≤ wL l 15 := by
  rw [lc]
  by_cases c : ∃ y ∈ C, 0 < y
  · rw [f4 c]; omega
  · rw [f5 fun y hy q => c ⟨y, hy, q⟩]
    rw [Bm, List.map_replicate]
    have : f15 15 0 = 0 := rfl
    rw [this]; simp
 have ck := Af (l := l) (by omega) (by omega) hr l0
 refine ⟨by omega, hr, ?_, fun p hp => ?_, l0⟩
 · rw [ck]; split
   · exact .inl rfl
   · exact .inr rfl
 · have g := f3 p hp
   obtain ⟨c1, c2⟩ := Nw k (show 0 < (xF C K).getD p 0 by omega)
   rw [← e] at c1 c2
   exact Hd l0 hr c1 (by omega)
theorem PS (s : ByteArray) (hs : s.size ≤ 300) : ∃ KA KB KC la lb Lc, Hy (tokens s) KA KB KC la lb Lc := by
 obtain ⟨t1, t2, t3, t4⟩ := Ay s hs s.size 0 (by omega) (by omega)
 change (tokens s).length ≤ s.size - 0 at t1
 change ∀ t ∈ tokens s, Bb t at t2
 have hn : (tokens s).length ≤ 300 := by omega
 have PX := EB s hs
 generalize tokens s = ts at *
 obtain ⟨a1, a2, a3⟩ := Oi ts hn
 obtain ⟨b1, b2⟩ := Oj ts hn
 obtain ⟨KA, rA⟩ := A6 (most := 15) a2 (by omega) (by omega) (.inl (by omega))
 obtain ⟨KB, rB⟩ := A6 (most := 15) b2 (by omega) (by omega) (.inl (by omega))
 obtain ⟨la, ea⟩ : ∃ l, l = CP (xF (dA ts) KA) 257 := ⟨_, rfl⟩
 obtain ⟨lb, eb⟩ : ∃ l, l = CP (xF (dB ts) KB) 1 := ⟨_, rfl⟩
 obtain ⟨x1, x2, x3, x4, x5⟩ := Ey (m := 0) a2 (by omega) (by omega) (by omega) (by omega) rA ea
 obtain ⟨y1, y2, y3, y4, y5⟩ := Ey (m := 0) b2 (by omega) (by omega) (by omega) (by omega) rB eb
 have hall : ∀ y ∈ la ++ lb, 0 ≤ y ∧ y < 19 := fun y hy => by
  rcases Wb.1 hy with q | q
  · have := x2 y q; omega
  · have := y2 y q; omega
 have c1 : (yI (la ++ lb) (List.replicate 19 0)).length = 19 := by rw [CH, VU]
 have c2 : ∀ y ∈ yI (la ++ lb) (List.replicate 19 0), 0 ≤ y ∧ y ≤ 2147483647 := fun y hy => by
  have := CI (la ++ lb) _ 0 (by omega) (Bu 19) y hy
  rw [wo] at this
  omega
 obtain ⟨KC, rC⟩ := A6 (most := 7) c2 (by omega) (by omega) (.inr (by omega))
 obtain ⟨f1, f2, f3, f4, f5⟩ := Bp c2 (by omega) (by omega) (by omega) rC
 have hit := Ek (la ++ lb) (List.replicate 19 0) (fun y hy => (Bu 19 y hy).1) (by rw [VU])
 have ex : ∃ y ∈ yI (la ++ lb) (List.replicate 19 0), 0 < y := by
  obtain ⟨z, hz⟩ := List.exists_mem_of_ne_nil (la ++ lb) (fun q => by
   have := Wh List.length q
   rw [wo, VN] at this
   omega)
  have h := hit z hz (hall z hz)
  refine ⟨_, ?_, show 0 < (yI (la ++ lb) (List.replicate 19 0)).getD z.toNat 0 by omega⟩
  have zl : z.toNat < (yI (la ++ lb) (List.replicate 19 0)).length := by have := hall z hz; omega
  rw [VH, VL zl]
  exact V8 zl
 have l0 := f4 ex
 have r16 : ∀ y ∈ xF (yI (la ++ lb) (List.replicate 19 0)) KC, 0 ≤ y ∧ y < 16 := fun y hy => by have := f2 y hy; omega
 refine ⟨KA, KB, KC, la, lb, _, ⟨PX, hn, t2, rA, rB, ea, eb, hall, rC, rfl, fun y hy => by have := f2 y hy; omega, x3, y3, ?_, ?_, ?_, ?_⟩⟩
 · have := Af (by omega) (by omega) r16 (by omega)
   rw [this, if_pos l0]; exact .inl rfl
 · intro y hy
   have h := hit y hy (hall y hy)
   have g := f3 y.toNat (by omega)
   exact Hd (by omega) r16 (by have := hall y hy; omega) g
 · intro t ht
   have o := t2 t ht
   have zA : ∀ y ∈ (List.replicate 286 (0 : Int)).set 256 1, 0 ≤ y := fun y hy => by
    rcases Wf hy with q | q
    · have := V7 q; omega
    · omega
   have hA := HO ts _ zA (by rw [V0, VU]) t ht o
   have hB := HQ ts (List.replicate 30 0) (fun y hy => (Bu 30 y hy).1) (by rw [VU]) t ht o
   exact Mp (ts := ts) o (fun h0 => x4 _ (by have := hA.1 h0; unfold dA; omega)) (fun h0 => x4 _ (by have := hA.2 h0; unfold dA; omega)) (fun h0 => y4 _ (by have := hB h0; unfold dB; omega))
 · exact x4 256 (by omega)
theorem K4 : ∀ bs : List Nat, (∀ b ∈ bs, b ≤ 1) → JN (xy bs) := by
 have : ∀ (l : List Nat) (i : Nat) (out : List Nat), (∀ b ∈ l, b ≤ 1) → JN out → JN (yN l i out) := by
  intro l
  induction l with
  | nil => intro i out _ h; exact h
  | cons x l ih => intro i out hl h; exact ih (i + 1) _ (fun b hb => hl b (by simp [hb])) (DN (hl x (by simp)) h)
 exact fun bs h => this bs 0 [] h fun _ q => by simp at q
theorem zd (v : Nat) : ∀ m, ∀ b ∈ zI v m, b ≤ 1
 | 0, b, h => by simp [zI] at h
 | m + 1, b, h => by
   rw [zI] at h
   rcases wj.1 h with q | q
   · omega
   · exact zd v m b q
theorem yZ (v : Nat) : ∀ m i, ∀ b ∈ E5 v i m, b ≤ 1
 | 0, i, b, h => by simp [E5] at h
 | m + 1, i, b, h => by
   rw [E5] at h
   rcases wj.1 h with q | q
   · omega
   · exact yZ v m (i + 1) b q
theorem DX (E D : List (Int × Int)) (t : Tok) : ∀ b ∈ xf E D t, b ≤ 1 := by
 intro b h
 unfold xf wN w8 at h
 split at h
 · exact zd _ _ b h
 · simp only [Wb] at h
   rcases h with h | h | h | h
   · exact zd _ _ b h
   · exact yZ _ _ _ b h
   · exact zd _ _ b h
   · exact yZ _ _ _ b h
theorem NA (ts : List Tok) (la lb Lc : List Int) : ∀ b ∈ xI ts la lb Lc, b ≤ 1 := by
 intro b h
 unfold xI at h
 simp only [Wb] at h
 rcases h with h | h | h | h | h | h | h | h
 · exact yZ _ _ _ b h
 · exact yZ _ _ _ b h
 · exact yZ _ _ _ b h
 · exact yZ _ _ _ b h
 · obtain ⟨y, _, hy⟩ := List.mem_flatMap.1 h
   exact yZ _ _ _ b hy
 · obtain ⟨y, _, hy⟩ := List.mem_flatMap.1 h
   exact zd _ _ b hy
 · obtain ⟨y, _, hy⟩ := List.mem_flatMap.1 h
   exact DX _ _ y b hy
 · exact zd _ _ b h
def AO (t : ByteArray) (p : Nat) (bs : List Nat) : Prop := p + bs.length ≤ 8 * t.size ∧ ∀ i, i < bs.length → ym t (p + i) = bs.getD i 0
theorem AO.app {t : ByteArray} {p : Nat} {a b : List Nat} (h : AO t p (a ++ b)) : AO t p a ∧ AO t (p + a.length) b := by
 obtain ⟨h1, h2⟩ := h
 rw [wo] at h1 h2
 refine ⟨⟨by omega, fun i hi => ?_⟩, ⟨by omega, fun i hi => ?_⟩⟩
 · have := h2 i (by omega)
   rw [this, VH, VH, Wa hi]
 · have := h2 (a.length + i) (by omega)
   rw [vQ, this, VH, VH, V3 (by omega), Nat.add_sub_cancel_left]
theorem FO (l : List Nat) (h : JN l) (i : Nat) : (((bytesOf l)[i]?).map (·.toNat)).getD 0 = l.getD i 0 := by
 have e : (bytesOf l)[i]? = (l.map UInt8.ofNat)[i]? := by
  show (l.map UInt8.ofNat).toArray[i]? = _
  simp
 rw [e, v7, VH]
 cases hx : l[i]? with
 | none => rfl
 | some x =>
   have := h x (vV hx)
   simp [UInt8.toNat_ofNat_of_lt' this]
theorem LI {x b k j : Nat} (hb : b ≤ 1) (hx : x < 2 ^ k) : (x ||| b * 2 ^ k) / 2 ^ j % 2 = if j = k then b else x / 2 ^ j % 2 := by
 rw [← Nat.toNat_testBit, ← Nat.toNat_testBit, Nat.testBit_or]
 have hb' : b = 0 ∨ b = 1 := by omega
 rcases hb' with rfl | rfl
 · rw [Nat.zero_mul, Nat.zero_testBit, Bool.or_false]
   split
   · rename_i e; subst e
     rw [Nat.testBit_lt_two_pow hx]; rfl
   · rfl
 · rw [Nat.one_mul, Nat.testBit_two_pow]
   split
   · rename_i e; subst e; simp
   · rename_i e
     have : decide (k = j) = false := by simp; omega
     rw [this, Bool.or_false]
structure Ku (out : List Nat) (bs : List Nat) : Prop where
 len : out.length = (bs.length + 7) / 8
 bit : ∀ j, j < bs.length → out.getD (j / 8) 0 / 2 ^ (j % 8) % 2 = bs.getD j 0
 top : bs.length % 8 ≠ 0 → out.getD (bs.length / 8) 0 < 2 ^ (bs.length % 8)
theorem Ku.step {out bs : List Nat} {b : Nat} (hb : b ≤ 1) (v : Ku out bs) : Ku (xZ out bs.length b) (bs ++ [b]) := by
 obtain ⟨len, bit, top⟩ := v
 obtain ⟨n, hn⟩ : ∃ n, n = bs.length := ⟨_, rfl⟩
 rw [← hn] at len bit top ⊢
 obtain ⟨o, ho⟩ : ∃ o, o = if n % 8 = 0 then out ++ [0] else out := ⟨_, rfl⟩
 have es : xZ out n b = o.set (n / 8) (o.getD (n / 8) 0 ||| b * 2 ^ (n % 8)) := by rw [ho]; rfl
 have ol : n / 8 < o.length := by
  rw [ho]; split
  · rw [wo, len]; simp; omega
  · rw [len]; omega
 have og : ∀ j, j < n → o.getD (j / 8) 0 = out.getD (j / 8) 0 := fun j hj => by
  rw [ho]; split
  · rw [VH, Wa (by omega), ← VH]
  · rfl
 have ox : o.getD (n / 8) 0 < 2 ^ (n % 8) := by
  by_cases c : n % 8 = 0
  · rw [ho, if_pos c, VH, V3 (by omega), c]
    have : n / 8 - out.length = 0 := by omega
    rw [this]; simp
  · rw [ho, if_neg c]; exact top c
 have gn : ∀ m, (xZ out n b).getD m 0 = if m = n / 8 then o.getD (n / 8) 0 ||| b * 2 ^ (n % 8) else o.getD m 0 := fun m => by
  rw [es]
  by_cases e : m = n / 8
  · subst e
    rw [if_pos rfl, VH, VZ, if_pos rfl, if_pos ol]; rfl
  · rw [if_neg e, getD_set_ne (fun q => e q.symm)]
 have bl : (bs ++ [b]).length = n + 1 := by simp [hn]
 refine ⟨by rw [bl, DO len], fun j hj => ?_, fun hc => ?_⟩
 · rw [bl] at hj
   rw [gn]
   by_cases e : j = n
   · subst e
     rw [if_pos rfl, LI hb ox, if_pos rfl, VH, hn, V3 (vR _)]; simp
   · have hjn : j < n := by omega
     have gb : (bs ++ [b]).getD j 0 = bs.getD j 0 := by rw [VH, Wa (by omega), ← VH]
     rw [gb, ← bit j hjn, ← og j hjn]
     split
     · rename_i e2
       rw [LI hb ox, if_neg (by omega), e2]
     · rfl
 · rw [bl] at hc ⊢
   have e8 : (n + 1) / 8 = n / 8 := by omega
   have m8 : (n + 1) % 8 = n % 8 + 1 := by omega
   rw [gn, e8, if_pos rfl, m8, Mu ox, Nat.pow_succ]
   have : b * 2 ^ (n % 8) ≤ 1 * 2 ^ (n % 8) := vU _ hb
   omega
theorem K5 : ∀ bs : List Nat, (∀ b ∈ bs, b ≤ 1) → Ku (xy bs) bs := by
 have key : ∀ (q p : List Nat) (out : List Nat), (∀ b ∈ q, b ≤ 1) → Ku out p → Ku (yN q p.length out) (p ++ q) := by
  intro q
  induction q with
  | nil => intro p out _ h; simpa [yN] using h
  | cons x q ih =>
    intro p out hb h
    have := ih (p ++ [x]) (xZ out p.length x) (fun b q => hb b (by simp [q])) (h.step (hb x (by simp)))
    rw [wo, VT] at this
    exact this
 intro bs hb
 exact key bs [] [] hb ⟨rfl, fun j hj => by simp at hj, fun h => by simp at h⟩
theorem FM (bs : List Nat) (hb : ∀ b ∈ bs, b ≤ 1) : AO (bytesOf (xy bs)) 0 bs := by
 have v := K5 bs hb
 have y := K4 bs hb
 refine ⟨by rw [xH, v.len]; omega, fun i hi => ?_⟩
 rw [vW]
 unfold ym
 rw [FO _ y]
 exact v.bit i hi
theorem Kq {t : ByteArray} {p : Nat} {v : Nat} : ∀ (n : Nat), (∀ i, i < n → ym t (p + i) = v / 2 ^ i % 2) → wC t p n = v % 2 ^ n
 | 0, h => by simp [wC, Nat.mod_one]
 | n + 1, h => by
   rw [wC, Kq n fun i hi => h i (by omega), h n (by omega), Nat.pow_succ, Nat.mod_mul, Nat.mul_comm]
theorem ID (v : Nat) : ∀ m i j, j < m → (E5 v i m).getD j 0 = v / 2 ^ (i + j) % 2
 | 0, i, j, h => by omega
 | m + 1, i, 0, h => rfl
 | m + 1, i, j + 1, h => by
   show (E5 v (i + 1) m).getD j 0 = _
   rw [ID v m (i + 1) j (by omega)]
   congr 3; omega
theorem AO.put {t : ByteArray} {p v n : Nat} (h : AO t p (w8 v n)) (hv : v < 2 ^ n) : wC t p n = v ∧ p + n ≤ 8 * t.size := by
 obtain ⟨h1, h2⟩ := h
 unfold w8 at h1 h2
 rw [xc] at h1 h2
 refine ⟨?_, h1⟩
 rw [Kq n fun i hi => by rw [h2 i hi, ID v n 0 i hi, vW], Nat.mod_eq_of_lt hv]
theorem I0 (n : Nat) : ∀ (q p : List Int), ∃ r, syms (p ++ q) n = syms p n ++ r
 | [], p => ⟨[], by simp⟩
 | x :: q, p => by
   obtain ⟨r, hr⟩ := I0 n q (p ++ [x])
   rw [VT, BA] at hr
   exact ⟨_, by rw [show p ++ x :: q = p ++ ([x] ++ q) by simp, hr, VT]⟩
theorem N3 {l : List Int} {s n : Nat} (hs : s < l.length) (hn : 1 ≤ n) (e : l.getD s 0 = (n : Int)) : (syms l n)[yL (l.take s) n]? = some (s : Int) := by
 have e2 : l.take (s + 1) = l.take s ++ [l.getD s 0] := by
  rw [List.take_add_one, VL hs, VH, VL hs]; rfl
 obtain ⟨r, hr⟩ := I0 n (l.drop (s + 1)) (l.take (s + 1))
 rw [List.take_append_drop, e2, BA, if_pos ⟨by omega, e⟩] at hr
 have ls := Fo (l.take s) n
 have lt : (l.take s).length = s := by rw [Wj]; omega
 rw [hr, VT, V3 (by omega), ls, Nat.sub_self, lt]; rfl
theorem DI (l : List Int) (n : Nat) : ∀ m, (wI l n + yL l n) * 2 ^ (m + 1) ≤ wI l (n + m + 1)
 | 0 => by rw [wI]; simp
 | m + 1 => by
   have ih := DI l n m
   rw [show n + (m + 1) + 1 = (n + m + 1) + 1 by omega, wI, Int.pow_succ, ← Int.mul_assoc]
   omega
theorem NF {l : List Int} {n m : Nat} {c : Nat} (hc : wI l (n + m + 1) ≤ (c : Int)) : zc l n ((c / 2 ^ (m + 1) : Nat) : Int) = none := by
 have g := DI l n m
 have h1 : wI l n + yL l n ≤ ((c / 2 ^ (m + 1) : Nat) : Int) := by
  have p2 : ((2 ^ (m + 1) : Nat) : Int) = (2 : Int) ^ (m + 1) := by push_cast; rfl
  have : (wI l n + yL l n) * ((2 ^ (m + 1) : Nat) : Int) ≤ (c : Int) := by rw [p2]; omega
  rw [Int.natCast_ediv]
  exact (Int.le_ediv_iff_mul_le (by have := Nat.pow_pos (n := m + 1) (show 0 < 2 by omega); omega)).2 this
 unfold zc
 split
 · rw [V5]
   rw [Fo]; omega
 · rfl
theorem IV {t : ByteArray} {l : List Int} {s N c : Nat} (hs : s < l.length) (hN : 1 ≤ N) (e : l.getD s 0 = (N : Int)) (hc : (c : Int) = wI l N + yL (l.take s) N) : ∀ (m n k p : Nat), n + m = N → m + 1 ≤ k → AO t p (zI c (m + 1)) → yD t l k n (c / 2 ^ (m + 1)) p = some ((s : Int), p + (m + 1))
 | m, n, 0, p, hn, hk, hb => by omega
 | m, n, k + 1, p, hn, hk, hb => by
   have hb1 : AO t p ([c / 2 ^ m % 2] ++ zI c m) := hb
   obtain ⟨b1, b2⟩ := hb1.app
   have v1 : wC t p 1 = c / 2 ^ m % 2 := by
    have := b1.2 0 (by simp)
    simp only [Nat.add_zero, List.getD_cons_zero] at this
    simp [wC, this]
   have pl : p + 1 ≤ 8 * t.size := b1.1
   have vv : c / 2 ^ (m + 1) * 2 + c / 2 ^ m % 2 = c / 2 ^ m := by
    rw [Nat.pow_succ, ← Nat.div_div_eq_div_mul]; omega
   rw [yD, if_pos pl, v1, vv]
   cases m with
   | zero =>
     have : zc l n ((c / 2 ^ 0 : Nat) : Int) = some (s : Int) := by
      have hn' : n = N := by omega
      subst hn'
      unfold zc
      rw [Nat.pow_zero, Nat.div_one, if_pos (by omega)]
      have : ((c : Int) - wI l n).toNat = yL (l.take s) n := by omega
      rw [this]
      exact N3 hs hN e
     rw [this]
   | succ m =>
     have : zc l n ((c / 2 ^ (m + 1) : Nat) : Int) = none := NF (by rw [show n + m + 1 = N by omega]; omega)
     rw [this]
     have r := IV hs hN e hc m (n + 1) k (p + 1) (by omega) (by omega) b2
     rw [r]
     simp only [vK, vM, true_and]; omega
theorem MQ {t : ByteArray} {l : List Int} (hl : 0 ≤ wL l 15) (hr : ∀ y ∈ l, 0 ≤ y ∧ y < 16) {s p : Nat} (hs : s < l.length) (h1 : 1 ≤ l.getD s 0) (hb : AO t p (wN (wB l) s)) : yD t l 15 1 0 p = some ((s : Int), p + (wN (wB l) s).length) := by
 obtain ⟨n, v, g, n1, n2, n3, n4⟩ := (Hd hl hr hs h1).bits
 have g2 : (wB l)[s]? = some (BI l s) := by
  unfold wB
  rw [v7, Wn hs]; rfl
 rw [g2] at g
 have g3 := vG g
 unfold BI at g3
 rw [if_pos h1] at g3
 have e1 : l.getD s 0 = (n : Int) := Wh Prod.fst g3
 have e2 : wI l (l.getD s 0).toNat + yL (l.take s) (l.getD s 0).toNat = (v : Int) := Wh Prod.snd g3
 have tn : ((n : Nat) : Int).toNat = n := by omega
 rw [e1, tn] at e2
 rw [n4] at hb ⊢
 rw [xw]
 obtain ⟨m, rfl⟩ : ∃ m, n = m + 1 := ⟨n - 1, by omega⟩
 have := IV hs n1 e1 e2.symm m 1 15 p (by omega) (by omega) hb
 rw [Nat.div_eq_of_lt n3] at this
 exact this
theorem Hc {l : List Int} {s : Nat} (o : DZ (wB l) s) : s < l.length ∧ 1 ≤ l.getD s 0 := by
 have hs : s < l.length := by have := o.lt; rwa [AG] at this
 obtain ⟨n, v, g, n1, _⟩ := o
 have g2 : (wB l)[s]? = some (BI l s) := by
  unfold wB
  rw [v7, Wn hs]; rfl
 rw [g2] at g
 have g3 := vG g
 unfold BI at g3
 refine ⟨hs, ?_⟩
 apply V9
 intro c
 rw [if_neg c] at g3
 have := Wh Prod.fst g3
 simp at this
 omega
theorem FP {most : Int} (d : Nat) : ∀ (n : Nat) (out : List Nat), (out.length : Int) + n ≤ most → yG most d n out = .ok (I8 d n out)
 | 0, out, h => rfl
 | n + 1, out, h => by
   rw [yG, if_neg (by omega), I8]
   exact FP d n _ (by simp; omega)
structure Db (l : List Int) : Prop where
 left : 0 ≤ wL l 15
 Us : ∀ y ∈ l, 0 ≤ y ∧ y < 16
theorem Db.sym {l : List Int} (b : Db l) {t : ByteArray} {s p : Nat} (o : DZ (wB l) s) (hb : AO t p (wN (wB l) s)) : yD t l 15 1 0 p = some ((s : Int), p + (wN (wB l) s).length) :=
 MQ b.left b.Us (Hc o).1 (Hc o).2 hb
theorem H0 (o : List Nat) (t : Tok) : o.length ≤ (xm o t).length := by
 unfold xm
 split
 · simp
 · rw [D5]; omega
theorem H2 : ∀ (ts : List Tok) (o : List Nat), o.length ≤ (zy ts o).length
 | [], o => vR _
 | t :: r, o => wk (H0 o t) (H2 r _)
theorem BW {t : ByteArray} {la lb : List Int} (bA : Db la) (bB : Db lb) (o256 : DZ (wB la) 256) {most : Int} : ∀ (ts : List Tok) (k p : Nat) (out : List Nat), AO t p (xW (wB la) (wB lb) ts ++ wN (wB la) 256) → (∀ x ∈ ts, Lq (wB la) (wB lb) x) → w9 out.length ts = true → ((zy ts out).length : Int) ≤ most → ts.length < k →
 xh t most la lb k p out = .ok (p + (xW (wB la) (wB lb) ts ++ wN (wB la) 256).length, zy ts out)
 | ts, 0, p, out, hb, ok, hm, hl, hk => by omega
 | [], k + 1, p, out, hb, ok, hm, hl, hk => by
   have hb' : AO t p (wN (wB la) 256) := hb
   have s := bA.sym o256 hb'
   rw [xh, s]
   simp only
   rw [if_neg (by omega), if_pos (by omega)]
   rfl
 | x :: r, k + 1, p, out, hb, ok, hm, hl, hk => by
   have ox := ok x (by simp)
   have e : xW (wB la) (wB lb) (x :: r) ++ wN (wB la) 256 = xf (wB la) (wB lb) x ++ (xW (wB la) (wB lb) r ++ wN (wB la) 256) := by
    unfold xW; rw [VQ, VT]
   rw [e] at hb ⊢
   obtain ⟨h1, h2⟩ := hb.app
   have gl := H2 r (xm out x)
   have hl' : ((zy r (xm out x)).length : Int) ≤ most := hl
   rw [w9] at hm
   cases hst : yc out.length x with
   | none => rw [hst] at hm; cases hm
   | some s' =>
     rw [hst] at hm
     simp only at hm
     by_cases k8 : 8192 < s'
     · rw [if_pos k8] at hm; cases hm
     rw [if_neg k8] at hm
     unfold yc at hst
     have rec_ : s' = ((xm out x).length : Nat) → xh t most la lb k (p + (xf (wB la) (wB lb) x).length) (xm out x) = .ok (p + (xf (wB la) (wB lb) x ++ (xW (wB la) (wB lb) r ++ wN (wB la) 256)).length, zy r (xm out x)) := fun es => by
      have := BW bA bB o256 r k _ (xm out x) h2 (fun y hy => ok y (by simp [hy])) (by rw [← es]; exact hm) hl' (by simp at hk; omega)
      rw [this, wo (as := xf _ _ _), vQ]
     rw [zy]
     by_cases c0 : x.len = 0
     · rw [if_pos c0] at hst
       by_cases c : x.lit < 0 ∨ 255 < x.lit ∨ x.xa ≠ 0
       · rw [if_pos c] at hst; cases hst
       rw [if_neg c] at hst
       obtain rfl := vG hst
       have tb : xf (wB la) (wB lb) x = wN (wB la) x.lit.toNat := by rw [xf, if_pos c0]
       rcases ox with ⟨_, q2, q3⟩ | ⟨q, _⟩
       · have es : xm out x = out ++ [x.lit.toNat] := by unfold xm; rw [if_pos c0]
         rw [es] at gl hl' rec_ ⊢
         rw [wo, Wi] at gl rec_
         rw [tb] at h1 rec_ ⊢
         have s := bA.sym q3 h1
         rw [xh, s]
         simp only
         have tl : ((x.lit.toNat : Nat) : Int) < 256 := by omega
         rw [if_pos tl, if_neg (by omega)]
         have tn : (((x.lit.toNat : Nat) : Int)).toNat = x.lit.toNat := by omega
         rw [tn]
         exact rec_ (by push_cast; rfl)
       · omega
     · rw [if_neg c0] at hst
       by_cases c : x.len < 3 ∨ 258 < x.len ∨ x.xa < 1 ∨ 32768 < x.xa ∨ (out.length : Int) < x.xa ∨ x.lit ≠ 0
       · rw [if_pos c] at hst; cases hst
       rw [if_neg c] at hst
       obtain rfl := vG hst
       obtain ⟨L, hL⟩ : ∃ y : Nat, x.len = y := VP (by omega)
       obtain ⟨D, hD⟩ : ∃ y : Nat, x.xa = y := VP (by omega)
       have Lt : x.len.toNat = L := by omega
       have Dt : x.xa.toNat = D := by omega
       rcases ox with ⟨q, _⟩ | ⟨_, _, _, _, q5, q6⟩
       · exact absurd q c0
       rw [Lt] at q5
       rw [Dt] at q6
       have es : xm out x = I8 D L out := by unfold xm; rw [if_neg c0, Lt, Dt]
       have cl := D5 D L out
       have tb : xf (wB la) (wB lb) x = wN (wB la) (xS L) ++ (w8 (AX L) (Ao L) ++ (wN (wB lb) (yj D) ++ w8 (AU D) (Ai D))) := by rw [xf, if_neg c0, Lt, Dt]
       rw [es] at gl hl' rec_ ⊢
       rw [tb] at h1 rec_ ⊢
       obtain ⟨i1, i2⟩ := h1.app
       obtain ⟨i3, i4⟩ := i2.app
       obtain ⟨i5, i6⟩ := i4.app
       have s1 := bA.sym q5 i1
       have lb_ := G6 (k := L) (by omega) (by omega)
       have db_ := GQ (k := D) (by omega) (by omega)
       have ls := Aq (k := L) (by omega) (by omega)
       have ds := Aj (k := D) (by omega) (by omega)
       obtain ⟨a, b, hab⟩ := Cg ls.1 ls.2.1
       obtain ⟨a', b', hab'⟩ := A4 ds.1
       have ea : wT (lenOf (xS L)) = a := by rw [hab]; rfl
       have eb : Ao L = b := by unfold Ao; rw [hab]; rfl
       have ea' : wT (wO (yj D)) = a' := by rw [hab']; rfl
       have eb' : Ai D = b' := by unfold Ai; rw [hab']; rfl
       have v1 := i3.put lb_.2
       have v2 := i6.put db_.2
       have pl : ∀ v n, (w8 v n).length = n := fun v n => by unfold w8; exact xc v n 0
       rw [pl] at i5 v2
       have s2 := bB.sym q6 i5
       have eL : a + AX L = L := by unfold AX; rw [ea]; omega
       have eD : a' + AU D = D := by unfold AU; rw [ea']; omega
       rw [xh, s1]
       simp only
       rw [if_neg (by omega), if_neg (by omega)]
       have tn : (((xS L : Nat) : Int)).toNat = xS L := by omega
       have tn2 : (((yj D : Nat) : Int)).toNat = yj D := by omega
       have cp : yF t most lb (xS L) (p + (wN (wB la) (xS L)).length) out = .ok (p + (wN (wB la) (xS L) ++ (w8 (AX L) (Ao L) ++ (wN (wB lb) (yj D) ++ w8 (AU D) (Ai D)))).length, I8 D L out) := by
        unfold yF
        rw [hab]
        simp only
        rw [← eb, if_pos v1.2, s2]
        simp only
        rw [tn2, hab']
        simp only
        rw [← eb', v2.1, v1.1, eL, eD, if_pos ⟨v2.2, by omega⟩, FP D L out (by omega)]
        simp only [wo, pl, Except.ok.injEq, vM, and_true]
        omega
       rw [tn, cp]
       simp only
       exact rec_ (by rw [cl, hL]; push_cast; rfl)
theorem Db.Mo {C l : List Int} {K k : Nat} (hC : ∀ y ∈ C, 0 ≤ y ∧ y ≤ 2147483647) (h2 : 2 ≤ C.length) (hl : C.length ≤ 288) (hk : k ≤ C.length) (hk1 : 1 ≤ k) (r : yX 15 K (xQ C)) (e : l = CP (xF C K) k) : Db l ∧ ((∃ y ∈ C, 0 < y) → wS l = 0) ∧ ((∀ y ∈ C, ¬ 0 < y) → ∀ y ∈ l, y = 0) := by
 obtain ⟨a, b, c, d, l0⟩ := Ey (m := 0) hC h2 hl hk hk1 r e
 obtain ⟨f1, f2, f3, f4, f5⟩ := Bp hC h2 hl (by omega) r
 refine ⟨⟨l0, b⟩, fun ex => ?_, fun nn y hy => ?_⟩
 · rw [Af (by omega) (by omega) b l0, if_pos]
   rw [e, JZ (fun y hy => (f2 y hy).1) k 15]
   exact f4 ex
 · rw [e, f5 nn] at hy
   exact V7 (List.mem_of_mem_take hy)
theorem Dv : ∀ (l : List Int) (a : Int), (∀ y ∈ l, y = 0) → MP l a = a
 | [], a, h => rfl
 | y :: l, a, h => by
   have := h y (by simp)
   subst this
   rw [MP]
   first
    | exact Dv l a fun z hz => h z (by simp [hz])
    | (simp; exact Dv l a fun z hz => h z (by simp [hz]))
theorem CW {t : ByteArray} {Lc : List Int} (bk : Db Lc) (many : Nat) : ∀ (q acc : List Int) (f p : Nat), AO t p (Ad (wB Lc) q) → (∀ y ∈ q, DZ (wB Lc) y.toNat) → (∀ y ∈ q, 0 ≤ y ∧ y < 16) → acc.length + q.length = many → q.length < f → xb t Lc many f acc p = some (acc ++ q, p + (Ad (wB Lc) q).length)
 | q, acc, 0, p, hb, ok, hr, hm, hf => by omega
 | [], acc, f + 1, p, hb, ok, hr, hm, hf => by
   simp at hm
   rw [xb, if_neg (by omega), if_neg (by omega)]
   simp [Ad]
 | y :: q, acc, f + 1, p, hb, ok, hr, hm, hf => by
   have e : Ad (wB Lc) (y :: q) = wN (wB Lc) y.toNat ++ Ad (wB Lc) q := by unfold Ad; rw [VQ]
   rw [e] at hb ⊢
   obtain ⟨h1, h2⟩ := hb.app
   have s := bk.sym (ok y (by simp)) h1
   have yr := hr y (by simp)
   have ty : ((y.toNat : Nat) : Int) = y := by omega
   simp only [VK] at hm hf
   rw [xb, if_pos (by omega), s]
   simp only
   rw [ty]
   have ag : xO t y acc (p + (wN (wB Lc) y.toNat).length) = some (y, 1, p + (wN (wB Lc) y.toNat).length) := by
    unfold xO
    rw [if_neg (by omega), if_neg (by omega), if_neg (by omega)]
   rw [ag]
   simp only
   have r := CW bk many q (acc ++ [y]) f _ h2 (fun z hz => ok z (by simp [hz])) (fun z hz => hr z (by simp [hz])) (by simp; omega) (by omega)
   have e1 : List.replicate 1 y = [y] := rfl
   rw [e1, r, wo, ← vQ, VT]; rfl
def FA (L : List Int) : List Int → List Int → List Int
 | [], o => o
 | s :: r, o => FA L r (o.set s.toNat (L.getD s.toNat 0))
theorem Iw {t : ByteArray} {L : List Int} (hr : ∀ y ∈ L, 0 ≤ y ∧ y < 8) : ∀ (os : List Int) (p : Nat) (o : List Int), AO t p (AZ (os.map fun s => L.getD s.toNat 0)) → (∀ s ∈ os, s.toNat < L.length) → Dp t os p o = FA L os o
 | [], p, o, hb, hs => rfl
 | s :: os, p, o, hb, hs => by
   have e : AZ ((s :: os).map fun s => L.getD s.toNat 0) = w8 (L.getD s.toNat 0).toNat 3 ++ AZ (os.map fun s => L.getD s.toNat 0) := by unfold AZ; rw [VR, VQ]
   rw [e] at hb
   obtain ⟨h1, h2⟩ := hb.app
   have hl := hs s (by simp)
   have yr : 0 ≤ L.getD s.toNat 0 ∧ L.getD s.toNat 0 < 8 := hr _ (by rw [VH, VL hl]; exact V8 hl)
   have v := h1.put (by omega)
   have pl : (w8 (L.getD s.toNat 0).toNat 3).length = 3 := by unfold w8; exact xc _ _ _
   rw [pl] at h2
   rw [Dp, FA, v.1, Iw hr os _ _ h2 (fun z hz => hs z (by simp [hz]))]
   congr 2; omega
theorem Iu (L : List Int) : ∀ (os o : List Int), (FA L os o).length = o.length
 | [], o => rfl
 | s :: os, o => by rw [FA, Iu L os, V0]
theorem It (L : List Int) : ∀ (os o : List Int) (j : Nat), j < o.length → (FA L os o).getD j 0 = if (∃ s ∈ os, s.toNat = j) then L.getD j 0 else o.getD j 0
 | [], o, j, hj => by simp [FA]
 | s :: os, o, j, hj => by
   rw [FA, It L os _ j (by rw [V0]; exact hj)]
   by_cases c : ∃ s ∈ os, s.toNat = j
   · rw [if_pos c, if_pos (by obtain ⟨u, hu, e⟩ := c; exact ⟨u, by simp [hu], e⟩)]
   · rw [if_neg c]
     by_cases e : s.toNat = j
     · subst e
       rw [if_pos ⟨s, by simp, rfl⟩, VH, VZ, if_pos rfl, if_pos hj]; rfl
     · rw [getD_set_ne e, if_neg]
       rintro ⟨u, hu, e2⟩
       rcases wj.1 hu with q | q
       · subst q; exact e e2
       · exact c ⟨u, q, e2⟩
theorem K0 : ∀ j : Nat, j < 19 → ∃ i : Nat, i < 19 ∧ wK[i]? = some (j : Int) := by
 intro j hj
 have : ∀ j : Nat, j < 19 → ∃ i : Nat, i < 19 ∧ wK[i]? = some (j : Int) := by decide
 exact this j hj
theorem Mw {L : List Int} (hl : L.length = 19) (h0 : ∀ y ∈ L, 0 ≤ y) : FA L (wK.take (xk (wK.map fun s => L.getD s.toNat 0) 4 19)) (List.replicate 19 0) = L := by
 apply List.ext_getElem?
 intro j
 have fl := Iu L (wK.take (xk (wK.map fun s => L.getD s.toNat 0) 4 19)) (List.replicate 19 0)
 rw [VU] at fl
 by_cases hj : j < 19
 · have g := It L (wK.take (xk (wK.map fun s => L.getD s.toNat 0) 4 19)) (List.replicate 19 0) j (by simpa using hj)
   rw [VL (by omega), VL (by omega)]
   rw [VH, VL (by omega)] at g
   congr 1
   have g' : (FA L (wK.take (xk (wK.map fun s => L.getD s.toNat 0) 4 19)) (List.replicate 19 0))[j]'(by omega) = _ := g
   rw [g']
   have e : L.getD j 0 = L[j]'(by omega) := by rw [VH, VL (by omega)]; rfl
   split
   · exact e
   · rename_i c
     rw [Bv hj]
     obtain ⟨i, hi, oi⟩ := K0 j hj
     have hk : xk (wK.map fun s => L.getD s.toNat 0) 4 19 ≤ i := by
      apply V9
      intro q
      refine c ⟨(j : Int), ?_, by omega⟩
      refine vV (i := i) ?_
      rw [wm, if_pos (by omega), oi]
     have z := AM (wK.map fun s => L.getD s.toNat 0) 4 19 i hk hi
     have tj : ((j : Nat) : Int).toNat = j := by omega
     rw [VH, v7, oi] at z
     simp only [VO, Option.getD_some, tj] at z
     have nn := h0 _ (V8 (l := L) (n := j) (by omega))
     omega
 · rw [V5 (by omega), V5 (by omega)]
theorem Ny {t : ByteArray} {ts : List Tok} {KA KB KC : Nat} {la lb Lc : List Int} (ok : Hy ts KA KB KC la lb Lc) (hb : AO t 0 (xI ts la lb Lc)) (hm : w9 0 ts = true) {most : Int} (hl : ((zy ts []).length : Int) ≤ most) : AW t most 3 [] = .ok ((xI ts la lb Lc).length, zy ts []) ∧ wC t 0 1 = 1 ∧ wC t 1 2 = 2 ∧ 3 ≤ 8 * t.size := by
 obtain ⟨PX, hn, tok, ra, rb, ea, eb, hall, rc, ec, hrow, ca, cb, cc, Gk, Oy, Ip⟩ := ok
 obtain ⟨a1, a2, a3⟩ := Oi ts hn
 obtain ⟨b1, b2⟩ := Oj ts hn
 obtain ⟨x1, x2, x3, x4, x5⟩ := Ey (m := 0) a2 (by omega) (by omega) (by omega) (by omega) ra ea
 obtain ⟨y1, y2, y3, y4, y5⟩ := Ey (m := 0) b2 (by omega) (by omega) (by omega) (by omega) rb eb
 obtain ⟨bkA, chA, _⟩ := Db.Mo a2 (by omega) (by omega) (by omega) (by omega) ra ea
 obtain ⟨bkB, chB, zB⟩ := Db.Mo b2 (by omega) (by omega) (by omega) (by omega) rb eb
 have c1 : (yI (la ++ lb) (List.replicate 19 0)).length = 19 := by rw [CH, VU]
 have c2 : ∀ y ∈ yI (la ++ lb) (List.replicate 19 0), 0 ≤ y ∧ y ≤ 2147483647 := fun y hy => by
  have := CI (la ++ lb) _ 0 (by omega) (Bu 19) y hy
  rw [wo] at this
  omega
 obtain ⟨f1, f2, f3, f4, f5⟩ := Bp c2 (by omega) (by omega) (by omega) rc
 rw [← ec] at f1 f2 f3 f4 f5
 have lLc : Lc.length = 19 := by omega
 have hit := Ek (la ++ lb) (List.replicate 19 0) (fun y hy => (Bu 19 y hy).1) (by rw [VU])
 have exC : ∃ y ∈ yI (la ++ lb) (List.replicate 19 0), 0 < y := by
  obtain ⟨z, hz⟩ := List.exists_mem_of_ne_nil (la ++ lb) (fun q => by
   have := Wh List.length q
   rw [wo, VN] at this
   omega)
  have h := hit z hz (hall z hz)
  refine ⟨_, ?_, show 0 < (yI (la ++ lb) (List.replicate 19 0)).getD z.toNat 0 by omega⟩
  have zl : z.toNat < (yI (la ++ lb) (List.replicate 19 0)).length := by have := hall z hz; omega
  rw [VH, VL zl]
  exact V8 zl
 have l0 := f4 exC
 have r16 : ∀ y ∈ Lc, 0 ≤ y ∧ y < 16 := fun y hy => by have := f2 y hy; omega
 have bkC : Db Lc := ⟨by omega, r16⟩
 have chC : wS Lc = 0 := by rw [Af (by omega) (by omega) r16 (by omega), if_pos l0]
 have exA : ∃ y ∈ dA ts, 0 < y := by
  have zl : 256 < (dA ts).length := by omega
  refine ⟨(dA ts).getD 256 0, ?_, by omega⟩
  rw [VH, VL zl]
  exact V8 zl
 have chA' := chA exA
 have chB' : ¬ (wS lb ≠ 0 ∧ y0 lb = false) := by
  rintro ⟨q1, q2⟩
  by_cases c : ∃ y ∈ dB ts, 0 < y
  · exact q1 (chB c)
  · have := Dv lb 0 (zB fun y hy q => c ⟨y, hy, q⟩)
    unfold y0 at q2
    rw [this] at q2
    simp at q2
 obtain ⟨R, hR⟩ : ∃ R, R = wK.map (fun o => Lc.getD o.toNat 0) := ⟨_, rfl⟩
 obtain ⟨k, hk⟩ : ∃ k, k = xk R 4 19 := ⟨_, rfl⟩
 have uk := zh R 4 19
 rw [← hk] at uk
 have eD : xI ts la lb Lc = w8 5 3 ++ (w8 (la.length - 257) 5 ++ (w8 (lb.length - 1) 5 ++ (w8 (k - 4) 4 ++ (AZ (R.take k) ++ (Ad (wB Lc) (la ++ lb) ++ (xW (wB la) (wB lb) ts ++ wN (wB la) 256)))))) := by rw [hk, hR]; rfl
 rw [eD] at hb ⊢
 have pl : ∀ v n, (w8 v n).length = n := fun v n => by unfold w8; exact xc v n 0
 obtain ⟨h1, g1⟩ := hb.app
 rw [pl] at g1
 obtain ⟨h2, g2⟩ := g1.app
 rw [pl] at g2
 obtain ⟨h3, g3⟩ := g2.app
 rw [pl] at g3
 obtain ⟨h4, g4⟩ := g3.app
 rw [pl] at g4
 obtain ⟨h5, g5⟩ := g4.app
 obtain ⟨h6, g6⟩ := g5.app
 have v2 := h2.put (by omega)
 have v3 := h3.put (by omega)
 have v4 := h4.put (by omega)
 have rl : (AZ (R.take k)).length = 3 * k := by rw [Fb, Wj, hR, List.length_map]; show 3 * min k 19 = _; omega
 rw [rl] at g5 g6 h6
 have rb5 : AZ (R.take k) = AZ ((wK.take k).map fun s => Lc.getD s.toNat 0) := by rw [hR, List.map_take]
 have h5' := h5
 rw [rb5] at h5'
 have own := Iw hrow (wK.take k) _ (List.replicate 19 0) h5' (fun s hs => by have := Bq s (List.mem_of_mem_take hs); omega)
 have back := Mw lLc (fun y hy => (hrow y hy).1)
 rw [← hR, ← hk] at back
 rw [back] at own
 have okr : ∀ y ∈ la ++ lb, 0 ≤ y ∧ y < 16 := fun y hy => by
  rcases Wb.1 hy with q | q
  · exact x2 y q
  · exact y2 y q
 have h5l := h5.1
 rw [rl] at h5l
 have h6l := h6.1
 have g6l := g6.1
 have ll : (la ++ lb).length = la.length + lb.length := wo
 have all := CW bkC (la.length + lb.length) (la ++ lb) [] (8 * t.size + 1) _ h6 Gk okr (by simp) (by
  have : ∀ D : List Int, (∀ y ∈ D, DZ (wB Lc) y.toNat) → D.length ≤ (Ad (wB Lc) D).length := by
   intro D
   induction D with
   | nil => intro _; simp
   | cons y D ih =>
     intro h
     have := ih fun z hz => h z (by simp [hz])
     obtain ⟨n, v, _, q1, q2, q3, q4⟩ := (h y (by simp)).bits
     unfold Ad at *
     rw [VQ, wo, q4, xw, VK]; omega
  have := this _ Gk
  omega)
 have cod := BW bkA bkB Ip ts (8 * t.size + 1) _ [] g6 Oy hm hl (by
  have : ∀ T : List Tok, (∀ x ∈ T, Lq (wB la) (wB lb) x) → T.length ≤ (xW (wB la) (wB lb) T).length := by
   intro T
   induction T with
   | nil => intro _; simp
   | cons x T ih =>
     intro h
     have := ih fun z hz => h z (by simp [hz])
     have o := h x (by simp)
     have one : 1 ≤ (xf (wB la) (wB lb) x).length := by
      rcases o with ⟨h1, h2, h3⟩ | ⟨h1, h2, h3, h4, h5, h6⟩
      · obtain ⟨n, v, _, q1, q2, q3, q4⟩ := h3.bits
        rw [xf, if_pos h1, q4, xw]; omega
      · obtain ⟨n, v, _, q1, q2, q3, q4⟩ := h5.bits
        rw [xf, if_neg (by omega), q4, wo, xw]; omega
     unfold xW at *
     rw [VQ, wo, VK]; omega
  have := this _ Oy
  rw [wo] at g6l
  omega)
 have v1 := h1.put (by omega)
 simp only [vW, Nat.reduceAdd, List.nil_append] at v1 v2 v3 v4 own all cod h5l
 have n1 : wC t 3 5 + 257 = la.length := by rw [v2.1]; omega
 have n2 : wC t 8 5 + 1 = lb.length := by rw [v3.1]; omega
 have n3 : wC t 13 4 + 4 = k := by rw [v4.1]; omega
 have lens : yH t (la.length + lb.length) 13 = some (la ++ lb, 17 + 3 * k + (Ad (wB Lc) (la ++ lb)).length) := by
  unfold yH
  simp only [Nat.reduceAdd, n3]
  rw [if_pos (by omega), if_pos (by omega), own, if_pos chC, all]
 have tk : (la ++ lb).take la.length = la := List.take_left' rfl
 have dr : (la ++ lb).drop la.length = lb := List.drop_left' rfl
 have g256 : la.getD 256 0 ≠ 0 := by have := (Hc Ip).2; omega
 refine ⟨?_, ?_, ?_, by omega⟩
 · unfold AW
   simp only [Nat.reduceAdd, n1, n2]
   rw [if_pos (by omega), if_neg (by omega), lens]
   simp only [tk, dr]
   rw [if_neg (by rintro (q | q | q); exact q chA'; exact g256 q; exact chB' q), cod]
   simp only [wo, pl, rl, Except.ok.injEq, vM, and_true]
   omega
 · have b0 := h1.2 0 (by rw [pl]; omega)
   have e0 : (w8 5 3).getD 0 0 = 1 := by decide
   rw [e0] at b0
   simp [wC, b0]
 · have b1 := h1.2 1 (by rw [pl]; omega)
   have b2 := h1.2 2 (by rw [pl]; omega)
   have e1 : (w8 5 3).getD 1 0 = 0 := by decide
   have e2 : (w8 5 3).getD 2 0 = 1 := by decide
   rw [e1] at b1
   rw [e2] at b2
   simp only [vW] at b1 b2
   simp [wC, b1, b2]
theorem Ia {s : ByteArray} (hs : s.size ≤ 300) {KA KB KC : Nat} {la lb Lc : List Int} (ok : Hy (tokens s) KA KB KC la lb Lc) {most : Int} (hm1 : (s.size : Int) ≤ most) (hm2 : most ≤ 8192) : wU (bytesOf (xy (xI (tokens s) la lb Lc))) most = .ok (preB s s.size, (bytesOf (xy (xI (tokens s) la lb Lc))).size) := by
 obtain ⟨t1, t2, t3, t4⟩ := Ay s hs s.size 0 (by omega) (by omega)
 have t3' : w9 0 (tokens s) = true := t3
 have t4' : zy (tokens s) [] = preB s s.size := t4
 have hb := FM (xI (tokens s) la lb Lc) (NA _ _ _ _)
 obtain ⟨d, v1, v2, sz⟩ := Ny ok hb t3' (most := most) (by rw [t4', yx]; omega)
 rw [t4'] at d
 have psz : (bytesOf (xy (xI (tokens s) la lb Lc))).size = ((xI (tokens s) la lb Lc).length + 7) / 8 := by rw [xH, Br]
 generalize bytesOf (xy (xI (tokens s) la lb Lc)) = T at *
 unfold wU
 rw [if_neg (by omega)]
 have bl : xp T most 0 [] = .ok (true, (xI (tokens s) la lb Lc).length, preB s s.size) := by
  unfold xp
  simp only [vW]
  rw [if_pos sz, v2]
  simp only [Nat.reduceEqDiff, wq, if_true, reduceIte]
  rw [d]
  simp [v1]
 rw [xe, bl]
 simp only [if_true, psz]
theorem E3 (s : ByteArray) : bytesOf (preB s s.size) = s := by
 have : preB s s.size = Q7 s := by
  apply List.ext_getElem?
  intro i
  by_cases h : i < s.size
  · have g := FO (Q7 s) (Q8 s) i
    rw [DB] at g
    have l1 := Km s
    rw [VL (by rw [yx]; exact h), VL (by omega)]
    congr 1
    have a := IC s h
    rw [VH, VL (by rw [yx]; exact h)] at a
    rw [VH, VL (by omega)] at g
    exact a.trans g
  · rw [V5 (by rw [yx]; omega), V5 (by rw [Km]; omega)]
 rw [this, DB]
theorem Ea {w : Nat} : ∀ (m : Nat) (h : H) (bs : List Nat) (ov : AV), (bs.length + m) % 8 = 0 → m < 8 → Wr h w bs ov → bs.length + m < 1000 →
 ∃ e' h' ov', Lp AP.A [0] AP.f174L0 [(0, .aE w 0)] h = some (.exit 0, e', h') ∧ Wr h' w (bs ++ List.replicate m 0) ov' ∧ HA h w ov h' ov'
 | 0, h, bs, ov, hm, h8, wr, hb => by
   have gw := wr.get
   have c : ((bs.length % 8 : Nat) : Int) = 0 := by omega
   have rm : bw .rem (.int .i64 (bs.length : Int)) (.int .i64 8) = some (.int .i64 0) := by
    have := N6 (a := bs.length) (n := 8) (by omega)
    rw [c] at this; exact this
   refine ⟨[(0, .aE w 0), (7, .bool false)], h, ov, ux ?_, by simpa using wr, HA.refl h w ov⟩
   simp (disch := omega) only [go_sem, wH, AP.f174L0, gw, rm]
 | m + 1, h, bs, ov, hm, h8, wr, hb => by
   have gw := wr.get
   have rm : bw .rem (.int .i64 (bs.length : Int)) (.int .i64 8) = some (.int .i64 ((bs.length % 8 : Nat) : Int)) := N6 (a := bs.length) (n := 8) (by omega)
   have c : ¬ ((bs.length % 8 : Nat) : Int) = 0 := by omega
   obtain ⟨h1, o1, k1, wr1, f1⟩ := Mq wr (b := 0) (by omega) (by omega)
   have k1' : aS AP.A 57 [.aE w 0, .int .i64 0] h = _ := k1
   obtain ⟨e', h', ov', r1, r2, r3⟩ := Ea m h1 (bs ++ [0]) o1 (by rw [wo, Wi]; omega) (by omega) wr1 (by rw [wo, Wi]; omega)
   have e : bs ++ List.replicate (m + 1) 0 = bs ++ [0] ++ List.replicate m 0 := by rw [List.replicate_succ, VT]; rfl
   rw [e]
   refine ⟨e', h', ov', uy ?_ r1, r2, f1.trans r3⟩
   clear r1 r2 r3 wr wr1
   generalize ((bs.length % 8 : Nat) : Int) = q at *
   simp (disch := omega) only [go_sem, wH, AP.f174L0, gw, rm, c, k1']
theorem M9 {h : H} {w : Nat} {bs : List Nat} {ov : AV} (wr : Wr h w bs ov) (m : Nat) (hm : (bs.length + m) % 8 = 0) (h8 : m < 8) (hb : bs.length + m < 1000) :
 ∃ h' ov', aS AP.A 174 [.aE w 0] h = some (.bU [], h') ∧ Wr h' w (bs ++ List.replicate m 0) ov' ∧ HA h w ov h' ov' := by
 obtain ⟨e', h', ov', r1, r2, r3⟩ := Ea m h bs ov hm h8 wr hb
 obtain ⟨e2, he⟩ : ∃ e2, aM (aS AP.A) bG AP.f174.body (params 0 [.aE w 0]) h = some (.normal, e2, h') := by
  refine ⟨?_, ?_⟩
  rotate_left
  · simp (disch := omega) only [go_sem, wH, AP.f174, th, r1]
    rfl
 exact ⟨h', ov', xM (fn := AP.f174) (e := e2) (vs := []) rfl rfl rfl he rfl, r2, r3⟩
theorem Na {h : H} (hf : h.floor ≤ h.next) : WX h (h.alloc [.aQ, .int .i64 0]) h.next [] .aQ := by
 refine ⟨⟨by rw [wM rfl]; rfl, wW.nil, by simpa using hf, by simp; omega, by simp [AV.id?], fun b hb => by simp [xy, yN] at hb⟩, (Ext.refl _).alloc _, vR _, by simp, fun j hj => by simp [AV.id?] at hj⟩
def yO (n : Nat) : List Nat := w8 1 3 ++ (List.replicate 5 0 ++ (w8 n 16 ++ w8 (65535 - n) 16))
def y6 (s : ByteArray) : ByteArray := bytesOf (xy (yO s.size)) ++ s
theorem C6 (s : ByteArray) : (y6 s).size = s.size + 5 := by
 unfold y6
 rw [ByteArray.size_append, xH, Br]
 simp [yO, w8, xc]; omega
theorem La (h : H) (s : ByteArray) (hs : s.size ≤ 300) : aS AP.A 170 [.str s] h = some (.bU [.str (y6 s), .int .i64 0], h) := by
 obtain ⟨h1, eh1⟩ : ∃ g, g = h.ez.alloc [.aQ, .int .i64 0] := ⟨_, rfl⟩
 have x0 := Na (h := h.ez) (by simp)
 rw [← eh1] at x0
 obtain ⟨h2, o2, k2, w2, f2⟩ := zR x0.wr 1 3 (by omega) (by omega) (by simp)
 obtain ⟨h3, o3, k3, w3, f3⟩ := M9 w2 5 (by simp [w8, xc]) (by omega) (by simp [w8, xc])
 obtain ⟨h4, o4, k4, w4, f4⟩ := zR w3 s.size 16 (by omega) (by omega) (by simp [w8, xc])
 obtain ⟨h5, o5, k5, w5, f5⟩ := zR w4 (65535 - s.size) 16 (by omega) (by omega) (by simp [w8, xc])
 have k6 := Hw w5
 have e : [] ++ w8 1 3 ++ List.replicate 5 0 ++ w8 s.size 16 ++ w8 (65535 - s.size) 16 = yO s.size := by
  unfold yO; simp only [List.nil_append, VT]
 rw [e] at k6
 have hn : h.ez.next = h.next := rfl
 have k2' : aS AP.A 33 [.aE h.next 0, .int .i64 1, .int .i64 3] h1 = some (.int .i64 0, h2) := k2
 have k4' : aS AP.A 33 [.aE h.next 0, .int .i64 s.size, .int .i64 16] h3 = some (.int .i64 0, h4) := k4
 have k5' : aS AP.A 33 [.aE h.next 0, .int .i64 (65535 - (s.size : Int)), .int .i64 16] h4 = some (.int .i64 0, h5) := by
  have e : ((65535 - s.size : Nat) : Int) = 65535 - (s.size : Int) := by omega
  rw [e] at k5; exact k5
 have bz : (bytesOf (xy (yO s.size))).size = 5 := by
  have := C6 s
  unfold y6 at this
  rw [ByteArray.size_append] at this; omega
 have ad : bw .add (.str (bytesOf (xy (yO s.size)))) (.str s) = some (.str (y6 s)) := Dx (by omega)
 rw [hn] at k3 k6
 refine u7 (fn := AP.f170) (h2 := h5) (e := [(2, .str (y6 s)), (3, .int .i64 0)]) rfl rfl rfl ?_ rfl rfl
 clear x0 w2 w3 w4 w5 f2 f3 f4 f5 k2 k4 k5 e bz
 generalize bytesOf (xy (yO s.size)) = SB at *
 generalize y6 s = ST at *
 simp (disch := omega) only [go_sem, wH, AP.f170, hn, ← eh1, k2', k3, k4', k5', k6, ad]
def yT : List Int := List.replicate 30 5
theorem ED : wL wY 15 = 0 := by decide +kernel
theorem FV : wL yT 15 = 2048 := by decide +kernel
theorem yU : wY.length = 288 := by decide +kernel
theorem Ak : ∀ y ∈ wY, 1 ≤ y ∧ y < 16 := by
 have : wY.all (fun y => decide (1 ≤ y ∧ y < 16)) = true := by decide +kernel
 intro y hy
 simpa using List.all_eq_true.1 this y hy
theorem H4 : ∀ y ∈ yT, 1 ≤ y ∧ y < 16 := fun y hy => by have := V7 hy; omega
theorem yM : Db wY := ⟨by rw [ED]; omega, fun y hy => by have := Ak y hy; omega⟩
theorem Bi : Db yT := ⟨by rw [FV]; omega, fun y hy => by have := H4 y hy; omega⟩
theorem Cz {l : List Int} (b : Db l) (hr : ∀ y ∈ l, 1 ≤ y ∧ y < 16) {s : Nat} (hs : s < l.length) : DZ (wB l) s := by
 refine Hd b.left b.Us hs ?_
 rw [VH, VL hs]
 exact (hr _ (V8 hs)).1
theorem FW {t : Tok} (o : Bb t) : Lq (wB wY) (wB yT) t := by
 refine Mp (ts := []) o (fun h => ?_) (fun h => ?_) (fun h => ?_)
 · rcases o with ⟨_, b, c⟩ | ⟨a, _⟩
   · exact Cz yM Ak (by rw [yU]; omega)
   · omega
 · rcases o with ⟨a, _⟩ | ⟨a, b, _⟩
   · exact absurd a h
   · have := Aq (k := t.len.toNat) (by omega) (by omega)
     exact Cz yM Ak (by rw [yU]; omega)
 · rcases o with ⟨a, _⟩ | ⟨a, b, c, d⟩
   · exact absurd a h
   · have := Aj (k := t.xa.toNat) (by omega) (by omega)
     have l : yT.length = 30 := by simp [yT]
     exact Cz Bi H4 (by rw [l]; omega)
def xJ (ts : List Tok) : List Nat := w8 3 3 ++ (xW (wB wY) (wB yT) ts ++ wN (wB wY) 256)
theorem Ju (h : H) (v : AV) (ts : List Tok) (PX : KO ts = true) (hn : ts.length ≤ 300) (tok : ∀ t ∈ ts, Bb t) (rd : zU 3 h v ts.length (xC ts)) : aS AP.A 171 [v] h = some (.bU [.str (bytesOf (xy (xJ ts))), .int .i64 0], h) := by
 have rd0 : zU 3 h.ez v ts.length (xC ts) := rd.mono fun i c q => q
 have k1 := Ok h.ez v ts (by omega) rd0
 rw [PX] at k1
 obtain ⟨h1, eh1⟩ : ∃ g, g = h.ez.alloc [.aQ, .int .i64 0] := ⟨_, rfl⟩
 have x0 := Na (h := h.ez) (by simp)
 rw [← eh1] at x0
 obtain ⟨h2, o2, k2, w2, f2⟩ := zR x0.wr 3 3 (by omega) (by omega) (by simp)
 have x2 := x0.step w2 f2
 have kf := L6 h2
 have kc := CK h2 (y8 wY) wY (by rw [yU]; omega) (by rw [yU]; omega) (zM h2 wY) (.inl (by rw [Af (by rw [yU]; omega) (by rw [yU]; omega) yM.Us yM.left, if_pos ED]))
 have k5 := NG h2
 have l5 : yT.length = 30 := by simp [yT]
 have kc5 := CK h2 (y8 yT) yT (by omega) (by omega) (zM h2 yT) (.inr (by rw [Af (by omega) (by omega) Bi.Us Bi.left, if_neg (by rw [FV]; omega)]))
 obtain ⟨h3, o3, k3, x3⟩ := MZ (by omega) h.ez rd0 (A9 h.ez wY) (A9 h.ez yT) (fun t ht => FW (tok t ht)) (Cz yM Ak (by rw [yU]; omega)) h.ez.next _ h2 o2 x2 (by simp [w8, xc]; omega)
 have k6 := Hw x3.wr
 have e : [] ++ w8 3 3 ++ (xW (wB wY) (wB yT) ts ++ wN (wB wY) 256) = xJ ts := by unfold xJ; rw [List.nil_append]
 rw [e] at k6
 have hn' : h.ez.next = h.next := rfl
 have k2' : aS AP.A 33 [.aE h.next 0, .int .i64 3, .int .i64 3] h1 = some (.int .i64 0, h2) := k2
 rw [hn'] at k3 k6
 change aS AP.A 23 [] h2 = some (y8 yT, h2) at k5
 refine u7 (fn := AP.f171) (h2 := h3) (e := [(2, .str (bytesOf (xy (xJ ts)))), (3, .int .i64 0)]) rfl rfl rfl ?_ rfl rfl
 clear x0 w2 f2 x2 x3 k2 e rd rd0
 generalize bytesOf (xy (xJ ts)) = SB at *
 generalize y8 wY = I1 at *
 generalize y8 yT = I2 at *
 generalize Em wY = C1 at *
 generalize Em yT = C2 at *
 simp (disch := omega) only [go_sem, wH, AP.f171, hn', k1, ← eh1, k2', kf, kc, k5, kc5, k3, k6]
theorem CB {bs : List Nat} : (bytesOf (xy bs)).size = (bs.length + 7) / 8 := by rw [xH, Br]
def shorter (a b : ByteArray) : ByteArray := if a.size < b.size then a else b
def Js (s : ByteArray) (la lb Lc : List Int) : ByteArray := bytesOf (xy (xI (tokens s) la lb Lc))
def BE (s : ByteArray) : ByteArray := bytesOf (xy (xJ (tokens s)))
def yJ (s : ByteArray) (la lb Lc : List Int) : ByteArray := shorter (Js s la lb Lc) (shorter (BE s) (y6 s))
theorem Fs (s : ByteArray) (hs : s.size ≤ 300) : (tokens s).length ≤ 300 ∧ (∀ t ∈ tokens s, Bb t) ∧ w9 0 (tokens s) = true ∧ zy (tokens s) [] = preB s s.size := by
 obtain ⟨t1, t2, t3, t4⟩ := Ay s hs s.size 0 (by omega) (by omega)
 exact ⟨by unfold tokens; omega, t2, t3, t4⟩
theorem Jp (h : H) (s : ByteArray) (hs : s.size ≤ 300) {KA KB KC : Nat} {la lb Lc : List Int} (ok : Hy (tokens s) KA KB KC la lb Lc) : aS AP.A 163 [.str s] h = some (.bU [.str (yJ s la lb Lc), .int .i64 0], h) := by
 have k1 := MY h.ez s (by omega)
 rw [if_neg (by omega)] at k1
 obtain ⟨t1, t2, t3, t4⟩ := Fs s hs
 have rd : zU 3 h.ez (GB (tokens s)) (tokens s).length (xC (tokens s)) := Hp (by rw [Le])
 have k2 := La h.ez s hs
 have k3 := Ju h.ez (GB (tokens s)) (tokens s) (EB s hs) t1 t2 rd
 have k4 := Jt h.ez (GB (tokens s)) (tokens s) KA KB KC la lb Lc ok rd
 change aS AP.A 171 [GB (tokens s)] h.ez = some (.bU [.str (BE s), .int .i64 0], h.ez) at k3
 change aS AP.A 13 [GB (tokens s)] h.ez = some (.bU [.str (Js s la lb Lc), .int .i64 0], h.ez) at k4
 refine u7 (fn := AP.f163) (h2 := h.ez) (e := [(2, .str (yJ s la lb Lc)), (3, .int .i64 0)]) rfl rfl rfl ?_ rfl rfl
 unfold yJ shorter
 clear rd ok t1 t2 t3 t4
 generalize BE s = F at *
 generalize y6 s = S at *
 generalize Js s la lb Lc = D at *
 by_cases c1 : F.size < S.size
 · have c1' : (F.size : Int) < S.size := by omega
   rw [if_pos c1]
   by_cases c2 : D.size < F.size
   · have c2' : (D.size : Int) < F.size := by omega
     rw [if_pos c2]
     simp (disch := omega) only [go_sem, wH, AP.f163, k1, k2, k3, k4, VM c1', VM c2']
   · have c2' : ¬ (D.size : Int) < F.size := by omega
     rw [if_neg c2]
     simp (disch := omega) only [go_sem, wH, AP.f163, k1, k2, k3, k4, VM c1', VJ c2']
 · have c1' : ¬ (F.size : Int) < S.size := by omega
   rw [if_neg c1]
   by_cases c2 : D.size < S.size
   · have c2' : (D.size : Int) < S.size := by omega
     rw [if_pos c2]
     simp (disch := omega) only [go_sem, wH, AP.f163, k1, k2, k3, k4, VJ c1', VM c2']
   · have c2' : ¬ (D.size : Int) < S.size := by omega
     rw [if_neg c2]
     simp (disch := omega) only [go_sem, wH, AP.f163, k1, k2, k3, k4, VJ c1', VJ c2']
theorem NH (ts : List Tok) : ∀ b ∈ xJ ts, b ≤ 1 := by
 intro b h
 unfold xJ at h
 simp only [Wb] at h
 rcases h with h | h | h
 · exact yZ _ _ _ b h
 · obtain ⟨y, _, hy⟩ := List.mem_flatMap.1 h
   exact DX _ _ y b hy
 · exact zd _ _ b h
theorem I6 {E D : List (Int × Int)} : ∀ T : List Tok, (∀ x ∈ T, Lq E D x) → T.length ≤ (xW E D T).length
 | [], _ => by simp
 | x :: T, h => by
   have := I6 (E := E) (D := D) T fun z hz => h z (by simp [hz])
   have o := h x (by simp)
   have one : 1 ≤ (xf E D x).length := by
    rcases o with ⟨h1, h2, h3⟩ | ⟨h1, h2, h3, h4, h5, h6⟩
    · obtain ⟨n, v, _, q1, q2, q3, q4⟩ := h3.bits
      rw [xf, if_pos h1, q4, xw]; omega
    · obtain ⟨n, v, _, q1, q2, q3, q4⟩ := h5.bits
      rw [xf, if_neg (by omega), q4, wo, xw]; omega
   unfold xW at *
   rw [VQ, wo, VK]; omega
theorem Ib {s : ByteArray} (hs : s.size ≤ 300) {most : Int} (hm1 : (s.size : Int) ≤ most) (hm2 : most ≤ 8192) : wU (BE s) most = .ok (preB s s.size, (BE s).size) := by
 obtain ⟨t1, t2, t3, t4⟩ := Fs s hs
 have hb := FM (xJ (tokens s)) (NH _)
 have psz : (BE s).size = ((xJ (tokens s)).length + 7) / 8 := CB
 change AO (BE s) 0 (xJ (tokens s)) at hb
 generalize BE s = T at *
 have hb' : AO T 0 (w8 3 3 ++ (xW (wB wY) (wB yT) (tokens s) ++ wN (wB wY) 256)) := hb
 obtain ⟨h1, h2⟩ := hb'.app
 have pl : (w8 3 3).length = 3 := rfl
 rw [pl, vW] at h2
 have Oy : ∀ x ∈ tokens s, Lq (wB wY) (wB yT) x := fun x hx => FW (t2 x hx)
 have g := I6 (tokens s) Oy
 have h2l := h2.1
 rw [wo] at h2l
 have cod := BW (most := most) yM Bi (Cz yM Ak (by rw [yU]; omega)) (tokens s) (8 * T.size + 1) 3 [] h2 Oy t3 (by rw [t4, yx]; exact hm1) (by omega)
 have fl : 3 + (xW (wB wY) (wB yT) (tokens s) ++ wN (wB wY) 256).length = (xJ (tokens s)).length := by
  unfold xJ; rw [wo (as := w8 3 3), pl]
 rw [fl, t4] at cod
 have v0 : wC T 0 1 = 1 := by
  have b0 := h1.2 0 (by rw [pl]; omega)
  have e0 : (w8 3 3).getD 0 0 = 1 := by decide
  rw [e0] at b0
  simp [wC, b0]
 have v1 : wC T 1 2 = 1 := by
  have b1 := h1.2 1 (by rw [pl]; omega)
  have b2 := h1.2 2 (by rw [pl]; omega)
  have e1 : (w8 3 3).getD 1 0 = 1 := by decide
  have e2 : (w8 3 3).getD 2 0 = 0 := by decide
  rw [e1] at b1
  rw [e2] at b2
  simp only [vW] at b1 b2
  simp [wC, b1, b2]
 have sz : 3 ≤ 8 * T.size := by have := h1.1; rw [pl] at this; omega
 unfold wU
 rw [if_neg (by omega)]
 have bl : xp T most 0 [] = .ok (true, (xJ (tokens s)).length, preB s s.size) := by
  unfold xp
  simp only [vW]
  rw [if_pos sz, v1]
  simp only [Nat.reduceEqDiff, wq, if_true, reduceIte]
  have cod' : xh T most wY (List.replicate 30 5) (8 * T.size + 1) 3 [] = .ok ((xJ (tokens s)).length, preB s s.size) := cod
  rw [cod']
  simp [v0]
 rw [xe, bl]
 simp only [if_true, psz]
theorem Ff (a b : ByteArray) : shorter a b = a ∨ shorter a b = b := by
 unfold shorter; split
 · exact .inl rfl
 · exact .inr rfl
theorem QY (h : H) (s : ByteArray) (hs : s.size ≤ 300) : ∃ (m : Int) (p : ByteArray), aS AP.A 154 [.str s] h = some (.bU [.int .i64 m, .str p, .int .i64 0], h) ∧ ((m = 0 ∧ p = s) ∨ (m = 8 ∧ p.size < s.size ∧ wU p s.size = .ok (preB s s.size, p.size))) ∧ ((BE s).size < s.size → m = 8) := by
 obtain ⟨KA, KB, KC, la, lb, Lc, ok⟩ := PS s hs
 have k := Jp h.ez s hs ok
 have idn : wU (Js s la lb Lc) s.size = .ok (preB s s.size, (Js s la lb Lc).size) := by
  unfold Js
  exact Ia (s := s) hs ok (by omega) (by omega)
 have ifx : wU (BE s) s.size = .ok (preB s s.size, (BE s).size) := Ib hs (by omega) (by omega)
 have ss := C6 s
 have dd : (yJ s la lb Lc).size < s.size → wU (yJ s la lb Lc) s.size = .ok (preB s s.size, (yJ s la lb Lc).size) := fun hlt => by
  unfold yJ at hlt ⊢
  rcases Ff (Js s la lb Lc) (shorter (BE s) (y6 s)) with e | e
  · rw [e]; exact idn
  · rw [e] at hlt ⊢
    rcases Ff (BE s) (y6 s) with e2 | e2
    · rw [e2]; exact ifx
    · rw [e2] at hlt; omega
 have le : (yJ s la lb Lc).size ≤ (BE s).size := by
  unfold yJ shorter; (repeat' split) <;> omega
 generalize yJ s la lb Lc = T at *
 by_cases c : T.size < s.size
 · refine ⟨8, T, ?_, .inr ⟨rfl, c, dd c⟩, fun _ => rfl⟩
   have c' : (T.size : Int) < s.size := by omega
   refine u7 (fn := AP.f154) (h2 := h.ez) (e := [(2, .int .i64 8), (3, .str T), (4, .int .i64 0)]) rfl rfl rfl ?_ rfl rfl
   clear idn ifx ss dd ok
   simp (disch := omega) only [go_sem, wH, AP.f154, k, VM c']
 · refine ⟨0, s, ?_, .inl ⟨rfl, rfl⟩, fun q => by omega⟩
   have c' : ¬ (T.size : Int) < s.size := by omega
   refine u7 (fn := AP.f154) (h2 := h.ez) (e := [(2, .int .i64 0), (3, .str s), (4, .int .i64 0)]) rfl rfl rfl ?_ rfl rfl
   clear idn ifx ss dd ok
   simp (disch := omega) only [go_sem, wH, AP.f154, k, VJ c']
end Ab
