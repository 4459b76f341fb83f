/- Part C2. -/
import Derived.Test.YtbihdlhgfnoejaaGreatDoorC1
set_option linter.unusedSimpArgs false
set_option linter.unusedVariables false
namespace Ab
open Go
theorem dt {p : Prop} [Decidable p] (h : p) : decide p = true := U7 h
theorem df {p : Prop} [Decidable p] (h : ¬ p) : decide p = false := U5 h
theorem UD {a b : Int} (h : a = b) : (a == b) = true := by simp [h]
theorem Uu {a b : Int} (h : ¬ a = b) : (a == b) = false := by simp [h]
theorem UH {a b : Int} (h : ¬ a = b) : (a != b) = true := by simp [h]
theorem UG {a b : Int} (h : a = b) : (a != b) = false := by simp [h]
theorem wi {n : Int} (h : -9223372036854775808 ≤ n ∧ n < 9223372036854775808) : IntKind.wrap .i64 n = n := uQ h.1 (by omega)
theorem wb {n : Int} (h : 0 ≤ n ∧ n < 256) : IntKind.wrap .u8 n = n := by
 simp [IntKind.wrap, IntKind.bits, IntKind.signed]; omega
theorem QL {i : Int} {n : Nat} (h : 0 ≤ i ∧ i < n) : dq (.int .i64 i) n = some i.toNat := by
 simp [dq, oJ, h]
def at_ : Nat → aH → aH
 | 0, .seq a _ => a
 | 0, c => c
 | n + 1, .seq _ b => at_ n b
 | _ + 1, c => c
def MG : Nat → aH → aH
 | 0, c => c
 | n + 1, .seq _ b => MG n b
 | _ + 1, c => c
theorem xR (a b : aH) : at_ 0 (.seq a b) = a := rfl
theorem xV (n : Nat) (a b : aH) : at_ (n + 1) (.seq a b) = at_ n b := rfl
theorem NI (c : aH) : MG 0 c = c := rfl
theorem NH (n : Nat) (a b : aH) : MG (n + 1) (.seq a b) = MG n b := rfl
theorem AM {h : H} {id i : Nat} (e : ¬ i = id) : (h.del id).get i = h.get i := by rw [H.eI, if_neg e]
theorem CL (h : H) : h.ez.next = h.next := vL rfl rfl
theorem CB (h : H) : h.ez.floor = h.next := vL rfl rfl
theorem CD (h : H) (i : Nat) : h.ez.get i = h.get i := vL rfl rfl
theorem GF (h : H) (i : Nat) : (h.del i).next = h.next := vL rfl rfl
theorem Gq (h : H) (i : Nat) : (h.del i).floor = h.floor := vL rfl rfl
theorem wO {h : H} {cs : List AV} {i : Nat} (e : i = h.next) : (h.alloc cs).get i = some cs := by rw [H.aW, if_pos e]
theorem w9 {h : H} {cs : List AV} {i : Nat} (e : ¬ i = h.next) : (h.alloc cs).get i = h.get i := by rw [H.aW, if_neg e]
theorem wV {h : H} {cs : List AV} {id i : Nat} (e : i = id) : (h.set id cs).get i = (h.get i).map fun _ => cs := by rw [H.dQ, if_pos e, e]
theorem wI {h : H} {cs : List AV} {id i : Nat} (e : ¬ i = id) : (h.set id cs).get i = h.get i := by rw [H.dQ, if_neg e]
def yj {α : Type} (b : Bool) (x : α) : Option α := if b then some x else none
theorem Jl {α : Type} (x : α) : yj true x = some x := rfl
theorem JQ (h : H) (id off n : Nat) (v cs : List AV) : ve h id off n v (some cs) = yj (decide (h.floor ≤ id) && (decide (v.length = n) && (decide (off + n ≤ cs.length) && AV.aC v))) (h.set id (setFrom cs off v)) := by
 simp only [ve, vO, yj]
 by_cases c : h.floor ≤ id ∧ v.length = n ∧ off + n ≤ cs.length ∧ AV.aC v = true
 · rw [if_pos c]; obtain ⟨c1, c2, c3, c4⟩ := c; simp [c1, c2, c3, c4]
 · rw [if_neg c, if_neg]; simpa using c
theorem UI (n : Nat) (cs : List AV) (off : Nat) : iG true n cs off = yj (decide (off + n ≤ cs.length)) (.agg ((cs.drop off).take n)) := by
 simp only [iG, yj, if_true, Vx]
theorem Lr (z : List AV) : eE z [] = some z := rfl
def HA (r : List (Nat × Nat × AV)) (p : Option (List AV)) : Option (List AV) := p.bind fun z => eE z r
theorem Jv (r : List (Nat × Nat × AV)) (z : List AV) : HA r (some z) = eE z r := rfl
theorem Lq (z : List AV) (o n : Nat) (v : AV) (r : List (Nat × Nat × AV)) : eE z ((o, n, v) :: r) = HA r (yj (decide (v.cells.length = n) && (decide (o + n ≤ z.length) && AV.aC v.cells)) (setFrom z o v.cells)) := by
 simp only [eE, yj]
 by_cases c : v.cells.length = n ∧ o + n ≤ z.length ∧ AV.aC v.cells = true
 · rw [if_pos c]; obtain ⟨c1, c2, c3⟩ := c; simp [c1, c2, c3, HA]
 · rw [if_neg c, if_neg]; · rfl
   simpa using c
def Ha (p : Option (List AV)) (f : Nat → AV) : Option (List AV × (Nat → AV)) := p.bind fun cs => some (cs, f)
theorem K4 (cs : List AV) (f : Nat → AV) : Ha (some cs) f = some (cs, f) := rfl
theorem Fc (e : Env) (z : List AV) : aX e (.alloc z) = Ha (yj (AV.aC z) z) (fun i => .aE i 0) := by
 simp only [aX, yj]; split <;> rfl
theorem Ji (e : Env) (n : Nat) (x : X) : aX e (.box n x) = Ha (yj (decide ((x.ev e).cells.length = n) && AV.aC (x.ev e).cells) (x.ev e).cells) (fun i => .aE i 0) := by
 simp only [aX, yj]
 by_cases c : (x.ev e).cells.length = n ∧ AV.aC (x.ev e).cells = true
 · rw [if_pos c]; simp [c, Ha]
 · rw [if_neg c, if_neg]; · rfl
   simpa using c
theorem DS (e : Env) (sz len : Nat) (z : List AV) (ps : List (Nat × X)) : aX e (.cZ sz len z ps) = Ha (HA (ps.map fun p => (p.1 * sz, sz, p.2.ev e)) (yj (decide (z.length = sz) && (decide (0 < sz) && AV.aC z)) (eh len z))) (fun i => .aF i 0 len sz) := by
 simp only [aX, yj]
 by_cases c : z.length = sz ∧ 0 < sz ∧ AV.aC z = true
 · rw [if_pos c]; simp [c, Ha, HA]
 · rw [if_neg c, if_neg]; · rfl
   simpa using c
theorem Mc (z : List AV) : eh 0 z = [] := rfl
theorem Mb (n : Nat) (z : List AV) : eh (n + 1) z = z ++ eh n z := rfl
def Qe (xU : List Nat) (e : Env) (h : H) (b : Bool) : dY := if b then some (.normal, ay e xU, h) else none
theorem LD (xU : List Nat) (e : Env) (h : H) : Qe xU e h true = some (.normal, ay e xU, h) := rfl
def UE (c : ah) (ops : List ak) (fl : List (Nat × List Nat)) (xU : List Nat) (p : Option (Env × H × List H)) : dY := p.bind fun q => Qe xU q.1 q.2.1 (aY c ops q.1 q.2.2 fl)
theorem NX (c : ah) (ops : List ak) (fl : List (Nat × List Nat)) (xU : List Nat) (e : Env) (h : H) (gs : List H) : UE c ops fl xU (some (e, h, gs)) = Qe xU e h (aY c ops e gs fl) := rfl
theorem Jg (c : ah) (l : bP) (ord : List Nat) (ops : List ak) (x : Nat × List Nat) (fl : List (Nat × List Nat)) (xU : List Nat) (e : Env) (h : H) : aM c l (.jm ord ops (x :: fl) xU) e h = UE c ops (x :: fl) xU (aO c ops e h) := by
 rw [aM]; rfl
theorem Oh (c : ah) (ops : List ak) (e : Env) (gs : List H) : aY c ops e gs [] = true := rfl
def TR (c : ah) (ops : List ak) (e : Env) (gs : List H) (i : Nat) (ks : List Nat) : Bool := ks.all (bN c ops e gs i)
theorem Og (c : ah) (ops : List ak) (e : Env) (gs : List H) (i : Nat) (ks : List Nat) (r : List (Nat × List Nat)) : aY c ops e gs ((i, ks) :: r) = (TR c ops e gs i ks && aY c ops e gs r) := rfl
theorem Od (c : ah) (ops : List ak) (e : Env) (gs : List H) (i : Nat) : TR c ops e gs i [] = true := rfl
def Qz (c : ah) (e : Env) (o : Option ak) (g : Option H) : Bool := match o, g with
 | some o, some g =>
   if o.op.aJ then
    match o.dst.map (look e) with
    | some (.bU []) => true
    | some v => (match v.id?, aX e o.op with
      | some id, some b => (match g.get id with | some cs => AV.gJ cs b.1 | none => false)
      | _, _ => false)
    | none => false
   else match o.dst.map (look e) with
    | some v => (match aj c o e g with | some (u, _) => AV.beq u v | none => false)
    | none => false
 | _, _ => false
theorem Oc (c : ah) (ops : List ak) (e : Env) (gs : List H) (i k : Nat) (r : List Nat) : TR c ops e gs i (k :: r) = (Qz c e (ops[i]?) (gs[k]?) && TR c ops e gs i r) := by
 unfold TR
 rw [List.all_cons]
 congr 1
def UA (v : AV) (p : Option (AV × H)) : Bool := match p with | some (u, _) => AV.beq u v | none => false
theorem Oe (v u : AV) (h : H) : UA v (some (u, h)) = AV.beq u v := rfl
def QI (b : Bool) (x y : Bool) : Bool := if b then x else y
theorem Oa (x y : Bool) : QI false x y = y := rfl
def E8 (c : ah) (e : Env) (o : Option ak) (g : Option H) : Bool := Qz c e o g
theorem N9 (c : ah) (e : Env) (d : Nat) (op : cf) (g : H) : Qz c e (some ⟨some d, op, none⟩) (some g) = QI op.aJ (E8 c e (some ⟨some d, op, none⟩) (some g)) (UA (look e d) (ai c e g op)) := by
 unfold E8 Qz QI
 dsimp only
 cases op.aJ <;> rfl
theorem N8 (c : ah) (e : Env) (d : Nat) (op : cf) (k : Nat) (w : Bool) (g : H) : Qz c e (some ⟨some d, op, some (k, w)⟩) (some g) = QI op.aJ (E8 c e (some ⟨some d, op, some (k, w)⟩) (some g)) (UA (look e d) (mw w c e g op (look e k))) := by
 unfold E8 Qz QI
 dsimp only
 cases op.aJ with
 | true => rfl
 | false => rw [nN]; rfl
mutual
theorem beq_refl : ∀ a : AV, AV.beq a a = true
 | .bot => rfl
 | .bool b => by simp [AV.beq]
 | .int k n => by simp [AV.beq]
 | .str s => DE s
 | .cH => rfl
 | .aE i o => by simp [AV.beq]
 | .aL c o => by simp [AV.beq, yg c]
 | .aQ => rfl
 | .aF i o l z => by simp [AV.beq]
 | .aV t c o l z => by simp [AV.beq, yg c]
 | .fn f a b => by simp [AV.beq, yg a, yg b]
 | .fq => rfl
 | .iface t v => by simp [AV.beq, beq_refl v]
 | .ft => rfl
 | .agg c => by simp [AV.beq, yg c]
 | .bU c => by simp [AV.beq, yg c]
theorem yg : ∀ l : List AV, AV.gJ l l = true
 | [] => rfl
 | a :: l => by simp [AV.gJ, beq_refl a, yg l]
end
theorem Ob (x y : Bool) : QI true x y = x := rfl
def QQ (c : Option (List AV)) (d : List AV) : Bool := match c with | some cs => AV.gJ cs d | none => false
theorem NR (c d : List AV) : QQ (some c) d = AV.gJ c d := rfl
def GS (v : AV) (b : Option (List AV × (Nat → AV))) (g : H) : Bool := match v with
 | .bU [] => true
 | v => match v.id?, b with
   | some id, some b => QQ (g.get id) b.1
   | _, _ => false
theorem Mn (b : Option (List AV × (Nat → AV))) (g : H) : GS (.bU []) b g = true := rfl
theorem Ml (i o : Nat) (cs : List AV) (f : Nat → AV) (g : H) : GS (.aE i o) (some (cs, f)) g = QQ (g.get i) cs := rfl
theorem Mj (i o l z : Nat) (cs : List AV) (f : Nat → AV) (g : H) : GS (.aF i o l z) (some (cs, f)) g = QQ (g.get i) cs := rfl
theorem DJ {c : ah} {e : Env} {d : Nat} {op : cf} {gd : Option (Nat × Bool)} {g : H} (hb : op.aJ = true) : E8 c e (some ⟨some d, op, gd⟩) (some g) = GS (look e d) (aX e op) g := by
 unfold E8 Qz
 dsimp only
 rw [hb, if_pos rfl]
 show (match some (look e d) with
  | some (.bU []) => true
  | some v => (match v.id?, aX e op with
    | some id, some b => (match g.get id with | some cs => AV.gJ cs b.1 | none => false)
    | _, _ => false)
  | none => false) = _
 generalize look e d = v
 unfold GS QQ
 cases v with
 | bU vs => cases vs <;> rfl
 | _ => cases aX e op <;> rfl
theorem EO (c : ah) (e : Env) (d : Nat) (z : List AV) (gd : Option (Nat × Bool)) (g : H) : E8 c e (some ⟨some d, .alloc z, gd⟩) (some g) = GS (look e d) (aX e (.alloc z)) g := DJ rfl
theorem Ic (c : ah) (e : Env) (d n : Nat) (x : X) (gd : Option (Nat × Bool)) (g : H) : E8 c e (some ⟨some d, .box n x, gd⟩) (some g) = GS (look e d) (aX e (.box n x)) g := DJ rfl
theorem Dz (c : ah) (e : Env) (d n m : Nat) (z : List AV) (ps : List (Nat × X)) (gd : Option (Nat × Bool)) (g : H) : E8 c e (some ⟨some d, .cZ n m z ps, gd⟩) (some g) = GS (look e d) (aX e (.cZ n m z ps)) g := DJ rfl
theorem F5 (c : ah) (e : Env) (d n m : Nat) (z : List AV) (x y : X) (gd : Option (Nat × Bool)) (g : H) : E8 c e (some ⟨some d, .jo n m z x y, gd⟩) (some g) = GS (look e d) (aX e (.jo n m z x y)) g := DJ rfl
theorem G6 (b : Bool) : AV.beq (.bool b) (.bool b) = true := by simp [AV.beq]
theorem G9 : AV.beq (.bU []) (.bU []) = true := rfl
theorem G7 : AV.beq .aQ .aQ = true := rfl
theorem Fb : AV.beq .cH .cH = true := rfl
theorem LJ (sz id off len : Nat) (i : AV) : gG sz (.aF id off len sz) i = vr id off sz (dq i len) := by simp [gG, vr]
theorem LI (t : Bool) (cells : List AV) (sz off len : Nat) (i : AV) : gG sz (.aV t cells off len sz) i = vt cells off sz (dq i len) := by simp [gG, vt]
def yd (n : Nat) (z : List AV) : List AV := eh n z
def NZ (sz bytes : Nat) (zero : List AV) (l c : AV) : Option (List AV × (Nat → AV)) :=
 match l, c with
 | .int .i64 l, .int .i64 c => Ha (yj (decide (0 ≤ l) && (decide (l ≤ c) && (decide (c ≤ 9223372036854775807) && (decide ((bytes : Int) * c ≤ 281474976710656) && (decide (zero.length = sz) && (decide (0 < sz) && AV.aC zero)))))) (yd c.toNat zero)) (fun i => .aF i 0 l.toNat sz)
 | _, _ => none
theorem GD (sz bytes : Nat) (zero : List AV) (l c : Int) : NZ sz bytes zero (.int .i64 l) (.int .i64 c) = Ha (yj (decide (0 ≤ l) && (decide (l ≤ c) && (decide (c ≤ 9223372036854775807) && (decide ((bytes : Int) * c ≤ 281474976710656) && (decide (zero.length = sz) && (decide (0 < sz) && AV.aC zero)))))) (yd c.toNat zero)) (fun i => .aF i 0 l.toNat sz) := rfl
theorem Hb (e : Env) (sz bytes : Nat) (zero : List AV) (l c : X) : aX e (.jo sz bytes zero l c) = NZ sz bytes zero (l.ev e) (c.ev e) := by
 simp only [aX]
 cases l.ev e with
 | int k l => cases k <;> cases c.ev e with
   | int k2 c => cases k2 <;> first
     | rfl
     | (simp only [GD, yj]
        by_cases q : 0 ≤ l ∧ l ≤ c ∧ c ≤ 9223372036854775807 ∧ (bytes : Int) * c ≤ 281474976710656 ∧ zero.length = sz ∧ 0 < sz ∧ AV.aC zero = true
        · rw [if_pos q]; obtain ⟨q1, q2, q3, q4, q5, q6, q7⟩ := q
          rw [if_pos]
          · rfl
          · simp [q1, q2, q3, q4, q5, q6, q7]
        · rw [if_neg q, if_neg]
          · rfl
          · simpa using q)
   | _ => rfl
 | _ => cases c.ev e <;> rfl
theorem KW (i o l z : Nat) : jy false (.aF i o l z) = some (.int .i64 l) := rfl
theorem KV : jy false .aQ = some (.int .i64 0) := rfl
theorem KU (t : Bool) (c : List AV) (o l z : Nat) : jy false (.aV t c o l z) = some (.int .i64 l) := rfl
theorem B9 (s : ByteArray) : jy true (.str s) = some (.int .i64 s.size) := rfl
theorem Mv (a b : Nat) : ((a : Int) + (b : Int)).toNat = a + b := by omega
theorem EX (a : Nat) : ((a : Int)).toNat = a := by omega
def yk (s : ByteArray) (i : Nat) : Nat := ((s[i]?).map (·.toNat)).getD 0
theorem zK (s : ByteArray) (i : Nat) : yk s i < 256 := by
 unfold yk
 cases s[i]? with
 | none => simp
 | some b => simp; exact b.toNat_lt
theorem Gv {s : ByteArray} {i : Int} (h : 0 ≤ i ∧ i < s.size) : ni (.str s) (.int .i64 i) = some (.int .u8 (yk s i.toNat : Nat)) := by
 have hi : i.toNat < s.size := by omega
 simp [ni, QL h, yk, hi]
def C8 {α : Type} (b : Bool) (x y : Option α) : Option α := if b then x else y
theorem Me {α : Type} (x y : Option α) : C8 true x y = x := rfl
theorem Md {α : Type} (x y : Option α) : C8 false x y = y := rfl
def Qy (n o k : Nat) (p : Option (List AV)) : Option (Nat × List AV) := p.bind fun cs => yj (decide (o + k * n ≤ cs.length)) (k, (cs.drop o).take (k * n))
theorem Mi (n o k : Nat) (cs : List AV) : Qy n o k (some cs) = yj (decide (o + k * n ≤ cs.length)) (k, (cs.drop o).take (k * n)) := rfl
theorem N6 (h : H) (n p o k : Nat) : aT h n (.aF p o k n) = Qy n o k (h.get p) := by
 simp only [aT, if_true, Qy]
 cases h.get p with
 | none => rfl
 | some cs => simp only [vO, yj, Vx]
theorem N4 (h : H) (t : Bool) (n o k : Nat) (cs : List AV) : aT h n (.aV t cs o k n) = yj (decide (o + k * n ≤ cs.length)) (k, (cs.drop o).take (k * n)) := by
 simp only [aT, if_true, yj, Vx]
theorem N5 (h : H) (n : Nat) : aT h n .aQ = some (0, []) := vL rfl rfl
theorem N7 (h : H) (s : ByteArray) : aT h 1 (.str s) = some (s.size, s.data.toList.map fun b => .int .u8 b.toNat) := vL rfl rfl
def QN (h : H) (n z : Nat) (a : AV) (p : Option (Nat × List AV)) : Option (AV × H) := p.bind fun r => ep h n z a r.1 r.2
theorem KY (h : H) (n z : Nat) (a : AV) (m : Nat) (bs : List AV) : QN h n z a (some (m, bs)) = ep h n z a m bs := rfl
theorem NP (h : H) (n z : Nat) (a b : AV) : lL h n z a b = QN h n z a (aT h n b) := vL rfl rfl
def TY (h : H) (n z p o k m : Nat) (bs : List AV) (q : Option (List AV)) : Option (AV × H) := q.bind fun cs =>
 C8 (decide (o + (k + m) * n ≤ cs.length)) (some (.aF p o (k + m) n, h.set p (setFrom cs (o + k * n) bs))) (C8 (decide (o + k * n = cs.length) && roomy z (k + m)) (some (.aF h.next 0 (k + m) n, (h.del p).alloc (cs.drop o ++ bs))) none)
theorem NM (h : H) (n z p o k m : Nat) (bs cs : List AV) : TY h n z p o k m bs (some cs) = C8 (decide (o + (k + m) * n ≤ cs.length)) (some (.aF p o (k + m) n, h.set p (setFrom cs (o + k * n) bs))) (C8 (decide (o + k * n = cs.length) && roomy z (k + m)) (some (.aF h.next 0 (k + m) n, (h.del p).alloc (cs.drop o ++ bs))) none) := rfl
theorem NO (h : H) (n z p o k m : Nat) (bs : List AV) : ep h n z (.aF p o k n) m bs = C8 (decide (m = 0)) (some (.aF p o k n, h)) (C8 (AV.aC bs && (decide (0 < n) && decide (h.floor ≤ p))) (TY h n z p o k m bs (h.get p)) none) := by
 unfold ep C8
 by_cases c : m = 0
 · simp [c]
 · rw [if_neg c]
   simp only [Vx, if_neg c]
   by_cases c1 : AV.aC bs = false ∨ n = 0
   · rw [if_pos c1, if_neg]
     rcases c1 with c1 | c1
     · simp [c1]
     · simp [c1]
   · rw [if_neg c1]
     have q1 : AV.aC bs = true := by cases q : AV.aC bs with | true => rfl | false => exact absurd (.inl q) c1
     by_cases c2 : h.floor ≤ p
     · have qq : (AV.aC bs && (decide (0 < n) && decide (h.floor ≤ p))) = true := by simp [q1, c2]; omega
       simp only [true_and, if_pos c2, qq, if_true, TY, C8]
       cases h.get p with
       | none => rfl
       | some cs => simp only [vO, Vx, vS]
     · have qq : (AV.aC bs && (decide (0 < n) && decide (h.floor ≤ p))) = false := by simp [c2]
       simp only [true_and, if_neg c2, qq]; rfl
theorem NN (h : H) (n z m : Nat) (bs : List AV) : ep h n z .aQ m bs = C8 (decide (m = 0)) (some (.aQ, h)) (C8 (AV.aC bs && (decide (0 < n) && roomy z m)) (some (.aF h.next 0 m n, h.alloc bs)) none) := by
 unfold ep C8
 by_cases c : m = 0
 · simp [c]
 · rw [if_neg c]
   simp only [Vx, if_neg c]
   by_cases c1 : AV.aC bs = false ∨ n = 0
   · rw [if_pos c1, if_neg]
     rcases c1 with c1 | c1
     · simp [c1]
     · simp [c1]
   · rw [if_neg c1]
     have q1 : AV.aC bs = true := by cases q : AV.aC bs with | true => rfl | false => exact absurd (.inl q) c1
     have q2 : 0 < n := by omega
     simp [q1, q2]
theorem yh {b n : Nat} (h : 1 ≤ b ∧ (n + n / 4 + 512) * b ≤ 281474976710656) : roomy b n = true := by simp only [roomy, h.1, h.2, and_self, decide_true]
theorem Gs {α : Type} {C : α → List AV} {n : Nat} (hC : ∀ x, (C x).length = n) : ∀ {l : List α} {i f : Nat} {x : α}, l[i]? = some x → f < n → (l.flatMap C)[i * n + f]? = (C x)[f]?
 | [], i, f, x, h, _ => by simp at h
 | y :: l, 0, f, x, h, hf => by
   obtain rfl : y = x := by simpa using h
   rw [Va, Nat.zero_mul, vW, Vs (by rw [hC]; exact hf)]
 | y :: l, i + 1, f, x, h, hf => by
   rw [Va, Vj (by rw [hC, wh]; omega), hC]
   rw [show (i + 1) * n + f - n = i * n + f by rw [wh]; omega]
   exact Gs hC (by simpa using h) hf
theorem C3 {α : Type} {C : α → List AV} {n : Nat} (hC : ∀ x, (C x).length = n) : ∀ l : List α, (l.flatMap C).length = l.length * n
 | [] => by simp
 | y :: l => by rw [Va, wo, hC, C3 hC l, UZ, wh]; omega
theorem Gt {α : Type} {C : α → List AV} {n : Nat} (hC : ∀ x, (C x).length = n) : ∀ {l : List α} {i : Nat} {x : α}, l[i]? = some x → ((l.flatMap C).drop (i * n)).take n = C x
 | [], i, x, h => by simp at h
 | y :: l, 0, x, h => by
   obtain rfl : y = x := by simpa using h
   rw [Va, Nat.zero_mul, Vr, List.take_append_of_le_length (by rw [hC]; omega), Vg (by rw [hC]; omega)]
 | y :: l, i + 1, x, h => by
   rw [Va, List.drop_append, List.drop_of_length_le (by rw [hC, wh]; omega), List.nil_append, hC, show (i + 1) * n - n = i * n by rw [wh]; omega]
   exact Gt hC (by simpa using h)
def zE (n : Nat) (h : H) (v : AV) (k : Nat) (cs : List AV) : Prop := aT h n v = some (k, cs) ∧ cs.length = k * n ∧ ∀ s, v ≠ .str s
theorem Rd.TV {h : H} {v : AV} {cs : List AV} (r : Rd h v cs) : zE 1 h v cs.length cs := ⟨r.1, by omega, r.2⟩
theorem zE.len {n : Nat} {h : H} {v : AV} {k : Nat} {cs : List AV} (r : zE n h v k cs) : jy false v = some (.int .i64 k) := by
 obtain ⟨r, _, hs⟩ := r
 unfold aT at r
 split at r
 · obtain ⟨h1, h2⟩ := vJ (vG r); subst h1; rfl
 · exact absurd rfl (hs _)
 · split at r
   · simp only [vH] at r
     obtain ⟨c, _, r⟩ := r
     split at r
     · obtain ⟨h1, h2⟩ := vJ (vG r); simp [jy, h1]
     · cases r
   · cases r
 · split at r
   · split at r
     · obtain ⟨h1, h2⟩ := vJ (vG r); simp [jy, h1]
     · cases r
   · cases r
 · cases r
theorem zE.mono {n : Nat} {h g : H} {v : AV} {k : Nat} {cs : List AV} (r : zE n h v k cs) (hg : ∀ id c, h.get id = some c → g.get id = some c) : zE n g v k cs := by
 obtain ⟨r, hl, hs⟩ := r
 refine ⟨?_, hl, hs⟩
 unfold aT at r ⊢
 split at r
 · exact r
 · exact r
 · split at r
   · rename_i q; simp only [if_pos q, vH] at r ⊢
     obtain ⟨c, h1, r⟩ := r
     exact ⟨c, hg _ _ h1, r⟩
   · cases r
 · exact r
 · cases r
theorem zE.at_ {n : Nat} {h : H} {v : AV} {k : Nat} {cs : List AV} (r : zE n h v k cs) : ∃ ad : Int → Nat → AV,
 (∀ i : Int, 0 ≤ i ∧ i < k → gG n v (.int .i64 i) = some (ad i 0)) ∧
 (∀ (i : Int) (f g : Nat), 0 ≤ i ∧ i < k → fJ g (ad i f) = some (ad i (f + g))) ∧
 (∀ (i : Int) (f : Nat) (g : H), 0 ≤ i ∧ i < k → jS g (ad i f) = some (ad i f, g)) ∧
 (∀ g : H, (∀ id c, h.get id = some c → g.get id = some c) → (∀ (i : Int) (f : Nat) (c : AV), 0 ≤ i ∧ i < k → cs[i.toNat * n + f]? = some c → cJ false 1 (ad i f) g = some c) ∧
   ∀ i : Int, 0 ≤ i ∧ i < k → cJ true n (ad i 0) g = some (.agg ((cs.drop (i.toNat * n)).take n))) := by
 obtain ⟨r, hl, hs⟩ := r
 unfold aT at r
 split at r
 · obtain ⟨h1, h2⟩ := vJ (vG r); subst h1
   exact ⟨fun _ _ => .bot, fun i hi => by omega, fun i f g hi => by omega, fun i f g hi => by omega, fun g _ => ⟨fun i f c hi => by omega, fun i hi => by omega⟩⟩
 · exact absurd rfl (hs _)
 · rename_i id off len s
   split at r
   · rename_i q
     subst q
     simp only [vH] at r
     obtain ⟨d, hd, r⟩ := r
     split at r
     · rename_i hle
       obtain ⟨h1, h2⟩ := vJ (vG r)
       subst h1
       have bnd : ∀ i : Int, 0 ≤ i ∧ i < len → i.toNat * s + s ≤ len * s := fun i hi => by
        have := vU s (show i.toNat + 1 ≤ len by omega); rw [wh] at this; omega
       refine ⟨fun i f => .aE id (off + i.toNat * s + f), fun i hi => by simp [gG, QL hi], fun i f g _ => by simp [fJ]; omega, fun i f g _ => rfl, fun g hg => ⟨fun i f c hi hc => ?_, fun i hi => ?_⟩⟩
       · simp only [cJ, hg _ _ hd, vO, iG, vP, wq]
         rw [← h2, wm] at hc
         split at hc
         · rw [v9] at hc; rw [vQ]; exact hc
         · cases hc
       · have := bnd i hi
         simp only [cJ, hg _ _ hd, vO, iG, if_true, Nat.add_zero]
         rw [if_pos (by omega), ← h2, List.drop_take, List.take_take, List.drop_drop, Nat.min_eq_left (by omega)]
     · cases r
   · cases r
 · rename_i t cells off len s
   split at r
   · rename_i q
     subst q
     split at r
     · rename_i hle
       obtain ⟨h1, h2⟩ := vJ (vG r)
       subst h1
       have bnd : ∀ i : Int, 0 ≤ i ∧ i < len → i.toNat * s + s ≤ len * s := fun i hi => by
        have := vU s (show i.toNat + 1 ≤ len by omega); rw [wh] at this; omega
       refine ⟨fun i f => .aL cells (off + i.toNat * s + f), fun i hi => by simp [gG, QL hi], fun i f g _ => by simp [fJ]; omega, fun i f g _ => rfl, fun g hg => ⟨fun i f c hi hc => ?_, fun i hi => ?_⟩⟩
       · simp only [cJ, iG, vP, wq]
         rw [← h2, wm] at hc
         split at hc
         · rw [v9] at hc; rw [vQ]; exact hc
         · cases hc
       · have := bnd i hi
         simp only [cJ, iG, if_true, Nat.add_zero]
         rw [if_pos (by omega), ← h2, List.drop_take, List.take_take, List.drop_drop, Nat.min_eq_left (by omega)]
     · cases r
   · cases r
 · cases r
def wS (n : Nat) (h : H) (v : AV) (k : Nat) (cs : List AV) : Prop := cs.length = k * n ∧ ((v = .aQ ∧ k = 0) ∨ ∃ id, v = .aF id 0 k n ∧ h.get id = some cs ∧ h.floor ≤ id ∧ 0 < k)
theorem wS.nil {n : Nat} {h : H} : wS n h .aQ 0 [] := ⟨by simp, .inl ⟨rfl, rfl⟩⟩
theorem wS.mono {n : Nat} {h g : H} {v : AV} {k : Nat} {cs : List AV} (o : wS n h v k cs) (hf : g.floor = h.floor) (hg : ∀ i, v.id? = some i → g.get i = h.get i) : wS n g v k cs := by
 obtain ⟨l, o⟩ := o
 refine ⟨l, ?_⟩
 rcases o with o | ⟨id, rfl, h1, h2, h3⟩
 · exact .inl o
 · exact .inr ⟨id, rfl, by rw [hg id rfl]; exact h1, by rw [hf]; exact h2, h3⟩
theorem wS.sc {n : Nat} {h : H} {v : AV} {k : Nat} {cs : List AV} (o : wS n h v k cs) : v.sc = true := by
 rcases o.2 with ⟨rfl, _⟩ | ⟨id, rfl, _⟩ <;> rfl
theorem wS.lt {n : Nat} {h : H} {v : AV} {k : Nat} {cs : List AV} (o : wS n h v k cs) {i : Nat} (hi : v.id? = some i) : h.floor ≤ i ∧ i < h.next := by
 rcases o.2 with ⟨rfl, _⟩ | ⟨id, rfl, h1, h2⟩
 · cases hi
 · obtain rfl := vG hi; exact ⟨h2.1, h.lt _ _ h1⟩
theorem wS.rd {n : Nat} {h : H} {v : AV} {k : Nat} {cs : List AV} (o : wS n h v k cs) : zE n h v k cs := by
 obtain ⟨l, o⟩ := o
 rcases o with ⟨rfl, rfl⟩ | ⟨id, rfl, h1, h2⟩
 · have : cs = [] := List.eq_nil_of_length_eq_zero (by omega)
   subst this
   exact ⟨rfl, by simp, fun _ => by simp⟩
 · refine ⟨?_, l, fun _ => by simp⟩
   simp only [aT, if_true, h1, vO, vW]
   rw [if_pos (by omega), Vr, Vg (by omega)]
theorem wS.app {n : Nat} {h : H} {v : AV} {k : Nat} {cs : List AV} (o : wS n h v k cs) (hfn : h.floor ≤ h.next) {z m : Nat} (hm : 0 < m) (hn : 0 < n) (bs : List AV) (hb : bs.length = m * n) (hc : AV.aC bs = true) (hr : roomy z (k + m) = true) :
 ∃ v' h', ep h n z v m bs = some (v', h') ∧ wS n h' v' (k + m) (cs ++ bs) ∧ h'.floor = h.floor ∧ h.next ≤ h'.next ∧ (∀ i, v.id? ≠ some i → i ≠ h.next → h'.get i = h.get i) ∧ v'.id? = some h.next := by
 obtain ⟨hl, o⟩ := o
 have hll : (cs ++ bs).length = (k + m) * n := by rw [wo, hl, hb, wh]
 rcases o with ⟨rfl, rfl⟩ | ⟨id, rfl, hg, hf, _⟩
 · have : cs = [] := List.eq_nil_of_length_eq_zero (by omega)
   subst this
   refine ⟨.aF h.next 0 m n, h.alloc bs, ?_, ⟨hll, .inr ⟨h.next, by simp, by simp [H.aW], by simp; omega, by omega⟩⟩, by simp, by simp, fun i _ hi => by rw [H.aW, if_neg hi], rfl⟩
   unfold ep
   rw [if_neg (by omega), if_neg (by simp [hc]; omega)]
   rw [vW] at hr
   simp only [hr, if_true]
 · have hmn : 0 < m * n := Nat.mul_pos hm hn
   have hnot : ¬ 0 + (k + m) * n ≤ cs.length := by rw [hl, wh]; omega
   refine ⟨.aF h.next 0 (k + m) n, (h.del id).alloc (cs ++ bs), ?_, ⟨hll, .inr ⟨h.next, by simp, by simp [H.aW], ?_, by omega⟩⟩, by simp, by simp, fun i h1 h2 => ?_, rfl⟩
   · unfold ep
     rw [if_neg (by omega), if_neg (by simp [hc]; omega)]
     simp only [hf, and_self, if_true, hg, vO]
     rw [if_neg hnot, if_pos ⟨by omega, hr⟩]
     simp
   · have := h.lt id cs hg; simp; omega
   · rw [H.aW, H.jQ, if_neg h2, H.eI, if_neg]
     intro e; subst e; exact h1 rfl
theorem wS.push {n : Nat} {h : H} {v : AV} {k : Nat} {cs : List AV} (o : wS n h v k cs) (hfn : h.floor ≤ h.next) {z m : Nat} (hm : 0 < m) (hn : 0 < n) (bs : List AV) (hb : bs.length = m * n) (hc : AV.aC bs = true) (hr : roomy z (k + m) = true) :
 ∃ v' h', lL (h.alloc bs) n z v (.aF h.next 0 m n) = some (v', h') ∧ wS n h' v' (k + m) (cs ++ bs) ∧ h'.floor = h.floor ∧ h.next + 1 ≤ h'.next ∧ (∀ i, v.id? ≠ some i → i < h.next → h'.get i = h.get i) ∧ v'.id? = some (h.next + 1) := by
 have o1 : wS n (h.alloc bs) v k cs := o.mono (by simp) fun i q => by rw [H.aW, if_neg]; have := o.lt q; omega
 obtain ⟨v', h', p1, p2, p3, p4, p5, p6⟩ := o1.app (z := z) (by simp; omega) hm hn bs hb hc hr
 refine ⟨v', h', ?_, p2, by rw [p3]; simp, by simpa using p4, fun i q1 q2 => ?_, by simpa using p6⟩
 · have src : aT (h.alloc bs) n (.aF h.next 0 m n) = some (m, bs) := by
    simp only [aT, if_true, H.aW, vO, vW]
    rw [if_pos (by omega), Vr, Vg (by omega)]
   unfold lL; rw [src, vO]; exact p1
 · rw [p5 i q1 (by simp; omega), H.aW, if_neg (by omega)]
def AK (n k : Nat) (cs : List AV) : AV := if k = 0 then .aQ else .aV false cs 0 k n
theorem GQ {n k : Nat} {h : H} {cs : List AV} (hl : cs.length = k * n) : zE n h (AK n k cs) k cs := by
 unfold AK
 by_cases hk : k = 0
 · subst hk
   have : cs = [] := List.eq_nil_of_length_eq_zero (by omega)
   subst this
   exact ⟨rfl, by simp, fun _ => by simp⟩
 · rw [if_neg hk]
   refine ⟨?_, hl, fun _ => by simp⟩
   simp only [aT, if_true, vW]
   rw [if_pos (by omega), Vr, Vg (by omega)]
theorem wS.yT {n : Nat} {h : H} {v : AV} {k : Nat} {l : List Int} {fl m : Nat} {t : Bool} (o : wS n h v k (ints l)) (hf : fl ≤ h.floor) : snap h.get fl (m + 2) t v = some (AK n k (ints l)) := by
 obtain ⟨hl, o⟩ := o
 rw [qy] at hl
 rcases o with ⟨rfl, rfl⟩ | ⟨id, rfl, q, h2, hk⟩
 · rfl
 · unfold snap
   rw [if_neg (by omega), q, vO, if_pos (by rw [qy]; omega)]
   rw [Vr, Vg (by rw [qy]; omega), yF]
   unfold AK
   rw [if_neg (by omega)]; rfl
attribute [go_sem] List.map_cons List.map_nil Bool.and_true Bool.true_and Bool.and_self List.append_nil Option.map_some Option.map_none Bool.and_false Bool.false_and Bool.or_false Bool.or_true Bool.true_or Bool.false_or Bool.or_self cf.aP cf.aJ Int.reduceAdd Int.reduceSub Int.reduceMul Int.reduceNeg Int.reduceToNat List.take_succ_cons List.take_zero List.drop_zero List.drop_succ_cons Int.cast_ofNat_Int Int.natCast_one Int.natCast_zero List.length_set
theorem wG : type_of% @dt ∧ type_of% @df ∧ type_of% @UD ∧ type_of% @Uu ∧ type_of% @UH ∧ type_of% @UG ∧ type_of% @wi ∧ type_of% @wb ∧ type_of% @B9 ∧ type_of% @Gv ∧ type_of% @Mv ∧ type_of% @EX ∧ type_of% @QL ∧ type_of% @wO ∧ type_of% @w9 ∧ type_of% @wV ∧ type_of% @wI ∧ type_of% @H.jK ∧ type_of% @H.kM ∧ type_of% @H.mu ∧ type_of% @H.jR ∧ type_of% @JQ ∧ type_of% @Jl ∧ type_of% @Lr ∧ type_of% @Lq ∧ type_of% @Jv ∧ type_of% @DS ∧ type_of% @Fc ∧ type_of% @Ji ∧ type_of% @K4 ∧ type_of% @Mb ∧ type_of% @Mc ∧ type_of% @qF ∧ type_of% @qc ∧ type_of% @sI ∧ type_of% @qN ∧ type_of% @LJ ∧ type_of% @LI ∧ type_of% @tS ∧ type_of% @tT ∧ type_of% @Hb ∧ type_of% @GD ∧ type_of% @KW ∧ type_of% @KV ∧ type_of% @KU ∧ type_of% @Jg ∧ type_of% @NX ∧ type_of% @LD ∧ type_of% @Oh ∧ type_of% @Og ∧ type_of% @Od ∧ type_of% @Oc ∧ type_of% @Oe ∧ type_of% @Oa ∧ type_of% @Gk ∧ type_of% @G6 ∧ type_of% @G9 ∧ type_of% @G7 ∧ type_of% @Fb ∧ type_of% @DE ∧ type_of% @DQ ∧ type_of% @G8 ∧ type_of% @CM ∧ type_of% @GI ∧ type_of% @LV ∧ type_of% @Gu ∧ type_of% @GN ∧ type_of% @GM ∧ type_of% @N9 ∧ type_of% @N8 ∧ type_of% @uX ∧ type_of% @beq_refl ∧ type_of% @yg ∧ type_of% @Ob ∧ type_of% @NR ∧ type_of% @Mn ∧ type_of% @Ml ∧ type_of% @Mj ∧ type_of% @EO ∧ type_of% @Ic ∧ type_of% @Dz ∧ type_of% @F5 := ⟨@dt, @df, @UD, @Uu, @UH, @UG, @wi, @wb, @B9, @Gv, @Mv, @EX, @QL, @wO, @w9, @wV, @wI, @H.jK, @H.kM, @H.mu, @H.jR, @JQ, @Jl, @Lr, @Lq, @Jv, @DS, @Fc, @Ji, @K4, @Mb, @Mc, @qF, @qc, @sI, @qN, @LJ, @LI, @tS, @tT, @Hb, @GD, @KW, @KV, @KU, @Jg, @NX, @LD, @Oh, @Og, @Od, @Oc, @Oe, @Oa, @Gk, @G6, @G9, @G7, @Fb, @DE, @DQ, @G8, @CM, @GI, @LV, @Gu, @GN, @GM, @N9, @N8, @uX, @beq_refl, @yg, @Ob, @NR, @Mn, @Ml, @Mj, @EO, @Ic, @Dz, @F5⟩
theorem Au : type_of% @CL ∧ type_of% @CD ∧ type_of% @CB ∧ type_of% @GF ∧ type_of% @Gq ∧ type_of% @AM ∧ type_of% @UI ∧ type_of% @Me ∧ type_of% @Md ∧ type_of% @Mi ∧ type_of% @N6 ∧ type_of% @N4 ∧ type_of% @N5 ∧ type_of% @N7 ∧ type_of% @KY ∧ type_of% @NP ∧ type_of% @NM ∧ type_of% @NO ∧ type_of% @NN ∧ type_of% @yh ∧ type_of% @xR ∧ type_of% @xV ∧ type_of% @NI ∧ type_of% @NH := ⟨@CL, @CD, @CB, @GF, @Gq, @AM, @UI, @Me, @Md, @Mi, @N6, @N4, @N5, @N7, @KY, @NP, @NM, @NO, @NN, @yh, @xR, @xV, @NI, @NH⟩
theorem xe : type_of% @H.kM ∧ type_of% @H.jR ∧ type_of% @GF ∧ type_of% @CL ∧ type_of% @H.jK ∧ type_of% @H.mu ∧ type_of% @Gq ∧ type_of% @CB := ⟨@H.kM, @H.jR, @GF, @CL, @H.jK, @H.mu, @Gq, @CB⟩
theorem Aa : type_of% @wO ∧ type_of% @w9 ∧ type_of% @wV ∧ type_of% @wI ∧ type_of% @AM ∧ type_of% @CD := ⟨@wO, @w9, @wV, @wI, @AM, @CD⟩
end Ab
set_option maxRecDepth 100000
namespace Ab
open Go
theorem wrap_u32 {n : Nat} (h : n < 4294967296) : IntKind.wrap .u32 (n : Int) = n := by
 have e : IntKind.wrap .u32 (n : Int) = (n : Int) % 4294967296 := by simp [IntKind.wrap, IntKind.bits, IntKind.signed]
 rw [e]; omega
theorem KN (n : Int) : IntKind.wrap .u32 n = n % 4294967296 := by simp [IntKind.wrap, IntKind.bits, IntKind.signed]
theorem wu {n : Int} (h : 0 ≤ n ∧ n < 4294967296) : IntKind.wrap .u32 n = n := by rw [KN]; omega
theorem AZ {a b : Nat} (ha : a < 4294967296) (hb : b < 4294967296) : a ^^^ b < 4294967296 := Nat.xor_lt_two_pow (n := 32) ha hb
theorem zj {a b : Nat} (ha : a < 4294967296) (hb : b < 4294967296) : bits .xor .u32 (a : Int) (b : Int) = ((a ^^^ b : Nat) : Int) := by
 have h3 := AZ ha hb
 show IntKind.wrap .u32 (((BitVec.ofInt 32 (a : Int) ^^^ BitVec.ofInt 32 (b : Int)).toNat : Nat) : Int) = _
 rw [BitVec.toNat_xor, yu 32 a (by omega), yu 32 b (by omega)]
 exact wrap_u32 h3
theorem DT {a : Nat} (ha : a < 4294967296) : bits .and .u32 (a : Int) 1 = ((a % 2 : Nat) : Int) := by
 show IntKind.wrap .u32 (((BitVec.ofInt 32 (a : Int) &&& BitVec.ofInt 32 ((1 : Nat) : Int)).toNat : Nat) : Int) = _
 rw [BitVec.toNat_and, yu 32 a (by omega), yu 32 1 (by omega), Nat.and_one_is_mod]
 exact wrap_u32 (by omega)
theorem JO {a : Nat} (ha : a < 4294967296) : qe .shr .u32 (a : Int) 1 = some (.int .u32 ((a / 2 : Nat) : Int)) := by
 unfold qe
 rw [if_neg (by omega)]
 have e : (2 : Int) ^ min (Int.toNat 1) IntKind.u32.bits = 2 := by decide
 rw [e]
 show some (AV.int .u32 _) = _
 rw [Int.fdiv_eq_ediv_of_nonneg _ (by omega)]
 rfl
theorem Gy {h : H} {a : Nat} (ha : a < 4294967296) : tV h (.int .u32 (a : Int)) = some (.int .u32 ((4294967295 - a : Nat) : Int), h) := by
 rw [u0]
 have e : (if IntKind.u32.signed then -1 else IntKind.u32.max) = ((4294967295 : Nat) : Int) := by decide
 rw [e, zj (by omega) ha]
 have h2 : 4294967295 ^^^ a = 4294967295 - a := by
  have h1 : a < 2 ^ 32 := by simpa using ha
  have : 4294967295 - a = 2 ^ 32 - (a + 1) := by omega
  rw [this]
  apply Nat.eq_of_testBit_eq
  intro i
  rw [Nat.testBit_two_pow_sub_succ h1, Nat.testBit_xor, show 4294967295 = 2 ^ 32 - 1 from rfl, Nat.testBit_two_pow_sub_one]
  by_cases hi : i < 32
  · simp [hi]
  · have : a.testBit i = false := Nat.testBit_lt_two_pow (Nat.lt_of_lt_of_le h1 (Vd (by omega) (by omega)))
    simp [hi, this]
 rw [h2]
def BI (c : Nat) : Nat := if c % 2 = 1 then (c / 2) ^^^ 3988292384 else c / 2
def Cx : Nat → Nat → Nat
 | 0, c => c
 | n + 1, c => Cx n (BI c)
def zc (c b : Nat) : Nat := Cx 8 (c ^^^ b)
def yQ (s : ByteArray) : Nat → Nat → Nat → Nat
 | 0, _, c => c
 | n + 1, i, c => yQ s n (i + 1) (zc c (yk s i))
theorem CW {c : Nat} (h : c < 4294967296) : BI c < 4294967296 := by
 unfold BI; split
 · exact AZ (by omega) (by omega)
 · omega
theorem D4 : ∀ (n : Nat) {c : Nat}, c < 4294967296 → Cx n c < 4294967296
 | 0, _, h => h
 | n + 1, _, h => D4 n (CW h)
theorem Ap {c b : Nat} (hc : c < 4294967296) (hb : b < 256) : zc c b < 4294967296 := D4 8 (AZ hc (by omega))
theorem CX (s : ByteArray) : ∀ (n i : Nat) {c : Nat}, c < 4294967296 → yQ s n i c < 4294967296
 | 0, _, _, h => h
 | n + 1, i, _, h => CX s n (i + 1) (Ap h (zK s i))
theorem Fz (a b d : AV) (h : H) : ∀ (n c k : Nat), k + n = 8 → c < 4294967296 →
 ∃ e', Lp AP.A [1, 5, 12, 13, 22] AP.f103L0 [(1, a), (5, .int .u32 c), (12, b), (13, d), (22, .int .i64 k)] h = some (.exit 2, e', h) ∧ look e' 1 = a ∧ look e' 5 = .int .u32 (Cx n c : Nat) ∧ look e' 12 = b ∧ look e' 13 = d
 | 0, c, k, hk, hc => by
   refine ⟨[(1, a), (5, .int .u32 c), (12, b), (13, d), (22, .int .i64 k), (23, .bool false)], ux ?_, rfl, rfl, rfl, rfl⟩
   simp (disch := omega) only [go_sem, wG, AP.f103L0]
 | n + 1, c, k, hk, hc => by
   obtain ⟨e', r1, r2, r3, r4, r5⟩ := Fz a b d h n (BI c) (k + 1) (by omega) (CW hc)
   have n1 : ((k + 1 : Nat) : Int) = (k : Int) + 1 := by omega
   have x1 := zj (a := c / 2) (b := 3988292384) (by omega) (by omega)
   have a1 := DT hc
   have s1 := JO hc
   refine ⟨e', uy ?_ r1, r2, r3, r4, r5⟩
   rw [n1]
   unfold BI
   by_cases p : c % 2 = 1
   · rw [if_pos p]
     rw [show ((3988292384 : Nat) : Int) = 3988292384 from rfl] at x1
     simp (disch := omega) only [go_sem, wG, AP.f103L0, a1, s1, x1]
   · rw [if_neg p]
     simp (disch := omega) only [go_sem, wG, AP.f103L0, a1, s1]
theorem FA (s : ByteArray) (hs : s.size < 1125899906842624) (h : H) : ∀ (n i c : Nat), i + n = s.size → c < 4294967296 →
 ∃ e', Lp AP.A [1, 5, 12, 13] AP.f103L1 [(1, .str s), (5, .int .u32 c), (12, .int .i64 s.size), (13, .int .i64 i)] h = some (.exit 0, e', h) ∧ look e' 5 = .int .u32 (yQ s n i c : Nat)
 | 0, i, c, hi, hc => by
   refine ⟨[(1, .str s), (5, .int .u32 c), (12, .int .i64 s.size), (13, .int .i64 i), (14, .bool false)], ux ?_, rfl⟩
   simp (disch := omega) only [go_sem, wG, AP.f103L1]
 | n + 1, i, c, hi, hc => by
   have hb := zK s i
   obtain ⟨e', r1, r2⟩ := FA s hs h n (i + 1) (zc c (yk s i)) (by omega) (Ap hc hb)
   obtain ⟨e1, q1, q2, q3, q4, q5⟩ := Fz (.str s) (.int .i64 s.size) (.int .i64 i) h 8 (c ^^^ yk s i) 0 rfl (AZ hc (by omega))
   have q1' : Lp AP.A [1, 5, 12, 13, 22] AP.f103L0 [(1, .str s), (5, .int .u32 (c ^^^ yk s i : Nat)), (12, .int .i64 s.size), (13, .int .i64 i), (22, .int .i64 0)] h = some (.exit 2, e1, h) := q1
   clear q1
   have x1 := zj hc (show yk s i < 4294967296 by omega)
   have n1 : ((i + 1 : Nat) : Int) = (i : Int) + 1 := by omega
   refine ⟨e', uy ?_ r1, r2⟩
   rw [n1]
   unfold zc
   simp (disch := omega) only [go_sem, wG, AP.f103L1, wu, x1, th, q1', q2, q3, q4, q5]
def yc (a : Nat) (s : ByteArray) : Nat := 4294967295 - yQ s s.size 0 (4294967295 - a)
theorem CH (a : Nat) (s : ByteArray) : yc a s < 4294967296 := by unfold yc; omega
theorem IM (h : H) (s : ByteArray) (a : Nat) (ha : a < 4294967296) (hs : s.size < 1125899906842624) : aS AP.A 103 [.int .i64 a, .str s] h = some (.int .i64 (yc a s : Nat), h) := by
 obtain ⟨e', r1, r2⟩ := FA s hs h.ez s.size 0 (4294967295 - a) (by omega) (by omega)
 have r1' : Lp AP.A [1, 5, 12, 13] AP.f103L1 [(1, .str s), (5, .int .u32 (4294967295 - a : Nat)), (12, .int .i64 s.size), (13, .int .i64 0)] h.ez = some (.exit 0, e', h.ez) := r1
 clear r1
 have lt := CX s s.size 0 (c := 4294967295 - a) (by omega)
 have v1 : ∀ g : H, tV g (.int .u32 (a : Int)) = some (.int .u32 ((4294967295 - a : Nat) : Int), g) := fun g => Gy ha
 have v2 : ∀ g : H, tV g (.int .u32 (yQ s s.size 0 (4294967295 - a) : Nat)) = some (.int .u32 ((4294967295 - yQ s s.size 0 (4294967295 - a) : Nat) : Int), g) := fun g => Gy lt
 refine u7 (fn := AP.f103) (h2 := h.ez) (e := [(4, .int .i64 (yc a s : Nat))]) rfl rfl rfl ?_ rfl rfl
 unfold yc
 simp (disch := omega) only [go_sem, wG, AP.f103, wu, v1, v2, th, r1', r2]
def Jx (x : Int) : Bool := decide (0 ≤ x ∧ x ≤ 4294967295)
theorem TL (h : H) (x : Int) : aS AP.A 105 [.int .i64 x] h = some (.bool (Jx x), h) := by
 refine u7 (fn := AP.f105) (h2 := h.ez) (e := [(2, .bool (Jx x))]) rfl rfl rfl ?_ rfl rfl
 unfold Jx
 by_cases c1 : 0 ≤ x
 · by_cases c2 : x ≤ 4294967295
   · simp (disch := omega) only [go_sem, wG, AP.f105]
   · simp (disch := omega) only [go_sem, wG, AP.f105]
 · simp (disch := omega) only [go_sem, wG, AP.f105]
def zm (s : ByteArray) : Nat := yc 0 s
theorem LP (h : H) (s : ByteArray) (hs : s.size < 1125899906842624) : aS AP.A 115 [.str s] h = some (.int .i64 (zm s : Nat), h) := by
 have k1 := IM h.ez s 0 (by omega) hs
 have k1' : aS AP.A 103 [.int .i64 0, .str s] h.ez = some (.int .i64 (zm s : Nat), h.ez) := k1
 refine u7 (fn := AP.f115) (h2 := h.ez) (e := [(2, .int .i64 (zm s : Nat))]) rfl rfl rfl ?_ rfl rfl
 simp (disch := omega) only [go_sem, wG, AP.f115, k1']
theorem Gc (a d : AV) (h : H) : ∀ (n c k : Nat), k + n = 8 → c < 4294967296 →
 ∃ e', Lp AP.A [0, 1, 5, 6] AP.f111L0 [(0, .int .u32 c), (1, a), (5, d), (6, .int .i64 k)] h = some (.exit 2, e', h) ∧ look e' 1 = a ∧ look e' 0 = .int .u32 (Cx n c : Nat) ∧ look e' 5 = d
 | 0, c, k, hk, hc => by
   refine ⟨[(0, .int .u32 c), (1, a), (5, d), (6, .int .i64 k), (20, .bool false)], ux ?_, rfl, rfl, rfl⟩
   simp (disch := omega) only [go_sem, wG, AP.f111L0]
 | n + 1, c, k, hk, hc => by
   obtain ⟨e', r1, r2, r3, r4⟩ := Gc a d h n (BI c) (k + 1) (by omega) (CW hc)
   have n1 : ((k + 1 : Nat) : Int) = (k : Int) + 1 := by omega
   have x1 := zj (a := c / 2) (b := 3988292384) (by omega) (by omega)
   have a1 := DT hc
   have s1 := JO hc
   refine ⟨e', uy ?_ r1, r2, r3, r4⟩
   rw [n1]
   unfold BI
   by_cases p : c % 2 = 1
   · rw [if_pos p]
     rw [show ((3988292384 : Nat) : Int) = 3988292384 from rfl] at x1
     simp (disch := omega) only [go_sem, wG, AP.f111L0, a1, s1, x1]
   · rw [if_neg p]
     simp (disch := omega) only [go_sem, wG, AP.f111L0, a1, s1]
theorem Gd (s : ByteArray) (hs : s.size < 1125899906842624) (h : H) : ∀ (n i c : Nat), i + n = s.size → c < 4294967296 →
 ∃ e', Lp AP.A [0, 1, 5] AP.f111L1 [(0, .int .u32 c), (1, .str s), (5, .int .i64 i)] h = some (.exit 0, e', h) ∧ look e' 0 = .int .u32 (yQ s n i c : Nat)
 | 0, i, c, hi, hc => by
   refine ⟨[(0, .int .u32 c), (1, .str s), (5, .int .i64 i), (10, .bool false)], ux ?_, rfl⟩
   simp (disch := omega) only [go_sem, wG, AP.f111L1]
 | n + 1, i, c, hi, hc => by
   have hb := zK s i
   obtain ⟨e', r1, r2⟩ := Gd s hs h n (i + 1) (zc c (yk s i)) (by omega) (Ap hc hb)
   obtain ⟨e1, q1, q2, q3, q4⟩ := Gc (.str s) (.int .i64 i) h 8 (c ^^^ yk s i) 0 rfl (AZ hc (by omega))
   have q1' : Lp AP.A [0, 1, 5, 6] AP.f111L0 [(0, .int .u32 (c ^^^ yk s i : Nat)), (1, .str s), (5, .int .i64 i), (6, .int .i64 0)] h = some (.exit 2, e1, h) := q1
   clear q1
   have x1 := zj hc (show yk s i < 4294967296 by omega)
   have n1 : ((i + 1 : Nat) : Int) = (i : Int) + 1 := by omega
   refine ⟨e', uy ?_ r1, r2⟩
   rw [n1]
   unfold zc
   simp (disch := omega) only [go_sem, wG, AP.f111L1, wu, x1, th, q1', q2, q3, q4]
theorem QF (h : H) (s : ByteArray) (c : Nat) (hc : c < 4294967296) (hs : s.size < 1125899906842624) : aS AP.A 111 [.int .u32 c, .str s] h = some (.int .u32 (yQ s s.size 0 c : Nat), h) := by
 obtain ⟨e', r1, r2⟩ := Gd s hs h.ez s.size 0 c (by omega) hc
 have r1' : Lp AP.A [0, 1, 5] AP.f111L1 [(0, .int .u32 c), (1, .str s), (5, .int .i64 0)] h.ez = some (.exit 0, e', h.ez) := r1
 clear r1
 refine u7 (fn := AP.f111) (h2 := h.ez) (e := [(4, .int .u32 (yQ s s.size 0 c : Nat))]) rfl rfl rfl ?_ rfl rfl
 simp (disch := omega) only [go_sem, wG, AP.f111, th, r1', r2]
theorem Lb (h : H) (s : ByteArray) (hs : s.size < 1125899906842624) : aS AP.A 101 [.str s] h = some (.int .i64 (zm s : Nat), h) := by
 have k1 := QF h.ez s 4294967295 (by omega) hs
 have k1' : aS AP.A 111 [.int .u32 4294967295, .str s] h.ez = some (.int .u32 (yQ s s.size 0 4294967295 : Nat), h.ez) := k1
 have lt := CX s s.size 0 (c := 4294967295) (by omega)
 have v2 : ∀ g : H, tV g (.int .u32 (yQ s s.size 0 4294967295 : Nat)) = some (.int .u32 (zm s : Nat), g) := fun g => Gy lt
 have lt2 := CH 0 s
 unfold zm at v2 ⊢
 refine u7 (fn := AP.f101) (h2 := h.ez) (e := [(2, .int .i64 (yc 0 s : Nat))]) rfl rfl rfl ?_ rfl rfl
 simp (disch := omega) only [go_sem, wG, AP.f101, k1', v2]
theorem EN {a s : Nat} (hs : s ≤ 64) : qe .shr .i64 (a : Int) (s : Int) = some (.int .i64 ((a / 2 ^ s : Nat) : Int)) := by
 unfold qe
 rw [if_neg (by omega)]
 simp only [IntKind.bits, VA, Nat.min_eq_left hs]
 rw [Int.fdiv_eq_ediv_of_nonneg _ (Int.pow_nonneg (by omega))]
 simp
theorem MD (n : Nat) : IntKind.wrap .u8 (n : Int) = ((n % 256 : Nat) : Int) := by rw [MC]; omega
def LM (x i : Nat) : Nat := x / 2 ^ (8 * i) % 256
def xa (x k : Nat) : List Nat := (List.range k).map (LM x)
theorem Kq (x k : Nat) : xa x (k + 1) = xa x k ++ [LM x k] := by simp [xa, List.range_succ]
theorem wZ (x k : Nat) : (xa x k).length = k := by simp [xa]
def LL (x k : Nat) : ByteArray := bytesOf (xa x k)
theorem DP {h : H} {v : AV} {k : Nat} {l : List Nat} (o : wS 1 h v k (yI l)) : uV h v (aT h 1 v) = some (.str (bytesOf l), h) := by
 rw [o.rd.1]
 simp only [uV, vO, Gj]
 rcases o.2 with ⟨rfl, _⟩ | ⟨id, rfl, _⟩ <;> rfl
theorem BD (a b : List Nat) : yI (a ++ b) = yI a ++ yI b := by simp [yI]
theorem HO (x k id : Nat) (hk : k ≤ 8) : ∀ (m i : Nat) (h : H), i + m = k → h.get id = some (yI (xa x i ++ List.replicate m 0)) → h.floor ≤ id →
 ∃ e' h', Lp AP.A [0, 5, 10, 11] AP.f104L0 [(0, .int .i64 x), (5, .aF id 0 k 1), (10, .int .i64 k), (11, .int .i64 i)] h = some (.exit 0, e', h') ∧ look e' 5 = .aF id 0 k 1 ∧ h'.get id = some (yI (xa x k)) ∧ h'.floor = h.floor
 | 0, i, h, hi, hg, hf => by
   obtain rfl : i = k := by omega
   refine ⟨[(0, .int .i64 x), (5, .aF id 0 i 1), (10, .int .i64 i), (11, .int .i64 i), (12, .bool false)], h, ux ?_, rfl, by simpa using hg, rfl⟩
   simp (disch := omega) only [go_sem, wG, AP.f104L0]
 | m + 1, i, h, hi, hg, hf => by
   have g2 : (h.set id (yI (xa x (i + 1) ++ List.replicate m 0))).get id = some (yI (xa x (i + 1) ++ List.replicate m 0)) := by rw [wV rfl, hg]; rfl
   obtain ⟨e', h', r1, r2, r3, r4⟩ := HO x k id hk m (i + 1) _ (by omega) g2 (by simpa using hf)
   have n1 : ((i + 1 : Nat) : Int) = (i : Int) + 1 := by omega
   have n2 : (8 : Int) * (i : Int) = ((8 * i : Nat) : Int) := by omega
   have s1 := EN (a := x) (s := 8 * i) (by omega)
   have w1 := MD (x / 2 ^ (8 * i))
   have st : ve h id i 1 [.int .u8 ((x / 2 ^ (8 * i) % 256 : Nat) : Int)] (some (yI (xa x i ++ List.replicate (m + 1) 0))) = some (h.set id (yI (xa x (i + 1) ++ List.replicate m 0))) := by
    rw [vA hf (by simp [wZ]) rfl]
    congr 2
    rw [Kq, BD, BD, BD, List.set_append_right _ _ (by simp [wZ]), Vb]
    simp [wZ, yI, List.replicate_succ, LM]
   refine ⟨e', h', uy ?_ r1, r2, r3, by rw [r4]; simp⟩
   rw [n1]
   simp (disch := omega) only [go_sem, wG, AP.f104L0, n2, s1, w1, hg, st]
theorem Bx (h : H) (x k : Nat) (hk : k ≤ 8) (hk0 : 0 < k) : aS AP.A 104 [.int .i64 x, .int .i64 k] h = some (.str (LL x k), h) := by
 obtain ⟨h1, eh1⟩ : ∃ g, g = h.ez.alloc (yd k [.int .u8 0]) := ⟨_, rfl⟩
 have hz : yd k [.int .u8 0] = yI (xa x 0 ++ List.replicate k 0) := by
  unfold yd; rw [EH]; simp [yI, xa]
 have g1 : h1.get h.next = some (yI (xa x 0 ++ List.replicate k 0)) := by rw [eh1, wO (by simp), hz]
 obtain ⟨e', h', r1, r2, r3, r4⟩ := HO x k h.next hk k 0 h1 (by omega) g1 (by rw [eh1]; simp)
 have r1' : Lp AP.A [0, 5, 10, 11] AP.f104L0 [(0, .int .i64 x), (5, .aF h.next 0 k 1), (10, .int .i64 k), (11, .int .i64 0)] h1 = some (.exit 0, e', h') := r1
 clear r1
 have o : wS 1 h' (.aF h.next 0 k 1) k (yI (xa x k)) := ⟨by simp [wZ], .inr ⟨h.next, rfl, r3, by rw [r4, eh1]; simp, hk0⟩⟩
 have b := DP o
 have hn : h.ez.next = h.next := rfl
 refine u7 (fn := AP.f104) (h2 := h') (e := [(4, .str (LL x k))]) rfl rfl rfl ?_ rfl rfl
 unfold LL
 simp (disch := omega) only [go_sem, wG, AP.f104, th, hn, ← eh1, r1', r2, b]
theorem QM {k : IntKind} {i : Int} {n : Nat} (h : 0 ≤ i ∧ i < n) : dq (.int k i) n = some i.toNat := by simp [dq, oJ, h]
def okB (b : Nat) : Bool := decide (97 ≤ b ∧ b ≤ 122 ∨ 48 ≤ b ∧ b ≤ 57 ∨ b = 46 ∨ b = 45 ∨ b = 95)
def yM (s : ByteArray) : Nat → Nat → Bool
 | 0, _ => false
 | n + 1, i => decide (i = yk s n) || yM s n i
def Nv : ByteArray := ⟨#[97, 98, 99, 100, 101, 102, 103, 104, 105, 106, 107, 108, 109, 110, 111, 112, 113, 114, 115, 116, 117, 118, 119, 120, 121, 122, 48, 49, 50, 51, 52, 53, 54, 55, 56, 57, 46, 45, 95]⟩
def bT (P : Nat → Bool) : List AV := oz 256 fun i => .bool (P i)
theorem Bz (P : Nat → Bool) : (bT P).length = 256 := by simp [bT]
theorem Oj (P : Nat → Bool) {i : Nat} (h : i < 256) : (bT P)[i]? = some (.bool (P i)) := gE h
theorem Ol (s : ByteArray) (n : Nat) : (bT (yM s n)).set (yk s n) (.bool true) = bT (yM s (n + 1)) := by
 unfold bT
 rw [uP (zK s n)]
 congr 1
 funext i
 have e : yM s (n + 1) i = (decide (i = yk s n) || yM s n i) := rfl
 rw [e]
 unfold vh
 by_cases h : i = yk s n
 · simp [h]
 · simp [h]
theorem QO : bT (yM Nv 39) = bT okB := by
 unfold bT oz
 refine Vu fun i hi => ?_
 have hi' : i < 256 := VE.1 hi
 have : ∀ i, i < 256 → yM Nv 39 i = okB i := by decide +kernel
 rw [this i hi']
theorem Eo (g : Nat → Option (List AV)) (fl n : Nat) (t : Bool) : ∀ l : List Bool, fV (snap g fl (n + 1) t) (l.map .bool) = some (l.map .bool)
 | [] => rfl
 | b :: l => by
   have := Eo g fl n t l
   simp only [Ve, fV, this]; rfl
theorem Nq (g : Nat → Option (List AV)) (fl n : Nat) (t : Bool) (P : Nat → Bool) : fV (snap g fl (n + 1) t) (bT P) = some (bT P) := by
 have e : bT P = ((List.range 256).map P).map .bool := by unfold bT oz; rw [List.map_map]; rfl
 rw [e]; exact Eo g fl n t _
theorem K5 (e : Env) : aX e (.alloc [.bool false, .bool false, .bool false, .bool false, .bool false, .bool false, .bool false, .bool false, .bool false, .bool false, .bool false, .bool false, .bool false, .bool false, .bool false, .bool false, .bool false, .bool false, .bool false, .bool false, .bool false, .bool false, .bool false, .bool false, .bool false, .bool false, .bool false, .bool false, .bool false, .bool false, .bool false, .bool false, .bool false, .bool false, .bool false, .bool false, .bool false, .bool false, .bool false, .bool false, .bool false, .bool false, .bool false, .bool false, .bool false, .bool false, .bool false, .bool false, .bool false, .bool false, .bool false, .bool false, .bool false, .bool false, .bool false, .bool false, .bool false, .bool false, .bool false, .bool false, .bool false, .bool false, .bool false, .bool false, .bool false, .bool false, .bool false, .bool false, .bool false, .bool false, .bool false, .bool false, .bool false, .bool false, .bool false, .bool false, .bool false, .bool false, .bool false, .bool false, .bool false, .bool false, .bool false, .bool false, .bool false, .bool false, .bool false, .bool false, .bool false, .bool false, .bool false, .bool false, .bool false, .bool false, .bool false, .bool false, .bool false, .bool false, .bool false, .bool false, .bool false, .bool false, .bool false, .bool false, .bool false, .bool false, .bool false, .bool false, .bool false, .bool false, .bool false, .bool false, .bool false, .bool false, .bool false, .bool false, .bool false, .bool false, .bool false, .bool false, .bool false, .bool false, .bool false, .bool false, .bool false, .bool false, .bool false, .bool false, .bool false, .bool false, .bool false, .bool false, .bool false, .bool false, .bool false, .bool false, .bool false, .bool false, .bool false, .bool false, .bool false, .bool false, .bool false, .bool false, .bool false, .bool false, .bool false, .bool false, .bool false, .bool false, .bool false, .bool false, .bool false, .bool false, .bool false, .bool false, .bool false, .bool false, .bool false, .bool false, .bool false, .bool false, .bool false, .bool false, .bool false, .bool false, .bool false, .bool false, .bool false, .bool false, .bool false, .bool false, .bool false, .bool false, .bool false, .bool false, .bool false, .bool false, .bool false, .bool false, .bool false, .bool false, .bool false, .bool false, .bool false, .bool false, .bool false, .bool false, .bool false, .bool false, .bool false, .bool false, .bool false, .bool false, .bool false, .bool false, .bool false, .bool false, .bool false, .bool false, .bool false, .bool false, .bool false, .bool false, .bool false, .bool false, .bool false, .bool false, .bool false, .bool false, .bool false, .bool false, .bool false, .bool false, .bool false, .bool false, .bool false, .bool false, .bool false, .bool false, .bool false, .bool false, .bool false, .bool false, .bool false, .bool false, .bool false, .bool false, .bool false, .bool false, .bool false, .bool false, .bool false, .bool false, .bool false, .bool false, .bool false, .bool false, .bool false, .bool false, .bool false, .bool false, .bool false, .bool false, .bool false, .bool false, .bool false, .bool false, .bool false, .bool false, .bool false, .bool false, .bool false, .bool false, .bool false, .bool false]) = some (bT fun _ => false, fun i => .aE i 0) := rfl
theorem JG (s : ByteArray) (hs : s.size < 100000) (h7 : ∀ i, i < s.size → yk s i < 128) (id : Nat) : ∀ (m n : Nat) (h : H), n + m = s.size → h.get id = some (bT (yM s n)) → h.floor ≤ id →
 ∃ e' h', Lp AP.A [0, 2, 4] AP.f127L0 [(0, .str s), (2, .aE id 0), (4, .int .i64 n)] h = some (.exit 0, e', h') ∧ look e' 2 = .aE id 0 ∧ h'.get id = some (bT (yM s s.size)) ∧ h'.floor = h.floor
 | 0, n, h, hn, hg, hf => by
   obtain rfl : n = s.size := by omega
   refine ⟨[(0, .str s), (2, .aE id 0), (4, .int .i64 s.size), (9, .bool false)], h, ux ?_, rfl, hg, rfl⟩
   simp (disch := omega) only [go_sem, wG, AP.f127L0]
 | m + 1, n, h, hn, hg, hf => by
   have g2 : (h.set id (bT (yM s (n + 1)))).get id = some (bT (yM s (n + 1))) := by rw [wV rfl, hg]; rfl
   obtain ⟨e', h', r1, r2, r3, r4⟩ := JG s hs h7 id m (n + 1) _ (by omega) g2 (by simpa using hf)
   have n1 : ((n + 1 : Nat) : Int) = (n : Int) + 1 := by omega
   have hb := zK s n
   have hb7 := h7 n (by omega)
   have ia : dq (.int .u8 (yk s n : Nat)) 256 = some (yk s n) := by rw [QM (by omega)]; rfl
   have st : ve h id (yk s n) 1 [.bool true] (some (bT (yM s n))) = some (h.set id (bT (yM s (n + 1)))) := by rw [vA hf (by rw [Bz]; exact hb) rfl, Ol]
   refine ⟨e', h', uy ?_ r1, r2, r3, by rw [r4]; simp⟩
   rw [n1]
   generalize bT (yM s n) = T at *
   generalize bT (yM s (n + 1)) = T2 at *
   simp (disch := omega) only [go_sem, wG, AP.f127L0, ia, hg, st]
theorem JP {h : H} {id n : Nat} {v cs : List AV} (hf : h.floor ≤ id) (hv : v.length = n) (hc : cs.length = n) (hs : AV.aC v = true) : ve h id 0 n v (some cs) = some (h.set id v) := by
 rw [JQ]
 have e : setFrom cs 0 v = v := by
  have := yZ cs v [] [] (by omega)
  simpa using this
 simp [hf, hv, hc, hs, e, yj]
theorem NQ (P : Nat → Bool) : AV.aC (bT P) = true := by
 have e : bT P = ((List.range 256).map P).map .bool := by unfold bT oz; rw [List.map_map]; rfl
 rw [e]
 generalize (List.range 256).map P = l
 induction l with
 | nil => rfl
 | cons b l ih => simp [ih]
theorem Qr (P : Nat → Bool) : iG true 256 (bT P) 0 = some (.agg (bT P)) := by
 simp only [iG, if_true]
 rw [if_pos (by rw [Bz]; omega), Vr, Vg (by rw [Bz]; omega)]
theorem Ns (h : H) (s : ByteArray) (hs : s.size < 100000) (h7 : ∀ i, i < s.size → yk s i < 128) : aS AP.A 127 [.str s] h = some (.bU [.agg (bT (yM s s.size)), .bool true], h) := by
 obtain ⟨h1, eh1⟩ : ∃ g, g = h.ez.alloc (bT fun _ => false) := ⟨_, rfl⟩
 have g1 : h1.get h.next = some (bT (yM s 0)) := by rw [eh1, wO (by simp)]; rfl
 obtain ⟨e', h', r1, r2, r3, r4⟩ := JG s hs h7 h.next s.size 0 h1 (by omega) g1 (by rw [eh1]; simp)
 have r1' : Lp AP.A [0, 2, 4] AP.f127L0 [(0, .str s), (2, .aE h.next 0), (4, .int .i64 0)] h1 = some (.exit 0, e', h') := r1
 clear r1
 obtain ⟨h2, eh2⟩ : ∃ g, g = h'.set h.next (bT (yM s s.size)) := ⟨_, rfl⟩
 have st : ve h' h.next 0 256 (bT (yM s s.size)) (some (bT (yM s s.size))) = some h2 := by
  rw [JP (by rw [r4, eh1]; simp) (Bz _) (Bz _) (NQ _), eh2]
 have g2 : h2.get h.next = some (bT (yM s s.size)) := by rw [eh2, wV rfl, r3]; rfl
 have hn : h.ez.next = h.next := rfl
 have rd := Qr (yM s s.size)
 refine u7 (fn := AP.f127) (h2 := h2) (e := [(2, .aE h.next 0), (3, .bool true)]) (vs := [.agg (bT (yM s s.size)), .bool true]) rfl rfl rfl ?_ ?_ ?_
 · generalize bT (yM s s.size) = T at *
   simp (disch := omega) only [go_sem, AP.f127, K5, hn, ← eh1, th, r1', r2, r3, rd, st]
 · simp only [AP.f127, cO, od, nQ, rH, g2, uo, rd, mB, ne_eq, Nat.reduceEqDiff, not_false_eq_true]
   rfl
 · show (fV (snap h2.get h.next 15 true) [.agg (bT (yM s s.size)), .bool true]).bind _ = _
   have m1 : snap h2.get h.next 15 true (.agg (bT (yM s s.size))) = some (.agg (bT (yM s s.size))) := by
    unfold snap; rw [Nq]; rfl
   simp only [fV, m1]; rfl
theorem NY (h : H) (id b : Nat) (P : Nat → Bool) (hg : h.get id = some (bT P)) (hb : b < 256) : aS AP.A 132 [.aE id 0, .int .u8 b] h = some (.bool (P b), h) := by
 have ia : dq (.int .u8 b) 256 = some b := by rw [QM (by omega)]; congr 1
 have g := Oj P hb
 refine uM (fn := AP.f132) (h2 := h) (e := [(4, .bool (P b))]) (vs := [.bool (P b)]) rfl rfl rfl ?_ rfl
 generalize bT P = T at *
 simp (disch := omega) only [go_sem, wG, AP.f132, ia, hg, g]
theorem K3 {s : ByteArray} {n : Nat} (hn : n ≤ s.size) : oK (.str s) none (some (.int .i64 n)) = some (.str (s.extract 0 n)) := MM hn
theorem MN {s : ByteArray} {n : Nat} (hn : n ≤ s.size) : oK (.str s) (some (.int .i64 n)) none = some (.str (s.extract n s.size)) := by
 have : kQ (.int .i64 n) s.size = some n := Ia hn
 simp [oK, aB, this]
theorem DF {s : ByteArray} {a b i : Nat} (hb : b ≤ s.size) (hi : a + i < b) : yk (s.extract a b) i = yk s (a + i) := by
 have e : (s.extract a b)[i]? = s[a + i]? := by
  show (s.extract a b).data[i]? = s.data[a + i]?
  rw [ByteArray.data_extract, Array.getElem?_extract]
  have : s.data.size = s.size := rfl
  rw [if_pos (by omega)]
 unfold yk; rw [e]
theorem CO {s : ByteArray} {a b : Nat} (hb : b ≤ s.size) : (s.extract a b).size = b - a := by simp [ByteArray.size_extract]; omega
theorem Ju (s : ByteArray) : s.extract 0 s.size = s := by
 apply ByteArray.ext
 rw [ByteArray.data_extract]
 exact Array.extract_size
theorem Nf (s : ByteArray) {n m : Nat} (hm : m ≤ n) : (s.extract 0 n).extract 0 m = s.extract 0 m := by
 apply ByteArray.ext
 rw [ByteArray.data_extract, ByteArray.data_extract, ByteArray.data_extract, Array.extract_extract]
 simp [hm]
theorem EI (id : Nat) (P : Nat → Bool) (h : H) (hg : h.get id = some (bT P)) : ∀ (n : Nat) (s : ByteArray), s.size = n → n < 100000 →
 ∃ e' m, Lp AP.A [0, 1] AP.f129L0 [(0, .str s), (1, .aE id 0)] h = some (.exit 0, e', h) ∧ look e' 0 = .str (s.extract 0 m) ∧ m ≤ s.size ∧ (∀ i, m ≤ i → i < s.size → P (yk s i) = true) ∧ (0 < m → P (yk s (m - 1)) = false)
 | 0, s, hs, hn => by
   refine ⟨[(0, .str s), (1, .aE id 0), (7, .bool false)], 0, ux ?_, ?_, by omega, fun i h1 h2 => by omega, fun q => by omega⟩
   · simp (disch := omega) only [go_sem, wG, AP.f129L0]
   · show AV.str s = _
     congr 1
     have := Ju s
     rw [hs] at this
     exact this.symm
 | n + 1, s, hs, hn => by
   have hb := zK s n
   have k1 := NY h id (yk s n) P hg hb
   have n1 : (s.size : Int) - 1 = (n : Int) := by omega
   have sl := K3 (s := s) (n := n) (by omega)
   by_cases c : P (yk s n) = true
   · rw [c] at k1
     obtain ⟨e', m, r1, r2, r3, r4, r5⟩ := EI id P h hg n (s.extract 0 n) (by rw [CO (by omega)]; omega) (by omega)
     rw [CO (by omega)] at r3 r4
     refine ⟨e', m, uy ?_ r1, ?_, by omega, fun i h1 h2 => ?_, fun q => ?_⟩
     · simp (disch := omega) only [go_sem, wG, AP.f129L0, n1, k1, sl]
     · rw [r2]; congr 1; exact Nf s r3
     · by_cases hi : i = n
       · rw [hi]; exact c
       · have := r4 i h1 (by omega)
         rwa [DF (by omega) (by omega), vW] at this
     · have := r5 q
       rwa [DF (by omega) (by omega), vW] at this
   · have c' : P (yk s n) = false := by simpa using c
     rw [c'] at k1
     refine ⟨[(0, .str s), (1, .aE id 0), (15, .bool true)], s.size, ux ?_, ?_, vR _, fun i h1 h2 => by omega, fun q => by rw [hs]; exact c'⟩
     · simp (disch := omega) only [go_sem, wG, AP.f129L0, n1, k1]
     · show AV.str s = _
       congr 1
       exact (Ju s).symm
theorem Pj (s : ByteArray) {n : Nat} (h : s.size = n + 1) : (s.extract 1 s.size).size = n := by rw [CO (vR _)]; omega
theorem FH (id : Nat) (P : Nat → Bool) (h : H) (hg : h.get id = some (bT P)) : ∀ (n : Nat) (s : ByteArray), s.size = n → n < 100000 → (0 < n → P (yk s (n - 1)) = false) →
 ∃ e' r, Lp AP.A [0, 1] AP.f128L0 [(0, .str s), (1, .aE id 0)] h = some (.exit 0, e', h) ∧ look e' 0 = .str r ∧ (r.size = 0 ↔ n = 0)
 | 0, s, hs, hn, hp => by
   refine ⟨[(0, .str s), (1, .aE id 0), (7, .bool false)], s, ux ?_, rfl, by omega⟩
   simp (disch := omega) only [go_sem, wG, AP.f128L0]
 | n + 1, s, hs, hn, hp => by
   have hb := zK s 0
   have k1 := NY h id (yk s 0) P hg hb
   have sl : oK (.str s) (some (.int .i64 1)) none = some (.str (s.extract 1 s.size)) := MN (s := s) (n := 1) (by omega)
   have ix : ni (.str s) (.int .i64 0) = some (.int .u8 (yk s 0 : Nat)) := Gv (by omega)
   by_cases c : P (yk s 0) = true
   · rw [c] at k1
     have hn0 : n ≠ 0 := fun e => by subst e; have := hp (by omega); simp only [vW, Nat.sub_self] at this; rw [c] at this; cases this
     obtain ⟨e', r, r1, r2, r3⟩ := FH id P h hg n (s.extract 1 s.size) (Pj s hs) (by omega) (fun q => by
      rw [DF (vR _) (by omega), show 1 + (n - 1) = n + 1 - 1 by omega]; exact hp (by omega))
     refine ⟨e', r, uy ?_ r1, r2, by omega⟩
     clear hp
     simp (disch := omega) only [go_sem, dt, df, B9, AP.f128L0, k1, sl, ix, U8, Vw]
   · have c' : P (yk s 0) = false := by simpa using c
     rw [c'] at k1
     refine ⟨[(0, .str s), (1, .aE id 0), (12, .bool true)], s, ux ?_, rfl, by omega⟩
     clear hp
     simp (disch := omega) only [go_sem, dt, df, B9, AP.f128L0, k1, sl, ix, U8, Vw]
def DM (s : ByteArray) : Bool := (List.range s.size).all fun i => okB (yk s i)
theorem Ey : Nv.size = 39 := rfl
theorem Ok : bT (yM Nv Nv.size) = bT okB := QO
theorem UB (h : H) (s : ByteArray) (id : Nat) (P : Nat → Bool) (hg : h.get id = some (bT P)) (hs : s.size < 100000) (hp : 0 < s.size → P (yk s (s.size - 1)) = false) : ∃ r, aS AP.A 128 [.str s, .aE id 0] h = some (.str r, h) ∧ (r.size = 0 ↔ s.size = 0) := by
 obtain ⟨e', r, r1, r2, r3⟩ := FH id P h hg s.size s rfl hs hp
 refine ⟨r, uM (fn := AP.f128) (h2 := h) (e := [(4, .str r)]) (vs := [.str r]) rfl rfl rfl ?_ rfl, r3⟩
 clear hp
 simp only [go_sem, AP.f128, th, r1, r2]
theorem UC (h : H) (s : ByteArray) (id : Nat) (P : Nat → Bool) (hg : h.get id = some (bT P)) (hs : s.size < 100000) :
 ∃ m, aS AP.A 129 [.str s, .aE id 0] h = some (.str (s.extract 0 m), h) ∧ m ≤ s.size ∧ (∀ i, m ≤ i → i < s.size → P (yk s i) = true) ∧ (0 < m → P (yk s (m - 1)) = false) := by
 obtain ⟨e', m, r1, r2, r3, r4, r5⟩ := EI id P h hg s.size s rfl hs
 refine ⟨m, uM (fn := AP.f129) (h2 := h) (e := [(4, .str (s.extract 0 m))]) (vs := [.str (s.extract 0 m)]) rfl rfl rfl ?_ rfl, r3, r4, r5⟩
 simp only [go_sem, AP.f129, th, r1, r2]
theorem I4 {a b : ByteArray} (h : a ≠ b) : (a.data.toList == b.data.toList) = false := by
 rw [beq_eq_false_iff_ne]
 intro e
 apply h
 apply ByteArray.ext
 exact Array.toList_inj.1 e
theorem Mp (a : ByteArray) : (a.data.toList == a.data.toList) = true := by simp
theorem QE (h : H) (s : ByteArray) (h0 : 0 < s.size) (hs : s.size < 100000) : ∃ r, aS AP.A 124 [.str s, .str Nv] h = some (.str r, h) ∧ (r.size = 0 ↔ DM s = true) := by
 have m1 := Ns h.ez Nv (by rw [Ey]; omega) (by rw [Ey]; decide +kernel)
 rw [Ok] at m1
 obtain ⟨h1, eh1⟩ : ∃ g, g = h.ez.alloc (bT fun _ => false) := ⟨_, rfl⟩
 have hn : h.ez.next = h.next := rfl
 have g1 : h1.get h.next = some (bT fun _ => false) := by rw [eh1, wO (by simp)]
 obtain ⟨h2, eh2⟩ : ∃ g, g = h1.set h.next (bT okB) := ⟨_, rfl⟩
 have st : ve h1 h.next 0 256 (bT okB) (some (bT fun _ => false)) = some h2 := by
  rw [JP (by rw [eh1]; simp) (Bz _) (Bz _) (NQ _), eh2]
 have g2 : h2.get h.next = some (bT okB) := by rw [eh2, wV rfl, g1]; rfl
 obtain ⟨m, a1, a2, a3, a4⟩ := UC h2 s h.next okB g2 hs
 have sz := CO (s := s) (a := 0) (b := m) a2
 obtain ⟨r, b1, b2⟩ := UB h2 (s.extract 0 m) h.next okB g2 (by omega) (fun q => by
  rw [sz, Nat.sub_zero, DF a2 (by omega), vW]; exact a4 (by omega))
 refine ⟨r, ?_, ?_⟩
 · have e1 : bw .eql (.str s) (.str ⟨#[]⟩) = some (.bool false) := by
    rw [DK, I4]; intro e; rw [e] at h0; exact absurd h0 (by decide)
   have e2 : bw .eql (.str Nv) (.str ⟨#[]⟩) = some (.bool false) := by
    rw [DK, I4]; intro e; have := Ey; rw [e] at this; exact absurd this (by decide)
   have l2 : jy true (.str Nv) = some (.int .i64 39) := rfl
   refine u7 (fn := AP.f124) (h2 := h2) (e := [(4, .str r)]) rfl rfl rfl ?_ rfl rfl
   clear a3 a4
   generalize bT okB = T at *
   generalize hT : (bT fun _ => false) = T0 at *
   have ba : ∀ e : Env, aX e (.alloc [.bool false, .bool false, .bool false, .bool false, .bool false, .bool false, .bool false, .bool false, .bool false, .bool false, .bool false, .bool false, .bool false, .bool false, .bool false, .bool false, .bool false, .bool false, .bool false, .bool false, .bool false, .bool false, .bool false, .bool false, .bool false, .bool false, .bool false, .bool false, .bool false, .bool false, .bool false, .bool false, .bool false, .bool false, .bool false, .bool false, .bool false, .bool false, .bool false, .bool false, .bool false, .bool false, .bool false, .bool false, .bool false, .bool false, .bool false, .bool false, .bool false, .bool false, .bool false, .bool false, .bool false, .bool false, .bool false, .bool false, .bool false, .bool false, .bool false, .bool false, .bool false, .bool false, .bool false, .bool false, .bool false, .bool false, .bool false, .bool false, .bool false, .bool false, .bool false, .bool false, .bool false, .bool false, .bool false, .bool false, .bool false, .bool false, .bool false, .bool false, .bool false, .bool false, .bool false, .bool false, .bool false, .bool false, .bool false, .bool false, .bool false, .bool false, .bool false, .bool false, .bool false, .bool false, .bool false, .bool false, .bool false, .bool false, .bool false, .bool false, .bool false, .bool false, .bool false, .bool false, .bool false, .bool false, .bool false, .bool false, .bool false, .bool false, .bool false, .bool false, .bool false, .bool false, .bool false, .bool false, .bool false, .bool false, .bool false, .bool false, .bool false, .bool false, .bool false, .bool false, .bool false, .bool false, .bool false, .bool false, .bool false, .bool false, .bool false, .bool false, .bool false, .bool false, .bool false, .bool false, .bool false, .bool false, .bool false, .bool false, .bool false, .bool false, .bool false, .bool false, .bool false, .bool false, .bool false, .bool false, .bool false, .bool false, .bool false, .bool false, .bool false, .bool false, .bool false, .bool false, .bool false, .bool false, .bool false, .bool false, .bool false, .bool false, .bool false, .bool false, .bool false, .bool false, .bool false, .bool false, .bool false, .bool false, .bool false, .bool false, .bool false, .bool false, .bool false, .bool false, .bool false, .bool false, .bool false, .bool false, .bool false, .bool false, .bool false, .bool false, .bool false, .bool false, .bool false, .bool false, .bool false, .bool false, .bool false, .bool false, .bool false, .bool false, .bool false, .bool false, .bool false, .bool false, .bool false, .bool false, .bool false, .bool false, .bool false, .bool false, .bool false, .bool false, .bool false, .bool false, .bool false, .bool false, .bool false, .bool false, .bool false, .bool false, .bool false, .bool false, .bool false, .bool false, .bool false, .bool false, .bool false, .bool false, .bool false, .bool false, .bool false, .bool false, .bool false, .bool false, .bool false, .bool false, .bool false, .bool false, .bool false, .bool false, .bool false, .bool false, .bool false, .bool false, .bool false, .bool false, .bool false, .bool false, .bool false, .bool false, .bool false, .bool false, .bool false, .bool false, .bool false, .bool false, .bool false, .bool false, .bool false, .bool false, .bool false, .bool false]) = some (T0, fun i => .aE i 0) := fun e => by rw [K5, hT]
   simp (disch := omega) only [go_sem, AP.f124, ba, hn, ← eh1, e1, e2, l2, Uu, m1, g1, st, a1, b1]
 · rw [b2, sz]
   unfold DM
   rw [List.all_eq_true]
   constructor
   · intro q i hi
     exact a3 i (by omega) (VE.1 hi)
   · intro q
     by_cases hm : m = 0
     · omega
     · have := a4 (by omega)
       rw [q (m - 1) (VE.2 (by omega))] at this
       cases this
def Pd : ByteArray := ⟨#[46]⟩
def Li : ByteArray := ⟨#[46, 46]⟩
def Az (s : ByteArray) : Bool := decide (1 ≤ s.size) && (decide (s.size ≤ 8) && (DM s && (!(s.data.toList == Pd.data.toList) && !(s.data.toList == Li.data.toList))))
theorem Qm (h : H) (s : ByteArray) (hs : s.size < 1125899906842624) : aS AP.A 121 [.str s] h = some (.bool (Az s), h) := by
 refine u7 (fn := AP.f121) (h2 := h.ez) (e := [(2, .bool (Az s))]) rfl rfl rfl ?_ rfl rfl
 unfold Az
 by_cases c1 : 1 ≤ s.size
 · by_cases c2 : s.size ≤ 8
   · obtain ⟨r, t1, t2⟩ := QE h.ez s (by omega) (by omega)
     have t1' : aS AP.A 124 [.str s, .str ⟨#[97, 98, 99, 100, 101, 102, 103, 104, 105, 106, 107, 108, 109, 110, 111, 112, 113, 114, 115, 116, 117, 118, 119, 120, 121, 122, 48, 49, 50, 51, 52, 53, 54, 55, 56, 57, 46, 45, 95]⟩] h.ez = some (.str r, h.ez) := t1
     have e1 : bw .eql (.str r) (.str ⟨#[]⟩) = some (.bool (DM s)) := by
      rw [DK]
      by_cases q : DM s = true
      · rw [q]
        have : r = ⟨#[]⟩ := by
         apply ByteArray.ext
         exact Array.size_eq_zero_iff.1 (t2.2 q)
        rw [this, Mp]
      · have q' : DM s = false := by simpa using q
        rw [q', I4]
        intro e
        rw [e] at t2
        exact q (t2.1 rfl)
     have e2 : bw .neq (.str s) (.str ⟨#[46]⟩) = some (.bool (!(s.data.toList == Pd.data.toList))) := JR _ _
     have e3 : bw .neq (.str s) (.str ⟨#[46, 46]⟩) = some (.bool (!(s.data.toList == Li.data.toList))) := JR _ _
     clear t1 t2
     generalize (!(s.data.toList == Pd.data.toList)) = B2 at *
     generalize (!(s.data.toList == Li.data.toList)) = B3 at *
     generalize DM s = B1 at *
     cases B1 <;> cases B2 <;> cases B3 <;> simp (disch := omega) only [go_sem, wG, AP.f121, t1', e1, e2, e3]
   · simp (disch := omega) only [go_sem, wG, AP.f121]
 · simp (disch := omega) only [go_sem, wG, AP.f121]
def zu (s : ByteArray) (i j : Nat) : Nat → Nat → Nat
 | 0, k => k
 | f + 1, k => if k < 258 ∧ i + k < s.size ∧ yk s (i + k) = yk s (j + k) then zu s i j f (k + 1) else k
theorem FZ (s : ByteArray) (i j : Nat) (hs : s.size < 100000) (hj : j ≤ i) (hi : i ≤ s.size) (h : H) : ∀ (f k : Nat), k + f = 258 →
 ∃ e', Lp AP.A [0, 1, 2, 7] AP.f26L0 [(0, .str s), (1, .int .i64 i), (2, .int .i64 j), (7, .int .i64 k)] h = some (.exit 0, e', h) ∧ look e' 7 = .int .i64 (zu s i j f k : Nat)
 | 0, k, hk => by
   refine ⟨[(0, .str s), (1, .int .i64 i), (2, .int .i64 j), (7, .int .i64 k), (30, .bool false)], ux ?_, rfl⟩
   simp (disch := omega) only [go_sem, wG, AP.f26L0]
 | f + 1, k, hk => by
   have n1 : ((k : Int) + 1) = ((k + 1 : Nat) : Int) := by omega
   by_cases c1 : i + k < s.size
   · by_cases c2 : yk s (i + k) = yk s (j + k)
     · obtain ⟨e', r1, r2⟩ := FZ s i j hs hj hi h f (k + 1) (by omega)
       refine ⟨e', uy ?_ r1, ?_⟩
       · rw [← n1]
         simp (disch := omega) only [go_sem, wG, AP.f26L0]
       · rw [r2, zu, if_pos ⟨by omega, c1, c2⟩]
     · refine ⟨[(0, .str s), (1, .int .i64 i), (2, .int .i64 j), (7, .int .i64 k), (30, .bool false)], ux ?_, ?_⟩
       · simp (disch := omega) only [go_sem, wG, AP.f26L0]
       · rw [zu, if_neg (fun q => c2 q.2.2)]; rfl
   · refine ⟨[(0, .str s), (1, .int .i64 i), (2, .int .i64 j), (7, .int .i64 k), (30, .bool false)], ux ?_, ?_⟩
     · simp (disch := omega) only [go_sem, wG, AP.f26L0]
     · rw [zu, if_neg (fun q => c1 q.2.1)]; rfl
def same (s : ByteArray) (i j : Nat) : Nat := zu s i j 258 0
theorem Qt (h : H) (s : ByteArray) (i j : Nat) (hs : s.size < 100000) (hj : j ≤ i) (hi : i ≤ s.size) : aS AP.A 26 [.str s, .int .i64 i, .int .i64 j] h = some (.int .i64 (same s i j : Nat), h) := by
 obtain ⟨e', r1, r2⟩ := FZ s i j hs hj hi h.ez 258 0 rfl
 have r1' : Lp AP.A [0, 1, 2, 7] AP.f26L0 [(0, .str s), (1, .int .i64 i), (2, .int .i64 j), (7, .int .i64 0)] h.ez = some (.exit 0, e', h.ez) := r1
 clear r1
 refine u7 (fn := AP.f26) (h2 := h.ez) (e := [(6, .int .i64 (same s i j : Nat))]) rfl rfl rfl ?_ rfl rfl
 simp (disch := omega) only [go_sem, wG, AP.f26, th, r1', r2, same]
def xY (s : ByteArray) (i : Nat) : Nat → Nat × Nat → Nat × Nat
 | 0, b => b
 | j + 1, b => xY s i j (if b.1 < same s i j then (same s i j, i - j) else b)
theorem H9 (s : ByteArray) (i j : Nat) : ∀ f k, zu s i j f k ≤ k + f
 | 0, k => by simp [zu]
 | f + 1, k => by
   unfold zu
   split
   · have := H9 s i j f (k + 1); omega
   · omega
theorem JM (s : ByteArray) (i j : Nat) : same s i j ≤ 258 := by have := H9 s i j 258 0; unfold same; omega
theorem EK (s : ByteArray) (i j : Nat) (hi : i ≤ s.size) : ∀ f k, i + k ≤ s.size → i + zu s i j f k ≤ s.size
 | 0, k, h => by simpa [zu] using h
 | f + 1, k, h => by
   unfold zu
   split
   · rename_i q; exact EK s i j hi f (k + 1) (by omega)
   · exact h
theorem F3 (s : ByteArray) (i j : Nat) (hi : i ≤ s.size) : i + same s i j ≤ s.size := EK s i j hi 258 0 (by omega)
theorem BA (s : ByteArray) (i : Nat) (hi : i ≤ s.size) : ∀ (j : Nat) (b : Nat × Nat), i + b.1 ≤ s.size → i + (xY s i j b).1 ≤ s.size
 | 0, b, h => h
 | j + 1, b, h => by
   unfold xY
   refine BA s i hi j _ ?_
   split
   · exact F3 s i j hi
   · exact h
theorem CU (s : ByteArray) (i : Nat) (hs : s.size < 100000) (hi : i < s.size) (v4 : AV) (h : H) : ∀ (n : Nat) (b : Nat × Nat) (j : Int), n ≤ i → j = (n : Int) - 1 →
 ∃ e', Lp AP.A [0, 4, 5, 6, 7, 8] AP.f12L0 [(0, .str s), (4, v4), (5, .int .i64 i), (6, .int .i64 b.1), (7, .int .i64 b.2), (8, .int .i64 j)] h = some (.exit 2, e', h) ∧
   look e' 0 = .str s ∧ look e' 4 = v4 ∧ look e' 5 = .int .i64 i ∧ look e' 6 = .int .i64 (xY s i n b).1 ∧ look e' 7 = .int .i64 (xY s i n b).2
 | 0, b, j, hn, hj => by
   refine ⟨[(0, .str s), (4, v4), (5, .int .i64 i), (6, .int .i64 b.1), (7, .int .i64 b.2), (8, .int .i64 j), (20, .bool false)], ux ?_, rfl, rfl, rfl, rfl, rfl⟩
   simp (disch := omega) only [go_sem, wG, AP.f12L0]
 | n + 1, b, j, hn, hj => by
   obtain rfl : j = (n : Int) := by omega
   have k1 := Qt h s i n hs (by omega) (by omega)
   have k2 := JM s i n
   have n1 : (i : Int) - (n : Int) = ((i - n : Nat) : Int) := by omega
   by_cases c : b.1 < same s i n
   · obtain ⟨e', r1, r2, r3, r4, r5, r6⟩ := CU s i hs hi v4 h n (same s i n, i - n) ((n : Int) - 1) (by omega) rfl
     refine ⟨e', uy ?_ r1, r2, r3, r4, ?_, ?_⟩
     · simp (disch := omega) only [go_sem, wG, AP.f12L0, k1, n1]
     · rw [r5, xY, if_pos c]
     · rw [r6, xY, if_pos c]
   · obtain ⟨e', r1, r2, r3, r4, r5, r6⟩ := CU s i hs hi v4 h n b ((n : Int) - 1) (by omega) rfl
     refine ⟨e', uy ?_ r1, r2, r3, r4, ?_, ?_⟩
     · simp (disch := omega) only [go_sem, wG, AP.f12L0, k1, n1]
     · rw [r5, xY, if_neg c]
     · rw [r6, xY, if_neg c]
structure Tok where
 lit : Int
 len : Int
 w8 : Int
deriving DecidableEq
def NL (t : Tok) : List Int := [t.lit, t.len, t.w8]
def I7 (t : Tok) : List AV := ints (NL t)
def Oi (ts : List Tok) : List Int := ts.flatMap NL
def xw (ts : List Tok) : List AV := ts.flatMap I7
theorem EY (t : Tok) : (I7 t).length = 3 := rfl
theorem KI (ts : List Tok) : (xw ts).length = ts.length * 3 := C3 EY ts
theorem B7 : ∀ ts : List Tok, xw ts = ints (Oi ts)
 | [] => rfl
 | t :: ts => by
   have := B7 ts
   unfold xw Oi at *
   rw [Va, Va, qx, this]; rfl
theorem I8 (ts : List Tok) (t : Tok) : xw (ts ++ [t]) = xw ts ++ I7 t := by simp [xw]
def xL (s : ByteArray) (i : Nat) : Tok × Nat :=
 if (xY s i i (0, 0)).1 < 3 then (⟨yk s i, 0, 0⟩, i + 1) else (⟨0, (xY s i i (0, 0)).1, (xY s i i (0, 0)).2⟩, i + (xY s i i (0, 0)).1)
def B6 (s : ByteArray) : Nat → Nat → List Tok
 | 0, _ => []
 | f + 1, i => if i < s.size then (xL s i).1 :: B6 s f (xL s i).2 else []
theorem Iq (s : ByteArray) (i : Nat) : i < (xL s i).2 := by
 unfold xL; split <;> simp <;> omega
theorem Ip (s : ByteArray) (i : Nat) (hi : i < s.size) : (xL s i).2 ≤ s.size := by
 unfold xL; split
 · exact hi
 · exact BA s i (by omega) i (0, 0) (by show i + 0 ≤ _; omega)
theorem Ir (s : ByteArray) (i : Nat) (hi : s.size ≤ i) (h : H) (ov : AV) : ∃ e', Lp AP.A [0, 4, 5] AP.f12L1 [(0, .str s), (4, ov), (5, .int .i64 i)] h = some (.exit 0, e', h) ∧ look e' 4 = ov := by
 refine ⟨[(0, .str s), (4, ov), (5, .int .i64 i), (16, .bool false)], ux ?_, rfl⟩
 simp (disch := omega) only [go_sem, wG, AP.f12L1]
theorem Mw (s : ByteArray) (hs : s.size < 100000) : ∀ (f i : Nat) (h : H) (ov : AV) (ts : List Tok), s.size - i ≤ f → i ≤ s.size → ts.length ≤ i → wS 3 h ov ts.length (xw ts) → h.floor ≤ h.next →
 ∃ e' h' ov', Lp AP.A [0, 4, 5] AP.f12L1 [(0, .str s), (4, ov), (5, .int .i64 i)] h = some (.exit 0, e', h') ∧ look e' 4 = ov' ∧ wS 3 h' ov' (ts ++ B6 s f i).length (xw (ts ++ B6 s f i)) ∧ h'.floor = h.floor ∧ h.next ≤ h'.next := by
 intro f
 induction f with
 | zero =>
   intro i h ov ts hf hi hts o hfn
   obtain ⟨e', r1, r2⟩ := Ir s i (by omega) h ov
   exact ⟨e', h, ov, r1, r2, by simpa [B6] using o, rfl, vR _⟩
 | succ f ih =>
   intro i h ov ts hf hi hts o hfn
   by_cases c0 : i < s.size
   · obtain ⟨e1, q1, q2, q3, q4, q5, q6⟩ := CU s i hs c0 ov h i (0, 0) ((i : Int) - 1) (by omega) rfl
     have q1' : Lp AP.A [0, 4, 5, 6, 7, 8] AP.f12L0 [(0, .str s), (4, ov), (5, .int .i64 i), (6, .int .i64 0), (7, .int .i64 0), (8, .int .i64 ((i : Int) - 1))] h = some (.exit 2, e1, h) := q1
     clear q1
     have hb := zK s i
     have hr := BA s i (by omega) i (0, 0) (by show i + 0 ≤ _; omega)
     have lt := Iq s i
     have le := Ip s i c0
     obtain ⟨t, i', et⟩ : ∃ t i', xL s i = (t, i') := ⟨_, _, rfl⟩
     have et0 := et
     rw [et] at lt le
     simp only at lt le
     obtain ⟨v', h', p1, p2, p3, p4, p5, p6⟩ := o.push hfn (z := 24) (m := 1) (by omega) (by omega) (I7 t) rfl rfl (by simp [roomy]; omega)
     have step : aM (aS AP.A) bG AP.f12L1 (ay [(0, .str s), (4, ov), (5, .int .i64 i)] [0, 4, 5]) h = some (.normal, [(0, .str s), (4, v'), (5, .int .i64 i')], h') := by
      unfold xL at et
      by_cases c1 : (xY s i i (0, 0)).1 < 3
      · rw [if_pos c1] at et
        obtain ⟨rfl, rfl⟩ := vJ et
        simp only [I7, NL, ints, Ve, VD, I] at p1
        have n1 : ((i + 1 : Nat) : Int) = (i : Int) + 1 := by omega
        simp (disch := omega) only [go_sem, wG, AP.f12L1, th, q1', q2, q3, q4, q5, q6, p1, n1]
      · rw [if_neg c1] at et
        obtain ⟨rfl, rfl⟩ := vJ et
        simp only [I7, NL, ints, Ve, VD, I] at p1
        have n1 : ((i + (xY s i i (0, 0)).1 : Nat) : Int) = (i : Int) + ((xY s i i (0, 0)).1 : Nat) := by omega
        simp (disch := omega) only [go_sem, wG, AP.f12L1, th, q1', q2, q3, q4, q5, q6, p1, n1]
     have o2 : wS 3 h' v' (ts ++ [t]).length (xw (ts ++ [t])) := by rw [I8, wo]; exact p2
     obtain ⟨e', h2, ov', r1, r2, r3, r4, r5⟩ := ih i' h' v' (ts ++ [t]) (by omega) le (by simp; omega) o2 (by omega)
     refine ⟨e', h2, ov', uy step r1, r2, ?_, by omega, by omega⟩
     rw [B6, if_pos c0, et0]
     simpa using r3
   · obtain ⟨e', r1, r2⟩ := Ir s i (by omega) h ov
     exact ⟨e', h, ov, r1, r2, by simpa [B6, c0] using o, rfl, vR _⟩
def Ga (ts : List Tok) : AV := AK 3 ts.length (xw ts)
def tokens (s : ByteArray) : List Tok := B6 s s.size 0
theorem Mx (h : H) (s : ByteArray) (hs : s.size < 1125899906842624) : aS AP.A 12 [.str s] h = some (if 300 < s.size then .bU [.aQ, .int .i64 500] else .bU [Ga (tokens s), .int .i64 0], h) := by
 by_cases c : 300 < s.size
 · rw [if_pos c]
   refine u7 (fn := AP.f12) (h2 := h.ez) (e := [(2, .aQ), (3, .int .i64 500)]) rfl rfl rfl ?_ rfl rfl
   simp (disch := omega) only [go_sem, wG, AP.f12]
 · rw [if_neg c]
   obtain ⟨e', h', ov', r1, r2, r3, r4, r5⟩ := Mw s (by omega) s.size 0 h.ez .aQ [] (by omega) (by omega) (by simp) wS.nil (by simp)
   have r1' : Lp AP.A [0, 4, 5] AP.f12L1 [(0, .str s), (4, .aQ), (5, .int .i64 0)] h.ez = some (.exit 0, e', h') := r1
   clear r1
   rw [List.nil_append] at r3
   refine u7 (fn := AP.f12) (h2 := h') (e := [(2, ov'), (3, .int .i64 0)]) (vs := [ov', .int .i64 0]) rfl rfl rfl ?_ rfl ?_
   · simp (disch := omega) only [go_sem, wG, AP.f12, th, r1', r2]
   · have o' := r3
     rw [B7] at o'
     have s1 := o'.yT (fl := h.next) (m := 13) (t := true) (by rw [r4]; simp)
     show (fV (snap h'.get h.next 15 true) [ov', .int .i64 0]).bind _ = _
     simp only [fV, s1, vO]
     rw [← B7]; rfl
def Ext (h g : H) : Prop := ∀ id c, h.get id = some c → g.get id = some c
theorem Ext.refl (h : H) : Ext h h := fun _ _ q => q
theorem Ext.trans {a b c : H} (x : Ext a b) (y : Ext b c) : Ext a c := fun i d q => y i d (x i d q)
theorem Ext.alloc {a h : H} (x : Ext a h) (cs : List AV) : Ext a (h.alloc cs) := fun i d q => by
 have := h.lt _ _ (x i d q)
 rw [H.aW, if_neg (by omega)]; exact x i d q
theorem Ext.set {a h : H} (x : Ext a h) {id : Nat} (hid : a.next ≤ id) (cs : List AV) : Ext a (h.set id cs) := fun i d q => by
 have := a.lt _ _ q
 rw [H.dQ, if_neg (by omega)]; exact x i d q
theorem zE.KH {h : H} {v : AV} {ts : List Tok} (r : zE 3 h v ts.length (xw ts)) : ∃ ad : Int → Nat → AV,
 (∀ i : Int, 0 ≤ i ∧ i < ts.length → gG 3 v (.int .i64 i) = some (ad i 0)) ∧
 (∀ (i : Int) (f g : Nat), 0 ≤ i ∧ i < ts.length → fJ g (ad i f) = some (ad i (f + g))) ∧
 ∀ g : H, Ext h g → ∀ (i : Nat) (t : Tok), ts[i]? = some t → cJ false 1 (ad i 0) g = some (.int .i64 t.lit) ∧ cJ false 1 (ad i 1) g = some (.int .i64 t.len) ∧ cJ false 1 (ad i 2) g = some (.int .i64 t.w8) ∧
   cJ true 3 (ad i 0) g = some (.agg [.int .i64 t.lit, .int .i64 t.len, .int .i64 t.w8]) := by
 obtain ⟨ad, a1, a2, _, a3⟩ := r.at_
 refine ⟨ad, a1, a2, fun g hg i t ht => ?_⟩
 obtain ⟨b1, b2⟩ := a3 g hg
 have hi : i < ts.length := (vN.1 ht).1
 have hI : (0 : Int) ≤ (i : Int) ∧ (i : Int) < ts.length := ⟨by omega, by omega⟩
 have ti : ((i : Int)).toNat = i := by omega
 have q : ∀ f, f < 3 → (xw ts)[((i : Int)).toNat * 3 + f]? = (I7 t)[f]? := fun f hf => by rw [ti]; exact Gs EY ht hf
 refine ⟨b1 i 0 _ hI (q 0 (by omega)), b1 i 1 _ hI (q 1 (by omega)), b1 i 2 _ hI (q 2 (by omega)), ?_⟩
 rw [b2 i hI, ti, xw, Gt EY ht]; rfl
def xQ (size : Int) (t : Tok) : Option Int :=
 if t.len = 0 then (if t.lit < 0 ∨ 255 < t.lit ∨ t.w8 ≠ 0 then none else some (size + 1))
 else if t.len < 3 ∨ 258 < t.len ∨ t.w8 < 1 ∨ 32768 < t.w8 ∨ size < t.w8 ∨ t.lit ≠ 0 then none else some (size + t.len)
def wY : Int → List Tok → Bool
 | _, [] => true
 | s, t :: r => match xQ s t with
   | none => false
   | some s' => if 8192 < s' then false else wY s' r
theorem Mu {v a0 : AV} {n i : Nat} {s : Int} {t : Tok} {h h1 : H} (hi : i < n) (hfl : h.floor ≤ h.next) (ln : jy false v = some (.int .i64 n)) (b1 : gG 3 v (.int .i64 i) = some a0) (b2 : cJ true 3 a0 h = some (.agg [.int .i64 t.lit, .int .i64 t.len, .int .i64 t.w8]))
 (eh1 : h1 = (h.alloc [.int .i64 0, .int .i64 0, .int .i64 0]).set h.next [.int .i64 t.lit, .int .i64 t.len, .int .i64 t.w8]) (g1 : h1.get h.next = some [.int .i64 t.lit, .int .i64 t.len, .int .i64 t.w8]) (hb : xQ s t = none) :
 aM (aS AP.A) bG AP.f69L0 (ay [(0, v), (3, .int .i64 s), (4, .int .i64 i)] [0, 3, 4]) h = some (.ret, [(2, .bool false)], h1) := by
 unfold xQ at hb
 by_cases c0 : t.len = 0
 · rw [if_pos c0] at hb
   have hb' : t.lit < 0 ∨ 255 < t.lit ∨ t.w8 ≠ 0 := by
    by_cases c : t.lit < 0 ∨ 255 < t.lit ∨ t.w8 ≠ 0
    · exact c
    · rw [if_neg c] at hb; cases hb
   by_cases d1 : t.lit < 0
   · clear hb' hb; simp (disch := omega) only [go_sem, wG, AP.f69L0, ln, b1, b2, ← eh1, g1]
   by_cases d2 : 255 < t.lit
   · clear hb' hb; simp (disch := omega) only [go_sem, wG, AP.f69L0, ln, b1, b2, ← eh1, g1]
   have d3 : ¬ t.w8 = 0 := by omega
   clear hb' hb
   simp (disch := omega) only [go_sem, wG, AP.f69L0, ln, b1, b2, ← eh1, g1]
 · rw [if_neg c0] at hb
   have hb' : t.len < 3 ∨ 258 < t.len ∨ t.w8 < 1 ∨ 32768 < t.w8 ∨ s < t.w8 ∨ t.lit ≠ 0 := by
    by_cases c : t.len < 3 ∨ 258 < t.len ∨ t.w8 < 1 ∨ 32768 < t.w8 ∨ s < t.w8 ∨ t.lit ≠ 0
    · exact c
    · rw [if_neg c] at hb; cases hb
   by_cases d1 : t.len < 3
   · clear hb' hb; simp (disch := omega) only [go_sem, wG, AP.f69L0, ln, b1, b2, ← eh1, g1]
   by_cases d2 : 258 < t.len
   · clear hb' hb; simp (disch := omega) only [go_sem, wG, AP.f69L0, ln, b1, b2, ← eh1, g1]
   by_cases d3 : t.w8 < 1
   · clear hb' hb; simp (disch := omega) only [go_sem, wG, AP.f69L0, ln, b1, b2, ← eh1, g1]
   by_cases d4 : 32768 < t.w8
   · clear hb' hb; simp (disch := omega) only [go_sem, wG, AP.f69L0, ln, b1, b2, ← eh1, g1]
   by_cases d5 : s < t.w8
   · clear hb' hb; simp (disch := omega) only [go_sem, wG, AP.f69L0, ln, b1, b2, ← eh1, g1]
   have d6 : ¬ t.lit = 0 := by omega
   clear hb' hb
   simp (disch := omega) only [go_sem, wG, AP.f69L0, ln, b1, b2, ← eh1, g1]
theorem KG {v a0 : AV} {n i : Nat} {s s' : Int} {t : Tok} {h h1 : H} (hi : i < n) (hn : n < 1000000000) (hs : 0 ≤ s ∧ s ≤ 8192) (hfl : h.floor ≤ h.next) (ln : jy false v = some (.int .i64 n)) (b1 : gG 3 v (.int .i64 i) = some a0) (b2 : cJ true 3 a0 h = some (.agg [.int .i64 t.lit, .int .i64 t.len, .int .i64 t.w8]))
 (eh1 : h1 = (h.alloc [.int .i64 0, .int .i64 0, .int .i64 0]).set h.next [.int .i64 t.lit, .int .i64 t.len, .int .i64 t.w8]) (g1 : h1.get h.next = some [.int .i64 t.lit, .int .i64 t.len, .int .i64 t.w8]) (hst : xQ s t = some s') :
 aM (aS AP.A) bG AP.f69L0 (ay [(0, v), (3, .int .i64 s), (4, .int .i64 i)] [0, 3, 4]) h = if 8192 < s' then some (.ret, [(2, .bool false)], h1) else some (.normal, [(0, v), (3, .int .i64 s'), (4, .int .i64 ((i : Int) + 1))], h1) := by
 unfold xQ at hst
 by_cases c0 : t.len = 0
 · rw [if_pos c0] at hst
   by_cases c : t.lit < 0 ∨ 255 < t.lit ∨ t.w8 ≠ 0
   · rw [if_pos c] at hst; cases hst
   rw [if_neg c] at hst
   obtain rfl := vG hst
   have k1 : ¬ t.lit < 0 := by omega
   have k2 : ¬ 255 < t.lit := by omega
   have k3 : t.w8 = 0 := by omega
   clear c
   by_cases k : 8192 < s + 1
   · rw [if_pos k]
     simp (disch := omega) only [go_sem, wG, AP.f69L0, ln, b1, b2, ← eh1, g1]
   · rw [if_neg k]
     simp (disch := omega) only [go_sem, wG, AP.f69L0, ln, b1, b2, ← eh1, g1]
 · rw [if_neg c0] at hst
   by_cases c : t.len < 3 ∨ 258 < t.len ∨ t.w8 < 1 ∨ 32768 < t.w8 ∨ s < t.w8 ∨ t.lit ≠ 0
   · rw [if_pos c] at hst; cases hst
   rw [if_neg c] at hst
   obtain rfl := vG hst
   have k1 : ¬ t.len < 3 := by omega
   have k2 : ¬ 258 < t.len := by omega
   have k3 : ¬ t.w8 < 1 := by omega
   have k4 : ¬ 32768 < t.w8 := by omega
   have k5 : ¬ s < t.w8 := by omega
   have k6 : t.lit = 0 := by omega
   clear c
   by_cases k : 8192 < s + t.len
   · rw [if_pos k]
     simp (disch := omega) only [go_sem, wG, AP.f69L0, ln, b1, b2, ← eh1, g1]
   · rw [if_neg k]
     simp (disch := omega) only [go_sem, wG, AP.f69L0, ln, b1, b2, ← eh1, g1]
theorem F8 {v : AV} {ts : List Tok} (hn : ts.length < 1000000000) (h0 : H) (rd : zE 3 h0 v ts.length (xw ts)) : ∀ (q p : List Tok) (s : Int) (h : H), ts = p ++ q → 0 ≤ s ∧ s ≤ 8192 → Ext h0 h → h0.next ≤ h.next → h.floor ≤ h.next →
 (∃ e' h', Lp AP.A [0, 3, 4] AP.f69L0 [(0, v), (3, .int .i64 s), (4, .int .i64 p.length)] h = some (.exit 0, e', h') ∧ wY s q = true) ∨
 (∃ e' h', Lp AP.A [0, 3, 4] AP.f69L0 [(0, v), (3, .int .i64 s), (4, .int .i64 p.length)] h = some (.ret, e', h') ∧ look e' 2 = .bool false ∧ wY s q = false)
 | [], p, s, h, hp, hs, hx, hnx, hfl => by
   left
   have ln := rd.len
   rw [Vm] at hp; subst hp
   refine ⟨[(0, v), (3, .int .i64 s), (4, .int .i64 ts.length), (9, .bool false)], h, ux ?_, rfl⟩
   simp (disch := omega) only [go_sem, wG, AP.f69L0, ln]
 | t :: q, p, s, h, hp, hs, hx, hnx, hfl => by
   have ln := rd.len
   have hlen : ts.length = p.length + (q.length + 1) := by rw [hp]; simp
   have ht : ts[p.length]? = some t := by rw [hp]; simp
   obtain ⟨ad, a1, a2, a3⟩ := rd.KH
   have hI : (0 : Int) ≤ (p.length : Int) ∧ (p.length : Int) < ts.length := ⟨by omega, by omega⟩
   have b1 := a1 _ hI
   obtain ⟨_, _, _, b2⟩ := a3 h hx _ _ ht
   obtain ⟨h1, eh1⟩ : ∃ g, g = (h.alloc [.int .i64 0, .int .i64 0, .int .i64 0]).set h.next [.int .i64 t.lit, .int .i64 t.len, .int .i64 t.w8] := ⟨_, rfl⟩
   have w1 : ((p.length : Int) + 1) = (((p ++ [t]).length : Nat) : Int) := by simp
   have b2' := b2
   have gA : (h.alloc [.int .i64 0, .int .i64 0, .int .i64 0]).get h.next = some [.int .i64 0, .int .i64 0, .int .i64 0] := wO rfl
   have ldA : cJ true 3 (ad p.length 0) (h.alloc [.int .i64 0, .int .i64 0, .int .i64 0]) = some (.agg [.int .i64 t.lit, .int .i64 t.len, .int .i64 t.w8]) := (a3 _ (hx.alloc _) _ _ ht).2.2.2
   have g1 : h1.get h.next = some [.int .i64 t.lit, .int .i64 t.len, .int .i64 t.w8] := by rw [eh1, wV rfl, gA]; rfl
   have hx1 : Ext h0 h1 := by rw [eh1]; exact (hx.alloc _).set hnx _
   have hn1 : h0.next ≤ h1.next := by rw [eh1]; simp; omega
   have hf1 : h1.floor ≤ h1.next := by rw [eh1]; simp; omega
   cases hst : xQ s t with
   | none =>
     right
     exact ⟨_, h1, uT (Mu (by omega) hfl ln b1 b2 eh1 g1 hst), rfl, by simp [wY, hst]⟩
   | some s' =>
     have good := KG (by omega) hn hs hfl ln b1 b2 eh1 g1 hst
     have hs' : 0 ≤ s' := by
      unfold xQ at hst
      clear good
      by_cases c0 : t.len = 0
      · rw [if_pos c0] at hst
        split at hst
        · cases hst
        · obtain rfl := vG hst; omega
      · rw [if_neg c0] at hst
        split at hst
        · cases hst
        · obtain rfl := vG hst; omega
     by_cases k : 8192 < s'
     · right
       rw [if_pos k] at good
       exact ⟨_, h1, uT good, rfl, by simp [wY, hst, k]⟩
     · rw [if_neg k] at good
       have e : wY s (t :: q) = wY s' q := by simp [wY, hst, k]
       rw [e]
       rw [w1] at good
       rcases F8 hn h0 rd q (p ++ [t]) s' h1 (by rw [hp]; simp) ⟨hs', by omega⟩ hx1 hn1 hf1 with ⟨e', h', r1, r2⟩ | ⟨e', h', r1, r2, r3⟩
       · exact .inl ⟨e', h', uy good r1, r2⟩
       · exact .inr ⟨e', h', uy good r1, r2, r3⟩
def yP (n : Int) : Bool := decide (0 ≤ n) && decide (n ≤ 1048576)
theorem Jm (h : H) (n : Int) : aS AP.A 119 [.int .i64 n] h = some (.bool (yP n), h) := by
 refine u7 (fn := AP.f119) (h2 := h.ez) (e := [(2, .bool (yP n))]) rfl rfl rfl ?_ rfl rfl
 unfold yP
 by_cases c1 : 0 ≤ n <;> by_cases c2 : n ≤ 1048576 <;> simp (disch := omega) only [go_sem, wG, AP.f119]
def Ev (n : Int) : Bool := decide (0 ≤ n) && decide (n < 4)
theorem Qn (h : H) (n : Int) : aS AP.A 120 [.int .i64 n] h = some (.bool (Ev n), h) := by
 refine u7 (fn := AP.f120) (h2 := h.ez) (e := [(2, .bool (Ev n))]) rfl rfl rfl ?_ rfl rfl
 unfold Ev
 by_cases c1 : 0 ≤ n <;> by_cases c2 : n < 4 <;> simp (disch := omega) only [go_sem, wG, AP.f120]
def JT (v : AV) : Bool := match v with | .int .i64 n => !yP n | _ => false
theorem KK (h : H) (n : Int) : aS AP.A 123 [.int .i64 n] h = some (.bool (!yP n), h) := by
 have k1 := Jm h.ez n
 refine u7 (fn := AP.f123) (h2 := h.ez) (e := [(2, .bool (!yP n))]) rfl rfl rfl ?_ rfl rfl
 simp (disch := omega) only [go_sem, wG, AP.f123, k1]
def Je (l : List Int) : Bool := decide (l.length = 4) && l.all yP
theorem Dd : ∀ l : List Int, (ints l).any JT = !l.all yP
 | [] => rfl
 | n :: l => by
   have := Dd l
   simp only [ints, Ve, List.any_cons, List.all_cons, Bool.not_and] at *
   rw [this]; rfl
theorem TT (h : H) (v : AV) (l : List Int) (rd : Rd h v (ints l)) (hl : l.length < 1125899906842624) : aS AP.A 117 [v] h = some (.bool (Je l), h) := by
 have rd' := rd.mono (wK h)
 have ln := rd'.len
 rw [qy] at ln
 simp only [I] at ln
 refine u7 (fn := AP.f117) (h2 := h.ez) (e := [(2, .bool (Je l))]) rfl rfl rfl ?_ rfl rfl
 unfold Je
 by_cases c : l.length = 4
 · have k1 := DY (fv := .fn 123 [] []) JT (fun x hx g => by
    obtain ⟨n, hn, rfl⟩ := Vl.1 hx
    rw [oN]; exact KK g n) (by simp; omega) h.ez rd'
   rw [Dd] at k1
   have c' : (l.length : Int) = 4 := by omega
   simp (disch := omega) only [go_sem, wG, AP.f117, ln, k1, Bool.not_not]
 · have c' : ¬ (l.length : Int) = 4 := by omega
   simp (disch := omega) only [go_sem, wG, AP.f117, ln]
theorem Rd.xZ {h : H} {v : AV} {l : List Int} (r : Rd h v (ints l)) : ∃ ad : Int → AV, (∀ i : Int, 0 ≤ i ∧ i < l.length → gG 1 v (.int .i64 i) = some (ad i)) ∧
 ∀ g : H, Ext h g → ∀ (i : Nat) (n : Int), l[i]? = some n → cJ false 1 (ad i) g = some (.int .i64 n) := by
 have r2 := r.TV
 rw [qy] at r2
 obtain ⟨ad, a1, _, _, a3⟩ := r2.at_
 refine ⟨fun i => ad i 0, a1, fun g hg i n hn => ?_⟩
 have hi : i < l.length := (vN.1 hn).1
 refine (a3 g hg).1 i 0 _ ⟨by omega, by omega⟩ ?_
 rw [EX, Nat.mul_one, Nat.add_zero]
 exact tU hn
structure zF where
 name : ByteArray
 gone : Bool
 vec : List Int
 xf : Int
 node : Int
 method : Int
 packed : ByteArray
 size : Int
 DZ : Int
def xg (e : zF) (v : AV) : List AV := [.str e.name, .bool e.gone, v, .int .i64 e.xf, .int .i64 e.node, .int .i64 e.method, .str e.packed, .int .i64 e.size, .int .i64 e.DZ]
def yE (e : zF) : Bool := Je e.vec && (decide (1 ≤ e.xf) && (yP e.xf && Ev e.node))
structure PE (h : H) (p : AV) (cs : List AV) : Prop where
 nil : ∀ g : H, jS g p = some (p, g)
 uF : ∃ q : Nat → AV, (∀ k, fJ k p = some (q k)) ∧ ∀ g : H, Ext h g → ∀ (k : Nat) (c : AV), cs[k]? = some c → cJ false 1 (q k) g = some c
theorem LH (h : H) (p v : AV) (e : zF) (pe : PE h p (xg e v)) (rd : Rd h v (ints e.vec)) (hl : e.vec.length < 1125899906842624) : aS AP.A 112 [p] h = some (.bool (yE e), h) := by
 have nl := pe.nil
 obtain ⟨q, f1, f2⟩ := pe.uF
 have l2 := f2 h (Ext.refl h) 2 v rfl
 have l3 := f2 h (Ext.refl h) 3 _ rfl
 have l4 := f2 h (Ext.refl h) 4 _ rfl
 have k1 := TT h v e.vec rd hl
 have k2 := Jm h e.xf
 have k3 := Qn h e.node
 have c2 : yP e.xf = true → 1 ≤ e.xf → True := fun _ _ => trivial
 refine uM (fn := AP.f112) (h2 := h) (e := [(2, .bool (yE e))]) (vs := [.bool (yE e)]) rfl rfl rfl ?_ rfl
 unfold yE
 clear pe f2 rd c2
 generalize Je e.vec = B1 at *
 generalize yP e.xf = B2 at *
 generalize Ev e.node = B3 at *
 by_cases c1 : 1 ≤ e.xf <;> cases B1 <;> cases B2 <;> cases B3 <;> simp (disch := omega) only [go_sem, wG, AP.f112, nl, f1, l2, l3, l4, k1, k2, k3]
def LK (s : ByteArray) : Bool := s.data.toList == (⟨#[]⟩ : ByteArray).data.toList
def zG (e : zF) : Bool :=
 if e.gone then decide (e.method = 0) && (LK e.packed && (decide (e.size = 0) && decide (e.DZ = 0)))
 else (decide (0 ≤ e.size) && (decide (e.size ≤ 300) && Jx e.DZ)) && (decide (e.method = 0) && decide ((e.packed.size : Int) = e.size) || decide (e.method = 8) && decide (e.packed.size ≤ 300))
theorem J9 (h : H) (p v : AV) (e : zF) (pe : PE h p (xg e v)) : aS AP.A 122 [p] h = some (.bool (zG e), h) := by
 have nl := pe.nil
 obtain ⟨q, f1, f2⟩ := pe.uF
 have l1 := f2 h (Ext.refl h) 1 _ rfl
 have l5 := f2 h (Ext.refl h) 5 _ rfl
 have l6 := f2 h (Ext.refl h) 6 _ rfl
 have l7 := f2 h (Ext.refl h) 7 _ rfl
 have l8 := f2 h (Ext.refl h) 8 _ rfl
 have k1 := TL h e.DZ
 have e1 : bw .eql (.str e.packed) (.str ⟨#[]⟩) = some (.bool (LK e.packed)) := DK _ _
 refine uM (fn := AP.f122) (h2 := h) (e := [(2, .bool (zG e))]) (vs := [.bool (zG e)]) rfl rfl rfl ?_ rfl
 unfold zG
 clear pe f2
 generalize LK e.packed = B1 at *
 generalize Jx e.DZ = B2 at *
 cases hg : e.gone with
 | true =>
   rw [hg] at l1
   rw [if_pos rfl]
   by_cases c1 : e.method = 0
   · cases B1 with
     | false => simp (disch := omega) only [go_sem, wG, AP.f122, nl, f1, l1, l5, l6, l7, l8, e1]
     | true =>
       by_cases c2 : e.size = 0
       · by_cases c3 : e.DZ = 0 <;> simp (disch := omega) only [go_sem, wG, AP.f122, nl, f1, l1, l5, l6, l7, l8, e1]
       · simp (disch := omega) only [go_sem, wG, AP.f122, nl, f1, l1, l5, l6, l7, l8, e1]
   · simp (disch := omega) only [go_sem, wG, AP.f122, nl, f1, l1, l5, l6, l7, l8, e1]
 | false =>
   rw [hg] at l1
   rw [if_neg (by decide)]
   by_cases c1 : e.method = 0
   · have c1' : ¬ e.method = 8 := by omega
     by_cases c2 : (e.packed.size : Int) = e.size
     · by_cases c3 : 0 ≤ e.size
       · by_cases c4 : e.size ≤ 300
         · cases B2 <;> simp (disch := omega) only [go_sem, wG, AP.f122, nl, f1, l1, l5, l6, l7, l8, e1, k1]
         · simp (disch := omega) only [go_sem, wG, AP.f122, nl, f1, l1, l5, l6, l7, l8, e1, k1]
       · exfalso; omega
     · simp (disch := omega) only [go_sem, wG, AP.f122, nl, f1, l1, l5, l6, l7, l8, e1, k1]
   · by_cases c0 : e.method = 8
     · by_cases c2 : e.packed.size ≤ 300
       · by_cases c3 : 0 ≤ e.size
         · by_cases c4 : e.size ≤ 300
           · cases B2 <;> simp (disch := omega) only [go_sem, wG, AP.f122, nl, f1, l1, l5, l6, l7, l8, e1, k1]
           · simp (disch := omega) only [go_sem, wG, AP.f122, nl, f1, l1, l5, l6, l7, l8, e1, k1]
         · simp (disch := omega) only [go_sem, wG, AP.f122, nl, f1, l1, l5, l6, l7, l8, e1, k1]
       · simp (disch := omega) only [go_sem, wG, AP.f122, nl, f1, l1, l5, l6, l7, l8, e1, k1]
     · simp (disch := omega) only [go_sem, wG, AP.f122, nl, f1, l1, l5, l6, l7, l8, e1, k1]
def Di (prev : Option zF) (e : zF) : Bool := Az e.name && ((match prev with | none => true | some p => Op.bytesLess p.name.toList e.name.toList) && (yE e && zG e))
theorem Gp (e : zF) : Di none e = (Az e.name && (yE e && zG e)) := by simp [Di]
theorem Nd (p e : zF) : Di (some p) e = (Az e.name && (Op.bytesLess p.name.toList e.name.toList && (yE e && zG e))) := rfl
def Es : Option zF → List zF → Bool
 | _, [] => true
 | p, e :: r => Di p e && Es (some e) r
abbrev GZ := zF × AV
def TU (x : GZ) : List AV := xg x.1 x.2
def Hx (l : List GZ) : List AV := l.flatMap TU
theorem Jt (x : GZ) : (TU x).length = 9 := rfl
structure KO (h : H) (x : GZ) : Prop where
 vec : Rd h x.2 (ints x.1.vec)
 vl : x.1.vec.length < 1125899906842624
 nl : x.1.name.size < 1125899906842624
 pl : x.1.packed.size < 1125899906842624
theorem KO.mono {h g : H} {x : GZ} (o : KO h x) (e : Ext h g) : KO g x := ⟨o.vec.mono fun i c q => e i c q, o.vl, o.nl, o.pl⟩
theorem JY {v : AV} {l : List GZ} (hn : l.length < 1125899906842624) (h : H) (b : Nat) (hb : h.get b = some [v]) (rd : zE 9 h v l.length (Hx l)) (hv : ∀ x ∈ l, KO h x) : ∀ (q p : List GZ), l = p ++ q →
 (∃ e', Lp AP.A [1, 7, 8] AP.f113L0 [(1, .aE b 0), (7, .int .i64 l.length), (8, .int .i64 p.length)] h = some (.exit 0, e', h) ∧ look e' 1 = .aE b 0 ∧ Es (p.getLast?.map (·.1)) (q.map (·.1)) = true) ∨
 (∃ e', Lp AP.A [1, 7, 8] AP.f113L0 [(1, .aE b 0), (7, .int .i64 l.length), (8, .int .i64 p.length)] h = some (.ret, e', h) ∧ look e' 2 = .bool false ∧ Es (p.getLast?.map (·.1)) (q.map (·.1)) = false)
 | [], p, hp => by
   left
   rw [Vm] at hp; subst hp
   refine ⟨[(1, .aE b 0), (7, .int .i64 l.length), (8, .int .i64 l.length), (9, .bool false)], ux ?_, rfl, rfl⟩
   simp (disch := omega) only [go_sem, wG, AP.f113L0]
 | x :: q, p, hp => by
   have hlen : l.length = p.length + (q.length + 1) := by rw [hp]; simp
   have hx : l[p.length]? = some x := by rw [hp]; simp
   have ho := hv x (by rw [hp]; simp)
   obtain ⟨ad, a1, a2, a4, a3⟩ := rd.at_
   have hI : (0 : Int) ≤ (p.length : Int) ∧ (p.length : Int) < l.length := ⟨by omega, by omega⟩
   have b1 := a1 _ hI
   have pe : PE h (ad p.length 0) (xg x.1 x.2) := by
    refine ⟨fun g => a4 _ 0 g hI, fun k => ad p.length (0 + k), fun k => a2 _ 0 k hI, fun g hg k c hc => ?_⟩
    have hk : k < 9 := (vN.1 hc).1
    refine (a3 g hg).1 _ _ _ hI ?_
    rw [EX, vW, show Hx l = l.flatMap TU from rfl, Gs Jt hx hk]; exact hc
   have k1 := Qm h x.1.name ho.nl
   have k2 := LH h _ _ x.1 pe ho.vec ho.vl
   have k3 := J9 h _ _ x.1 pe
   have nl := pe.nil
   obtain ⟨qq, f1, f2⟩ := pe.uF
   have l0 := f2 h (Ext.refl h) 0 _ rfl
   have ih := JY hn h b hb rd hv q (p ++ [x]) (by rw [hp]; simp)
   have w1 : (((p ++ [x]).length : Nat) : Int) = (p.length : Int) + 1 := by simp
   rw [w1, List.getLast?_concat] at ih
   have step : aM (aS AP.A) bG AP.f113L0 (ay [(1, .aE b 0), (7, .int .i64 l.length), (8, .int .i64 p.length)] [1, 7, 8]) h = if Di (p.getLast?.map (·.1)) x.1 then some (.normal, [(1, .aE b 0), (7, .int .i64 l.length), (8, .int .i64 ((p.length : Int) + 1))], h) else some (.ret, [(2, .bool false)], h) := by
    cases hl : p.getLast? with
    | none =>
      have hp0 : p = [] := List.getLast?_eq_none_iff.1 hl
      have hp1 : p.length = 0 := by rw [hp0]; rfl
      clear ih w1 pe f2 a1 a2 a3 a4 hl hv hp ho hx
      rw [Vw, Gp]
      generalize Az x.1.name = B1 at *
      generalize yE x.1 = B3 at *
      generalize zG x.1 = B4 at *
      cases B1 with
      | false =>
        rw [VC, if_neg (by decide)]
        simp (disch := omega) only [go_sem, wG, AP.f113L0, hb, b1, nl, f1, l0, k1, k2, k3]
      | true =>
        cases B3 with
        | false =>
          rw [VC, Vz, if_neg (by decide)]
          simp (disch := omega) only [go_sem, wG, AP.f113L0, hb, b1, nl, f1, l0, k1, k2, k3]
        | true =>
          cases B4 with
          | false =>
            rw [Vz, Vz, if_neg (by decide)]
            simp (disch := omega) only [go_sem, wG, AP.f113L0, hb, b1, nl, f1, l0, k1, k2, k3]
          | true =>
            rw [Bool.and_self, Bool.and_self, if_pos rfl]
            simp (disch := omega) only [go_sem, wG, AP.f113L0, hb, b1, nl, f1, l0, k1, k2, k3]
    | some y =>
      obtain ⟨p', rfl⟩ : ∃ p', p = p' ++ [y] := List.getLast?_eq_some_iff.1 hl
      have hpl : (p' ++ [y]).length = p'.length + 1 := by simp
      have hy : l[p'.length]? = some y := by rw [hp]; simp
      have hJ : (0 : Int) ≤ (p'.length : Int) ∧ (p'.length : Int) < l.length := ⟨by omega, by omega⟩
      have bj := a1 _ hJ
      have fj := a2 _ 0 0 hJ
      have lj := (a3 h (Ext.refl h)).1 p'.length (0 + 0) (.str y.1.name) hJ (by
       rw [EX, show Hx l = l.flatMap TU from rfl, vW, Gs Jt hy (by omega)]; rfl)
      have cmp : bw .geq (.str y.1.name) (.str x.1.name) = some (.bool (!(Op.bytesLess y.1.name.toList x.1.name.toList))) := rfl
      have n2 : (((p' ++ [y]).length : Nat) : Int) - 1 = (p'.length : Int) := by rw [hpl]; omega
      clear ih w1 pe f2 a1 a2 a3 a4 hl hv hp ho hx hy
      rw [U8, Nd]
      simp only [Nat.add_zero] at fj lj
      generalize Op.bytesLess y.1.name.toList x.1.name.toList = B2 at *
      generalize Az x.1.name = B1 at *
      generalize yE x.1 = B3 at *
      generalize zG x.1 = B4 at *
      generalize (p' ++ [y]).length = pl at *
      cases B1 with
      | false =>
        rw [VC, if_neg (by decide)]
        simp (disch := omega) only [go_sem, wG, AP.f113L0, hb, b1, nl, f1, l0, k1, k2, k3, bj, fj, lj, cmp, n2]
      | true =>
        cases B2 with
        | false =>
          rw [VC, Vz, if_neg (by decide)]
          simp (disch := omega) only [go_sem, wG, AP.f113L0, hb, b1, nl, f1, l0, k1, k2, k3, bj, fj, lj, cmp, n2]
        | true =>
          cases B3 with
          | false =>
            rw [VC, Vz, Vz, if_neg (by decide)]
            simp (disch := omega) only [go_sem, wG, AP.f113L0, hb, b1, nl, f1, l0, k1, k2, k3, bj, fj, lj, cmp, n2]
          | true =>
            cases B4 with
            | false =>
              rw [Vz, Vz, Vz, if_neg (by decide)]
              simp (disch := omega) only [go_sem, wG, AP.f113L0, hb, b1, nl, f1, l0, k1, k2, k3, bj, fj, lj, cmp, n2]
            | true =>
              rw [Bool.and_self, Bool.and_self, Bool.and_self, if_pos rfl]
              simp (disch := omega) only [go_sem, wG, AP.f113L0, hb, b1, nl, f1, l0, k1, k2, k3, bj, fj, lj, cmp, n2]
   have hmay : Es (p.getLast?.map (·.1)) ((x :: q).map (·.1)) = (Di (p.getLast?.map (·.1)) x.1 && Es (some x.1) (q.map (·.1))) := rfl
   rw [hmay]
   by_cases hok : Di (p.getLast?.map (·.1)) x.1 = true
   · rw [if_pos hok] at step
     rw [hok, Bool.true_and]
     rcases ih with ⟨e', r1, r2, r3⟩ | ⟨e', r1, r2, r3⟩
     · exact .inl ⟨e', uy step r1, r2, r3⟩
     · exact .inr ⟨e', uy step r1, r2, r3⟩
   · have hok' : Di (p.getLast?.map (·.1)) x.1 = false := by simpa using hok
     rw [if_neg hok] at step
     rw [hok', VC]
     exact .inr ⟨_, uT step, rfl, rfl⟩
def Ep (l : List zF) : Bool := Es none l && decide (l.length ≤ 6)
theorem QH (h : H) (v : AV) (l : List GZ) (hvs : v.sc = true) (hn : l.length < 1125899906842624) (rd : zE 9 h v l.length (Hx l)) (hv : ∀ x ∈ l, KO h x) : aS AP.A 113 [.agg [v]] h = some (.bool (Ep (l.map (·.1))), h) := by
 obtain ⟨h1, eh1⟩ : ∃ g, g = h.ez.alloc [v] := ⟨_, rfl⟩
 have hx : Ext h.ez h1 := by rw [eh1]; exact (Ext.refl _).alloc _
 have hx0 : Ext h h1 := fun i c q => hx i c q
 have hn0 : h.ez.next = h.next := rfl
 have g1 : h1.get h.next = some [v] := by rw [eh1]; exact wO rfl
 have EG := rd.mono fun i c q => hx0 i c q
 have ln := EG.len
 have hb : ∀ ev : Env, look ev 0 = .agg [v] → aX ev (.box 1 (.t 0)) = some ([v], fun i => .aE i 0) := by
  intro ev q
  simp only [aX, tu, q, lZ]
  rw [if_pos ⟨rfl, by simp [hvs]⟩]
 unfold Ep
 rcases JY hn h1 h.next g1 EG (fun x hx => (hv x hx).mono hx0) l [] rfl with ⟨e', r1, r2, r3⟩ | ⟨e', r1, r2, r3⟩
 · have r1' : Lp AP.A [1, 7, 8] AP.f113L0 [(1, .aE h.next 0), (7, .int .i64 l.length), (8, .int .i64 0)] h1 = some (.exit 0, e', h1) := r1
   clear r1
   have r3' : Es none (l.map (·.1)) = true := r3
   rw [r3', Bool.true_and, List.length_map]
   refine u7 (fn := AP.f113) (h2 := h1) (e := [(2, .bool (decide (l.length ≤ 6)))]) rfl rfl rfl ?_ rfl rfl
   clear rd EG hv hx hx0 r3 r3'
   simp only [nZ, n8, AP.f113]
   rw [sS, sR, ui, jq, hb _ rfl]
   simp only [nz, hn0, ← eh1]
   by_cases c : l.length ≤ 6
   · simp (disch := omega) only [go_sem, wG, g1, ln, th, r1', r2]
   · simp (disch := omega) only [go_sem, wG, g1, ln, th, r1', r2]
 · have r1' : Lp AP.A [1, 7, 8] AP.f113L0 [(1, .aE h.next 0), (7, .int .i64 l.length), (8, .int .i64 0)] h1 = some (.ret, e', h1) := r1
   clear r1
   have r3' : Es none (l.map (·.1)) = false := r3
   rw [r3', VC]
   refine u7 (fn := AP.f113) (h2 := h1) (e := e') (vs := [.bool false]) rfl rfl rfl ?_ (by simp only [AP.f113, cO, od, r2]; rfl) rfl
   clear rd EG hv hx hx0 r3 r3'
   simp only [nZ, n8, AP.f113]
   rw [sS, sR, ui, jq, hb _ rfl]
   simp only [nz, hn0, ← eh1]
   simp (disch := omega) only [go_sem, wG, g1, ln, th, r1']
def zf (method : Int) (s : ByteArray) (size : Int) : Option ByteArray :=
 if size < 0 ∨ 300 < size then none
 else if method = 0 then (if (s.size : Int) = size then some s else none)
 else if method = 8 then (match xA s size with
  | .ok (o, took) => if (o.length : Int) = size ∧ took = s.size then some (bytesOf o) else none
  | .error _ => none)
 else none
theorem GV {m : Int} {s : ByteArray} {z : Int} {t : ByteArray} (h : zf m s z = some t) : (t.size : Int) = z ∧ 0 ≤ z ∧ z ≤ 300 := by
 unfold zf at h
 split at h
 · cases h
 · rename_i q
   split at h
   · split at h
     · rename_i q2; obtain rfl := vG h; omega
     · cases h
   · split at h
     · split at h
       · split at h
         · rename_i q2
           obtain rfl := vG h
           rw [wX]; omega
         · cases h
       · cases h
     · cases h
def QG : Option ByteArray → AV
 | some t => .bU [.str t, .int .i64 0]
 | none => .bU [.str ⟨#[]⟩, .int .i64 900]
theorem Mz (h : H) (hf : h.floor ≤ h.next) (m : Int) (s : ByteArray) (z : Int) (hs : s.size < 1125899906842624) : aS AP.A 114 [.int .i64 m, .str s, .int .i64 z] h = some (QG (zf m s z), h) := by
 unfold zf
 by_cases c1 : z < 0
 · rw [if_pos (.inl c1)]
   refine u7 (fn := AP.f114) (h2 := h.ez) (e := [(6, .str ⟨#[]⟩), (7, .int .i64 900)]) rfl rfl rfl ?_ rfl rfl
   simp (disch := omega) only [go_sem, wG, AP.f114]
 by_cases c2 : 300 < z
 · rw [if_pos (.inr c2)]
   refine u7 (fn := AP.f114) (h2 := h.ez) (e := [(6, .str ⟨#[]⟩), (7, .int .i64 900)]) rfl rfl rfl ?_ rfl rfl
   simp (disch := omega) only [go_sem, wG, AP.f114]
 rw [if_neg (by omega)]
 by_cases c3 : m = 0
 · rw [if_pos c3]
   by_cases c4 : (s.size : Int) = z
   · rw [if_pos c4]
     refine u7 (fn := AP.f114) (h2 := h.ez) (e := [(6, .str s), (7, .int .i64 0)]) rfl rfl rfl ?_ rfl rfl
     simp (disch := omega) only [go_sem, wG, AP.f114]
   · rw [if_neg c4]
     refine u7 (fn := AP.f114) (h2 := h.ez) (e := [(6, .str ⟨#[]⟩), (7, .int .i64 900)]) rfl rfl rfl ?_ rfl rfl
     simp (disch := omega) only [go_sem, wG, AP.f114]
 rw [if_neg c3]
 by_cases c5 : m = 8
 · rw [if_pos c5]
   have k1 := Kj h.ez (by simp) s z hs
   simp only [I] at k1
   cases hi : xA s z with
   | error k =>
     rw [hi] at k1
     simp only [Qh, I] at k1
     have hk := Gx hi
     have hk' : ¬ k = 0 := by rcases hk with rfl | rfl <;> decide
     clear hk
     refine u7 (fn := AP.f114) (h2 := h.ez) (e := [(6, .str ⟨#[]⟩), (7, .int .i64 900)]) rfl rfl rfl ?_ rfl rfl
     simp (disch := omega) only [go_sem, wG, AP.f114, k1]
   | ok r =>
     obtain ⟨o, took⟩ := r
     rw [hi] at k1
     simp only [Qh, I] at k1
     dsimp only
     have sz := wX o
     by_cases c6 : (o.length : Int) = z
     · by_cases c7 : took = s.size
       · rw [if_pos ⟨c6, c7⟩]
         refine u7 (fn := AP.f114) (h2 := h.ez) (e := [(6, .str (bytesOf o)), (7, .int .i64 0)]) rfl rfl rfl ?_ rfl rfl
         simp (disch := omega) only [go_sem, wG, AP.f114, k1, sz]
       · rw [if_neg (fun q => c7 q.2)]
         refine u7 (fn := AP.f114) (h2 := h.ez) (e := [(6, .str ⟨#[]⟩), (7, .int .i64 900)]) rfl rfl rfl ?_ rfl rfl
         simp (disch := omega) only [go_sem, wG, AP.f114, k1, sz]
     · rw [if_neg (fun q => c6 q.1)]
       refine u7 (fn := AP.f114) (h2 := h.ez) (e := [(6, .str ⟨#[]⟩), (7, .int .i64 900)]) rfl rfl rfl ?_ rfl rfl
       simp (disch := omega) only [go_sem, wG, AP.f114, k1, sz]
 · rw [if_neg c5]
   refine u7 (fn := AP.f114) (h2 := h.ez) (e := [(6, .str ⟨#[]⟩), (7, .int .i64 900)]) rfl rfl rfl ?_ rfl rfl
   simp (disch := omega) only [go_sem, wG, AP.f114]
def Ar (e : zF) : Option ByteArray :=
 if Ep [e] = false then none
 else if e.gone then some ⟨#[]⟩
 else match zf e.method e.packed e.size with
  | some t => if (zm t : Int) = e.DZ then some t else none
  | none => none
theorem QC (h : H) (hf : h.floor ≤ h.next) (e : zF) (v : AV) (hv : v.sc = true) (ok : KO h (e, v)) : ∃ t, aS AP.A 107 [.agg (xg e v)] h = some (.bU [.str t, .bool (Ar e).isSome], h) ∧ (∀ u, Ar e = some u → t = u) := by
 obtain ⟨h1, eh1⟩ : ∃ g, g = h.ez.alloc (xg e v) := ⟨_, rfl⟩
 obtain ⟨h2, eh2⟩ : ∃ g, g = h1.alloc (xg e v) := ⟨_, rfl⟩
 have hx1 : Ext h h1 := fun i c q => by rw [eh1]; exact ((Ext.refl h.ez).alloc _) i c q
 have hx2 : Ext h h2 := by rw [eh2]; exact hx1.alloc _
 have hn0 : h.ez.next = h.next := rfl
 have hn1 : h1.next = h.next + 1 := by rw [eh1]; simp
 have g1 : h2.get h.next = some (xg e v) := by rw [eh2, w9 (by omega), eh1, wO (by simp)]
 have g0 : h1.get h.next = some (xg e v) := by rw [eh1, wO (by simp)]
 have o : zE 9 h2 (.aF (h.next + 1) 0 1 9) 1 (Hx [(e, v)]) := by
  refine ⟨?_, rfl, fun _ => by simp⟩
  simp only [aT, if_true]
  rw [eh2, wO (by omega)]
  rfl
 have k1 := QH h2 (.aF (h.next + 1) 0 1 9) [(e, v)] rfl (by simp) o (fun x hx => by
  obtain rfl : x = (e, v) := by simpa using hx
  exact ok.mono hx2)
 have k1' : aS AP.A 113 [.agg [.aF (h.next + 1) 0 1 9]] h2 = some (.bool (Ep [e]), h2) := k1
 have hf2 : h2.floor ≤ h2.next := by rw [eh2, eh1]; simp; omega
 have k2 := Mz h2 hf2 e.method e.packed e.size ok.pl
 have rdA : iG true 9 (xg e v) 0 = some (.agg (xg e v)) := rfl
 have cr : ∀ t : ByteArray, t.size < 1125899906842624 → aS AP.A 115 [.str t] h2 = some (.int .i64 (zm t : Nat), h2) := fun t ht => LP h2 t ht
 clear k1 o hx1 hx2
 unfold Ar
 simp only [xg] at *
 cases hm : Ep [e] with
 | false =>
   rw [hm] at k1'
   refine ⟨⟨#[]⟩, ?_, fun u q => by simp at q⟩
   rw [if_pos rfl]
   refine u7 (fn := AP.f107) (h2 := h2) (e := [(2, .str ⟨#[]⟩), (3, .bool false)]) rfl rfl rfl ?_ rfl rfl
   simp (disch := omega) only [go_sem, wG, AP.f107, hv, hn0, ← eh1, g0, rdA, hn1, ← eh2, k1']
 | true =>
   rw [hm] at k1'
   rw [if_neg (by decide)]
   cases hg : e.gone with
   | true =>
     rw [hg] at g1 g0 eh1 eh2 rdA
     refine ⟨⟨#[]⟩, ?_, fun u q => by simpa using q⟩
     refine u7 (fn := AP.f107) (h2 := h2) (e := [(2, .str ⟨#[]⟩), (3, .bool true)]) rfl rfl rfl ?_ rfl rfl
     simp (disch := omega) only [go_sem, wG, AP.f107, hv, hn0, ← eh1, g0, g1, rdA, hn1, ← eh2, k1']
   | false =>
     rw [hg] at g1 g0 eh1 eh2 rdA
     rw [if_neg (by decide)]
     cases hu : zf e.method e.packed e.size with
     | none =>
       rw [hu] at k2
       simp only [QG] at k2
       refine ⟨⟨#[]⟩, ?_, fun u q => by simp at q⟩
       refine u7 (fn := AP.f107) (h2 := h2) (e := [(2, .str ⟨#[]⟩), (3, .bool false)]) rfl rfl rfl ?_ rfl rfl
       simp (disch := omega) only [go_sem, wG, AP.f107, hv, hn0, ← eh1, g0, g1, rdA, hn1, ← eh2, k1', k2]
     | some t =>
       rw [hu] at k2
       simp only [QG] at k2
       have kc := cr t (by have := GV hu; omega)
       dsimp only
       by_cases c : (zm t : Int) = e.DZ
       · rw [if_pos c]
         refine ⟨t, ?_, fun u q => vG q⟩
         refine u7 (fn := AP.f107) (h2 := h2) (e := [(2, .str t), (3, .bool true)]) rfl rfl rfl ?_ rfl rfl
         simp (disch := omega) only [go_sem, wG, AP.f107, hv, hn0, ← eh1, g0, g1, rdA, hn1, ← eh2, k1', k2, kc]
       · rw [if_neg c]
         refine ⟨t, ?_, fun u q => by simp at q⟩
         refine u7 (fn := AP.f107) (h2 := h2) (e := [(2, .str t), (3, .bool false)]) rfl rfl rfl ?_ rfl rfl
         simp (disch := omega) only [go_sem, wG, AP.f107, hv, hn0, ← eh1, g0, g1, rdA, hn1, ← eh2, k1', k2, kc]
def E4 (e : zF) : Bool := (Ar e).isSome
theorem Pf (h : H) (hf : h.floor ≤ h.next) (e : zF) (v : AV) (hv : v.sc = true) (ok : KO h (e, v)) : aS AP.A 96 [.agg (xg e v)] h = some (.bool (E4 e), h) := by
 obtain ⟨h1, eh1⟩ : ∃ g, g = h.ez.alloc (xg e v) := ⟨_, rfl⟩
 have hx1 : Ext h h1 := fun i c q => by rw [eh1]; exact ((Ext.refl h.ez).alloc _) i c q
 have hn0 : h.ez.next = h.next := rfl
 have g0 : h1.get h.next = some (xg e v) := by rw [eh1, wO (by simp)]
 obtain ⟨t, k1, _⟩ := QC h1 (by rw [eh1]; simp) e v hv (ok.mono hx1)
 have rdA : iG true 9 (xg e v) 0 = some (.agg (xg e v)) := rfl
 refine u7 (fn := AP.f96) (h2 := h1) (e := [(2, .bool (E4 e))]) rfl rfl rfl ?_ rfl rfl
 clear hx1
 unfold E4
 simp only [xg] at *
 simp (disch := omega) only [go_sem, wG, AP.f96, hv, hn0, ← eh1, g0, rdA, k1]
theorem TM (e : zF) : Ep [e] = (Az e.name && (yE e && zG e)) := by
 unfold Ep Es
 rw [Gp]
 simp [Es]
theorem Qo (c : ah) (e : Env) (h : H) (x y : X) : ai c e h (.mx [x, y]) = dI h (nk (x.ev e) (y.ev e)) := by
 simp only [ai, bC, Ve, VD, gV]
 cases nk (x.ev e) (y.ev e) <;> rfl
def GB (a b : Int) : Int := if a < b then b else a
theorem MK (k : IntKind) (a b : Int) : nk (.int k a) (.int k b) = some (.int k (GB a b)) := rfl
theorem J2 {n : Nat} {h : H} {v : AV} {k : Nat} {cs : List AV} (r : zE n h v k cs) (hfn : h.floor ≤ h.next) (hn : 0 < n) (hk : 0 < k) {z : Nat} (hr : roomy z k = true) (hc : AV.aC cs = true) :
 lL (h.alloc []) n z (.aF h.next 0 0 n) v = some (.aF (h.next + 1) 0 k n, ((h.alloc []).del h.next).alloc cs) := by
 have r2 : zE n (h.alloc []) v k cs := r.mono fun i c q => by rw [H.aW, if_neg (by have := h.lt _ _ q; omega)]; exact q
 unfold lL
 rw [r2.1, vO]
 have hkn : 0 < k * n := Nat.mul_pos hk hn
 unfold ep
 rw [if_neg (by omega), if_neg (by simp [hc]; omega)]
 simp only [H.jK, hfn, and_self, if_true]
 rw [wO rfl, vO, if_neg (by simp; omega), if_pos ⟨by simp, by simpa using hr⟩]
 simp
theorem BN : ∀ l : List Int, AV.aC (ints l) = true
 | [] => rfl
 | n :: l => by
   have := BN l
   show AV.aC (I n :: ints l) = true
   rw [qN, this]; rfl
def Sj : zF := ⟨⟨#[]⟩, false, [], 0, 0, 0, ⟨#[]⟩, 0, 0⟩
abbrev Z9 : List AV := [.str ⟨#[]⟩, .bool false, .aQ, .int .i64 0, .int .i64 0, .int .i64 0, .str ⟨#[]⟩, .int .i64 0, .int .i64 0]
def y8 (name : ByteArray) (node : Nat) (xf : Int) (text : ByteArray) : zF := ⟨name, false, [0, 0, 0, 0].set node xf, xf, node, 0, text, text.size, zm text⟩
def nA : ByteArray := ⟨#[97]⟩
def QJ : ByteArray := ⟨#[104, 105]⟩
def UX : ByteArray := ⟨#[104, 111]⟩
def eA : zF := y8 nA 0 1 QJ
def eB : zF := y8 nA 2 1 UX
theorem Rd.obj {h : H} {p n : Nat} {l : List Int} (hp : h.get p = some (ints l)) (hl : l.length = n) : Rd h (.aF p 0 n 1) (ints l) :=
 ⟨by subst hl; simp only [aT, if_true, hp, vO]; rw [if_pos (by simp), Vr, Vg (by simp), qy], fun s e => by cases e⟩
theorem KO.obj {h : H} {e : zF} {p n : Nat} {l : List Int} (hp : h.get p = some (ints l)) (hl : l.length = n) (he : e.vec = l := by rfl) (nl : e.name.size < 1125899906842624) (pl : e.packed.size < 1125899906842624) (hn : n < 1000000 := by decide) : KO h (e, .aF p 0 n 1) :=
 ⟨by show Rd h _ (ints e.vec); rw [he]; exact Rd.obj hp hl, by show e.vec.length < _; rw [he]; omega, by show e.name.size < _; omega, by show e.packed.size < _; omega⟩
theorem MX (t : ByteArray) : zm t < 4294967296 := CH 0 t
theorem IJ {e : zF} {v : AV} (h : v.sc = true) : AV.aC (xg e v) = true := by simp [xg, h]
def eD : zF := { eA with DZ := (zm QJ ^^^ 1 : Nat) }
theorem MW (h : H) (hf : h.floor ≤ h.next) (e : zF) (v : AV) (hv : v.sc = true) (hb : e.vec.length < 1000000) (r : aT ((h.alloc (xg e v)).alloc Z9 |>.alloc []) 1 v = some (e.vec.length, ints e.vec)) (h0 : 0 < e.vec.length) :
 aS AP.A 92 [.agg (xg e v)] h = some (.agg (xg e (.aF (h.next + 1 + 1 + 1) 0 e.vec.length 1)), ((((((h.alloc (xg e v)).alloc Z9).alloc []).del (h.next + 1 + 1)).alloc (ints e.vec)).set h.next (xg e (.aF (h.next + 1 + 1 + 1) 0 e.vec.length 1))).set (h.next + 1) (xg e (.aF (h.next + 1 + 1 + 1) 0 e.vec.length 1))) := by
 have cA : AV.aC (xg e v) = true := IJ hv
 have lA : (xg e v).length = 9 := rfl
 have gA : (xg e v)[2]? = some v := rfl
 have fA : setFrom (xg e v) 2 [.aF (h.next + 1 + 1 + 1) 0 e.vec.length 1] = xg e (.aF (h.next + 1 + 1 + 1) 0 e.vec.length 1) := rfl
 have tA : List.take 9 (xg e (.aF (h.next + 1 + 1 + 1) 0 e.vec.length 1)) = xg e (.aF (h.next + 1 + 1 + 1) 0 e.vec.length 1) := rfl
 have lB : (xg e (.aF (h.next + 1 + 1 + 1) 0 e.vec.length 1)).length = 9 := rfl
 have cB : AV.aC (xg e (.aF (h.next + 1 + 1 + 1) 0 e.vec.length 1)) = true := rfl
 have fB : setFrom Z9 0 (xg e (.aF (h.next + 1 + 1 + 1) 0 e.vec.length 1)) = xg e (.aF (h.next + 1 + 1 + 1) 0 e.vec.length 1) := rfl
 have la := BN e.vec
 have ll := qy e.vec
 refine uM (fn := AP.f92) (e := [(2, .aE (h.next + 1) 0)]) (vs := [.agg (xg e (.aF (h.next + 1 + 1 + 1) 0 e.vec.length 1))]) rfl rfl rfl ?_ ?_
 · generalize xg e v = A at *
   generalize hB : xg e (.aF (h.next + 1 + 1 + 1) 0 e.vec.length 1) = B at *
   generalize e.vec.length = n at *
   generalize ints e.vec = L at *
   simp (disch := first | omega | (simp only [xe, UZ, U4, vW, Nat.reduceAdd]; first | done | omega | fail) | (simp (disch := first | omega | (simp only [xe, UZ, U4, vW, Nat.reduceAdd]; first | done | omega | fail) | fail) only [xe, Aa, U8, UZ, U4, vW, Nat.reduceAdd]; done) | fail) only [go_sem, wG, Au, AP.f92, lA, cA, gA, fA, tA, lB, cB, fB, r, la, ll]
 · simp only [AP.f92, cO, od, nQ]
   generalize hB : xg e (.aF (h.next + 1 + 1 + 1) 0 e.vec.length 1) = B at *
   simp (disch := first | omega | (simp only [xe, UZ, U4, vW, Nat.reduceAdd]; first | done | omega | fail) | (simp (disch := first | omega | (simp only [xe, UZ, U4, vW, Nat.reduceAdd]; first | done | omega | fail) | fail) only [xe, Aa, U8, UZ, U4, vW, Nat.reduceAdd]; done) | fail) only [go_sem, wG, Au, tA, lB]
   rfl
def Qi : Ty := .int .i64
def QA : Ty := .str
def Jw : Ty := .sl Qi 1 8
theorem Qv {B : Nat} {as : List AV} (h : Sh B Qi as) : ∃ n, as = [.int .i64 n] ∧ (-9223372036854775808 ≤ n ∧ n < 9223372036854775808) := by
 cases h with
 | int h => exact ⟨_, rfl, uJ h⟩
theorem Qw {as : List AV} (h : Sh reachBytes .str as) : ∃ s : ByteArray, as = [.str s] ∧ s.size < 140737488355328 := by
 cases h with
 | str h => exact ⟨_, rfl, vg h⟩
theorem NC {B : Nat} {as : List AV} {ess : List (List AV)} (h : ∀ es, es ∈ ess → Sh B Qi es) : ∃ l : List Int, l.length = ess.length ∧ ess.flatten = ints l := by
 induction ess with
 | nil => exact ⟨[], rfl, rfl⟩
 | cons x ess ih =>
   obtain ⟨n, rfl, _⟩ := Qv (h x (by simp))
   obtain ⟨l, h1, h2⟩ := ih fun es q => h es (by simp [q])
   exact ⟨n :: l, by simp [h1], by rw [List.flatten_cons, h2]; rfl⟩
theorem NB {as : List AV} (h : Sh reachBytes Jw as) : ∃ (v : AV) (l : List Int), as = [v] ∧ v.sc = true ∧ (∀ g, Rd g v (ints l)) ∧ l.length < 20000000000000 := by
 cases h with
 | aQ => exact ⟨.aQ, [], rfl, rfl, fun g => ⟨rfl, fun s e => by cases e⟩, by simp⟩
 | aV ess h hz hb =>
   obtain ⟨l, h1, h2⟩ := NC (as := []) h
   rw [h2, ← h1]
   refine ⟨_, l, rfl, rfl, fun g => ?_, ?_⟩
   · have := zN g l
     unfold yR at this; exact this
   · rw [h1]; unfold reachBytes at hb; omega
theorem Uz {P : Ty × List AV → Prop} {a b : Ty} {r : List (Ty × List AV)} (h : r.map (·.1) = [a, b]) (hp : ∀ x ∈ r, P x) : ∃ x y, r = [(a, x), (b, y)] ∧ P (a, x) ∧ P (b, y) := by
 match r, h with
 | [(a', x), (b', y)], h => simp at h; obtain ⟨rfl, rfl⟩ := h; exact ⟨x, y, rfl, hp _ (by simp), hp _ (by simp)⟩
def DD (s : ByteArray) : List Nat := s.data.toList.map (·.toNat)
theorem GU (s : ByteArray) : (DD s).length = s.size := by unfold DD; rw [List.length_map, Array.length_toList]; rfl
theorem NK (a b : ByteArray) : DD (a ++ b) = DD a ++ DD b := by simp [DD]
theorem I5 (s : ByteArray) : ∀ b ∈ DD s, b < 256 := by
 intro b hb
 obtain ⟨x, _, rfl⟩ := Vl.1 hb
 exact x.toNat_lt
theorem AL (s : ByteArray) : bytesOf (DD s) = s := by
 unfold DD bytesOf; rw [List.map_map]; apply ByteArray.ext; simp [Function.comp_def]
theorem Im {l : List Nat} (h : ∀ b ∈ l, b < 256) : DD (bytesOf l) = l := by
 simp only [DD, bytesOf, List.map_map]
 conv => rhs; rw [← List.map_id l]
 exact Vu fun b hb => by simp [Function.comp, UInt8.toNat_ofNat_of_lt' (h b hb)]
theorem yX (a b : List Nat) : bytesOf a ++ bytesOf b = bytesOf (a ++ b) := by
 apply ByteArray.ext; simp [bytesOf]
theorem zI (x k : Nat) : ∀ b ∈ xa x k, b < 256 := by
 intro b hb
 obtain ⟨i, _, rfl⟩ := Vl.1 hb
 exact Nat.mod_lt _ (by omega)
theorem NF {a b : ByteArray} (h : a.size + b.size ≤ 9223372036854775807) : bw .add (.str a) (.str b) = some (.str (a ++ b)) := Dc h
theorem zR {a b : List Nat} (h : a.length + b.length ≤ 9223372036854775807) : bw .add (.str (bytesOf a)) (.str (bytesOf b)) = some (.str (bytesOf (a ++ b))) := by
 rw [NF (by rw [wX, wX]; exact h), yX]
def Hp (c : Nat) (l : List Nat) : Nat := l.foldl zc c
theorem MT {s : ByteArray} {i : Nat} {p q : List Nat} {b : Nat} (h : DD s = p ++ b :: q) (hi : p.length = i) : yk s i = b := by
 have : (DD s)[i]? = some b := by rw [h, ← hi]; simp
 unfold yk
 unfold DD at this
 rw [v7] at this
 have e : s[i]? = s.data.toList[i]? := by
  show s.data[i]? = _
  simp
 rw [e]
 cases hq : s.data.toList[i]? with
 | none => rw [hq] at this; cases this
 | some x => rw [hq] at this; simpa using this
theorem Fk (s : ByteArray) : ∀ (q p : List Nat) (c : Nat), DD s = p ++ q → yQ s q.length p.length c = Hp c q
 | [], p, c, h => rfl
 | b :: q, p, c, h => by
   show yQ s q.length (p.length + 1) (zc c (yk s p.length)) = _
   have := Fk s q (p ++ [b]) (zc c b) (by rw [h]; simp)
   rw [MT h rfl]
   rw [wo] at this
   exact this
theorem CG (a : Nat) (s : ByteArray) : yc a s = 4294967295 - Hp (4294967295 - a) (DD s) := by
 unfold yc
 have := Fk s (DD s) [] (4294967295 - a) rfl
 rw [GU] at this
 rw [← this]; rfl
theorem Jp : ∀ (l : List Nat) {c : Nat}, c < 4294967296 → (∀ b ∈ l, b < 256) → Hp c l < 4294967296
 | [], _, h, _ => h
 | b :: l, _, h, hb => Jp l (Ap h (hb b (by simp))) (fun x hx => hb x (by simp [hx]))
theorem A7 {a : Nat} (s t : ByteArray) : yc (yc a s) t = yc a (s ++ t) := by
 rw [CG, CG a, CG a, NK]
 have := Jp (DD s) (c := 4294967295 - a) (by omega) (I5 s)
 rw [show 4294967295 - (4294967295 - Hp (4294967295 - a) (DD s)) = Hp (4294967295 - a) (DD s) by omega]
 simp [Hp]
def y0 (l : List Nat) : Nat := 4294967295 - Hp 4294967295 l
theorem Pc (s : ByteArray) : zm s = y0 (DD s) := CG 0 s
theorem D3 {l : List Nat} (h : ∀ b ∈ l, b < 256) : zm (bytesOf l) = y0 l := by rw [Pc, Im h]
def GW (l : List Int) : List Nat := l.flatMap fun n => xa n.toNat 4
def E6 (e : zF) : List Nat := xa 20592 2 ++ xa 22 2 ++ GW e.vec ++ xa e.xf.toNat 4 ++ xa e.node.toNat 1 ++ xa (if e.gone then 1 else 0) 1
theorem Iu (l : List Int) : (GW l).length = 4 * l.length := by
 induction l with
 | nil => rfl
 | cons n l ih => unfold GW at *; rw [Va, wo, wZ, ih, UZ]; omega
theorem JX (l : List Int) : ∀ b ∈ GW l, b < 256 := by
 intro b hb
 obtain ⟨n, _, hn⟩ := List.mem_flatMap.1 hb
 exact zI _ _ b hn
theorem NA (e : zF) : ∀ b ∈ E6 e, b < 256 := by
 intro b hb
 unfold E6 at hb
 simp only [Vq] at hb
 rcases hb with ((((hb | hb) | hb) | hb) | hb) | hb
 · exact zI _ _ b hb
 · exact zI _ _ b hb
 · exact JX _ b hb
 · exact zI _ _ b hb
 · exact zI _ _ b hb
 · exact zI _ _ b hb
def Qq (e : zF) : AV := if yE e = true then .bU [.str (bytesOf (E6 e)), .int .i64 0] else .bU [.str ⟨#[]⟩, .int .i64 1200]
theorem Dm {e : zF} (h : yE e = true) : e.vec.length = 4 ∧ (∀ n ∈ e.vec, 0 ≤ n ∧ n ≤ 1048576) ∧ (1 ≤ e.xf ∧ e.xf ≤ 1048576) ∧ (0 ≤ e.node ∧ e.node < 4) := by
 simp only [yE, Je, yP, Ev, vS, Vx, List.all_eq_true] at h
 exact ⟨h.1.1, h.1.2, ⟨h.2.1, h.2.2.1.2⟩, h.2.2.2⟩
theorem H5 {v P : AV} {l : List Int} (hl : l.length < 1000000) (hn : ∀ n ∈ l, 0 ≤ n ∧ n ≤ 1048576) (h : H) (rd : Rd h v (ints l)) : ∀ (q p : List Int) (acc : List Nat), l = p ++ q → acc.length + 4 * q.length < 100000000 →
 ∃ e', Lp AP.A [1, 4, 14, 15, 16] AP.f102L0 [(1, P), (4, .str (bytesOf acc)), (14, v), (15, .int .i64 l.length), (16, .int .i64 p.length)] h = some (.exit 0, e', h) ∧ look e' 1 = P ∧ look e' 4 = .str (bytesOf (acc ++ GW q))
 | [], p, acc, hp, ha => by
   refine ⟨[(1, P), (4, .str (bytesOf acc)), (14, v), (15, .int .i64 l.length), (16, .int .i64 p.length), (17, .bool false)], ux ?_, rfl, by simp [GW, look]⟩
   have e : l.length = p.length := by rw [hp]; simp
   rw [e]
   simp (disch := first | omega | (simp only [xe, UZ, U4, vW, Nat.reduceAdd]; first | done | omega | fail) | (simp (disch := first | omega | (simp only [xe, UZ, U4, vW, Nat.reduceAdd]; first | done | omega | fail) | fail) only [xe, Aa, U8, UZ, U4, vW, Nat.reduceAdd]; done) | fail) only [go_sem, wG, Au, AP.f102L0]
 | n :: q, p, acc, hp, ha => by
   rw [UZ] at ha
   obtain ⟨e', r1, r2, r3⟩ := H5 (P := P) hl hn h rd q (p ++ [n]) (acc ++ xa n.toNat 4) (by rw [hp]; simp) (by rw [wo, wZ]; omega)
   obtain ⟨ad, a1, a2⟩ := rd.xZ
   have hlen : l.length = p.length + (q.length + 1) := by rw [hp]; simp
   have i1 := a1 (p.length : Int) ⟨by omega, by omega⟩
   have i2 := a2 h (Ext.refl h) p.length n (by rw [hp]; simp)
   have bn := hn n (by rw [hp]; simp)
   have k1 := fun g => Bx g n.toNat 4 (by omega) (by omega)
   rw [show ((n.toNat : Nat) : Int) = n by omega] at k1
   have s1 : bw .add (.str (bytesOf acc)) (.str (LL n.toNat 4)) = some (.str (bytesOf (acc ++ xa n.toNat 4))) := zR (by rw [wZ]; omega)
   have n1 : ((p.length + 1 : Nat) : Int) = (p.length : Int) + 1 := by omega
   rw [wo, show [n].length = 1 from rfl, n1] at r1
   refine ⟨e', uy ?_ r1, r2, by rw [r3]; simp [GW]⟩
   have k1' : ∀ g : H, aS AP.A 104 [.int .i64 n, .int .i64 4] g = some (.str (LL n.toNat 4), g) := k1
   simp (disch := first | omega | (simp only [xe, UZ, U4, vW, Nat.reduceAdd]; first | done | omega | fail) | (simp (disch := first | omega | (simp only [xe, UZ, U4, vW, Nat.reduceAdd]; first | done | omega | fail) | fail) only [xe, Aa, U8, UZ, U4, vW, Nat.reduceAdd]; done) | fail) only [go_sem, wG, Au, AP.f102L0, i1, i2, k1', s1]
theorem PE.obj {h : H} {id : Nat} {cs : List AV} (hg : h.get id = some cs) : PE h (.aE id 0) cs :=
 ⟨fun g => rfl, fun k => .aE id (0 + k), fun k => rfl, fun g hx k c hc => by
  show cJ false 1 (.aE id (0 + k)) g = _
  rw [vW]
  simp only [cJ, hx _ _ hg, vO, iG, hc]; rfl⟩
theorem Pg (h : H) (hf : h.floor ≤ h.next) (e : zF) (v : AV) (hv : v.sc = true) (ok : KO h (e, v)) : aS AP.A 102 [.agg (xg e v)] h = some (Qq e, h) := by
 obtain ⟨A, hA⟩ : ∃ x, x = xg e v := ⟨_, rfl⟩
 have lA : A.length = 9 := by rw [hA]; rfl
 have cA : AV.aC A = true := by rw [hA]; exact IJ hv
 have g2 : A[2]? = some v := by rw [hA]; rfl
 have g1 : A[1]? = some (.bool e.gone) := by rw [hA]; rfl
 have g3 : A[3]? = some (.int .i64 e.xf) := by rw [hA]; rfl
 have g4 : A[4]? = some (.int .i64 e.node) := by rw [hA]; rfl
 have x1 : Ext h (h.ez.alloc A) := fun i c q => ((Ext.refl h.ez).alloc _) i c q
 have o1 := ok.mono x1
 have q1 : aS AP.A 112 [.aE h.next 0] (h.ez.alloc A) = some (.bool (yE e), h.ez.alloc A) := by
  refine LH (h.ez.alloc A) (.aE h.next 0) v e ?_ o1.vec o1.vl
  rw [← hA]; exact PE.obj (wO (by simp))
 unfold Qq
 cases hh : yE e with
 | false =>
   rw [hh] at q1
   rw [if_neg (by decide)]
   refine u7 (fn := AP.f102) (h2 := h.ez.alloc A) (e := [(2, .str ⟨#[]⟩), (3, .int .i64 1200)]) rfl rfl rfl ?_ rfl rfl
   rw [← hA]
   simp (disch := first | omega | (simp only [xe, UZ, U4, vW, Nat.reduceAdd]; first | done | omega | fail) | (simp (disch := first | omega | (simp only [xe, UZ, U4, vW, Nat.reduceAdd]; first | done | omega | fail) | fail) only [xe, Aa, U8, UZ, U4, vW, Nat.reduceAdd]; done) | fail) only [go_sem, wG, Au, AP.f102, lA, cA, q1]
 | true =>
   rw [hh] at q1
   rw [if_pos rfl]
   obtain ⟨f1, f2, f3, f4⟩ := Dm hh
   have k1 : ∀ g, aS AP.A 104 [.int .i64 20592, .int .i64 2] g = some (.str (bytesOf (xa 20592 2)), g) := fun g => Bx g 20592 2 (by omega) (by omega)
   have k2 : ∀ g, aS AP.A 104 [.int .i64 22, .int .i64 2] g = some (.str (bytesOf (xa 22 2)), g) := fun g => Bx g 22 2 (by omega) (by omega)
   have k3 : ∀ g, aS AP.A 104 [.int .i64 e.xf, .int .i64 4] g = some (.str (bytesOf (xa e.xf.toNat 4)), g) := fun g => by
    have := Bx g e.xf.toNat 4 (by omega) (by omega)
    rw [show ((e.xf.toNat : Nat) : Int) = e.xf by omega] at this; exact this
   have k4 : ∀ g, aS AP.A 104 [.int .i64 e.node, .int .i64 1] g = some (.str (bytesOf (xa e.node.toNat 1)), g) := fun g => by
    have := Bx g e.node.toNat 1 (by omega) (by omega)
    rw [show ((e.node.toNat : Nat) : Int) = e.node by omega] at this; exact this
   have k5 : ∀ g, aS AP.A 104 [.int .i64 0, .int .i64 1] g = some (.str (bytesOf (xa 0 1)), g) := fun g => Bx g 0 1 (by omega) (by omega)
   have k6 : ∀ g, aS AP.A 104 [.int .i64 1, .int .i64 1] g = some (.str (bytesOf (xa 1 1)), g) := fun g => Bx g 1 1 (by omega) (by omega)
   have ln := o1.vec.len
   rw [qy] at ln
   simp only [I] at ln
   obtain ⟨e', r1, r2, r3⟩ := H5 (P := .aE h.next 0) (by omega) f2 (h.ez.alloc A) o1.vec e.vec [] (xa 20592 2 ++ xa 22 2) rfl (by rw [wo, wZ, wZ]; omega)
   have r1' : Lp AP.A [1, 4, 14, 15, 16] AP.f102L0 [(1, .aE h.next 0), (4, .str (bytesOf (xa 20592 2 ++ xa 22 2))), (14, v), (15, .int .i64 e.vec.length), (16, .int .i64 0)] (h.ez.alloc A) = some (.exit 0, e', h.ez.alloc A) := r1
   clear r1
   have vl := Iu e.vec
   have s1 : bw .add (.str (bytesOf (xa 20592 2))) (.str (bytesOf (xa 22 2))) = some (.str (bytesOf (xa 20592 2 ++ xa 22 2))) := zR (by rw [wZ, wZ]; omega)
   obtain ⟨L1, hL1⟩ : ∃ x, x = xa 20592 2 ++ xa 22 2 ++ GW e.vec := ⟨_, rfl⟩
   have l1 : L1.length = 20 := by rw [hL1, wo, wo, wZ, wZ, vl, f1]
   obtain ⟨S1, h1⟩ : ∃ x, x = bytesOf L1 := ⟨_, rfl⟩
   obtain ⟨S2, h2⟩ : ∃ x, x = bytesOf (L1 ++ xa e.xf.toNat 4) := ⟨_, rfl⟩
   obtain ⟨S3, h3⟩ : ∃ x, x = bytesOf (L1 ++ xa e.xf.toNat 4 ++ xa e.node.toNat 1) := ⟨_, rfl⟩
   obtain ⟨S4, h4⟩ : ∃ x, x = bytesOf (L1 ++ xa e.xf.toNat 4 ++ xa e.node.toNat 1 ++ xa (if e.gone then 1 else 0) 1) := ⟨_, rfl⟩
   have s2 : bw .add (.str S1) (.str (bytesOf (xa e.xf.toNat 4))) = some (.str S2) := by rw [h1, h2]; exact zR (by rw [wZ]; omega)
   have s3 : bw .add (.str S2) (.str (bytesOf (xa e.node.toNat 1))) = some (.str S3) := by rw [h2, h3]; exact zR (by rw [wo, wZ, wZ]; omega)
   have s4 : bw .add (.str S3) (.str (bytesOf (xa (if e.gone then 1 else 0) 1))) = some (.str S4) := by rw [h3, h4]; exact zR (by rw [wo, wo, wZ, wZ, wZ]; omega)
   rw [show xa 20592 2 ++ xa 22 2 ++ GW e.vec = L1 from hL1.symm, ← h1] at r3
   unfold E6
   rw [← hL1, ← hA, ← h4]
   clear hL1 o1 x1 ok h1 h2 h3 h4
   refine u7 (fn := AP.f102) (h2 := h.ez.alloc A) (e := [(2, .str S4), (3, .int .i64 0)]) rfl rfl rfl ?_ rfl rfl
   cases hg : e.gone with
   | true =>
     rw [hg] at g1 s4
     rw [if_pos rfl] at s4
     simp (disch := first | omega | (simp only [xe, UZ, U4, vW, Nat.reduceAdd]; first | done | omega | fail) | (simp (disch := first | omega | (simp only [xe, UZ, U4, vW, Nat.reduceAdd]; first | done | omega | fail) | fail) only [xe, Aa, U8, UZ, U4, vW, Nat.reduceAdd]; done) | fail) only [go_sem, wG, Au, AP.f102, lA, cA, q1, k1, k2, k3, k4, k5, k6, s1, s2, s3, s4, g1, g2, g3, g4, ln, th, r1', r2, r3]
   | false =>
     rw [hg] at g1 s4
     rw [if_neg (by decide)] at s4
     simp (disch := first | omega | (simp only [xe, UZ, U4, vW, Nat.reduceAdd]; first | done | omega | fail) | (simp (disch := first | omega | (simp only [xe, UZ, U4, vW, Nat.reduceAdd]; first | done | omega | fail) | fail) only [xe, Aa, U8, UZ, U4, vW, Nat.reduceAdd]; done) | fail) only [go_sem, wG, Au, AP.f102, lA, cA, q1, k1, k2, k3, k4, k5, k6, s1, s2, s3, s4, g1, g2, g3, g4, ln, th, r1', r2, r3]
def BJ (e : zF) : List Nat := xa e.name.size 1 ++ DD e.name ++ E6 e ++ xa e.DZ.toNat 4
def Ht (e : zF) : Option Nat := if E4 e = true then some (y0 (BJ e)) else none
def QB : Option Nat → AV
 | some n => .bU [.int .i64 n, .int .i64 0]
 | none => .bU [.int .i64 0, .int .i64 1500]
theorem Mr (l : List Nat) : y0 l < 4294967296 := by unfold y0; omega
theorem Jr (p : Nat) (ss : List ByteArray) (h : H) (hg : h.get p = some (ss.map AV.str)) (hs : ∀ s ∈ ss, s.size < 1125899906842624) (hl : ss.length < 1000000) : ∀ (q pr : List ByteArray) (a : Nat), ss = pr ++ q → a < 4294967296 →
 ∃ e', Lp AP.A [6, 7, 28, 29, 30] AP.f91L0 [(6, .fn 103 [] []), (7, .int .i64 a), (28, .aF p 0 ss.length 1), (29, .int .i64 ss.length), (30, .int .i64 pr.length)] h = some (.exit 0, e', h) ∧ look e' 7 = .int .i64 (q.foldl yc a : Nat)
 | [], pr, a, hp, ha => by
   have e : ss.length = pr.length := by rw [hp]; simp
   refine ⟨[(6, .fn 103 [] []), (7, .int .i64 a), (28, .aF p 0 ss.length 1), (29, .int .i64 ss.length), (30, .int .i64 pr.length), (31, .bool false)], ux ?_, rfl⟩
   rw [e]
   simp (disch := first | omega | (simp only [xe, UZ, U4, vW, Nat.reduceAdd]; first | done | omega | fail) | (simp (disch := first | omega | (simp only [xe, UZ, U4, vW, Nat.reduceAdd]; first | done | omega | fail) | fail) only [xe, Aa, U8, UZ, U4, vW, Nat.reduceAdd]; done) | fail) only [go_sem, wG, Au, AP.f91L0]
 | s :: q, pr, a, hp, ha => by
   obtain ⟨e', r1, r2⟩ := Jr p ss h hg hs hl q (pr ++ [s]) (yc a s) (by rw [hp]; simp) (CH a s)
   have hlen : ss.length = pr.length + (q.length + 1) := by rw [hp]; simp
   have k1 := IM h s a ha (hs s (by rw [hp]; simp))
   have g1 : (ss.map AV.str)[pr.length]? = some (.str s) := by rw [hp]; simp
   have n1 : ((pr.length + 1 : Nat) : Int) = (pr.length : Int) + 1 := by omega
   rw [wo, show [s].length = 1 from rfl, n1] at r1
   refine ⟨e', uy ?_ r1, r2⟩
   simp (disch := first | omega | (simp only [xe, UZ, U4, vW, Nat.reduceAdd]; first | done | omega | fail) | (simp (disch := first | omega | (simp only [xe, UZ, U4, vW, Nat.reduceAdd]; first | done | omega | fail) | fail) only [xe, Aa, U8, UZ, U4, vW, Nat.reduceAdd]; done) | fail) only [go_sem, wG, Au, AP.f91L0, hg, k1, g1]
theorem Qj (a b c d : ByteArray) : [a, b, c, d].foldl yc 0 = zm (a ++ b ++ c ++ d) := by
 show yc (yc (yc (yc 0 a) b) c) d = yc 0 _
 rw [A7, A7, A7]
 congr 1
 simp only [ByteArray.append_assoc]
theorem Ku {e : zF} (h : E4 e = true) : yE e = true ∧ (1 ≤ e.name.size ∧ e.name.size ≤ 8) ∧ 0 ≤ e.DZ ∧ e.DZ ≤ 4294967295 := by
 unfold E4 Ar at h
 split at h
 · cases h
 · rename_i hm
   have hm : Ep [e] = true := by cases q : Ep [e] with | true => rfl | false => exact absurd q hm
   simp only [Ep, Es, Gp, vS, Bool.and_true] at hm
   obtain ⟨⟨h1, h2, h3⟩, _⟩ := hm
   refine ⟨h2, ?_, ?_⟩
   · simp only [Az, vS, Vx] at h1
     exact ⟨h1.1, h1.2.1⟩
   · unfold zG at h3
     split at h3
     · simp only [vS, Vx] at h3; omega
     · simp only [vS, Vx, Jx] at h3; omega
theorem MZ (e : zF) : ∀ b ∈ BJ e, b < 256 := by
 intro b hb
 unfold BJ at hb
 simp only [Vq] at hb
 rcases hb with ((hb | hb) | hb) | hb
 · exact zI _ _ b hb
 · exact I5 _ b hb
 · exact NA _ b hb
 · exact zI _ _ b hb
theorem M5 (e : zF) : bytesOf (xa e.name.size 1) ++ e.name ++ bytesOf (E6 e) ++ bytesOf (xa e.DZ.toNat 4) = bytesOf (BJ e) := by
 unfold BJ
 rw [← yX, ← yX, ← yX, AL]
theorem L7 {e : zF} (h : yE e = true) : (E6 e).length = 26 := by
 obtain ⟨f1, _⟩ := Dm h
 unfold E6
 simp only [wo, wZ, Iu, f1]
set_option maxHeartbeats 1000000 in
theorem Hu (h : H) (hf : h.floor ≤ h.next) (e : zF) (v : AV) (hv : v.sc = true) (ok : KO h (e, v)) : aS AP.A 91 [.agg (xg e v)] h = some (QB (Ht e), h) := by
 obtain ⟨A, hA⟩ : ∃ x, x = xg e v := ⟨_, rfl⟩
 have lA : A.length = 9 := by rw [hA]; rfl
 have cA : AV.aC A = true := by rw [hA]; exact IJ hv
 have tA : List.take 9 A = A := by rw [hA]; rfl
 have g0 : A[0]? = some (.str e.name) := by rw [hA]; rfl
 have g8 : A[8]? = some (.int .i64 e.DZ) := by rw [hA]; rfl
 have x1 : Ext h (h.ez.alloc A) := fun i c q => ((Ext.refl h.ez).alloc _) i c q
 have o1 := ok.mono x1
 have f1 : (h.ez.alloc A).floor ≤ (h.ez.alloc A).next := by simp
 have q1 : aS AP.A 96 [.agg A] (h.ez.alloc A) = some (.bool (E4 e), h.ez.alloc A) := by
  have := Pf (h.ez.alloc A) f1 e v hv o1
  rw [← hA] at this; exact this
 unfold Ht
 cases hm : E4 e with
 | false =>
   rw [hm] at q1
   rw [if_neg (by decide)]
   refine u7 (fn := AP.f91) (h2 := h.ez.alloc A) (e := [(2, .int .i64 0), (3, .int .i64 1500)]) rfl rfl rfl ?_ rfl rfl
   rw [← hA]
   simp (disch := first | omega | (simp only [xe, UZ, U4, vW, Nat.reduceAdd]; first | done | omega | fail) | (simp (disch := first | omega | (simp only [xe, UZ, U4, vW, Nat.reduceAdd]; first | done | omega | fail) | fail) only [xe, Aa, U8, UZ, U4, vW, Nat.reduceAdd]; done) | fail) only [go_sem, wG, Au, AP.f91, lA, cA, tA, q1]
 | true =>
   rw [hm] at q1
   rw [if_pos rfl]
   obtain ⟨m1, m2, m3⟩ := Ku hm
   have q2 : aS AP.A 102 [.agg A] (h.ez.alloc A) = some (.bU [.str (bytesOf (E6 e)), .int .i64 0], h.ez.alloc A) := by
    have := Pg (h.ez.alloc A) f1 e v hv o1
    unfold Qq at this
    rw [if_pos m1, ← hA] at this; exact this
   have q3 : ∀ g, aS AP.A 104 [.int .i64 e.name.size, .int .i64 1] g = some (.str (bytesOf (xa e.name.size 1)), g) := fun g => Bx g e.name.size 1 (by omega) (by omega)
   have q4 : ∀ g, aS AP.A 104 [.int .i64 e.DZ, .int .i64 4] g = some (.str (bytesOf (xa e.DZ.toNat 4)), g) := fun g => by
    have := Bx g e.DZ.toNat 4 (by omega) (by omega)
    rw [show ((e.DZ.toNat : Nat) : Int) = e.DZ by omega] at this; exact this
   have pl := L7 m1
   obtain ⟨T1, e1⟩ : ∃ x, x = bytesOf (xa e.name.size 1) := ⟨_, rfl⟩
   obtain ⟨T3, e3⟩ : ∃ x, x = bytesOf (E6 e) := ⟨_, rfl⟩
   obtain ⟨T4, e4⟩ : ∃ x, x = bytesOf (xa e.DZ.toNat 4) := ⟨_, rfl⟩
   have ds := M5 e
   rw [← e1, ← e3, ← e4] at ds
   rw [← e3] at q2
   rw [← e1] at q3
   rw [← e4] at q4
   have t1 : T1.size = 1 := by rw [e1, wX, wZ]
   have t3 : T3.size = 26 := by rw [e3, wX, pl]
   have t4 : T4.size = 4 := by rw [e4, wX, wZ]
   obtain ⟨e', r1, r2⟩ := Jr (h.next + 1) [T1, e.name, T3, T4] ((h.ez.alloc A).alloc [.str T1, .str e.name, .str T3, .str T4]) (wO (by simp)) (by
    intro s hs
    simp only [wj, List.mem_nil_iff, or_false] at hs
    rcases hs with rfl | rfl | rfl | rfl <;> omega) (by simp) [T1, e.name, T3, T4] [] 0 rfl (by omega)
   rw [Qj, ds, D3 (MZ e)] at r2
   have r1' : Lp AP.A [6, 7, 28, 29, 30] AP.f91L0 [(6, .fn 103 [] []), (7, .int .i64 0), (28, .aF (h.next + 1) 0 4 1), (29, .int .i64 4), (30, .int .i64 0)] ((h.ez.alloc A).alloc [.str T1, .str e.name, .str T3, .str T4]) = some (.exit 0, e', (h.ez.alloc A).alloc [.str T1, .str e.name, .str T3, .str T4]) := r1
   clear r1
   refine u7 (fn := AP.f91) (h2 := (h.ez.alloc A).alloc [.str T1, .str e.name, .str T3, .str T4]) (e := [(2, .int .i64 (y0 (BJ e))), (3, .int .i64 0)]) rfl rfl rfl ?_ rfl rfl
   rw [← hA]
   clear ds e1 e3 e4 o1 x1 ok
   simp (disch := first | omega | (simp only [xe, UZ, U4, vW, Nat.reduceAdd]; first | done | omega | fail) | (simp (disch := first | omega | (simp only [xe, UZ, U4, vW, Nat.reduceAdd]; first | done | omega | fail) | fail) only [xe, Aa, U8, UZ, U4, vW, Nat.reduceAdd]; done) | fail) only [go_sem, wG, Au, AP.f91, lA, cA, tA, q1, q2, q3, q4, g0, g8, th, r1', r2]
def HP (l : List Int) : List Nat := l.flatMap fun n => xa n.toNat 4
def JD (l : List Int) : Option Nat := if l.all Jx = true then some (y0 (HP l)) else none
theorem LO (l : List Int) : ∀ b ∈ HP l, b < 256 := JX l
theorem FP {v : AV} {l : List Int} (hl : l.length < 1125899906842624) (h : H) (rd : Rd h v (ints l)) : ∀ (q p : List Int) (a : Nat), l = p ++ q → a < 4294967296 →
 (q.all Jx = true ∧ ∃ e', Lp AP.A [4, 7, 8, 9] AP.f93L0 [(4, .int .i64 a), (7, v), (8, .int .i64 l.length), (9, .int .i64 p.length)] h = some (.exit 0, e', h) ∧ look e' 4 = .int .i64 (yc a (bytesOf (HP q)) : Nat)) ∨
 (q.all Jx = false ∧ ∃ e', Lp AP.A [4, 7, 8, 9] AP.f93L0 [(4, .int .i64 a), (7, v), (8, .int .i64 l.length), (9, .int .i64 p.length)] h = some (.ret, e', h) ∧ look e' 2 = .int .i64 0 ∧ look e' 3 = .int .i64 1500)
 | [], p, a, hp, ha => by
   left
   have e : l.length = p.length := by rw [hp]; simp
   refine ⟨rfl, [(4, .int .i64 a), (7, v), (8, .int .i64 l.length), (9, .int .i64 p.length), (10, .bool false)], ux ?_, ?_⟩
   · rw [e]
     simp (disch := first | omega | (simp only [xe, UZ, U4, vW, Nat.reduceAdd]; first | done | omega | fail) | (simp (disch := first | omega | (simp only [xe, UZ, U4, vW, Nat.reduceAdd]; first | done | omega | fail) | fail) only [xe, Aa, U8, UZ, U4, vW, Nat.reduceAdd]; done) | fail) only [go_sem, wG, Au, AP.f93L0]
   · show AV.int .i64 (a : Int) = .int .i64 ((yc a (bytesOf []) : Nat) : Int)
     rw [CG]
     have : Hp (4294967295 - a) (DD (bytesOf [])) = 4294967295 - a := rfl
     rw [this]; congr 1; omega
 | n :: q, p, a, hp, ha => by
   obtain ⟨ad, a1, a2⟩ := rd.xZ
   have hlen : l.length = p.length + (q.length + 1) := by rw [hp]; simp
   have i1 := a1 (p.length : Int) ⟨by omega, by omega⟩
   have i2 := a2 h (Ext.refl h) p.length n (by rw [hp]; simp)
   have k1 := TL h n
   rw [List.all_cons]
   cases hn : Jx n with
   | false =>
     rw [hn] at k1
     right
     refine ⟨rfl, [(2, .int .i64 0), (3, .int .i64 1500)], uT ?_, rfl, rfl⟩
     simp (disch := first | omega | (simp only [xe, UZ, U4, vW, Nat.reduceAdd]; first | done | omega | fail) | (simp (disch := first | omega | (simp only [xe, UZ, U4, vW, Nat.reduceAdd]; first | done | omega | fail) | fail) only [xe, Aa, U8, UZ, U4, vW, Nat.reduceAdd]; done) | fail) only [go_sem, wG, Au, AP.f93L0, i1, i2, k1]
   | true =>
     rw [hn] at k1
     rw [Bool.true_and]
     simp only [Jx, Vx] at hn
     have k2 : ∀ g, aS AP.A 104 [.int .i64 n, .int .i64 4] g = some (.str (bytesOf (xa n.toNat 4)), g) := fun g => by
      have := Bx g n.toNat 4 (by omega) (by omega)
      rw [show ((n.toNat : Nat) : Int) = n by omega] at this; exact this
     have k3 := IM h (bytesOf (xa n.toNat 4)) a ha (by rw [wX, wZ]; omega)
     have n1 : ((p.length + 1 : Nat) : Int) = (p.length : Int) + 1 := by omega
     have ih := FP hl h rd q (p ++ [n]) (yc a (bytesOf (xa n.toNat 4))) (by rw [hp]; simp) (CH _ _)
     rw [wo, show [n].length = 1 from rfl, n1, A7, yX] at ih
     rcases ih with ⟨g1, e', r1, r2⟩ | ⟨g1, e', r1, r2⟩
     · left
       refine ⟨g1, e', uy ?_ r1, r2⟩
       simp (disch := first | omega | (simp only [xe, UZ, U4, vW, Nat.reduceAdd]; first | done | omega | fail) | (simp (disch := first | omega | (simp only [xe, UZ, U4, vW, Nat.reduceAdd]; first | done | omega | fail) | fail) only [xe, Aa, U8, UZ, U4, vW, Nat.reduceAdd]; done) | fail) only [go_sem, wG, Au, AP.f93L0, i1, i2, k1, k2, k3]
     · right
       refine ⟨g1, e', uy ?_ r1, r2⟩
       simp (disch := first | omega | (simp only [xe, UZ, U4, vW, Nat.reduceAdd]; first | done | omega | fail) | (simp (disch := first | omega | (simp only [xe, UZ, U4, vW, Nat.reduceAdd]; first | done | omega | fail) | fail) only [xe, Aa, U8, UZ, U4, vW, Nat.reduceAdd]; done) | fail) only [go_sem, wG, Au, AP.f93L0, i1, i2, k1, k2, k3]
theorem IV (h : H) (v : AV) (l : List Int) (rd : Rd h v (ints l)) (hl : l.length < 1125899906842624) : aS AP.A 93 [v] h = some (QB (JD l), h) := by
 have rd' := rd.mono (wK h)
 have ln := rd'.len
 rw [qy] at ln
 simp only [I] at ln
 unfold JD
 rcases FP hl h.ez rd' l [] 0 rfl (by omega) with ⟨g1, e', r1, r2⟩ | ⟨g1, e', r1, r2, r3⟩
 · rw [if_pos g1]
   have r1' : Lp AP.A [4, 7, 8, 9] AP.f93L0 [(4, .int .i64 0), (7, v), (8, .int .i64 l.length), (9, .int .i64 0)] h.ez = some (.exit 0, e', h.ez) := r1
   have r2' : look e' 4 = .int .i64 (y0 (HP l)) := by rw [r2, ← D3 (LO l)]; rfl
   refine u7 (fn := AP.f93) (h2 := h.ez) (e := [(2, .int .i64 (y0 (HP l))), (3, .int .i64 0)]) rfl rfl rfl ?_ rfl rfl
   simp (disch := first | omega | (simp only [xe, UZ, U4, vW, Nat.reduceAdd]; first | done | omega | fail) | (simp (disch := first | omega | (simp only [xe, UZ, U4, vW, Nat.reduceAdd]; first | done | omega | fail) | fail) only [xe, Aa, U8, UZ, U4, vW, Nat.reduceAdd]; done) | fail) only [go_sem, wG, Au, AP.f93, ln, th, r1', r2']
 · rw [if_neg (by rw [g1]; decide)]
   have r1' : Lp AP.A [4, 7, 8, 9] AP.f93L0 [(4, .int .i64 0), (7, v), (8, .int .i64 l.length), (9, .int .i64 0)] h.ez = some (.ret, e', h.ez) := r1
   refine u7 (fn := AP.f93) (h2 := h.ez) (e := e') rfl rfl rfl ?_ (by simp only [AP.f93, cO, od, r2, r3]; rfl) rfl
   simp (disch := first | omega | (simp only [xe, UZ, U4, vW, Nat.reduceAdd]; first | done | omega | fail) | (simp (disch := first | omega | (simp only [xe, UZ, U4, vW, Nat.reduceAdd]; first | done | omega | fail) | fail) only [xe, Aa, U8, UZ, U4, vW, Nat.reduceAdd]; done) | fail) only [go_sem, wG, Au, AP.f93, ln, th, r1']
theorem Fa (x : Int) (k : Nat) (hk : k ≤ 62) : bits .and .i64 x ((2 ^ k - 1 : Nat) : Int) = x % ((2 ^ k : Nat) : Int) := by
 have h2 : 2 ^ k ≤ 2 ^ 62 := Vd (by omega) hk
 have h3 : 0 < 2 ^ k := Nat.pow_pos (by omega)
 show IntKind.wrap .i64 (((BitVec.ofInt 64 x &&& BitVec.ofInt 64 ((2 ^ k - 1 : Nat) : Int)).toNat : Nat) : Int) = _
 rw [BitVec.toNat_and, yu 64 (2 ^ k - 1) (by omega), BitVec.toNat_ofInt, Nat.and_two_pow_sub_one_eq_mod, wA (by
  have := Nat.mod_lt (x % ((2 ^ 64 : Nat) : Int)).toNat h3
  omega)]
 have e : (((x % ((2 ^ 64 : Nat) : Int)).toNat : Nat) : Int) = x % ((2 ^ 64 : Nat) : Int) := Int.toNat_of_nonneg (Int.emod_nonneg _ (by decide))
 rw [Int.natCast_emod, e]
 refine Int.emod_emod_of_dvd x ?_
 refine Int.natCast_dvd_natCast.2 (Nat.pow_dvd_pow 2 (by omega))
theorem ML (x : Int) : bits .and .i64 x 1023 = x % 1024 := Fa x 10 (by omega)
theorem F4 (h : H) (hf : h.floor ≤ h.next) (name text : ByteArray) (node : Nat) (xf : Int) (hn : node < 4) (ht : text.size < 1125899906842624) :
 aS AP.A 94 [.str name, .int .i64 node, .int .i64 xf, .str text] h = some (.agg (xg (y8 name node xf text) (.aF (h.next + 1) 0 4 1)),
  (((h.alloc Z9).alloc (ints [0, 0, 0, 0])).set (h.next + 1) (ints ([0, 0, 0, 0].set node xf))).set h.next (xg (y8 name node xf text) (.aF (h.next + 1) 0 4 1))) := by
 have kc := fun g => Lb g text ht
 refine uM (fn := AP.f94) (e := [(8, .aE h.next 0)]) (vs := [.agg (xg (y8 name node xf text) (.aF (h.next + 1) 0 4 1))]) rfl rfl rfl ?_ ?_
 · match node, hn with
   | 0, _ => simp only [xg, y8, ints, I, List.map, List.set]; simp (disch := first | omega | (simp only [xe, UZ, U4, vW, Nat.reduceAdd]; first | done | omega | fail) | (simp (disch := first | omega | (simp only [xe, UZ, U4, vW, Nat.reduceAdd]; first | done | omega | fail) | fail) only [xe, Aa, U8, UZ, U4, vW, Nat.reduceAdd]; done) | fail) only [go_sem, wG, Au, AP.f94, kc, yd, eh]
   | 1, _ => simp only [xg, y8, ints, I, List.map, List.set]; simp (disch := first | omega | (simp only [xe, UZ, U4, vW, Nat.reduceAdd]; first | done | omega | fail) | (simp (disch := first | omega | (simp only [xe, UZ, U4, vW, Nat.reduceAdd]; first | done | omega | fail) | fail) only [xe, Aa, U8, UZ, U4, vW, Nat.reduceAdd]; done) | fail) only [go_sem, wG, Au, AP.f94, kc, yd, eh]
   | 2, _ => simp only [xg, y8, ints, I, List.map, List.set]; simp (disch := first | omega | (simp only [xe, UZ, U4, vW, Nat.reduceAdd]; first | done | omega | fail) | (simp (disch := first | omega | (simp only [xe, UZ, U4, vW, Nat.reduceAdd]; first | done | omega | fail) | fail) only [xe, Aa, U8, UZ, U4, vW, Nat.reduceAdd]; done) | fail) only [go_sem, wG, Au, AP.f94, kc, yd, eh]
   | 3, _ => simp only [xg, y8, ints, I, List.map, List.set]; simp (disch := first | omega | (simp only [xe, UZ, U4, vW, Nat.reduceAdd]; first | done | omega | fail) | (simp (disch := first | omega | (simp only [xe, UZ, U4, vW, Nat.reduceAdd]; first | done | omega | fail) | fail) only [xe, Aa, U8, UZ, U4, vW, Nat.reduceAdd]; done) | fail) only [go_sem, wG, Au, AP.f94, kc, yd, eh]
 · simp only [AP.f94, cO, od, nQ, rH]
   rw [wV rfl, wI (by omega), w9 (by simp), wO rfl]; rfl
theorem Cz {g : H} {p : Nat} (hg : g.floor ≤ g.next) (e : zF) (hp : g.get p = some (ints e.vec)) (hl : e.vec.length = 4) (nl : e.name.size < 1125899906842624) (pl : e.packed.size < 1125899906842624) : aS AP.A 91 [.agg (xg e (.aF p 0 4 1))] g = some (QB (Ht e), g) :=
 Hu g hg e (.aF p 0 4 1) rfl (KO.obj hp hl rfl nl pl (by omega))
def Sg : zF := y8 nA 0 1 QJ
def Si : zF := y8 nA 0 2 QJ
theorem dS : Ht Sg = some (y0 (BJ Sg)) ∧ Ht Si = some (y0 (BJ Si)) ∧ y0 (BJ Sg) ≠ y0 (BJ Si) ∧ Ht Sj = none ∧ JD [] = some 0 ∧ JD [258] = some (zm ⟨#[2, 1, 0, 0]⟩) := by decide +kernel
theorem J3 (h : H) : aS AP.A 90 [] h = some (.bool true, h) := by
 obtain ⟨d1, d2, d3, d4, d5, d6⟩ := dS
 obtain ⟨K1, hK1⟩ : ∃ K, K = ((y0 (BJ Sg) : Nat) : Int) := ⟨_, rfl⟩
 obtain ⟨K2, hK2⟩ : ∃ K, K = ((y0 (BJ Si) : Nat) : Int) := ⟨_, rfl⟩
 have ne : (K1 != K2) = true := by rw [bne_iff_ne, hK1, hK2]; omega
 obtain ⟨C, hC⟩ : ∃ K, K = ((zm QJ : Nat) : Int) := ⟨_, rfl⟩
 obtain ⟨D, hD⟩ : ∃ K, K = ((zm ⟨#[2, 1, 0, 0]⟩ : Nat) : Int) := ⟨_, rfl⟩
 have k1 : ∀ g : H, aS AP.A 93 [.aQ] g = some (.bU [.int .i64 0, .int .i64 0], g) := fun g => by
  have := IV g .aQ [] ⟨rfl, fun s e => by cases e⟩ (by decide)
  rw [d5] at this; exact this
 have k2 : ∀ (g : H) (p : Nat), g.get p = some [.int .i64 258] → aS AP.A 93 [.aF p 0 1 1] g = some (.bU [.int .i64 D, .int .i64 0], g) := fun g p hp => by
  have := IV g (.aF p 0 1 1) [258] (Rd.obj (l := [258]) hp rfl) (by decide)
  rw [d6] at this
  rw [hD]; exact this
 have k3 : ∀ (g : H), aS AP.A 101 [.str ⟨#[2, 1, 0, 0]⟩] g = some (.int .i64 D, g) := fun g => by rw [hD]; exact Lb g _ (by decide)
 have k4 : ∀ (g : H) (p : Nat), g.get p = some [.int .i64 (-1)] → aS AP.A 93 [.aF p 0 1 1] g = some (.bU [.int .i64 0, .int .i64 1500], g) := fun g p hp => IV g (.aF p 0 1 1) [-1] (Rd.obj (l := [-1]) hp rfl) (by decide)
 have k5 : ∀ (g : H) (p : Nat), g.floor ≤ g.next → g.get p = some [.int .i64 1, .int .i64 0, .int .i64 0, .int .i64 0] → aS AP.A 91 [.agg [.str ⟨#[97]⟩, .bool false, .aF p 0 4 1, .int .i64 1, .int .i64 0, .int .i64 0, .str ⟨#[104, 105]⟩, .int .i64 2, .int .i64 C]] g = some (.bU [.int .i64 K1, .int .i64 0], g) := fun g p hg hp => by
  have := Cz hg Sg hp rfl (by decide) (by decide)
  rw [d1] at this
  rw [hC, hK1]; exact this
 have k6 : ∀ (g : H) (p : Nat), g.floor ≤ g.next → g.get p = some [.int .i64 2, .int .i64 0, .int .i64 0, .int .i64 0] → aS AP.A 91 [.agg [.str ⟨#[97]⟩, .bool false, .aF p 0 4 1, .int .i64 2, .int .i64 0, .int .i64 0, .str ⟨#[104, 105]⟩, .int .i64 2, .int .i64 C]] g = some (.bU [.int .i64 K2, .int .i64 0], g) := fun g p hg hp => by
  have := Cz hg Si hp rfl (by decide) (by decide)
  rw [d2] at this
  rw [hC, hK2]; exact this
 have k7 : ∀ (g : H), g.floor ≤ g.next → aS AP.A 91 [.agg Z9] g = some (.bU [.int .i64 0, .int .i64 1500], g) := fun g hg => by
  have := Hu g hg Sj .aQ rfl ⟨⟨rfl, fun s e => by cases e⟩, by decide, by decide, by decide⟩
  rw [d4] at this; exact this
 have k8 : ∀ (g : H) (xf : Int), g.floor ≤ g.next → aS AP.A 94 [.str ⟨#[97]⟩, .int .i64 0, .int .i64 xf, .str ⟨#[104, 105]⟩] g = some (.agg [.str ⟨#[97]⟩, .bool false, .aF (g.next + 1) 0 4 1, .int .i64 xf, .int .i64 0, .int .i64 0, .str ⟨#[104, 105]⟩, .int .i64 2, .int .i64 C],
  (((g.alloc Z9).alloc [.int .i64 0, .int .i64 0, .int .i64 0, .int .i64 0]).set (g.next + 1) [.int .i64 xf, .int .i64 0, .int .i64 0, .int .i64 0]).set g.next [.str ⟨#[97]⟩, .bool false, .aF (g.next + 1) 0 4 1, .int .i64 xf, .int .i64 0, .int .i64 0, .str ⟨#[104, 105]⟩, .int .i64 2, .int .i64 C]) := fun g xf hg => by
  rw [hC]; exact F4 g hg nA QJ 0 xf (by omega) (by decide)
 have k9 := fun (g : H) n => N0 g n
 simp only [I] at k9
 obtain ⟨h2, hh⟩ : ∃ h2, aM (aS AP.A) bG AP.f90.body (params 0 []) h.ez = some (.ret, [(0, .bool true)], h2) := by
  refine ⟨?_, ?_⟩
  rotate_left
  simp (disch := first | omega | (simp only [xe, UZ, U4, vW, Nat.reduceAdd]; first | done | omega | fail) | (simp (disch := first | omega | (simp only [xe, UZ, U4, vW, Nat.reduceAdd]; first | done | omega | fail) | fail) only [xe, Aa, U8, UZ, U4, vW, Nat.reduceAdd]; done) | fail) only [go_sem, wG, Au, AP.f90, k1, k2, k3, k4, k5, k6, k7, k8, k9, ne]
  rfl
 exact u7 (fn := AP.f90) (h2 := h2) (e := [(0, .bool true)]) rfl rfl rfl hh rfl rfl
theorem LG {e : zF} (h1 : e.vec.length = 4) (h2 : ∀ n ∈ e.vec, 0 ≤ n ∧ n ≤ 1048576) (h3 : 1 ≤ e.xf ∧ e.xf ≤ 1048576) (h4 : 0 ≤ e.node ∧ e.node < 4) : yE e = true := by
 simp only [yE, Je, yP, Ev, vS, Vx, List.all_eq_true]
 exact ⟨⟨h1, h2⟩, h3.1, ⟨by omega, h3.2⟩, h4⟩
theorem UJ {n : Nat} (h : n < 256) : IntKind.wrap .u8 (n : Int) = n := wb (by omega)
theorem NJ {a n : Nat} (hn : 0 < n) : bw .rem (.int .i64 ((a : Nat) : Int)) (.int .i64 (n : Int)) = some (.int .i64 ((a % n : Nat) : Int)) := by
 show (if (n : Int) = 0 then none else some (AV.int .i64 ((a : Int).tmod n))) = _
 rw [if_neg (by omega), Int.tmod_eq_emod_of_nonneg (by omega)]; rfl
theorem BX : ∀ (l cs : List AV) (off : Nat), off + l.length ≤ cs.length → setFrom cs off l = cs.take off ++ (l ++ cs.drop (off + l.length))
 | [], cs, off, h => by simp [setFrom]
 | v :: l, cs, off, h => by
   rw [UZ] at h
   rw [setFrom, BX l (cs.set off v) (off + 1) (by rw [Vi]; omega)]
   rw [List.take_set, List.drop_set_of_lt (by omega), UZ, show off + 1 + l.length = off + (l.length + 1) by omega]
   rw [List.take_succ_eq_append_getElem (by omega), List.set_append_right _ _ (by simp; omega)]
   simp [show min off cs.length = off by omega]
def xn (bs : List Nat) : List Nat := yy bs 0 []
theorem EB : ∀ (a b : List Nat) (i : Nat) (out : List Nat), yy (a ++ b) i out = yy b (i + a.length) (yy a i out)
 | [], b, i, out => rfl
 | x :: a, b, i, out => by
   show yy (a ++ b) (i + 1) (xO out i x) = _
   rw [EB a b]
   show yy b (i + 1 + a.length) _ = yy b (i + (a.length + 1)) _
   rw [show i + 1 + a.length = i + (a.length + 1) by omega]; rfl
theorem Kw (bs : List Nat) (b : Nat) : xn (bs ++ [b]) = xO (xn bs) bs.length b := by
 unfold xn; rw [EB, vW]; rfl
theorem Bc (bs : List Nat) : (xn bs).length = (bs.length + 7) / 8 := by
 have : ∀ (l : List Nat) (i : Nat) (out : List Nat), out.length = (i + 7) / 8 → (yy l i out).length = (i + l.length + 7) / 8 := by
  intro l
  induction l with
  | nil => intro i out h; exact h
  | cons x l ih => intro i out h; rw [yy, ih (i + 1) _ (by rw [Dr h]), UZ]; congr 1; omega
 have := this bs 0 [] rfl
 rw [xn, this, vW]
structure Wr (h : H) (w : Nat) (bs : List Nat) (ov : AV) : Prop where
 get : h.get w = some [ov, .int .i64 (bs.length : Nat)]
 own : wS 1 h ov (xn bs).length (yI (xn bs))
 fl : h.floor ≤ w
 KP : h.floor ≤ h.next
 ne : ov.id? ≠ some w
 NS : Jf (xn bs)
structure G3 (h : H) (w : Nat) (ov : AV) (h' : H) (ov' : AV) : Prop where
 floor : h'.floor = h.floor
 next : h.next ≤ h'.next
 xU : ∀ i, i < h.next → i ≠ w → ov.id? ≠ some i → h'.get i = h.get i
 ids : ∀ j, ov'.id? = some j → ov.id? = some j ∨ h.next ≤ j
theorem G3.refl (h : H) (w : Nat) (ov : AV) : G3 h w ov h ov := ⟨rfl, vR _, fun _ _ _ _ => rfl, fun _ h => .inl h⟩
theorem G3.trans {h1 h2 h3 : H} {w : Nat} {o1 o2 o3 : AV} (a : G3 h1 w o1 h2 o2) (b : G3 h2 w o2 h3 o3) : G3 h1 w o1 h3 o3 :=
 ⟨by rw [b.floor, a.floor], wk a.next b.next, fun i h hw ho => by
   rw [b.xU i (by have := a.next; omega) hw (fun q => by rcases a.ids i q with q | q; exact ho q; omega), a.xU i h hw ho],
  fun j h => by
   rcases b.ids j h with q | q
   · exact a.ids j q
   · exact .inr (wk a.next q)⟩
theorem ND {b k : Nat} (hb : b ≤ 1) (hk : k < 8) : qe .shl .i64 (b : Int) ((k : Nat) : Int) = some (.int .i64 ((b * 2 ^ k : Nat) : Int)) := by
 unfold qe
 rw [if_neg (by omega)]
 simp only [IntKind.bits, VA, show min k 64 = k by omega]
 have h1 : 2 ^ k ≤ 2 ^ 7 := Vd (by omega) (by omega)
 have h2 : b * 2 ^ k ≤ 1 * 2 ^ 7 := Nat.mul_le_mul hb h1
 have : (b : Int) * 2 ^ k = ((b * 2 ^ k : Nat) : Int) := by rw [Int.natCast_mul, Int.natCast_pow]; rfl
 rw [this, wi (by omega)]
theorem QS {l : List Nat} {i x : Nat} (h : l[i]? = some x) : (yI l)[i]? = some (.int .u8 (x : Int)) := by simp [yI, h]
theorem T7 (l : List Nat) (i x : Nat) : (yI l).set i (.int .u8 (x : Int)) = yI (l.set i x) := by simp [yI, List.map_set]
theorem QT (l : List Nat) : (yI l).length = l.length := by simp [yI]
theorem LU {g : H} {w id n b : Nat} {P : List Nat} {x : Nat} (hb : b ≤ 1) (hw : g.get w = some [.aF id 0 (n / 8 + 1) 1, .int .i64 n]) (hi : g.get id = some (yI P)) (hl : P.length = n / 8 + 1) (hx : P[n / 8]? = some x) (hx8 : x < 256) (hne : id ≠ w) (hf : g.floor ≤ w) (hf2 : g.floor ≤ id) (hn : n < 1000000) :
 ∃ e', aM (aS AP.A) bG (MG 1 AP.f57.body) [(0, .aE w 0), (1, .int .i64 b)] g = some (.normal, e', (g.set id (yI (P.set (n / 8) (x ||| b * 2 ^ (n % 8))))).set w [.aF id 0 (n / 8 + 1) 1, .int .i64 ((n : Int) + 1)]) := by
 have c8 : b * 2 ^ (n % 8) < 256 := by
  have h1 : 2 ^ (n % 8) ≤ 2 ^ 7 := Vd (by omega) (by omega)
  have h2 : b * 2 ^ (n % 8) ≤ 1 * 2 ^ 7 := Nat.mul_le_mul hb h1
  omega
 have s1 := ND hb (show n % 8 < 8 by omega)
 have o1 := K7 hx8 c8
 have w1 := UJ (n := b * 2 ^ (n % 8)) c8
 have rm := NJ (a := n) (n := 8) (by omega)
 have rm' : bw .rem (.int .i64 (n : Int)) (.int .i64 8) = some (.int .i64 ((n % 8 : Nat) : Int)) := rm
 have w2 : IntKind.wrap .i64 (((n / 8 + 1 : Nat) : Int) - 1) = ((n / 8 : Nat) : Int) := by rw [wi (by omega)]; omega
 have bl := QT P
 have gx := QS hx
 have st := T7 P (n / 8) (x ||| b * 2 ^ (n % 8))
 have sgn : ((n / 8 : Nat) : Int).toNat = n / 8 := by omega
 have gw2 : (g.set id (yI (P.set (n / 8) (x ||| b * 2 ^ (n % 8))))).get w = some [.aF id 0 (n / 8 + 1) 1, .int .i64 n] := by rw [wI (fun q => hne q.symm), hw]
 generalize yI P = BP at *
 generalize b * 2 ^ (n % 8) = Y at *
 generalize (x ||| Y) = Z at *
 generalize yI (P.set (n / 8) Z) = BZ at *
 refine ⟨?_, ?_⟩
 rotate_left
 simp (disch := first | omega | (simp only [xe, UZ, U4, vW, Nat.reduceAdd]; first | done | omega | fail) | (simp (disch := first | omega | (simp only [xe, UZ, U4, vW, Nat.reduceAdd]; first | done | omega | fail) | fail) only [xe, Aa, U8, UZ, U4, vW, Nat.reduceAdd]; done) | fail) only [go_sem, wG, Au, AP.f57, hw, hi, s1, o1, w1, rm', w2, bl, hl, gx, st, sgn, gw2]
 rfl
theorem DU (P : List Nat) (x : Nat) : yI (P ++ [x]) = yI P ++ [.int .u8 (x : Int)] := by simp [yI]
theorem LS {h : H} {w b : Nat} {bs : List Nat} {ov : AV} (wr : Wr h w bs ov) (hb : b ≤ 1) (hn : bs.length < 1000000) :
 ∃ h' ov', aS AP.A 57 [.aE w 0, .int .i64 b] h = some (.bU [], h') ∧ Wr h' w (bs ++ [b]) ov' ∧ G3 h w ov h' ov' := by
 obtain ⟨gw, ow, fl, KP, ne, NS⟩ := wr
 obtain ⟨n, en⟩ : ∃ n, n = bs.length := ⟨_, rfl⟩
 rw [← en] at gw hn
 have pl := Bc bs
 rw [← en] at pl
 have pa := Kw bs b
 rw [← en] at pa
 obtain ⟨P, eP⟩ : ∃ P, P = xn bs := ⟨_, rfl⟩
 rw [← eP] at ow NS pa pl
 have wlt := h.lt _ _ gw
 obtain ⟨g, ov', id, P', x, s1, hw, hi, hl, hx, hid, hne, hf, hf2, hflx, hP, hk, hx8, hids, hbt⟩ : ∃ g ov' id P' x, aM (aS AP.A) bG (at_ 0 AP.f57.body) [(0, .aE w 0), (1, .int .i64 b)] h = some (.normal, [(0, .aE w 0), (1, .int .i64 b)], g) ∧ g.get w = some [.aF id 0 (n / 8 + 1) 1, .int .i64 n] ∧ g.get id = some (yI P') ∧ P'.length = n / 8 + 1 ∧ P'[n / 8]? = some x ∧ ov' = AV.aF id 0 (n / 8 + 1) 1 ∧ id ≠ w ∧ g.floor = h.floor ∧ h.floor ≤ id ∧ h.next ≤ g.next ∧ xO P n b = P'.set (n / 8) (x ||| b * 2 ^ (n % 8)) ∧ (∀ i, i < h.next → i ≠ w → ov.id? ≠ some i → g.get i = h.get i) ∧ x < 256 ∧ (ov.id? = some id ∨ h.next ≤ id) ∧ Jf P' := by
  have rm : bw .rem (.int .i64 (n : Int)) (.int .i64 8) = some (.int .i64 ((n % 8 : Nat) : Int)) := NJ (a := n) (n := 8) (by omega)
  by_cases c : n % 8 = 0
  · have cz : ((n % 8 : Nat) : Int) = 0 := by omega
    obtain ⟨v', h', p1, p2, p3, p4, p5, p6⟩ := ow.push KP (z := 1) (m := 1) (by omega) (by omega) [.int .u8 0] rfl rfl (yh (by omega))
    have gw1 : h'.get w = some [ov, .int .i64 n] := by rw [p5 w ne wlt, gw]
    have e1 := p2.1
    rcases p2.2 with ⟨_, q⟩ | ⟨id, q1, q2, q3, q4⟩
    · omega
    · have hk : P.length + 1 = n / 8 + 1 := by omega
      rw [hk] at q1
      have qid : id = h.next + 1 := by rw [q1] at p6; exact vG p6
      refine ⟨h'.set w [v', .int .i64 n], v', id, P ++ [0], 0, ?_, ?_, ?_, ?_, ?_, q1, by omega, by simp [p3], by omega, ?_, ?_, ?_, by omega, .inr (by omega), ?_⟩
      · rw [q1]
        rw [q1] at p1
        have fl' : h'.floor ≤ w := by omega
        simp (disch := omega) only [go_sem, wG, AP.f57, xR, gw, gw1, rm, cz, p1, fl', wV, wI]
      · rw [wV rfl, gw1, q1]; rfl
      · rw [wI (by omega), q2, DU]; rfl
      · simp; omega
      · rw [Vj (by omega), show n / 8 - P.length = 0 by omega]; rfl
      · simp; omega
      · unfold xO; rw [if_pos c]; dsimp only; rw [U3, Vj (by omega), show n / 8 - P.length = 0 by omega]; rfl
      · intro i hi hiw hio
        rw [wI hiw, p5 i hio hi]
      · intro y hy
        rcases Vq.1 hy with q | q
        · exact NS y q
        · simp at q; omega
  · have cz : ¬ ((n % 8 : Nat) : Int) = 0 := by omega
    rcases ow.2 with ⟨_, q⟩ | ⟨id, q1, q2, q3, q4⟩
    · omega
    · have hk : P.length = n / 8 + 1 := by omega
      rw [hk] at q1
      obtain ⟨x, hx⟩ : ∃ x, P[n / 8]? = some x := ⟨_, U6 (by omega)⟩
      have hneq : id ≠ w := fun q => ne (by rw [q1, q]; rfl)
      refine ⟨h, ov, id, P, x, ?_, by rw [gw, q1], q2, hk, hx, q1, hneq, rfl, q3, vR _, ?_, fun _ _ _ _ => rfl, NS x (vV hx), .inl (by rw [q1]; rfl), NS⟩
      · simp (disch := first | omega | (simp only [xe, UZ, U4, vW, Nat.reduceAdd]; first | done | omega | fail) | (simp (disch := first | omega | (simp only [xe, UZ, U4, vW, Nat.reduceAdd]; first | done | omega | fail) | fail) only [xe, Aa, U8, UZ, U4, vW, Nat.reduceAdd]; done) | fail) only [go_sem, wG, Au, AP.f57, gw, rm, cz]
      · unfold xO; rw [if_neg c]; dsimp only; rw [U3, hx]; rfl
 obtain ⟨e', s2⟩ := LU hb hw hi hl hx hx8 hne (by omega) (by omega) hn
 have cs : aS AP.A 57 [.aE w 0, .int .i64 b] h = some (.bU [], (g.set id (yI (P'.set (n / 8) (x ||| b * 2 ^ (n % 8))))).set w [.aF id 0 (n / 8 + 1) 1, .int .i64 ((n : Int) + 1)]) := by
  refine xH (fn := AP.f57) (e := e') (vs := []) rfl rfl rfl ?_ rfl
  have hb : AP.f57.body = .seq (at_ 0 AP.f57.body) (MG 1 AP.f57.body) := rfl
  rw [hb, sS]
  have s1' : aM (aS AP.A) bG (at_ 0 AP.f57.body) (params 0 [.aE w 0, .int .i64 b]) h = some (.normal, [(0, .aE w 0), (1, .int .i64 b)], g) := s1
  rw [s1', tP, s2]
 rw [← hP] at cs
 have ol : (xO P n b).length = n / 8 + 1 := by rw [hP, Vi, hl]
 refine ⟨_, ov', cs, ⟨?_, ?_, ?_, ?_, ?_, ?_⟩, ?_, ?_, ?_, ?_⟩
 · rw [wV rfl, wI hne.symm, hw, hid, wo, ← en]; rfl
 · rw [pa, hid]
   exact ⟨by simp [yI, ol], .inr ⟨id, by rw [ol], by rw [wI hne, wV rfl, hi]; rfl, by simpa [hf] using hf2, by omega⟩⟩
 · simpa [hf] using fl
 · simp; omega
 · rw [hid]; exact fun q => hne (vG q)
 · rw [pa]; exact Dq hb NS
 · simp [hf]
 · simpa using hflx
 · intro i hi1 hi2 hi3
   have : i ≠ id := by
    rcases hids with q | q
    · intro q2; exact hi3 (by rw [q, q2])
    · omega
   rw [wI hi2, wI this, hk i hi1 hi2 hi3]
 · intro j hj
   rw [hid] at hj
   obtain rfl := vG hj
   exact hids
def ED (v : Nat) : Nat → Nat → List Nat
 | _, 0 => []
 | i, m + 1 => v / 2 ^ i % 2 :: ED v (i + 1) m
def wW (v n : Nat) : List Nat := ED v 0 n
def zk (v : Nat) : Nat → List Nat
 | 0 => []
 | m + 1 => v / 2 ^ m % 2 :: zk v m
theorem xb (v : Nat) : ∀ m i, (ED v i m).length = m
 | 0, _ => rfl
 | m + 1, i => by simp [ED, xb v m]
theorem xm (v : Nat) : ∀ m, (zk v m).length = m
 | 0 => rfl
 | m + 1 => by simp [zk, xm v m]
theorem G5 {n : Nat} (h : n < 1000000000) : bits .and .i64 (n : Int) 1 = ((n % 2 : Nat) : Int) := by
 have := Fa (n : Int) 1 (by omega)
 exact this.trans (by omega)
theorem Gh (w v n : Nat) (hv : v < 65536) (hn : n ≤ 16) : ∀ (m i : Nat) (h : H) (bs : List Nat) (ov : AV), i + m = n → Wr h w bs ov → bs.length + m < 1000000 →
 ∃ e' h' ov', Lp AP.A [0, 1, 2, 7] AP.f33L0 [(0, .aE w 0), (1, .int .i64 v), (2, .int .i64 n), (7, .int .i64 i)] h = some (.exit 0, e', h') ∧ Wr h' w (bs ++ ED v i m) ov' ∧ G3 h w ov h' ov'
 | 0, i, h, bs, ov, hi, wr, hb => by
   obtain rfl : i = n := by omega
   refine ⟨[(0, .aE w 0), (1, .int .i64 v), (2, .int .i64 i), (7, .int .i64 i), (35, .bool false)], h, ov, ux ?_, by simpa [ED] using wr, G3.refl h w ov⟩
   simp (disch := omega) only [go_sem, wG, AP.f33L0]
 | m + 1, i, h, bs, ov, hi, wr, hb => by
   have q := Nat.div_le_self v (2 ^ i)
   obtain ⟨h1, o1, k1, wr1, f1⟩ := LS wr (b := v / 2 ^ i % 2) (by omega) (by omega)
   obtain ⟨e', h', ov', r1, r2, r3⟩ := Gh w v n hv hn m (i + 1) h1 _ o1 (by omega) wr1 (by simp; omega)
   have n1 : ((i + 1 : Nat) : Int) = (i : Int) + 1 := by omega
   have s1 := EN (a := v) (s := i) (by omega)
   have a1 := G5 (n := v / 2 ^ i) (by omega)
   rw [Vb] at r2
   refine ⟨e', h', ov', uy ?_ r1, r2, f1.trans r3⟩
   rw [n1]
   simp (disch := omega) only [go_sem, wG, AP.f33L0, s1, a1, k1]
theorem zC {h : H} {w : Nat} {bs : List Nat} {ov : AV} (wr : Wr h w bs ov) (v n : Nat) (hn : n ≤ 16) (hv : v < 2 ^ n) (hb : bs.length + n ≤ 65536) :
 ∃ h' ov', aS AP.A 33 [.aE w 0, .int .i64 v, .int .i64 n] h = some (.int .i64 0, h') ∧ Wr h' w (bs ++ wW v n) ov' ∧ G3 h w ov h' ov' := by
 have hp : 2 ^ n ≤ 2 ^ 16 := Vd (by omega) hn
 obtain ⟨e', h', ov', r1, r2, r3⟩ := Gh w v n (by omega) hn n 0 h bs ov (by omega) wr (by omega)
 have r1' : Lp AP.A [0, 1, 2, 7] AP.f33L0 [(0, .aE w 0), (1, .int .i64 v), (2, .int .i64 n), (7, .int .i64 0)] h = some (.exit 0, e', h') := r1
 clear r1
 have gw := wr.get
 have s1 : qe .shl .i64 1 (n : Int) = some (.int .i64 ((2 ^ n : Nat) : Int)) := by
  have := ze (a := 1) (s := n) (by omega) (by omega)
  rwa [Nat.one_mul] at this
 refine ⟨h', ov', uM (fn := AP.f33) (e := [(6, .int .i64 0)]) (vs := [.int .i64 0]) rfl rfl rfl ?_ rfl, r2, r3⟩
 generalize 2 ^ n = N at *
 simp (disch := omega) only [go_sem, wG, AP.f33, th, r1', gw, s1]
theorem E2 (w v : Nat) (A : List AV) (hA : A[1]? = some (.int .i64 v)) (hA2 : A.length = 2) (c : Nat) (hv : v < 65536) : ∀ (m : Nat) (h : H) (bs : List Nat) (ov : AV), m ≤ 15 → Wr h w bs ov → bs.length + m < 1000000 → h.get c = some A → c ≠ w → ov.id? ≠ some c →
 ∃ e' h' ov', Lp AP.A [0, 3, 5] AP.f35L0 [(0, .aE w 0), (3, .aE c 0), (5, .int .i64 ((m : Int) - 1))] h = some (.exit 0, e', h') ∧ Wr h' w (bs ++ zk v m) ov' ∧ G3 h w ov h' ov'
 | 0, h, bs, ov, hm, wr, hb, hc, hcw, hco => by
   refine ⟨[(0, .aE w 0), (3, .aE c 0), (5, .int .i64 (-1)), (41, .bool false)], h, ov, ux ?_, by simpa [zk] using wr, G3.refl h w ov⟩
   simp (disch := omega) only [go_sem, wG, AP.f35L0]
 | m + 1, h, bs, ov, hm, wr, hb, hc, hcw, hco => by
   have q := Nat.div_le_self v (2 ^ m)
   obtain ⟨h1, o1, k1, wr1, f1⟩ := LS wr (b := v / 2 ^ m % 2) (by omega) (by omega)
   have hcl := h.lt _ _ hc
   obtain ⟨e', h', ov', r1, r2, r3⟩ := E2 w v A hA hA2 c hv m h1 _ o1 (by omega) wr1 (by simp; omega) (by rw [f1.xU c hcl hcw hco, hc]) hcw (fun q => by rcases f1.ids c q with q | q; exact hco q; omega)
   have n1 : ((m + 1 : Nat) : Int) - 1 = (m : Int) := by omega
   have s1 := EN (a := v) (s := m) (by omega)
   have a1 := G5 (n := v / 2 ^ m) (by omega)
   rw [Vb] at r2
   refine ⟨e', h', ov', uy ?_ r1, r2, f1.trans r3⟩
   rw [n1]
   simp (disch := omega) only [go_sem, wG, AP.f35L0, s1, a1, k1, hc, hA, hA2]
theorem CR {h : H} {w : Nat} {bs : List Nat} {ov : AV} (wr : Wr h w bs ov) (v n : Nat) (hn0 : 1 ≤ n) (hn : n ≤ 15) (hv : v < 2 ^ n) (hb : bs.length + n ≤ 65536) :
 ∃ h' ov', aS AP.A 35 [.aE w 0, .agg [.int .i64 n, .int .i64 v]] h = some (.int .i64 0, h') ∧ Wr h' w (bs ++ zk v n) ov' ∧ G3 h w ov h' ov' := by
 have hp : 2 ^ n ≤ 2 ^ 15 := Vd (by omega) hn
 obtain ⟨g, eg⟩ : ∃ g, g = h.alloc [.int .i64 n, .int .i64 v] := ⟨_, rfl⟩
 have hw := h.lt _ _ wr.get
 have frA : ∀ i, i < h.next → g.get i = h.get i := fun i hi => by rw [eg, w9 (by omega)]
 have wr1 : Wr g w bs ov := ⟨by rw [frA w hw, wr.get], wr.own.mono (by rw [eg]; simp) (fun i q => frA i (wr.own.lt q).2), by rw [eg]; simpa using wr.fl, by rw [eg]; have := wr.KP; simp; omega, wr.ne, wr.NS⟩
 have gc : g.get h.next = some [.int .i64 n, .int .i64 v] := by rw [eg, wO rfl]
 obtain ⟨e', h', ov', r1, r2, r3⟩ := E2 w v _ rfl rfl h.next (by omega) n g bs ov hn wr1 (by omega) gc (by omega) (fun q => by have := (wr.own.lt q).2; omega)
 have gw := wr1.get
 have s1 : qe .shl .i64 1 (n : Int) = some (.int .i64 ((2 ^ n : Nat) : Int)) := by
  have := ze (a := 1) (s := n) (by omega) (by omega)
  rwa [Nat.one_mul] at this
 refine ⟨h', ov', uM (fn := AP.f35) (e := [(4, .int .i64 0)]) (vs := [.int .i64 0]) rfl rfl rfl ?_ rfl, r2, ⟨by rw [r3.floor, eg]; simp, by have := r3.next; rw [eg] at this; simp at this; omega, fun i h1 h2 h3 => by rw [r3.xU i (by rw [eg]; simp; omega) h2 h3, frA i h1], fun j hj => by
  rcases r3.ids j hj with q | q
  · exact .inl q
  · rw [eg] at q; simp at q; exact .inr (by omega)⟩⟩
 generalize 2 ^ n = N at *
 simp (disch := omega) only [go_sem, wG, AP.f35, th, ← eg, r1, gw, gc, s1]
theorem GX {h : H} {w : Nat} {bs : List Nat} {ov : AV} (wr : Wr h w bs ov) : aS AP.A 37 [.aE w 0] h = some (.str (bytesOf (xn bs)), h) := by
 have gw := wr.get
 have b := DP wr.own
 refine uM (fn := AP.f37) (e := [(2, .str (bytesOf (xn bs)))]) (vs := [.str (bytesOf (xn bs))]) rfl rfl rfl ?_ rfl
 simp (disch := omega) only [go_sem, wG, AP.f37, gw, b]
def wQ (o : Option (Nat × Nat)) : Nat := (o.getD (0, 0)).1
def xW (o : Option (Nat × Nat)) : Nat := (o.getD (0, 0)).2
def Bu (f : Nat → Option (Nat × Nat)) (k : Nat) : Nat → Nat
 | 0 => 0
 | s + 1 => if wQ (f (s + 1)) ≤ k then s + 1 else Bu f k s
def xJ (k : Nat) : Nat := Bu lenOf k 285
def zY (k : Nat) : Nat := xW (lenOf (xJ k))
def AG (k : Nat) : Nat := k - wQ (lenOf (xJ k))
def xX (k : Nat) : Nat := Bu wN k 29
def zU (k : Nat) : Nat := xW (wN (xX k))
def AF (k : Nat) : Nat := k - wQ (wN (xX k))
theorem BS {s : Nat} (h1 : 257 ≤ s) (h2 : s ≤ 285) : ∃ a b, lenOf s = some (a, b) := by
 unfold lenOf; rw [if_neg (by omega)]; split; exact ⟨_, _, rfl⟩; split <;> exact ⟨_, _, rfl⟩
theorem AO {s : Nat} (h2 : s ≤ 29) : ∃ a b, wN s = some (a, b) := by
 unfold wN; rw [if_neg (by omega)]; split <;> exact ⟨_, _, rfl⟩
theorem JB : ∀ s, 257 ≤ s → s < 285 → wQ (lenOf (s + 1)) ≤ wQ (lenOf s) + 2 ^ xW (lenOf s) := by
 intro s h1 h2
 have : ∀ s < 285, 257 ≤ s → wQ (lenOf (s + 1)) ≤ wQ (lenOf s) + 2 ^ xW (lenOf s) := by decide +kernel
 exact this s h2 h1
theorem Hv : ∀ s, s < 29 → wQ (wN (s + 1)) ≤ wQ (wN s) + 2 ^ xW (wN s) := by decide +kernel
theorem z8 {k : Nat} (h1 : 3 ≤ k) (h2 : k ≤ 258) : 257 ≤ xJ k ∧ xJ k ≤ 285 ∧ wQ (lenOf (xJ k)) ≤ k ∧ k < wQ (lenOf (xJ k)) + 2 ^ xW (lenOf (xJ k)) := by
 have key : ∀ n s, s = 257 + n → s ≤ 285 → (s = 285 ∨ k < wQ (lenOf (s + 1))) → 257 ≤ Bu lenOf k s ∧ Bu lenOf k s ≤ 285 ∧ wQ (lenOf (Bu lenOf k s)) ≤ k ∧ k < wQ (lenOf (Bu lenOf k s)) + 2 ^ xW (lenOf (Bu lenOf k s)) := by
  intro n
  induction n with
  | zero =>
    intro s hs h hk
    obtain rfl : s = 257 := hs
    have e : Bu lenOf k 257 = 257 := by rw [Bu, if_pos (show wQ (lenOf (256 + 1)) ≤ k from h1)]
    have g := JB 257 (by omega) (by omega)
    rw [e]
    refine ⟨by omega, by omega, h1, ?_⟩
    rcases hk with q | q
    · omega
    · omega
  | succ n ih =>
    intro s hs h hk
    obtain ⟨s, rfl⟩ : ∃ t, s = t + 1 := ⟨s - 1, by omega⟩
    by_cases c : wQ (lenOf (s + 1)) ≤ k
    · rw [Bu, if_pos c]
      refine ⟨by omega, by omega, c, ?_⟩
      rcases hk with q | q
      · obtain rfl : s = 284 := by omega
        have : wQ (lenOf (284 + 1)) = 258 := rfl
        have : 0 < 2 ^ xW (lenOf (284 + 1)) := Nat.pow_pos (by omega)
        omega
      · by_cases c2 : s + 1 = 285
        · obtain rfl : s = 284 := by omega
          have : wQ (lenOf (284 + 1)) = 258 := rfl
          have : 0 < 2 ^ xW (lenOf (284 + 1)) := Nat.pow_pos (by omega)
          omega
        · have := JB (s + 1) (by omega) (by omega); omega
    · rw [Bu, if_neg c]
      exact ih s (by omega) (by omega) (.inr (by omega))
 exact key 28 285 (by omega) (by omega) (.inl rfl)
theorem zV {k : Nat} (h1 : 1 ≤ k) (h2 : k ≤ 32768) : xX k ≤ 29 ∧ wQ (wN (xX k)) ≤ k ∧ k < wQ (wN (xX k)) + 2 ^ xW (wN (xX k)) := by
 have l0 : wQ (wN 0) = 1 := rfl
 have key : ∀ s, s ≤ 29 → (s = 29 ∨ k < wQ (wN (s + 1))) → Bu wN k s ≤ 29 ∧ wQ (wN (Bu wN k s)) ≤ k ∧ k < wQ (wN (Bu wN k s)) + 2 ^ xW (wN (Bu wN k s)) := by
  intro s
  induction s with
  | zero =>
    intro h hk
    rw [Bu]
    have g := Hv 0 (by omega)
    refine ⟨by omega, by omega, ?_⟩
    rcases hk with q | q <;> omega
  | succ s ih =>
    intro h hk
    by_cases c : wQ (wN (s + 1)) ≤ k
    · rw [Bu, if_pos c]
      refine ⟨by omega, c, ?_⟩
      by_cases c2 : s + 1 = 29
      · obtain rfl : s = 28 := by omega
        have a1 : wQ (wN (28 + 1)) = 24577 := rfl
        have a2 : 2 ^ xW (wN (28 + 1)) = 8192 := rfl
        omega
      · have := Hv (s + 1) (by omega)
        rcases hk with q | q <;> omega
    · rw [Bu, if_neg c]
      exact ih (by omega) (.inr (by omega))
 exact key 29 (by omega) (.inl rfl)
theorem Kl (k : Nat) (h1 : 3 ≤ k) (h2 : k ≤ 258) (g : H) (id : Nat) (hf : g.floor ≤ id) (hfl : g.floor ≤ g.next) (hg : g.get id = some [.int .i64 0, .int .i64 0, .int .i64 0]) : ∀ n s : Nat, s = 257 + n → s ≤ 285 →
 Lp AP.A [0, 2, 4] AP.f28L0 [(0, .int .i64 k), (2, .aE id 0), (4, .int .i64 s)] g = some (.ret, [(2, .aE id 0), (3, .int .i64 0)], g.set id [.int .i64 (Bu lenOf k s : Nat), .int .i64 (xW (lenOf (Bu lenOf k s)) : Nat), .int .i64 ((k - wQ (lenOf (Bu lenOf k s)) : Nat) : Int)]) := by
 intro n
 induction n with
 | zero =>
   intro s hs h
   obtain rfl : s = 257 := hs
   have e : Bu lenOf k 257 = 257 := by rw [Bu, if_pos (show wQ (lenOf (256 + 1)) ≤ k from h1)]
   have l1 : wQ (lenOf 257) = 3 := rfl
   have b1 : xW (lenOf 257) = 0 := rfl
   have kk : aS AP.A 50 [.int .i64 257] g = _ := HK g 257 (by omega)
   have tt : CQ (lenOf 257) = .bU [.int .i64 3, .int .i64 0, .int .i64 0] := rfl
   rw [tt] at kk
   rw [e, l1, b1]
   have n1 : ((k - 3 : Nat) : Int) = (k : Int) - 3 := by omega
   rw [n1]
   refine uT ?_
   simp (disch := first | omega | (simp only [xe, UZ, U4, vW, Nat.reduceAdd]; first | done | omega | fail) | (simp (disch := first | omega | (simp only [xe, UZ, U4, vW, Nat.reduceAdd]; first | done | omega | fail) | fail) only [xe, Aa, U8, UZ, U4, vW, Nat.reduceAdd]; done) | fail) only [go_sem, wG, Au, AP.f28L0, kk, hg]
 | succ n ih =>
   intro s hs h
   obtain ⟨s, rfl⟩ : ∃ t, s = t + 1 := ⟨s - 1, by omega⟩
   obtain ⟨a, b, hab⟩ := BS (s := s + 1) (by omega) h
   have kk := HK g (s + 1) (by omega)
   rw [hab] at kk
   simp only [I, CQ] at kk
   have la : wQ (lenOf (s + 1)) = a := by rw [hab]; rfl
   have lb : xW (lenOf (s + 1)) = b := by rw [hab]; rfl
   have bd := Ek hab
   by_cases c1 : a ≤ k
   · rw [Bu, la, if_pos c1, la, lb]
     have n1 : ((k - a : Nat) : Int) = (k : Int) - (a : Int) := by omega
     rw [n1]
     refine uT ?_
     simp (disch := first | omega | (simp only [xe, UZ, U4, vW, Nat.reduceAdd]; first | done | omega | fail) | (simp (disch := first | omega | (simp only [xe, UZ, U4, vW, Nat.reduceAdd]; first | done | omega | fail) | fail) only [xe, Aa, U8, UZ, U4, vW, Nat.reduceAdd]; done) | fail) only [go_sem, wG, Au, AP.f28L0, kk, hg]
   · rw [Bu, la, if_neg c1]
     have r1 := ih s (by omega) (by omega)
     have n1 : ((s + 1 : Nat) : Int) - 1 = (s : Int) := by omega
     refine uy (e' := [(0, .int .i64 k), (2, .aE id 0), (4, .int .i64 s)]) ?_ r1
     simp (disch := first | omega | (simp only [xe, UZ, U4, vW, Nat.reduceAdd]; first | done | omega | fail) | (simp (disch := first | omega | (simp only [xe, UZ, U4, vW, Nat.reduceAdd]; first | done | omega | fail) | fail) only [xe, Aa, U8, UZ, U4, vW, Nat.reduceAdd]; done) | fail) only [go_sem, wG, Au, AP.f28L0, kk, n1]
theorem HL (h : H) (k : Nat) (h1 : 3 ≤ k) (h2 : k ≤ 258) : aS AP.A 28 [.int .i64 k] h = some (.bU [.agg [.int .i64 (xJ k : Nat), .int .i64 (zY k : Nat), .int .i64 (AG k : Nat)], .int .i64 0], h) := by
 have r1 := Kl k h1 h2 (h.ez.alloc [.int .i64 0, .int .i64 0, .int .i64 0]) h.next (by simp) (by simp) (by rw [wO (by simp)]) 28 285 (by omega) (by omega)
 have r1' : Lp AP.A [0, 2, 4] AP.f28L0 [(0, .int .i64 k), (2, .aE h.next 0), (4, .int .i64 285)] (h.ez.alloc [.int .i64 0, .int .i64 0, .int .i64 0]) = some (.ret, [(2, .aE h.next 0), (3, .int .i64 0)], (h.ez.alloc [.int .i64 0, .int .i64 0, .int .i64 0]).set h.next [.int .i64 (xJ k : Nat), .int .i64 (zY k : Nat), .int .i64 (AG k : Nat)]) := r1
 clear r1
 generalize xJ k = S at *
 generalize zY k = B at *
 generalize AG k = V at *
 refine u7 (fn := AP.f28) (h2 := (h.ez.alloc [.int .i64 0, .int .i64 0, .int .i64 0]).set h.next [.int .i64 S, .int .i64 B, .int .i64 V]) (e := [(2, .aE h.next 0), (3, .int .i64 0)]) (vs := [.agg [.int .i64 S, .int .i64 B, .int .i64 V], .int .i64 0]) rfl rfl rfl ?_ ?_ ?_
 · simp (disch := first | omega | (simp only [xe, UZ, U4, vW, Nat.reduceAdd]; first | done | omega | fail) | (simp (disch := first | omega | (simp only [xe, UZ, U4, vW, Nat.reduceAdd]; first | done | omega | fail) | fail) only [xe, Aa, U8, UZ, U4, vW, Nat.reduceAdd]; done) | fail) only [go_sem, wG, Au, AP.f28, th, r1']
 · simp (disch := first | omega | (simp only [xe, UZ, U4, vW, Nat.reduceAdd]; first | done | omega | fail) | (simp (disch := first | omega | (simp only [xe, UZ, U4, vW, Nat.reduceAdd]; first | done | omega | fail) | fail) only [xe, Aa, U8, UZ, U4, vW, Nat.reduceAdd]; done) | fail) only [go_sem, wG, Au, AP.f28, cO, od]; rfl
 · rfl
theorem IG (k : Nat) (h1 : 1 ≤ k) (h2 : k ≤ 32768) (g : H) (id : Nat) (hf : g.floor ≤ id) (hfl : g.floor ≤ g.next) (hg : g.get id = some [.int .i64 0, .int .i64 0, .int .i64 0]) : ∀ n s : Nat, s = n → s ≤ 29 →
 Lp AP.A [0, 2, 4] AP.f29L0 [(0, .int .i64 k), (2, .aE id 0), (4, .int .i64 s)] g = some (.ret, [(2, .aE id 0), (3, .int .i64 0)], g.set id [.int .i64 (Bu wN k s : Nat), .int .i64 (xW (wN (Bu wN k s)) : Nat), .int .i64 ((k - wQ (wN (Bu wN k s)) : Nat) : Int)]) := by
 intro n
 induction n with
 | zero =>
   intro s hs h
   obtain rfl : s = 0 := hs
   have e : Bu wN k 0 = 0 := rfl
   have l1 : wQ (wN 0) = 1 := rfl
   have b1 : xW (wN 0) = 0 := rfl
   have kk : aS AP.A 51 [.int .i64 0] g = _ := Fl g 0 (by omega)
   have tt : CQ (wN 0) = .bU [.int .i64 1, .int .i64 0, .int .i64 0] := rfl
   rw [tt] at kk
   rw [e, l1, b1]
   have n1 : ((k - 1 : Nat) : Int) = (k : Int) - 1 := by omega
   rw [n1]
   refine uT ?_
   simp (disch := first | omega | (simp only [xe, UZ, U4, vW, Nat.reduceAdd]; first | done | omega | fail) | (simp (disch := first | omega | (simp only [xe, UZ, U4, vW, Nat.reduceAdd]; first | done | omega | fail) | fail) only [xe, Aa, U8, UZ, U4, vW, Nat.reduceAdd]; done) | fail) only [go_sem, wG, Au, AP.f29L0, kk, hg]
 | succ n ih =>
   intro s hs h
   obtain ⟨s, rfl⟩ : ∃ t, s = t + 1 := ⟨s - 1, by omega⟩
   obtain ⟨a, b, hab⟩ := AO (s := s + 1) h
   have kk := Fl g (s + 1) (by omega)
   rw [hab] at kk
   simp only [I, CQ] at kk
   have la : wQ (wN (s + 1)) = a := by rw [hab]; rfl
   have lb : xW (wN (s + 1)) = b := by rw [hab]; rfl
   have bd := CZ hab
   by_cases c1 : a ≤ k
   · rw [Bu, la, if_pos c1, la, lb]
     have n1 : ((k - a : Nat) : Int) = (k : Int) - (a : Int) := by omega
     rw [n1]
     refine uT ?_
     simp (disch := first | omega | (simp only [xe, UZ, U4, vW, Nat.reduceAdd]; first | done | omega | fail) | (simp (disch := first | omega | (simp only [xe, UZ, U4, vW, Nat.reduceAdd]; first | done | omega | fail) | fail) only [xe, Aa, U8, UZ, U4, vW, Nat.reduceAdd]; done) | fail) only [go_sem, wG, Au, AP.f29L0, kk, hg]
   · rw [Bu, la, if_neg c1]
     have r1 := ih s (by omega) (by omega)
     have n1 : ((s + 1 : Nat) : Int) - 1 = (s : Int) := by omega
     refine uy (e' := [(0, .int .i64 k), (2, .aE id 0), (4, .int .i64 s)]) ?_ r1
     simp (disch := first | omega | (simp only [xe, UZ, U4, vW, Nat.reduceAdd]; first | done | omega | fail) | (simp (disch := first | omega | (simp only [xe, UZ, U4, vW, Nat.reduceAdd]; first | done | omega | fail) | fail) only [xe, Aa, U8, UZ, U4, vW, Nat.reduceAdd]; done) | fail) only [go_sem, wG, Au, AP.f29L0, kk, n1]
theorem Lh (h : H) (k : Nat) (h1 : 1 ≤ k) (h2 : k ≤ 32768) : aS AP.A 29 [.int .i64 k] h = some (.bU [.agg [.int .i64 (xX k : Nat), .int .i64 (zU k : Nat), .int .i64 (AF k : Nat)], .int .i64 0], h) := by
 have r1 := IG k h1 h2 (h.ez.alloc [.int .i64 0, .int .i64 0, .int .i64 0]) h.next (by simp) (by simp) (by rw [wO (by simp)]) 29 29 (by omega) (by omega)
 have r1' : Lp AP.A [0, 2, 4] AP.f29L0 [(0, .int .i64 k), (2, .aE h.next 0), (4, .int .i64 29)] (h.ez.alloc [.int .i64 0, .int .i64 0, .int .i64 0]) = some (.ret, [(2, .aE h.next 0), (3, .int .i64 0)], (h.ez.alloc [.int .i64 0, .int .i64 0, .int .i64 0]).set h.next [.int .i64 (xX k : Nat), .int .i64 (zU k : Nat), .int .i64 (AF k : Nat)]) := r1
 clear r1
 generalize xX k = S at *
 generalize zU k = B at *
 generalize AF k = V at *
 refine u7 (fn := AP.f29) (h2 := (h.ez.alloc [.int .i64 0, .int .i64 0, .int .i64 0]).set h.next [.int .i64 S, .int .i64 B, .int .i64 V]) (e := [(2, .aE h.next 0), (3, .int .i64 0)]) (vs := [.agg [.int .i64 S, .int .i64 B, .int .i64 V], .int .i64 0]) rfl rfl rfl ?_ ?_ ?_
 · simp (disch := first | omega | (simp only [xe, UZ, U4, vW, Nat.reduceAdd]; first | done | omega | fail) | (simp (disch := first | omega | (simp only [xe, UZ, U4, vW, Nat.reduceAdd]; first | done | omega | fail) | fail) only [xe, Aa, U8, UZ, U4, vW, Nat.reduceAdd]; done) | fail) only [go_sem, wG, Au, AP.f29, th, r1']
 · simp (disch := first | omega | (simp only [xe, UZ, U4, vW, Nat.reduceAdd]; first | done | omega | fail) | (simp (disch := first | omega | (simp only [xe, UZ, U4, vW, Nat.reduceAdd]; first | done | omega | fail) | fail) only [xe, Aa, U8, UZ, U4, vW, Nat.reduceAdd]; done) | fail) only [go_sem, wG, Au, AP.f29, cO, od]; rfl
 · rfl
theorem QD (h : H) (v : AV) (ts : List Tok) (hn : ts.length < 1000000000) (rd : zE 3 h v ts.length (xw ts)) : aS AP.A 69 [v] h = some (.bool (wY 0 ts), h) := by
 have EG : zE 3 h.ez v ts.length (xw ts) := rd.mono fun i c q => q
 have hfl : h.ez.floor ≤ h.ez.next := by simp
 rcases F8 hn h.ez EG ts [] 0 h.ez rfl (by omega) (Ext.refl _) (vR _) hfl with ⟨e', h', r1, r2⟩ | ⟨e', h', r1, r2, r3⟩
 · have r1' : Lp AP.A [0, 3, 4] AP.f69L0 [(0, v), (3, .int .i64 0), (4, .int .i64 0)] h.ez = some (.exit 0, e', h') := r1
   rw [r2]
   refine u7 (fn := AP.f69) (h2 := h') (e := [(2, .bool true)]) rfl rfl rfl ?_ rfl rfl
   simp (disch := omega) only [go_sem, wG, AP.f69, th, r1']
 · have r1' : Lp AP.A [0, 3, 4] AP.f69L0 [(0, v), (3, .int .i64 0), (4, .int .i64 0)] h.ez = some (.ret, e', h') := r1
   rw [r3]
   obtain ⟨e2, he2⟩ : ∃ e2, aM (aS AP.A) bG AP.f69.body (params 0 [v]) h.ez = some (.ret, e2, h') ∧ look e2 2 = .bool false := by
    refine ⟨e', ?_, r2⟩
    simp (disch := omega) only [go_sem, wG, AP.f69, th, r1']
   refine u7 (fn := AP.f69) (h2 := h') (e := e2) (vs := [.bool false]) rfl rfl rfl he2.1 ?_ rfl
   simp only [AP.f69, cO, od, he2.2]; rfl
def Iv (d : Nat) : Nat → List Nat → List Nat
 | 0, o => o
 | n + 1, o => Iv d n (o ++ [o.getD (o.length - d) 0])
theorem DG (d : Nat) : ∀ n o, (Iv d n o).length = o.length + n
 | 0, o => rfl
 | n + 1, o => by rw [Iv, DG d n]; simp; omega
theorem Jn (d : Nat) : ∀ n o, Jf o → Jf (Iv d n o)
 | 0, o, h => h
 | n + 1, o, h => by
   refine Jn d n _ fun x hx => ?_
   rcases Vq.1 hx with q | q
   · exact h x q
   · simp only [List.mem_singleton] at q
     subst q
     rw [U3]
     cases hg : o[o.length - d]? with
     | none => simp
     | some y => exact h y (vV hg)
def xk (o : List Nat) (t : Tok) : List Nat := if t.len = 0 then o ++ [t.lit.toNat] else Iv t.w8.toNat t.len.toNat o
def zd : List Tok → List Nat → List Nat
 | [], o => o
 | t :: r, o => zd r (xk o t)
theorem Ho {v : AV} {ts : List Tok} (hn : ts.length < 1000000000) (h0 : H) (rd : zE 3 h0 v ts.length (xw ts)) (i : Nat) (t : Tok) (ht : ts[i]? = some t) (L D : Nat) (hL : t.len = L) (hD : t.w8 = D) (hLb : L ≤ 258) (hD1 : 1 ≤ D) : ∀ (m j : Nat) (out : List Nat) (h : H) (ov : AV), j + m = L → D ≤ out.length → out.length + m ≤ 10000 → Jf out → Ext h0 h → h0.next ≤ h.floor → h.floor ≤ h.next → wS 1 h ov out.length (yI out) →
 ∃ h' ov', Lp AP.A [0, 4, 5, 6] AP.f55L0 [(0, v), (4, ov), (5, .int .i64 i), (6, .int .i64 j)] h = some (.exit 2, [(0, v), (4, ov'), (5, .int .i64 i), (6, .int .i64 L), (37, .bool false)], h') ∧ Ext h0 h' ∧ h'.floor = h.floor ∧ h'.floor ≤ h'.next ∧ wS 1 h' ov' (Iv D m out).length (yI (Iv D m out))
 | 0, j, out, h, ov, hj, hDo, hs, hb, hx, hf, hfn, ow => by
   obtain rfl : j = L := by omega
   obtain ⟨ad, a1, a2, a3⟩ := rd.KH
   have hi : i < ts.length := (vN.1 ht).1
   have hI : (0 : Int) ≤ (i : Int) ∧ (i : Int) < ts.length := ⟨by omega, by omega⟩
   have b1 := a1 _ hI
   have b2 := a2 i 0 1 hI
   obtain ⟨_, b3, _, _⟩ := a3 h hx _ _ ht
   rw [hL] at b3
   clear a1 a2 a3
   refine ⟨h, ov, ux ?_, hx, rfl, hfn, ow⟩
   simp (disch := omega) only [go_sem, wG, AP.f55L0, b1, b2, b3]
 | m + 1, j, out, h, ov, hj, hDo, hs, hb, hx, hf, hfn, ow => by
   obtain ⟨ad, a1, a2, a3⟩ := rd.KH
   have hi : i < ts.length := (vN.1 ht).1
   have hI : (0 : Int) ≤ (i : Int) ∧ (i : Int) < ts.length := ⟨by omega, by omega⟩
   have b1 := a1 _ hI
   have b2 := a2 i 0 1 hI
   have b2' := a2 i 0 2 hI
   obtain ⟨_, b3, b4, _⟩ := a3 h hx _ _ ht
   rw [hL] at b3
   rw [hD] at b4
   clear a1 a2 a3
   rcases ow.2 with ⟨_, q⟩ | ⟨id, q1, q2, q3, q4⟩
   · omega
   obtain ⟨x, hxx⟩ : ∃ x, out[out.length - D]? = some x := ⟨_, U6 (by omega)⟩
   have gx := QS hxx
   have gd : out.getD (out.length - D) 0 = x := by rw [U3, hxx]; rfl
   obtain ⟨v', h', p1, p2, p3, p4, p5, p6⟩ := ow.push hfn (z := 1) (m := 1) (by omega) (by omega) [.int .u8 x] rfl rfl (yh (by omega))
   have x8 := hb x (vV hxx)
   have hxn : Ext h0 h' := fun k c hk => by
    have := h0.lt _ _ hk
    rw [p5 k (fun e => by rw [q1] at e; have := vG e; omega) (by omega), hx k c hk]
   have ow2 : wS 1 h' v' (out ++ [x]).length (yI (out ++ [x])) := by rw [DU, wo]; exact p2
   obtain ⟨h2, ov', r1, r2, r3, r4, r5⟩ := Ho hn h0 rd i t ht L D hL hD hLb hD1 m (j + 1) (out ++ [x]) h' v' (by omega) (by simp; omega) (by simp; omega) (fun y hy => by
    rcases Vq.1 hy with q | q
    · exact hb y q
    · simp at q; omega) hxn (by omega) (by omega) ow2
   have n1 : ((j + 1 : Nat) : Int) = (j : Int) + 1 := by omega
   have n2 : (out.length : Int) - (D : Int) = ((out.length - D : Nat) : Int) := by omega
   have bl := QT out
   rw [Iv, gd]
   refine ⟨h2, ov', uy ?_ r1, r2, by omega, r4, r5⟩
   rw [n1]
   subst q1
   clear r5 hb x8 ow2 r1 r2 hx hxn
   generalize yI out = BO at *
   simp (disch := omega) only [go_sem, wG, AP.f55L0, b1, b2, b2', b3, b4, n2, q2, gx, bl, p1]
theorem D9 {v : AV} {ts : List Tok} (hn : ts.length < 1000000000) (h0 : H) (rd : zE 3 h0 v ts.length (xw ts)) : ∀ (q p : List Tok) (out : List Nat) (h : H) (ov : AV), ts = p ++ q → wY out.length q = true → out.length ≤ 8192 → Jf out → Ext h0 h → h0.next ≤ h.floor → h.floor ≤ h.next → wS 1 h ov out.length (yI out) →
 ∃ e' h' ov', Lp AP.A [0, 4, 5] AP.f55L1 [(0, v), (4, ov), (5, .int .i64 p.length)] h = some (.exit 0, e', h') ∧ look e' 4 = ov' ∧ h'.floor = h.floor ∧ wS 1 h' ov' (zd q out).length (yI (zd q out)) ∧ (zd q out).length ≤ 8192 ∧ Jf (zd q out)
 | [], p, out, h, ov, hp, hm, hs, hb, hx, hf, hfn, ow => by
   rw [Vm] at hp; subst hp
   have ln := rd.len
   refine ⟨[(0, v), (4, ov), (5, .int .i64 ts.length), (13, .bool false)], h, ov, ux ?_, rfl, rfl, ow, hs, hb⟩
   simp (disch := omega) only [go_sem, wG, AP.f55L1, ln]
 | t :: q, p, out, h, ov, hp, hm, hs, hb, hx, hf, hfn, ow => by
   have ln := rd.len
   have hlen : ts.length = p.length + (q.length + 1) := by rw [hp]; simp
   have ht : ts[p.length]? = some t := by rw [hp]; simp
   obtain ⟨ad, a1, a2, a3⟩ := rd.KH
   have hI : (0 : Int) ≤ (p.length : Int) ∧ (p.length : Int) < ts.length := ⟨by omega, by omega⟩
   have b1 := a1 _ hI
   have b2 := a2 p.length 0 1 hI
   have b2' := a2 p.length 0 0 hI
   obtain ⟨b3, b4, _, _⟩ := a3 h hx _ _ ht
   rw [wY] at hm
   have pl : p.length < ts.length := by omega
   cases hst : xQ out.length t with
   | none => rw [hst] at hm; cases hm
   | some s' =>
     rw [hst] at hm
     simp only at hm
     by_cases k : 8192 < s'
     · rw [if_pos k] at hm; cases hm
     rw [if_neg k] at hm
     unfold xQ at hst
     have n1 : (((p ++ [t]).length : Nat) : Int) = (p.length : Int) + 1 := by simp
     by_cases c0 : t.len = 0
     · rw [if_pos c0] at hst
       by_cases c : t.lit < 0 ∨ 255 < t.lit ∨ t.w8 ≠ 0
       · rw [if_pos c] at hst; cases hst
       rw [if_neg c] at hst
       obtain rfl := vG hst
       obtain ⟨x, hxl⟩ : ∃ x : Nat, t.lit = x := U9 (by omega)
       have es : xk out t = out ++ [x] := by unfold xk; rw [if_pos c0, hxl]; rfl
       have hx8 : x < 256 := by omega
       obtain ⟨v', h', p1, p2, p3, p4, p5, p6⟩ := ow.push hfn (z := 1) (m := 1) (by omega) (by omega) [.int .u8 x] rfl rfl (yh (by omega))
       have hxn : Ext h0 h' := fun k c hk => by
        have := h0.lt _ _ hk
        rw [p5 k (fun e => by have := ow.lt e; omega) (by omega), hx k c hk]
       have ow2 : wS 1 h' v' (out ++ [x]).length (yI (out ++ [x])) := by rw [DU, wo]; exact p2
       have hx3 : Ext h0 h' := hxn
       obtain ⟨b3', b4', _, _⟩ := a3 h' hxn _ _ ht
       rw [hxl] at b3
       rw [c0] at b4 b4'
       have wx := UJ (n := x) hx8
       clear a1 a2 a3
       obtain ⟨e', h2, ov', r1, r2, r3, r4, r5, r6⟩ := D9 hn h0 rd q (p ++ [t]) (out ++ [x]) h' v' (by rw [hp]; simp) (by rw [← hm]; simp) (by simp; omega) (fun y hy => by
        rcases Vq.1 hy with q | q
        · exact hb y q
        · simp at q; omega) hxn (by omega) (by omega) ow2
       have L0 : Lp AP.A [0, 4, 5, 6] AP.f55L0 [(0, v), (4, v'), (5, .int .i64 p.length), (6, .int .i64 0)] h' = some (.exit 2, [(0, v), (4, v'), (5, .int .i64 p.length), (6, .int .i64 0), (37, .bool false)], h') := by
        refine ux ?_
        simp (disch := omega) only [go_sem, wG, AP.f55L0, b1, b2, b4']
       rw [zd, es]
       refine ⟨e', h2, ov', uy ?_ r1, r2, by omega, r4, r5, r6⟩
       rw [n1]
       clear r1 r2 r4 r5 r6 hm hp hx hxn hx3 hb hst c
       simp (disch := omega) only [go_sem, wG, AP.f55L1, ln, b1, b2, b2', b3, b4, wx, p1, th, L0]
     · rw [if_neg c0] at hst
       by_cases c : t.len < 3 ∨ 258 < t.len ∨ t.w8 < 1 ∨ 32768 < t.w8 ∨ (out.length : Int) < t.w8 ∨ t.lit ≠ 0
       · rw [if_pos c] at hst; cases hst
       rw [if_neg c] at hst
       obtain rfl := vG hst
       obtain ⟨L, hL⟩ : ∃ x : Nat, t.len = x := U9 (by omega)
       obtain ⟨D, hD⟩ : ∃ x : Nat, t.w8 = x := U9 (by omega)
       have es : xk out t = Iv D L out := by unfold xk; rw [if_neg c0, hL, hD]; rfl
       have cl := DG D L out
       have cb := Jn D L out hb
       obtain ⟨h', v', L0, s1, s2, s3, s4⟩ := Ho hn h0 rd p.length t ht L D hL hD (by omega) (by omega) L 0 out h ov (by omega) (by omega) (by omega) hb hx hf hfn ow
       have L0' : Lp AP.A [0, 4, 5, 6] AP.f55L0 [(0, v), (4, ov), (5, .int .i64 p.length), (6, .int .i64 0)] h = _ := L0
       obtain ⟨e', h2, ov', r1, r2, r3, r4, r5, r6⟩ := D9 hn h0 rd q (p ++ [t]) (Iv D L out) h' v' (by rw [hp]; simp) (by rw [← hm, cl, hL]; simp) (by omega) cb s1 (by omega) s3 s4
       rw [zd, es]
       refine ⟨e', h2, ov', uy ?_ r1, r2, by omega, r4, r5, r6⟩
       rw [n1]
       have c0' : ¬ (L : Int) = 0 := by omega
       rw [hL] at b4
       clear r1 r2 r4 r5 r6 hm hp hx hb hst c c0 L0 s4 cb es a1 a2 a3
       simp (disch := omega) only [go_sem, wG, AP.f55L1, ln, b1, b2, b2', b4, th, L0', c0']
def A3 (ts : List Tok) : Option ByteArray := if wY 0 ts = true then some (bytesOf (zd ts [])) else none
def Ph : Option ByteArray → AV
 | some t => .bU [.str t, .int .i64 0]
 | none => .bU [.str ⟨#[]⟩, .int .i64 500]
theorem Ll (h : H) (v : AV) (ts : List Tok) (hn : ts.length < 1000000000) (rd : zE 3 h v ts.length (xw ts)) : aS AP.A 55 [v] h = some (Ph (A3 ts), h) ∧ ∀ t, A3 ts = some t → t.size ≤ 8192 := by
 have k1 : ∀ g : H, g = h.ez → aS AP.A 69 [v] g = some (.bool (wY 0 ts), g) := fun g e => by subst e; exact QD h.ez v ts hn (rd.mono fun i c q => q)
 unfold A3
 by_cases hm : wY 0 ts = true
 · rw [if_pos hm]
   have EG : zE 3 h.ez v ts.length (xw ts) := rd.mono fun i c q => q
   obtain ⟨e', h', ov', r1, r2, r3, r4, r5, r6⟩ := D9 hn h.ez EG ts [] [] h.ez .aQ rfl hm (by simp) (fun _ h => by simp at h) (Ext.refl _) (by simp) (by simp) wS.nil
   have r1' : Lp AP.A [0, 4, 5] AP.f55L1 [(0, v), (4, .aQ), (5, .int .i64 0)] h.ez = some (.exit 0, e', h') := r1
   have b := DP r4
   have k := k1 _ rfl
   rw [hm] at k
   refine ⟨?_, fun t ht => ?_⟩
   · generalize bytesOf (zd ts []) = B at *
     refine u7 (fn := AP.f55) (h2 := h') (e := [(2, .str B), (3, .int .i64 0)]) rfl rfl rfl ?_ rfl rfl
     clear r1 r4 r5 r6 EG rd k1
     simp (disch := omega) only [go_sem, wG, AP.f55, k, th, r1', r2, b]
   · obtain rfl := vG ht
     rw [wX]; omega
 · rw [if_neg hm]
   have k := k1 _ rfl
   rw [Bool.eq_false_iff.2 hm] at k
   refine ⟨?_, fun t ht => by cases ht⟩
   refine u7 (fn := AP.f55) (h2 := h.ez) (e := [(2, .str ⟨#[]⟩), (3, .int .i64 500)]) rfl rfl rfl ?_ rfl rfl
   clear rd k1
   simp (disch := omega) only [go_sem, wG, AP.f55, k]
def Kf (ts : List Tok) : Bool := match A3 ts with
 | some t => decide (t.size ≤ 300)
 | none => false
theorem NV (h : H) (v : AV) (ts : List Tok) (hn : ts.length < 1000000000) (rd : zE 3 h v ts.length (xw ts)) : aS AP.A 27 [v] h = some (.bool (Kf ts), h) := by
 obtain ⟨k, kl⟩ := Ll h.ez v ts hn (rd.mono fun i c q => q)
 unfold Kf
 cases he : A3 ts with
 | none =>
   rw [he] at k
   simp only [Ph] at k
   refine u7 (fn := AP.f27) (h2 := h.ez) (e := [(2, .bool false)]) rfl rfl rfl ?_ rfl rfl
   clear rd kl
   simp (disch := omega) only [go_sem, wG, AP.f27, k]
 | some t =>
   rw [he] at k
   have := kl t he
   simp only [Ph] at k
   refine u7 (fn := AP.f27) (h2 := h.ez) (e := [(2, .bool (decide (t.size ≤ 300)))]) rfl rfl rfl ?_ rfl rfl
   clear rd kl
   by_cases c : t.size ≤ 300
   · simp (disch := omega) only [go_sem, wG, AP.f27, k, U7 c]
   · simp (disch := omega) only [go_sem, wG, AP.f27, k, U5 c]
theorem DI {p q : Prop} [Decidable p] [Decidable q] {α : Type} {a b : α} (h : p ↔ q) : (if p then a else b) = if q then a else b := by
 by_cases c : p
 · rw [if_pos c, if_pos (h.1 c)]
 · rw [if_neg c, if_neg (fun x => c (h.2 x))]
def xK (p : Int × Int) : List AV := [.int .i64 p.1, .int .i64 p.2]
theorem z9 (p : Int × Int) : (xK p).length = 2 := rfl
theorem Lv {α : Type} {C : α → List AV} {n : Nat} (hC : ∀ x, (C x).length = n) : ∀ (l : List α) (i : Nat) (x : α), i < l.length → setFrom (l.flatMap C) (i * n) (C x) = (l.set i x).flatMap C
 | [], i, x, h => by simp at h
 | y :: l, 0, x, h => by
   have := yZ (C y) (C x) [] (l.flatMap C) (by rw [hC, hC])
   simpa using this
 | y :: l, i + 1, x, h => by
   have ih := Lv hC l i x (by simpa using h)
   rw [Va, List.set_cons_succ, Va, ← ih]
   have e := C3 hC l
   have : i < l.length := by simpa using h
   have hi : i * n + n ≤ l.length * n := by
    have := vU n (show i + 1 ≤ l.length from this)
    rwa [Nat.succ_mul] at this
   have hs : (i + 1) * n = n + i * n := by rw [Nat.succ_mul]; omega
   rw [BX _ _ _ (by rw [wo, hC, hC, e, hs]; omega), BX _ _ _ (by rw [hC, e]; omega), hs, hC]
   rw [List.take_append, List.drop_append, hC]
   rw [Vg (by rw [hC]; omega), List.drop_of_length_le (by rw [hC]; omega)]
   rw [show n + i * n - n = i * n by omega, show n + i * n + n - n = i * n + n by omega]
   simp
def Br (l : List Int) (i : Nat) : Int × Int := if 1 ≤ l.getD i 0 then (l.getD i 0, wF l (l.getD i 0).toNat + yw (l.take i) (l.getD i 0).toNat) else (0, 0)
def wB (l : List Int) : List (Int × Int) := (List.range l.length).map (Br l)
def xG (l : List Int) (b i : Nat) : List (Int × Int) := (List.range l.length).map fun j => if 1 ≤ l.getD j 0 ∧ (l.getD j 0 < b ∨ (l.getD j 0 = b ∧ j < i)) then Br l j else (0, 0)
theorem CV (l : List Int) (b i : Nat) : (xG l b i).length = l.length := by simp [xG]
theorem J8 {l : List Int} {b i : Nat} (hi : i < l.length) (hb : 1 ≤ b) (hl : l.getD i 0 = (b : Int)) : (xG l b i).set i ((b : Int), wF l b + yw (l.take i) b) = xG l b (i + 1) := by
 apply List.ext_getElem?
 intro j
 rw [Vh]
 by_cases e : i = j
 · subst e
   rw [if_pos rfl, if_pos (by rw [CV]; exact hi)]
   simp only [xG, v7, VB hi, U8]
   rw [if_pos ⟨by omega, .inr ⟨hl, by omega⟩⟩, Br, if_pos (by omega), hl]; rfl
 · rw [if_neg e]
   simp only [xG, v7]
   by_cases hj : j < l.length
   · rw [VB hj]
     simp only [U8]
     exact VF some (DI (by omega))
   · rw [Vk (by simp; omega)]; rfl
theorem IC {l : List Int} {b i : Nat} (hl : ¬ l.getD i 0 = (b : Int)) : xG l b (i + 1) = xG l b i := by
 unfold xG
 refine Vu fun j hj => ?_
 by_cases e : j = i
 · subst e
   exact DI (by omega)
 · exact DI (by omega)
theorem ID (l : List Int) (b : Nat) : xG l (b + 1) 0 = xG l b l.length := by
 unfold xG
 refine Vu fun j hj => ?_
 have hj' : j < l.length := VE.1 hj
 exact DI (by omega)
theorem J7 {l : List Int} (hr : ∀ y ∈ l, 0 ≤ y ∧ y < 16) : xG l 16 0 = wB l := by
 unfold xG wB
 refine Vu fun j hj => ?_
 have hj' : j < l.length := VE.1 hj
 have hm := hr (l.getD j 0) (by rw [U3, U6 hj']; simp)
 by_cases c : 1 ≤ l.getD j 0
 · rw [if_pos ⟨c, .inl (by omega)⟩]
 · rw [if_neg (fun q => c q.1), Br, if_neg c]
theorem IE (l : List Int) : xG l 1 0 = List.replicate l.length (0, 0) := by
 unfold xG
 have : (List.range l.length).map (fun j => if 1 ≤ l.getD j 0 ∧ (l.getD j 0 < (1 : Nat) ∨ (l.getD j 0 = (1 : Nat) ∧ j < 0)) then Br l j else ((0 : Int), (0 : Int))) = (List.range l.length).map (fun _ => ((0 : Int), (0 : Int))) := by
  refine Vu fun j hj => ?_
  rw [if_neg (by omega)]
 rw [this, List.map_const', List.length_range]
theorem Bq {l : List Int} {i : Nat} (hi : i < l.length) (b : Nat) (hb : 1 ≤ b) : yw (l.take (i + 1)) b = yw (l.take i) b + if l.getD i 0 = (b : Int) then 1 else 0 := by
 have e : l.take (i + 1) = l.take i ++ [l.getD i 0] := by
  rw [List.take_add_one, U6 hi, U3, U6 hi]; rfl
 rw [e, Cs]
 congr 1
 by_cases c : l.getD i 0 = (b : Int)
 · rw [if_pos ⟨by omega, c⟩, if_pos c]
 · rw [if_neg (fun q => c q.2), if_neg c]
theorem D5 {x : AV} {l : List Int} (hl : l.length < 1000) (h0 : H) (rd : Rd h0 x (ints l)) (id b : Nat) (hid : h0.next ≤ id) (hb1 : 1 ≤ b) (hb : b ≤ 15) : ∀ (m i : Nat) (h : H), i + m = l.length → Ext h0 h → h.floor ≤ id → h.get id = some ((xG l b i).flatMap xK) →
 ∃ h', Lp AP.A [0, 5, 6, 7, 8] AP.f34L0 [(0, x), (5, .aF id 0 l.length 2), (6, .int .i64 (wF l b + yw (l.take i) b)), (7, .int .i64 b), (8, .int .i64 i)] h = some (.exit 2, [(0, x), (5, .aF id 0 l.length 2), (6, .int .i64 (wF l b + yw l b)), (7, .int .i64 b), (8, .int .i64 l.length), (30, .bool false)], h') ∧ Ext h0 h' ∧ h'.floor = h.floor ∧ h'.get id = some ((xG l b l.length).flatMap xK)
 | 0, i, h, hi, hx, hf, hg => by
   obtain rfl : i = l.length := by omega
   have ln := rd.len
   rw [qy] at ln
   simp only [I] at ln
   rw [List.take_length]
   refine ⟨h, ux ?_, hx, rfl, hg⟩
   simp (disch := omega) only [go_sem, wG, AP.f34L0, ln]
 | m + 1, i, h, hi, hx, hf, hg => by
   have ln := rd.len
   rw [qy] at ln
   simp only [I] at ln
   have hil : i < l.length := by omega
   obtain ⟨ad, a1, a2⟩ := rd.xZ
   have b1 := a1 i ⟨by omega, by omega⟩
   have lg : l[i]? = some (l.getD i 0) := by rw [U3, U6 hil]; rfl
   have b2 := a2 h hx i _ lg
   have n1 : ((i + 1 : Nat) : Int) = (i : Int) + 1 := by omega
   have ct := Bq hil b hb1
   have fb := A4 (l := l) (by omega) b
   have pw := Bf hb
   have cl := BE (l.take i) b
   have tl := List.length_take_le i l
   generalize hy : l.getD i 0 = y at *
   by_cases c : y = (b : Int)
   · have st : ve h id (i * 2) 2 [.int .i64 (b : Int), .int .i64 (wF l b + yw (l.take i) b)] (some ((xG l b i).flatMap xK)) = some (h.set id ((xG l b (i + 1)).flatMap xK)) := by
      rw [JQ, ← J8 hil hb1 (hy.trans c), ← Lv z9 _ _ _ (by rw [CV]; exact hil)]
      have := C3 z9 (xG l b i)
      rw [CV] at this
      simp only [this, hf, UZ, U4, decide_true, AV.aC, AV.sc, Bool.and_true, Bool.true_and, show i * 2 + 2 ≤ l.length * 2 by omega]
      rfl
     rw [if_pos c] at ct
     have g2 : (h.set id ((xG l b (i + 1)).flatMap xK)).get id = some ((xG l b (i + 1)).flatMap xK) := by rw [wV rfl, hg]; rfl
     obtain ⟨h', r1, r2, r3, r4⟩ := D5 hl h0 rd id b hid hb1 hb m (i + 1) _ (by omega) (hx.set hid _) (by simpa using hf) g2
     have e1 : wF l b + (yw (l.take i) b : Int) + 1 = wF l b + (yw (l.take (i + 1)) b : Nat) := by rw [ct]; omega
     refine ⟨h', uy ?_ r1, r2, by rw [r3]; simp, r4⟩
     rw [← e1, n1]
     subst c
     clear r1 r2 r3 r4 g2 ct e1 hx
     generalize wF l b = F at *
     generalize yw (l.take i) b = K at *
     generalize (xG l b i).flatMap xK = CS at *
     generalize (xG l b (i + 1)).flatMap xK = CS2 at *
     simp (disch := omega) only [go_sem, wG, AP.f34L0, ln, b1, b2, hg, st]
   · rw [if_neg c, Nat.add_zero] at ct
     obtain ⟨h', r1, r2, r3, r4⟩ := D5 hl h0 rd id b hid hb1 hb m (i + 1) h (by omega) hx hf (by rw [IC (fun q => c (hy.symm.trans q))]; exact hg)
     rw [ct] at r1
     refine ⟨h', uy ?_ r1, r2, r3, r4⟩
     rw [n1]
     generalize wF l b = F at *
     generalize yw (l.take i) b = K at *
     simp (disch := omega) only [go_sem, wG, AP.f34L0, ln, b1, b2]
theorem Hq {x : AV} {l : List Int} (hl : l.length < 1000) (h0 : H) (rd : Rd h0 x (ints l)) (id : Nat) (hid : h0.next ≤ id) : ∀ (m b : Nat) (h : H) (F : Int), b + m = 16 → 1 ≤ b → F + F = wF l b → Ext h0 h → h.floor ≤ id → h.get id = some ((xG l b 0).flatMap xK) →
 ∃ e' h', Lp AP.A [0, 5, 6, 7] AP.f34L1 [(0, x), (5, .aF id 0 l.length 2), (6, .int .i64 F), (7, .int .i64 b)] h = some (.exit 0, e', h') ∧ look e' 5 = .aF id 0 l.length 2 ∧ h'.floor = h.floor ∧ h'.get id = some ((xG l 16 0).flatMap xK)
 | 0, b, h, F, hb, hb1, hF, hx, hf, hg => by
   obtain rfl : b = 16 := by omega
   refine ⟨[(0, x), (5, .aF id 0 l.length 2), (6, .int .i64 F), (7, .int .i64 16), (22, .bool false)], h, ux ?_, rfl, rfl, hg⟩
   simp (disch := omega) only [go_sem, wG, AP.f34L1]
 | m + 1, b, h, F, hb, hb1, hF, hx, hf, hg => by
   obtain ⟨h1, q1, q2, q3, q4⟩ := D5 hl h0 rd id b hid hb1 (by omega) l.length 0 h (by omega) hx hf hg
   rw [← ID] at q4
   have c0 : yw (l.take 0) b = 0 := by rw [List.take_zero]; exact Jj b
   rw [c0] at q1
   have fb := A4 (l := l) (by omega) b
   have pw := Bf (m := b) (by omega)
   have q1' : Lp AP.A [0, 5, 6, 7, 8] AP.f34L0 [(0, x), (5, .aF id 0 l.length 2), (6, .int .i64 (wF l b)), (7, .int .i64 b), (8, .int .i64 0)] h = some (.exit 2, [(0, x), (5, .aF id 0 l.length 2), (6, .int .i64 (wF l b + yw l b)), (7, .int .i64 b), (8, .int .i64 l.length), (30, .bool false)], h1) := by
    have e : (wF l b + ((0 : Nat) : Int)) = wF l b := by omega
    rw [e] at q1; exact q1
   obtain ⟨e', h', r1, r2, r3, r4⟩ := Hq hl h0 rd id hid m (b + 1) h1 (wF l b + yw l b) (by omega) (by omega) (by rw [wF]; omega) q2 (by omega) q4
   have n1 : ((b + 1 : Nat) : Int) = (b : Int) + 1 := by omega
   have n2 : 2 * F = wF l b := by omega
   have hFb : 0 ≤ F ∧ F < 100000000000 := by omega
   refine ⟨e', h', uy ?_ r1, r2, by omega, r4⟩
   rw [n1]
   clear q1 r1 r2 r3 r4 q4 hx rd
   generalize wF l b = G at *
   simp (disch := omega) only [go_sem, wG, AP.f34L1, n2, th, q1']
theorem BW : ∀ E : List (Int × Int), E.flatMap xK = ints (E.flatMap fun p => [p.1, p.2])
 | [] => rfl
 | p :: E => by rw [Va, Va, qx, BW E]; rfl
theorem Dv : ∀ n, yd n [.int .i64 0, .int .i64 0] = (List.replicate n ((0 : Int), (0 : Int))).flatMap xK
 | 0 => rfl
 | n + 1 => by
   have := Dv n
   unfold yd at *
   rw [eh, this, List.replicate_succ, Va]; rfl
def DX (l : List Int) : AV := AK 2 l.length ((wB l).flatMap xK)
theorem Ct (h : H) (x : AV) (l : List Int) (h1 : 1 ≤ l.length) (hl : l.length < 1000) (rd : Rd h x (ints l)) (hc : wP l = 0 ∨ wP l = 302) : aS AP.A 34 [x] h = some (.bU [DX l, .int .i64 0], h) := by
 have k := K8 h.ez x l (by omega) (rd.mono (wK h))
 simp only [I] at k
 have hr : ∀ y ∈ l, 0 ≤ y ∧ y < 16 := by
  refine C6 ?_
  unfold wP at hc
  by_cases q : BV l = false
  · rw [if_pos q] at hc; omega
  · simpa using q
 have EG : Rd h.ez x (ints l) := rd.mono (wK h)
 obtain ⟨g, eg⟩ : ∃ g, g = h.ez.alloc (yd l.length [.int .i64 0, .int .i64 0]) := ⟨_, rfl⟩
 have hn : h.ez.next = h.next := rfl
 have ex : Ext h.ez g := by rw [eg]; exact (Ext.refl _).alloc _
 have gg : g.get h.next = some ((xG l 1 0).flatMap xK) := by rw [eg, wO (by simp), Dv, IE]
 obtain ⟨e', h', r1, r2, r3, r4⟩ := Hq hl h.ez EG h.next (by simp) 15 1 g 0 (by omega) (by omega) (by simp [wF, yw]) ex (by rw [eg]; simp) gg
 have r1' : Lp AP.A [0, 5, 6, 7] AP.f34L1 [(0, x), (5, .aF h.next 0 l.length 2), (6, .int .i64 0), (7, .int .i64 1)] g = some (.exit 0, e', h') := r1
 have ln := rd.len
 rw [qy] at ln
 simp only [I] at ln
 rw [J7 hr] at r4
 have ce : (wB l).length = l.length := by simp [wB]
 have ow : wS 2 h' (.aF h.next 0 l.length 2) l.length ((wB l).flatMap xK) := ⟨by rw [C3 z9, ce], .inr ⟨h.next, rfl, r4, by rw [r3, eg]; simp, by omega⟩⟩
 have kk : (¬ wP l = 0 ∧ ¬ wP l = 302) = False := by simp; omega
 refine u7 (fn := AP.f34) (h2 := h') (e := [(2, .aF h.next 0 l.length 2), (3, .int .i64 0)]) (vs := [.aF h.next 0 l.length 2, .int .i64 0]) rfl rfl rfl ?_ rfl ?_
 · clear r1 r4 ow rd EG hr kk gg ex
   rcases hc with q | q
   · rw [q] at k
     simp (disch := omega) only [go_sem, wG, AP.f34, k, ln, ← eg, hn, th, r1', r2]
   · rw [q] at k
     simp (disch := omega) only [go_sem, wG, AP.f34, k, ln, ← eg, hn, th, r1', r2]
 · have o' := ow
   rw [BW] at o'
   have s1 := o'.yT (fl := h.next) (m := 13) (t := true) (by rw [r3, eg]; simp)
   show (fV (snap h'.get h.next 15 true) [.aF h.next 0 l.length 2, .int .i64 0]).bind _ = _
   simp only [fV, s1, vO]
   rw [← BW]; rfl
def xj (l : List Int) (least : Nat) : Nat → Nat
 | 0 => least
 | i + 1 => if i + 1 ≤ least then least else if 0 < l.getD i 0 then i + 1 else xj l least i
theorem Ge {x : AV} {l : List Int} (hl : l.length < 1000) (h : H) (rd : Rd h x (ints l)) (k : Nat) (hk : k < 1000) : ∀ i : Nat, i ≤ l.length →
 (∃ e', Lp AP.A [0, 1, 5] AP.f31L0 [(0, x), (1, .int .i64 k), (5, .int .i64 i)] h = some (.exit 0, e', h) ∧ look e' 1 = .int .i64 k ∧ xj l k i = k) ∨
 Lp AP.A [0, 1, 5] AP.f31L0 [(0, x), (1, .int .i64 k), (5, .int .i64 i)] h = some (.ret, [(4, .int .i64 (xj l k i : Nat))], h)
 | 0, hi => by
   refine .inl ⟨[(0, x), (1, .int .i64 k), (5, .int .i64 0), (10, .bool false)], ux ?_, rfl, rfl⟩
   simp (disch := omega) only [go_sem, wG, AP.f31L0]
 | i + 1, hi => by
   by_cases c : i + 1 ≤ k
   · refine .inl ⟨[(0, x), (1, .int .i64 k), (5, .int .i64 (i + 1 : Nat)), (10, .bool false)], ux ?_, rfl, by rw [xj, if_pos c]⟩
     simp (disch := omega) only [go_sem, wG, AP.f31L0]
   · obtain ⟨ad, a1, a2⟩ := rd.xZ
     have b1 := a1 i ⟨by omega, by omega⟩
     have lg : l[i]? = some (l.getD i 0) := by rw [U3, U6 (by omega)]; rfl
     have b2 := a2 h (Ext.refl h) i _ lg
     have n1 : ((i + 1 : Nat) : Int) - 1 = (i : Int) := by omega
     rw [xj, if_neg c]
     generalize hy : l.getD i 0 = y at *
     by_cases c2 : 0 < y
     · rw [if_pos c2]
       refine .inr (uT ?_)
       simp (disch := omega) only [go_sem, wG, AP.f31L0, n1, b1, b2]
     · rw [if_neg c2]
       have step : aM (aS AP.A) bG AP.f31L0 (ay [(0, x), (1, .int .i64 k), (5, .int .i64 (i + 1 : Nat))] [0, 1, 5]) h = some (.normal, [(0, x), (1, .int .i64 k), (5, .int .i64 i)], h) := by
        simp (disch := omega) only [go_sem, wG, AP.f31L0, n1, b1, b2]
       rcases Ge hl h rd k hk i (by omega) with ⟨e', r1, r2, r3⟩ | r1
       · exact .inl ⟨e', uy step r1, r2, r3⟩
       · exact .inr (uy step r1)
theorem I9 (h : H) (x : AV) (l : List Int) (hl : l.length < 1000) (rd : Rd h x (ints l)) (k : Nat) (hk : k < 1000) : aS AP.A 31 [x, .int .i64 k] h = some (.int .i64 (xj l k l.length : Nat), h) := by
 have ln := rd.len
 rw [qy] at ln
 simp only [I] at ln
 have EG : Rd h.ez x (ints l) := rd.mono (wK h)
 rcases Ge hl h.ez EG k hk l.length (vR _) with ⟨e', r1, r2, r3⟩ | r1
 · rw [r3]
   refine u7 (fn := AP.f31) (h2 := h.ez) (e := [(4, .int .i64 k)]) rfl rfl rfl ?_ rfl rfl
   simp (disch := omega) only [go_sem, wG, AP.f31, ln, th, r1, r2]
 · refine u7 (fn := AP.f31) (h2 := h.ez) (e := [(4, .int .i64 (xj l k l.length : Nat))]) rfl rfl rfl ?_ rfl rfl
   generalize xj l k l.length = U at *
   simp (disch := omega) only [go_sem, wG, AP.f31, ln, th, r1]
structure WX (h0 h : H) (w : Nat) (bs : List Nat) (ov : AV) : Prop where
 wr : Wr h w bs ov
 ext : Ext h0 h
 lw : h0.next ≤ w
 ln : h0.next ≤ h.next
 lo : ∀ j, ov.id? = some j → h0.next ≤ j
theorem WX.step {h0 h h' : H} {w : Nat} {bs bs' : List Nat} {ov ov' : AV} (x : WX h0 h w bs ov) (wr : Wr h' w bs' ov') (f : G3 h w ov h' ov') : WX h0 h' w bs' ov' :=
 ⟨wr, fun i c hi => by
  have := h0.lt _ _ hi
  have := x.ln
  have := x.lw
  rw [f.xU i (by omega) (by omega) (fun q => by have := x.lo i q; omega), x.ext i c hi], x.lw, by have := f.next; have := x.ln; omega, fun j hj => by
  rcases f.ids j hj with q | q
  · exact x.lo j q
  · have := x.ln; omega⟩
theorem WX.turn {h0 h h' : H} {w : Nat} {bs : List Nat} {ov : AV} (x : WX h0 h w bs ov) (hf : h'.floor = h.floor) (hn : h.next ≤ h'.next) (hk : ∀ i, i < h.next → h'.get i = h.get i) : WX h0 h' w bs ov :=
 ⟨⟨by rw [hk w (h.lt _ _ x.wr.get), x.wr.get], x.wr.own.mono hf fun i q => hk i (x.wr.own.lt q).2, by rw [hf]; exact x.wr.fl, by rw [hf]; exact wk x.wr.KP hn, x.wr.ne, x.wr.NS⟩,
   fun i c hi => by have := h0.lt _ _ hi; have := x.ln; rw [hk i (by omega), x.ext i c hi], x.lw, wk x.ln hn, x.lo⟩
def Ez (E : List (Int × Int)) (s : Nat) : Prop := ∃ n v : Nat, E[s]? = some ((n : Int), (v : Int)) ∧ 1 ≤ n ∧ n ≤ 15 ∧ v < 2 ^ n
def wL (E : List (Int × Int)) (s : Nat) : List Nat := zk (E.getD s (0, 0)).2.toNat (E.getD s (0, 0)).1.toNat
theorem Ez.bits {E : List (Int × Int)} {s : Nat} (o : Ez E s) : ∃ n v : Nat, E[s]? = some ((n : Int), (v : Int)) ∧ 1 ≤ n ∧ n ≤ 15 ∧ v < 2 ^ n ∧ wL E s = zk v n := by
 obtain ⟨n, v, h, h1, h2, h3⟩ := o
 refine ⟨n, v, h, h1, h2, h3, ?_⟩
 unfold wL
 rw [U3, h]; rfl
theorem Ez.lt {E : List (Int × Int)} {s : Nat} (o : Ez E s) : s < E.length := by
 obtain ⟨n, v, h, _⟩ := o
 exact (vN.1 h).1
theorem zE.JJ {h : H} {v : AV} {E : List (Int × Int)} (r : zE 2 h v E.length (E.flatMap xK)) : ∃ ad : Int → AV,
 (∀ i : Int, 0 ≤ i ∧ i < E.length → gG 2 v (.int .i64 i) = some (ad i)) ∧
 ∀ g : H, Ext h g → ∀ (i : Nat) (p : Int × Int), E[i]? = some p → cJ true 2 (ad i) g = some (.agg [.int .i64 p.1, .int .i64 p.2]) := by
 obtain ⟨ad, a1, a2, _, a3⟩ := r.at_
 refine ⟨fun i => ad i 0, a1, fun g hg i t ht => ?_⟩
 obtain ⟨b1, b2⟩ := a3 g hg
 have hi : i < E.length := (vN.1 ht).1
 have hI : (0 : Int) ≤ (i : Int) ∧ (i : Int) < E.length := ⟨by omega, by omega⟩
 have ti : ((i : Int)).toNat = i := by omega
 rw [b2 i hI, ti, Gt z9 ht]; rfl
def xc (E D : List (Int × Int)) (t : Tok) : List Nat :=
 if t.len = 0 then wL E t.lit.toNat
 else wL E (xJ t.len.toNat) ++ (wW (AG t.len.toNat) (zY t.len.toNat) ++ (wL D (xX t.w8.toNat) ++ wW (AF t.w8.toNat) (zU t.w8.toNat)))
def xM (E D : List (Int × Int)) (ts : List Tok) : List Nat := ts.flatMap (xc E D)
def KQ (E D : List (Int × Int)) (t : Tok) : Prop :=
 (t.len = 0 ∧ 0 ≤ t.lit ∧ Ez E t.lit.toNat) ∨ (3 ≤ t.len ∧ t.len ≤ 258 ∧ 1 ≤ t.w8 ∧ t.w8 ≤ 32768 ∧ Ez E (xJ t.len.toNat) ∧ Ez D (xX t.w8.toNat))
theorem Gz {k : Nat} (h1 : 3 ≤ k) (h2 : k ≤ 258) : zY k ≤ 5 ∧ AG k < 2 ^ zY k := by
 obtain ⟨a1, a2, a3, a4⟩ := z8 h1 h2
 obtain ⟨a, b, hab⟩ := BS a1 a2
 have := Ek hab
 refine ⟨by unfold zY; rw [hab]; show b ≤ 5; omega, ?_⟩
 unfold AG zY; omega
theorem Gn {k : Nat} (h1 : 1 ≤ k) (h2 : k ≤ 32768) : zU k ≤ 13 ∧ AF k < 2 ^ zU k := by
 obtain ⟨a2, a3, a4⟩ := zV h1 h2
 obtain ⟨a, b, hab⟩ := AO a2
 have := CZ hab
 refine ⟨by unfold zU; rw [hab]; show b ≤ 13; omega, ?_⟩
 unfold AF zU; omega
theorem DC {E D : List (Int × Int)} {t : Tok} (o : KQ E D t) : (xc E D t).length ≤ 48 := by
 rcases o with ⟨h1, h2, h3⟩ | ⟨h1, h2, h3, h4, h5, h6⟩
 · obtain ⟨n, v, _, q1, q2, q3, q4⟩ := h3.bits
   rw [xc, if_pos h1, q4, xm]; omega
 · obtain ⟨n, v, _, q1, q2, q3, q4⟩ := h5.bits
   obtain ⟨n', v', _, q1', q2', q3', q4'⟩ := h6.bits
   have l := Gz (k := t.len.toNat) (by omega) (by omega)
   have d := Gn (k := t.w8.toNat) (by omega) (by omega)
   rw [xc, if_neg (by omega), q4, q4']
   simp only [wo, xm, wW, xb]; omega
theorem KJ {v lv dv : AV} {ts : List Tok} {E D : List (Int × Int)} (hn : ts.length < 1000000) (h0 : H) (rd : zE 3 h0 v ts.length (xw ts)) (rl : zE 2 h0 lv E.length (E.flatMap xK)) (rx : zE 2 h0 dv D.length (D.flatMap xK)) (w i : Nat) (t : Tok) (ht : ts[i]? = some t) (o : KQ E D t) (h : H) (bs : List Nat) (ov : AV) (x : WX h0 h w bs ov) (hb : bs.length + 48 ≤ 65000) :
 ∃ h' ov', aM (aS AP.A) bG AP.f36L0 (ay [(0, .aE w 0), (1, v), (2, lv), (3, dv), (8, .int .i64 i)] [0, 1, 2, 3, 8]) h = some (.normal, [(0, .aE w 0), (1, v), (2, lv), (3, dv), (8, .int .i64 (i + 1 : Nat))], h') ∧ WX h0 h' w (bs ++ xc E D t) ov' := by
 have ln := rd.len
 obtain ⟨ad, a1, a2, a3⟩ := rd.KH
 have hi : i < ts.length := (vN.1 ht).1
 have hI : (0 : Int) ≤ (i : Int) ∧ (i : Int) < ts.length := ⟨by omega, by omega⟩
 have b1 := a1 _ hI
 have b2 := a2 i 0 1 hI
 have b20 := a2 i 0 0 hI
 have b22 := a2 i 0 2 hI
 obtain ⟨b3, b4, b5, _⟩ := a3 h x.ext _ _ ht
 obtain ⟨le, l1, l2⟩ := rl.JJ
 have n1 : ((i + 1 : Nat) : Int) = (i : Int) + 1 := by omega
 rcases o with ⟨c0, h2, h3⟩ | ⟨h1, h2, h3, h4, h5, h6⟩
 · obtain ⟨y, hy⟩ : ∃ y : Nat, t.lit = y := U9 h2
   have yt : t.lit.toNat = y := by omega
   have yl := h3.lt
   obtain ⟨n, c, q0, q1, q2, q3, q4⟩ := h3.bits
   rw [yt] at q0 q4 yl
   have e1 := l1 y ⟨by omega, by omega⟩
   have e2 := l2 h x.ext _ _ q0
   obtain ⟨h', ov', k1, k2, k3⟩ := CR x.wr c n q1 q2 q3 (by omega)
   rw [hy] at b3
   rw [c0] at b4
   refine ⟨h', ov', ?_, ?_⟩
   · rw [n1]
     clear rd rl rx a1 a2 a3 l1 l2 x k2 k3 q4 b5 h3 ht q3
     simp (disch := omega) only [go_sem, wG, AP.f36L0, ln, b1, b2, b20, b3, b4, e1, e2, k1]
   · rw [xc, if_pos c0, yt, q4]
     exact x.step k2 k3
 · obtain ⟨L, hL⟩ : ∃ y : Nat, t.len = y := U9 (by omega)
   obtain ⟨K, hK⟩ : ∃ y : Nat, t.w8 = y := U9 (by omega)
   have Lt : t.len.toNat = L := by omega
   have Kt : t.w8.toNat = K := by omega
   rw [Lt] at h5
   rw [Kt] at h6
   have lb := Gz (k := L) (by omega) (by omega)
   have db := Gn (k := K) (by omega) (by omega)
   obtain ⟨de, d1, d2⟩ := rx.JJ
   have ll := h5.lt
   have dl := h6.lt
   obtain ⟨n, c, q0, q1, q2, q3, q4⟩ := h5.bits
   obtain ⟨n', c', p0, p1, p2, p3, p4⟩ := h6.bits
   have kl : ∀ g : H, aS AP.A 28 [.int .i64 L] g = _ := fun g => HL g L (by omega) (by omega)
   have kd : ∀ g : H, aS AP.A 29 [.int .i64 K] g = _ := fun g => Lh g K (by omega) (by omega)
   have e1 := l1 (xJ L) ⟨by omega, by omega⟩
   have f1 := d1 (xX K) ⟨by omega, by omega⟩
   obtain ⟨h1', eh1⟩ : ∃ g, g = (h.alloc [.int .i64 0, .int .i64 0, .int .i64 0]).set h.next [.int .i64 (xJ L : Nat), .int .i64 (zY L : Nat), .int .i64 (AG L : Nat)] := ⟨_, rfl⟩
   have x1 : WX h0 h1' w bs ov := x.turn (by rw [eh1]; simp) (by rw [eh1]; simp) fun j hj => by rw [eh1, wI (by omega), w9 (by omega)]
   have g1 : h1'.get h.next = some [.int .i64 (xJ L : Nat), .int .i64 (zY L : Nat), .int .i64 (AG L : Nat)] := by rw [eh1, wV rfl, wO rfl]; rfl
   have nx1 : h1'.next = h.next + 1 := by rw [eh1]; simp
   have e2 := l2 h1' x1.ext _ _ q0
   obtain ⟨h2', o2, k1, k2, k3⟩ := CR x1.wr c n q1 q2 q3 (by omega)
   have x2 := x1.step k2 k3
   have hw := h.lt _ _ x.wr.get
   have hon : ov.id? ≠ some h.next := fun q => by have := (x.wr.own.lt q).2; omega
   have g2 : h2'.get h.next = _ := (k3.xU h.next (by omega) (by omega) hon).trans g1
   obtain ⟨h3', o3, k4, k5, k6⟩ := zC x2.wr (AG L) (zY L) (by omega) lb.2 (by simp [xm]; omega)
   have x3 := x2.step k5 k6
   have nx3 : h1'.next ≤ h3'.next := wk k3.next k6.next
   obtain ⟨_, _, b5', _⟩ := a3 h3' x3.ext _ _ ht
   obtain ⟨h4, eh4⟩ : ∃ g, g = (h3'.alloc [.int .i64 0, .int .i64 0, .int .i64 0]).set h3'.next [.int .i64 (xX K : Nat), .int .i64 (zU K : Nat), .int .i64 (AF K : Nat)] := ⟨_, rfl⟩
   have x4 : WX h0 h4 w _ o3 := x3.turn (h' := h4) (by rw [eh4]; simp) (by rw [eh4]; simp) fun j hj => by rw [eh4, wI (by omega), w9 (by omega)]
   have g4 : h4.get h3'.next = some [.int .i64 (xX K : Nat), .int .i64 (zU K : Nat), .int .i64 (AF K : Nat)] := by rw [eh4, wV rfl, wO rfl]; rfl
   have f2 := d2 h4 x4.ext _ _ p0
   obtain ⟨h5', o5, m1, m2, m3⟩ := CR x4.wr c' n' p1 p2 p3 (by simp [xm, wW, xb]; omega)
   have x5 := x4.step m2 m3
   have hw3 := h3'.lt _ _ x3.wr.get
   have hon3 : o3.id? ≠ some h3'.next := fun q => by have := (x3.wr.own.lt q).2; omega
   have g5 : h5'.get h3'.next = _ := (m3.xU h3'.next (by rw [eh4]; simp) (by omega) hon3).trans g4
   obtain ⟨h6', o6, m4, m5, m6⟩ := zC x5.wr (AF K) (zU K) (by omega) db.2 (by simp [xm, wW, xb]; omega)
   have x6 := x5.step m5 m6
   rw [hL] at b4
   rw [hK] at b5'
   have fl1 : h.floor ≤ h.next := x.wr.KP
   have fl3 : h3'.floor ≤ h3'.next := x3.wr.KP
   have cL : ¬ (L : Int) = 0 := by omega
   refine ⟨h6', o6, ?_, ?_⟩
   · rw [n1]
     clear rd rl rx a1 a2 a3 l1 l2 d1 d2 x x1 x2 x3 x4 x5 x6 k2 k3 k5 k6 m2 m3 m5 m6 q4 p4 b5 h5 h6 ht b3 hon hon3 lb db p3 q3 hI hb
     generalize xJ L = S at *
     generalize zY L = B at *
     generalize AG L = V at *
     generalize xX K = S' at *
     generalize zU K = B' at *
     generalize AF K = V' at *
     simp (disch := omega) only [go_sem, wG, AP.f36L0, ln, b1, b2, b22, b4, b5', e1, e2, f1, f2, kl, kd, cL, ← eh1, ← eh4, g1, g2, g4, g5, k1, k4, m1, m4]
   · rw [xc, if_neg (by omega), Lt, Kt, q4, p4]
     rw [Vb, Vb, Vb] at x6
     exact x6
theorem F9 {E D : List (Int × Int)} : ∀ {ts : List Tok}, (∀ t ∈ ts, KQ E D t) → (xM E D ts).length ≤ 48 * ts.length
 | [], _ => by simp [xM]
 | t :: ts, h => by
   have a := DC (h t (by simp))
   have b := F9 (E := E) (D := D) (ts := ts) fun u hu => h u (by simp [hu])
   unfold xM at *
   simp only [Va, wo, UZ]; omega
theorem Gb {v lv dv : AV} {ts : List Tok} {E D : List (Int × Int)} (hn : ts.length < 1000000) (h0 : H) (rd : zE 3 h0 v ts.length (xw ts)) (rl : zE 2 h0 lv E.length (E.flatMap xK)) (rx : zE 2 h0 dv D.length (D.flatMap xK)) (ok : ∀ t ∈ ts, KQ E D t) (w : Nat) : ∀ (q p : List Tok) (bs : List Nat) (h : H) (ov : AV), ts = p ++ q → WX h0 h w bs ov → bs.length + 48 * q.length ≤ 65000 →
 ∃ e' h' ov', Lp AP.A [0, 1, 2, 3, 8] AP.f36L0 [(0, .aE w 0), (1, v), (2, lv), (3, dv), (8, .int .i64 p.length)] h = some (.exit 0, e', h') ∧ look e' 0 = .aE w 0 ∧ look e' 2 = lv ∧ WX h0 h' w (bs ++ xM E D q) ov'
 | [], p, bs, h, ov, hp, x, hb => by
   rw [Vm] at hp; subst hp
   have ln := rd.len
   refine ⟨[(0, .aE w 0), (1, v), (2, lv), (3, dv), (8, .int .i64 ts.length), (16, .bool false)], h, ov, ux ?_, rfl, rfl, by simpa [xM] using x⟩
   simp (disch := omega) only [go_sem, wG, AP.f36L0, ln]
 | t :: q, p, bs, h, ov, hp, x, hb => by
   have ht : ts[p.length]? = some t := by rw [hp]; simp
   have o := ok t (vV ht)
   have tl := DC o
   simp only [UZ] at hb
   obtain ⟨h1, o1, s1, x1⟩ := KJ hn h0 rd rl rx w p.length t ht o h bs ov x (by omega)
   have hlen : (((p ++ [t]).length : Nat) : Int) = ((p.length + 1 : Nat) : Int) := by simp
   obtain ⟨e', h', ov', r1, r2, r3, r4⟩ := Gb hn h0 rd rl rx ok w q (p ++ [t]) _ h1 o1 (by rw [hp]; simp) x1 (by simp; omega)
   rw [hlen] at r1
   refine ⟨e', h', ov', uy s1 r1, r2, r3, ?_⟩
   have e : bs ++ xM E D (t :: q) = bs ++ xc E D t ++ xM E D q := by unfold xM; rw [Va, Vb]
   rw [e]; exact r4
theorem My {v lv dv : AV} {ts : List Tok} {E D : List (Int × Int)} (hn : ts.length < 1000000) (h0 : H) (rd : zE 3 h0 v ts.length (xw ts)) (rl : zE 2 h0 lv E.length (E.flatMap xK)) (rx : zE 2 h0 dv D.length (D.flatMap xK)) (ok : ∀ t ∈ ts, KQ E D t) (o256 : Ez E 256) (w : Nat) (bs : List Nat) (h : H) (ov : AV) (x : WX h0 h w bs ov) (hb : bs.length + 48 * ts.length ≤ 65000) :
 ∃ h' ov', aS AP.A 36 [.aE w 0, v, lv, dv] h = some (.bU [], h') ∧ WX h0 h' w (bs ++ (xM E D ts ++ wL E 256)) ov' := by
 obtain ⟨e', h1, o1, r1, r2, r3, x1⟩ := Gb hn h0 rd rl rx ok w ts [] bs h ov rfl x hb
 have r1' : Lp AP.A [0, 1, 2, 3, 8] AP.f36L0 [(0, .aE w 0), (1, v), (2, lv), (3, dv), (8, .int .i64 0)] h = some (.exit 0, e', h1) := r1
 obtain ⟨n, c, q0, q1, q2, q3, q4⟩ := o256.bits
 obtain ⟨le, l1, l2⟩ := rl.JJ
 have ll := o256.lt
 have e1 := l1 256 ⟨by omega, by omega⟩
 have e2 : cJ true 2 (le 256) h1 = _ := l2 h1 x1.ext _ _ q0
 have tb := F9 ok
 obtain ⟨h', ov', k1, k2, k3⟩ := CR x1.wr c n q1 q2 q3 (by rw [wo]; omega)
 have x2 := x1.step k2 k3
 rw [← q4, Vb] at x2
 obtain ⟨e2', he⟩ : ∃ e2', aM (aS AP.A) bG AP.f36.body (params 0 [.aE w 0, v, lv, dv]) h = some (.normal, e2', h') := by
  clear rd rl rx x x1 k2 k3 x2 q4 l1 l2 ok o256 r1
  refine ⟨?_, ?_⟩
  rotate_left
  · simp (disch := omega) only [go_sem, wG, AP.f36, th, r1', r2, r3, e1, e2, k1]
    rfl
 exact ⟨h', ov', xH (fn := AP.f36) (e := e2') (vs := []) rfl rfl rfl he rfl, x2⟩
structure Ro (h : H) (f : Nat) (vs : List AV) (cs : List (List AV)) : Prop where
 get : h.get f = some vs
 own : ∀ (i : Nat) (v : AV) (c : List AV), vs[i]? = some v → cs[i]? = some c → wS 1 h v c.length c
 len : vs.length = cs.length
 ne : ∀ (i : Nat) (v : AV), vs[i]? = some v → v.id? ≠ some f
 MF : ∀ (i j : Nat) (v u : AV), i ≠ j → vs[i]? = some v → vs[j]? = some u → ∀ id, v.id? = some id → u.id? ≠ some id
 fl : h.floor ≤ f
 KP : h.floor ≤ h.next
structure Lo (h h' : H) : Prop where
 floor : h'.floor = h.floor
 next : h.next ≤ h'.next
 xU : ∀ i, i < h.floor → h'.get i = h.get i
theorem Lo.refl (h : H) : Lo h h := ⟨rfl, vR _, fun _ _ => rfl⟩
theorem Lo.trans {a b c : H} (x : Lo a b) (y : Lo b c) : Lo a c := ⟨y.floor.trans x.floor, wk x.next y.next, fun i hi => (y.xU i (by rw [x.floor]; exact hi)).trans (x.xU i hi)⟩
theorem Ext.lo {h0 a b : H} (x : Ext h0 a) (y : Lo a b) (hf : a.floor = h0.next) : Ext h0 b := fun i c hi => by
 rw [y.xU i (by rw [hf]; exact h0.lt _ _ hi), x i c hi]
theorem Ro.push {h : H} {f : Nat} {vs : List AV} {cs : List (List AV)} (r : Ro h f vs cs) (k : Nat) {v : AV} {c : List AV} (hv : vs[k]? = some v) (hc : cs[k]? = some c) (x : AV) (sc : x.sc = true) {z : Nat} (hz : roomy z (c.length + 1) = true) :
 ∃ v' h1, lL (h.alloc [x]) 1 z v (.aF h.next 0 1 1) = some (v', h1) ∧ h1.get f = some vs ∧ h1.floor = h.floor ∧ Ro (h1.set f (vs.set k v')) f (vs.set k v') (cs.set k (c ++ [x])) ∧ Lo h (h1.set f (vs.set k v')) := by
 have o := r.own k v c hv hc
 have hfl := h.lt _ _ r.get
 obtain ⟨v', h1, p1, p2, p3, p4, p5, p6⟩ := o.push r.KP (z := z) (m := 1) (by omega) (by omega) [x] rfl (by simp [AV.aC, sc]) hz
 have hk : k < vs.length := (vN.1 hv).1
 have gf : h1.get f = some vs := by rw [p5 f (r.ne k v hv) hfl, r.get]
 have key : ∀ (i : Nat) (u : AV), (vs.set k v')[i]? = some u → (i = k ∧ u = v') ∨ (i ≠ k ∧ vs[i]? = some u) := by
  intro i u hu
  by_cases e : k = i
  · subst e
    rw [Vh, if_pos rfl, if_pos hk] at hu
    exact .inl ⟨rfl, (vG hu).symm⟩
  · rw [Vh, if_neg e] at hu
    exact .inr ⟨fun q => e q.symm, hu⟩
 have jb : ∀ (i : Nat) (u : AV), vs[i]? = some u → ∀ id, u.id? = some id → id < h.next := by
  intro i u hu id hid
  have hi : i < cs.length := by rw [← r.len]; exact (vN.1 hu).1
  exact ((r.own i u _ hu (U6 hi)).lt hid).2
 refine ⟨v', h1, p1, gf, p3, ⟨?_, ?_, ?_, ?_, ?_, ?_, ?_⟩, ⟨by simp [p3], by simp; omega, ?_⟩⟩
 · rw [wV rfl, gf]; rfl
 · intro i u d hu hd
   rcases key i u hu with ⟨rfl, rfl⟩ | ⟨hne, hu⟩
   · rw [Vh, if_pos rfl, if_pos (by rw [← r.len]; exact hk)] at hd
     obtain rfl := vG hd
     have : (c ++ [x]).length = c.length + 1 := by simp
     rw [this]
     exact p2.mono (by simp) fun j hj => by rw [wI]; rw [p6] at hj; have := vG hj; omega
   · rw [Vh, if_neg (fun q => hne q.symm)] at hd
     exact (r.own i u d hu hd).mono (by simp [p3]) fun j hj => by
      rw [wI (fun q => r.ne i u hu (by rw [hj, q])), p5 j (fun q => r.MF i k u v hne hu hv j hj q) (jb i u hu j hj)]
 · simp [r.len]
 · intro i u hu
   rcases key i u hu with ⟨rfl, rfl⟩ | ⟨hne, hu⟩
   · rw [p6]; intro q; have := vG q; omega
   · exact r.ne i u hu
 · intro i j u w hij hu hw id hid
   rcases key i u hu with ⟨e1, e2⟩ | ⟨hne, hu2⟩
   · rcases key j w hw with ⟨e3, e4⟩ | ⟨hne2, hw2⟩
     · exact absurd (e1.trans e3.symm) hij
     · intro q; have := jb j w hw2 id q; rw [e2, p6] at hid; have := vG hid; omega
   · rcases key j w hw with ⟨e3, e4⟩ | ⟨hne2, hw2⟩
     · intro q; have := jb i u hu2 id hid; rw [e4, p6] at q; have := vG q; omega
     · exact r.MF i j u w hij hu2 hw2 id hid
 · simpa [p3] using r.fl
 · simp [p3]; have := r.KP; omega
 · intro i hi
   have := r.fl
   rw [wI (by omega), p5 i (fun q => by have := (o.lt q).1; omega) (by have := r.KP; omega)]
theorem Ro.put {h : H} {f : Nat} {vs : List AV} {cs : List (List AV)} (r : Ro h f vs cs) (k i : Nat) {v : AV} {c : List AV} (hv : vs[k]? = some v) (hc : cs[k]? = some c) (x : AV) (sc : x.sc = true) (hi : i < c.length) :
 ∃ id, v = .aF id 0 c.length 1 ∧ h.get id = some c ∧ h.floor ≤ id ∧ id ≠ f ∧ (∀ (j : Nat) (u : AV), j ≠ k → vs[j]? = some u → u.id? ≠ some id) ∧ Ro (h.set id (c.set i x)) f vs (cs.set k (c.set i x)) ∧ Lo h (h.set id (c.set i x)) := by
 have o := r.own k v c hv hc
 rcases o.2 with ⟨_, q⟩ | ⟨id, q1, q2, q3, q4⟩
 · omega
 have hid : v.id? = some id := by rw [q1]; rfl
 have hne : id ≠ f := fun q => r.ne k v hv (by rw [hid, q])
 have hk : k < vs.length := (vN.1 hv).1
 refine ⟨id, q1, q2, q3, hne, fun j u hj hu q => r.MF j k u v hj hu hv id q hid, ⟨?_, ?_, ?_, r.ne, r.MF, by simpa using r.fl, by simpa using r.KP⟩, ⟨by simp, by simp, fun j hj => by rw [wI (by omega)]⟩⟩
 · rw [wI hne.symm, r.get]
 · intro j u d hu hd
   by_cases e : k = j
   · subst e
     rw [hv] at hu
     obtain rfl := vG hu
     rw [Vh, if_pos rfl, if_pos (by rw [← r.len]; exact hk)] at hd
     obtain rfl := vG hd
     have lc : (c.set i x).length = c.length := Vi
     rw [lc]
     exact ⟨by omega, .inr ⟨id, q1, by rw [wV rfl, q2]; rfl, by simpa using q3, q4⟩⟩
   · rw [Vh, if_neg e] at hd
     exact (r.own j u d hu hd).mono (by simp) fun m hm => by rw [wI]; intro q; subst q; exact r.MF j k u v (fun q => e q.symm) hu hv m hm hid
 · simp [r.len]
def Ff (F : List Bool) : List AV := F.map .bool
theorem Cc (F : List Bool) : (Ff F).length = F.length := by simp [Ff]
theorem MS {F : List Bool} {i : Nat} {b : Bool} (h : F[i]? = some b) : (Ff F)[i]? = some (.bool b) := by simp [Ff, h]
abbrev NW (W U : List Int) (F : List Bool) : List (List AV) := [ints W, ints U, Ff F]
theorem wS.cells {n : Nat} {h : H} {v : AV} {k : Nat} {cs : List AV} (o : wS n h v k cs) : v.cells = [v] := by
 rcases o.2 with ⟨e, _⟩ | ⟨id, e, _⟩ <;> rw [e] <;> rfl
theorem Lm {h : H} {f : Nat} {W U : List Int} {F : List Bool} {wv uv fv : AV} (r : Ro h f [wv, uv, fv] (NW W U F)) (x : Int) (hl : W.length < 100000 ∧ U.length < 100000 ∧ F.length < 100000) :
 ∃ h' wv' uv' fv', aS AP.A 70 [.aE f 0, .int .i64 x] h = some (.bU [], h') ∧ Ro h' f [wv', uv', fv'] (NW (W ++ [x]) (U ++ [-1]) (F ++ [true])) ∧ Lo h h' := by
 have rz : ∀ n z, n < 100000 → 1 ≤ z → z ≤ 8 → roomy z (n + 1) = true := fun n z h1 h2 h3 => yh ⟨h2, by
  have : (n + 1 + (n + 1) / 4 + 512) * z ≤ 1000000 * 8 := Nat.mul_le_mul (by omega) h3
  omega⟩
 obtain ⟨v1, h1, a1, a2, a3, a4, a5⟩ := r.push 0 rfl rfl (.int .i64 x) rfl (z := 8) (rz _ _ (by rw [qy]; exact hl.1) (by omega) (by omega))
 simp only [List.set_cons_zero] at a4 a5
 obtain ⟨g1, eg1⟩ : ∃ g, g = h1.set f [v1, uv, fv] := ⟨_, rfl⟩
 rw [← eg1] at a4 a5
 obtain ⟨v2, h2, b1, b2, b3, b4, b5⟩ := a4.push 1 rfl rfl (.int .i64 (-1)) rfl (z := 8) (rz _ _ (by rw [qy]; exact hl.2.1) (by omega) (by omega))
 simp only [List.set_cons_succ, List.set_cons_zero] at b4 b5
 obtain ⟨g2, eg2⟩ : ∃ g, g = h2.set f [v1, v2, fv] := ⟨_, rfl⟩
 rw [← eg2] at b4 b5
 obtain ⟨v3, h3, c1, c2, c3, c4, c5⟩ := b4.push 2 rfl rfl (.bool true) rfl (z := 1) (rz _ _ (by rw [Cc]; exact hl.2.2) (by omega) (by omega))
 simp only [List.set_cons_succ, List.set_cons_zero] at c4 c5
 obtain ⟨g3, eg3⟩ : ∃ g, g = h3.set f [v1, v2, v3] := ⟨_, rfl⟩
 rw [← eg3] at c4 c5
 have e : NW (W ++ [x]) (U ++ [-1]) (F ++ [true]) = [ints W ++ [.int .i64 x], ints U ++ [.int .i64 (-1)], Ff F ++ [.bool true]] := by
  unfold NW Ff; rw [qx, qx, List.map_append]; rfl
 have gf := r.get
 have gf1 := a4.get
 have gf2 := b4.get
 have f1 : h1.floor ≤ f := by have := r.fl; omega
 have f2 : h2.floor ≤ f := by have := a4.fl; omega
 have f3 : h3.floor ≤ f := by have := b4.fl; omega
 have k1 := (a4.own 0 _ _ rfl rfl).cells
 have k2 := (b4.own 1 _ _ rfl rfl).cells
 have k3 := (c4.own 2 _ _ rfl rfl).cells
 have s1 : v1.sc = true := (a4.own 0 _ _ rfl rfl).sc
 have s2 : v2.sc = true := (b4.own 1 _ _ rfl rfl).sc
 have s3 : v3.sc = true := (c4.own 2 _ _ rfl rfl).sc
 refine ⟨g3, v1, v2, v3, xH (fn := AP.f70) (e := []) (vs := []) rfl rfl rfl ?_ rfl, by rw [e]; exact c4, a5.trans (b5.trans c5)⟩
 clear a4 a5 b4 b5 c4 c5 r e rz
 simp (disch := omega) only [go_sem, wG, AP.f70, gf, gf1, gf2, a1, a2, b1, b2, c1, c2, s1, s2, s3, k1, k2, k3, f1, f2, f3, ← eg1, ← eg2, ← eg3]
def xF (W : List Int) (F : List Bool) : Nat → Nat → Int → Int
 | 0, _, a => a
 | m + 1, i, a => xF W F m (i + 1) (if F.getD i false = true ∧ (a < 0 ∨ W.getD i 0 < W.getD a.toNat 0) then i else a)
theorem BQ {W : List Int} {F : List Bool} {n : Nat} : ∀ (m i : Nat) (a : Int), i + m = n → (a = -1 ∨ (0 ≤ a ∧ a < n)) → (xF W F m i a = -1 ∨ (0 ≤ xF W F m i a ∧ xF W F m i a < n))
 | 0, i, a, _, h => h
 | m + 1, i, a, hi, h => by
   rw [xF]
   refine BQ m (i + 1) _ (by omega) ?_
   split
   · right; omega
   · exact h
theorem Dl {h : H} {f iw ifr n : Nat} {uv : AV} {W : List Int} {F : List Bool} (gf : h.get f = some [.aF iw 0 n 1, uv, .aF ifr 0 n 1]) (gw : h.get iw = some (ints W)) (gb : h.get ifr = some (Ff F)) (hW : W.length = n) (hF : F.length = n) (hn : n < 100000) : ∀ (m i : Nat) (a : Int), i + m = n → (a = -1 ∨ (0 ≤ a ∧ a < n)) →
 Lp AP.A [0, 3, 4] AP.f71L0 [(0, .aE f 0), (3, .int .i64 a), (4, .int .i64 i)] h = some (.exit 0, [(0, .aE f 0), (3, .int .i64 (xF W F m i a)), (4, .int .i64 n), (11, .bool false)], h)
 | 0, i, a, hi, ha => by
   obtain rfl : i = n := by omega
   refine ux ?_
   rw [xF]
   simp (disch := omega) only [go_sem, wG, AP.f71L0, gf]
 | m + 1, i, a, hi, ha => by
   have lw : (ints W).length = n := by rw [qy, hW]
   have lb : (Ff F).length = n := by rw [Cc, hF]
   have n1 : ((i + 1 : Nat) : Int) = (i : Int) + 1 := by omega
   obtain ⟨b, hb⟩ : ∃ b, F[i]? = some b := ⟨_, U6 (by omega)⟩
   obtain ⟨x, hx⟩ : ∃ x, W[i]? = some x := ⟨_, U6 (by omega)⟩
   have gb' := MS hb
   have gx := tU hx
   simp only [I] at gx
   have fb : F.getD i false = b := by rw [U3, hb]; rfl
   have fx : W.getD i 0 = x := by rw [U3, hx]; rfl
   have hk : 0 ≤ a → ∃ k : Nat, a = k ∧ k < n ∧ (ints W)[k]? = some (.int .i64 (W.getD k 0)) := fun h0 => by
    refine ⟨a.toNat, by omega, by omega, ?_⟩
    have := tU (l := W) (i := a.toNat) (x := W.getD a.toNat 0) (by rw [U3, U6 (by omega)]; rfl)
    exact this
   have r1 := Dl gf gw gb hW hF hn m (i + 1) (if F.getD i false = true ∧ (a < 0 ∨ W.getD i 0 < W.getD a.toNat 0) then i else a) (by omega) (by
    split
    · right; omega
    · exact ha)
   rw [xF]
   refine uy ?_ r1
   rw [n1, fb, fx]
   clear r1 hb hx
   generalize ints W = IW at *
   generalize Ff F = BF at *
   cases b with
   | false =>
     rw [if_neg (by simp)]
     simp (disch := omega) only [go_sem, wG, AP.f71L0, gf, gw, gb, lw, lb, gb']
   | true =>
     by_cases c : a < 0
     · rw [if_pos ⟨rfl, .inl c⟩]
       simp (disch := omega) only [go_sem, wG, AP.f71L0, gf, gw, gb, lw, lb, gb', U7 c]
     · obtain ⟨k, rfl, hkn, gk⟩ := hk (by omega)
       have tk : ((k : Nat) : Int).toNat = k := by omega
       rw [tk]
       have c' : ¬ ((k : Nat) : Int) < 0 := c
       by_cases c2 : x < W.getD k 0
       · rw [if_pos ⟨rfl, .inr c2⟩]
         generalize W.getD k 0 = y at *
         clear fx fb ha hk c
         simp (disch := omega) only [go_sem, wG, AP.f71L0, gf, gw, gb, lw, lb, gb', gx, gk, U5 c', U7 c2]
       · rw [if_neg (by rintro ⟨_, q | q⟩; exact c' q; exact c2 q)]
         generalize W.getD k 0 = y at *
         clear fx fb ha hk c
         simp (disch := omega) only [go_sem, wG, AP.f71L0, gf, gw, gb, lw, lb, gb', gx, gk, U5 c', U5 c2]
def xp (W : List Int) (F : List Bool) : Nat := (xF W F W.length 0 (-1)).toNat
theorem HC {h : H} {f : Nat} {W U : List Int} {F : List Bool} {wv uv fv : AV} (r : Ro h f [wv, uv, fv] (NW W U F)) (hF : F.length = W.length) (hn : W.length < 100000) (h0 : 0 ≤ xF W F W.length 0 (-1)) :
 ∃ h', aS AP.A 71 [.aE f 0] h = some (.int .i64 (xp W F : Nat), h') ∧ Ro h' f [wv, uv, fv] (NW W U (F.set (xp W F) false)) ∧ Lo h h' := by
 have rg := BQ (W := W) (F := F) (n := W.length) W.length 0 (-1) (by omega) (.inl rfl)
 have hA : xF W F W.length 0 (-1) = ((xp W F : Nat) : Int) := by unfold xp; omega
 have hAn : xp W F < W.length := by omega
 obtain ⟨n, en⟩ : ∃ n, n = W.length := ⟨_, rfl⟩
 obtain ⟨ifr, q1, q2, q3, q4, q5, q6, q7⟩ := r.put 2 (xp W F) (v := fv) (c := Ff F) rfl rfl (.bool false) rfl (by rw [Cc, hF]; exact hAn)
 rw [Cc, hF, ← en] at q1
 obtain ⟨iw, p1, p2, _⟩ := r.put 0 (xp W F) (v := wv) (c := ints W) rfl rfl (.int .i64 0) rfl (by rw [qy]; exact hAn)
 rw [qy, ← en] at p1
 have gf := r.get
 rw [q1, p1] at gf
 have L := Dl gf p2 q2 en.symm (hF.trans en.symm) (by omega) n 0 (-1) (by omega) (.inl rfl)
 rw [en, hA, ← en] at L
 have L' : Lp AP.A [0, 3, 4] AP.f71L0 [(0, .aE f 0), (3, .int .i64 (-1)), (4, .int .i64 0)] h = _ := L
 have lb : (Ff F).length = n := by rw [Cc, hF, en]
 have es : (Ff F).set (xp W F) (.bool false) = Ff (F.set (xp W F) false) := by simp [Ff, List.map_set]
 rw [es] at q6 q7
 have q6' : Ro (h.set ifr (Ff (F.set (xp W F) false))) f [wv, uv, fv] (NW W U (F.set (xp W F) false)) := q6
 have fl := r.fl
 refine ⟨h.set ifr (Ff (F.set (xp W F) false)), uM (fn := AP.f71) (e := [(2, .int .i64 (xp W F : Nat))]) (vs := [.int .i64 (xp W F : Nat)]) rfl rfl rfl ?_ rfl, q6', q7⟩
 rw [← en] at hAn
 clear q6 q6' q7 q5 r rg hA L p1 q1 h0
 generalize xp W F = A at *
 generalize Ff F = BF at *
 generalize Ff (F.set A false) = BF2 at *
 simp (disch := omega) only [go_sem, wG, AP.f71, th, L', gf, q2, lb, es]
end Ab
