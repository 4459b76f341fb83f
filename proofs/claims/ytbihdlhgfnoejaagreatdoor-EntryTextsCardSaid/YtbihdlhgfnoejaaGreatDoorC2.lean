/- Part C2. -/
import Derived.Test.YtbihdlhgfnoejaaGreatDoorC1
set_option linter.unusedSimpArgs false
set_option linter.unusedVariables false
namespace Ab
open Go
abbrev E7 (k : Int) : Prop := k = 700 ∨ k = 701
theorem ED {t : ByteArray} {most k : Int} : ∀ {n p : Nat} {out : List Nat}, y7 t most n p out = .error k → E7 k
 | 0, p, out, h => by cases h
 | n + 1, p, out, h => by
   unfold y7 at h
   split at h
   · split at h
     · cases h; exact .inr rfl
     · exact ED h
   · cases h; exact .inl rfl
theorem H3 {t : ByteArray} {most k : Int} {p : Nat} {out : List Nat} (h : Bj t most p out = .error k) : E7 k := by
 unfold Bj at h
 dsimp only at h
 split at h
 · split at h
   · exact ED h
   · cases h; exact .inl rfl
 · cases h; exact .inl rfl
theorem E5 {most k : Int} {d : Nat} : ∀ {n : Nat} {out : List Nat}, Bs most d n out = .error k → E7 k
 | 0, out, h => by cases h
 | n + 1, out, h => by
   unfold Bs at h
   split at h
   · cases h; exact .inr rfl
   · exact E5 h
theorem JV {t : ByteArray} {most k : Int} {dl : List Int} {y p : Nat} {out : List Nat} (h : Br t most dl y p out = .error k) : E7 k := by
 unfold Br at h
 split at h
 · cases h; exact .inl rfl
 · split at h
   · split at h
     · cases h; exact .inl rfl
     · split at h
       · cases h; exact .inl rfl
       · split at h
         · split at h
           · cases h
           · rename_i q; cases h; exact E5 q
         · cases h; exact .inl rfl
   · cases h; exact .inl rfl
theorem Ao {t : ByteArray} {most k : Int} {ll dl : List Int} : ∀ {n p : Nat} {out : List Nat}, yf t most ll dl n p out = .error k → E7 k
 | 0, p, out, h => by cases h; exact .inl rfl
 | n + 1, p, out, h => by
   unfold yf at h
   split at h
   · cases h; exact .inl rfl
   · split at h
     · split at h
       · cases h; exact .inr rfl
       · exact Ao h
     · split at h
       · cases h
       · split at h
         · exact Ao h
         · rename_i q; cases h; exact JV q
theorem KV {t : ByteArray} {most k : Int} {p : Nat} {out : List Nat} (h : Hl t most p out = .error k) : E7 k := by
 unfold Hl at h
 dsimp only at h
 split at h
 · split at h
   · cases h; exact .inl rfl
   · split at h
     · cases h; exact .inl rfl
     · split at h
       · cases h; exact .inl rfl
       · exact Ao h
 · cases h; exact .inl rfl
theorem Iq {t : ByteArray} {most k : Int} {p : Nat} {out : List Nat} (h : yZ t most p out = .error k) : E7 k := by
 unfold yZ at h
 dsimp only at h
 split at h
 · split at h
   · cases h
   · rename_i q
     cases h
     split at q
     · exact H3 q
     · split at q
       · exact Ao q
       · split at q
         · exact KV q
         · cases q; exact .inl rfl
 · cases h; exact .inl rfl
theorem Dj {t : ByteArray} {most k : Int} : ∀ {n p : Nat} {out : List Nat}, yV t most n p out = .error k → E7 k
 | 0, p, out, h => by
   unfold yV at h
   cases h; exact .inl rfl
 | n + 1, p, out, h => by
   unfold yV at h
   split at h
   · rename_i q; cases h; exact Iq q
   · split at h
     · cases h
     · exact Dj h
theorem Gj {t : ByteArray} {most k : Int} (h : xz t most = .error k) : E7 k := by
 unfold xz at h
 split at h
 · cases h; exact .inl rfl
 · split at h
   · cases h
   · rename_i q; cases h; exact Dj q
theorem dt {p : Prop} [Decidable p] (h : p) : decide p = true := UQ h
theorem df {p : Prop} [Decidable p] (h : ¬ p) : decide p = false := UN h
theorem Ug {a b : Int} (h : a = b) : (a == b) = true := by simp [h]
theorem TW {a b : Int} (h : ¬ a = b) : (a == b) = false := by simp [h]
theorem Uk {a b : Int} (h : ¬ a = b) : (a != b) = true := by simp [h]
theorem Uj {a b : Int} (h : a = b) : (a != b) = false := by simp [h]
theorem wi {n : Int} (h : -9223372036854775808 ≤ n ∧ n < 9223372036854775808) : IntKind.wrap .i64 n = n := uQ h.1 (by omega)
theorem wb {n : Int} (h : 0 ≤ n ∧ n < 256) : IntKind.wrap .u8 n = n := by
 simp [IntKind.wrap, IntKind.bits, IntKind.signed]; omega
theorem Qs {i : Int} {n : Nat} (h : 0 ≤ i ∧ i < n) : dq (.int .i64 i) n = some i.toNat := by
 simp [dq, oJ, h]
def at_ : Nat → aH → aH
 | 0, .seq a _ => a
 | 0, c => c
 | n + 1, .seq _ b => at_ n b
 | _ + 1, c => c
def Mh : Nat → aH → aH
 | 0, c => c
 | n + 1, .seq _ b => Mh n b
 | _ + 1, c => c
theorem xV (a b : aH) : at_ 0 (.seq a b) = a := rfl
theorem xY (n : Nat) (a b : aH) : at_ (n + 1) (.seq a b) = at_ n b := rfl
theorem Nd (c : aH) : Mh 0 c = c := rfl
theorem Nc (n : Nat) (a b : aH) : Mh (n + 1) (.seq a b) = Mh n b := rfl
theorem AJ {h : H} {id i : Nat} (e : ¬ i = id) : (h.del id).get i = h.get i := by rw [H.eI, if_neg e]
theorem CH (h : H) : h.ez.next = h.next := vL rfl rfl
theorem Cz (h : H) : h.ez.floor = h.next := vL rfl rfl
theorem CB (h : H) (i : Nat) : h.ez.get i = h.get i := vL rfl rfl
theorem Gt (h : H) (i : Nat) : (h.del i).next = h.next := vL rfl rfl
theorem Ge (h : H) (i : Nat) : (h.del i).floor = h.floor := vL rfl rfl
theorem wO {h : H} {cs : List AV} {i : Nat} (e : i = h.next) : (h.alloc cs).get i = some cs := by rw [H.aW, if_pos e]
theorem wY {h : H} {cs : List AV} {i : Nat} (e : ¬ i = h.next) : (h.alloc cs).get i = h.get i := by rw [H.aW, if_neg e]
theorem wS {h : H} {cs : List AV} {id i : Nat} (e : i = id) : (h.set id cs).get i = (h.get i).map fun _ => cs := by rw [H.dQ, if_pos e, e]
theorem wL {h : H} {cs : List AV} {id i : Nat} (e : ¬ i = id) : (h.set id cs).get i = h.get i := by rw [H.dQ, if_neg e]
def ym {α : Type} (b : Bool) (x : α) : Option α := if b then some x else none
theorem I4 {α : Type} (x : α) : ym true x = some x := rfl
theorem JB (h : H) (id off n : Nat) (v cs : List AV) : ve h id off n v (some cs) = ym (decide (h.floor ≤ id) && (decide (v.length = n) && (decide (off + n ≤ cs.length) && AV.aC v))) (h.set id (setFrom cs off v)) := by
 simp only [ve, vO, ym]
 by_cases c : h.floor ≤ id ∧ v.length = n ∧ off + n ≤ cs.length ∧ AV.aC v = true
 · rw [if_pos c]; obtain ⟨c1, c2, c3, c4⟩ := c; simp [c1, c2, c3, c4]
 · rw [if_neg c, if_neg]; simpa using c
theorem Ul (n : Nat) (cs : List AV) (off : Nat) : iG true n cs off = ym (decide (off + n ≤ cs.length)) (.agg ((cs.drop off).take n)) := by
 simp only [iG, ym, if_true, Vq]
theorem KZ (z : List AV) : eE z [] = some z := rfl
def Hp (r : List (Nat × Nat × AV)) (p : Option (List AV)) : Option (List AV) := p.bind fun z => eE z r
theorem Ji (r : List (Nat × Nat × AV)) (z : List AV) : Hp r (some z) = eE z r := rfl
theorem KY (z : List AV) (o n : Nat) (v : AV) (r : List (Nat × Nat × AV)) : eE z ((o, n, v) :: r) = Hp r (ym (decide (v.cells.length = n) && (decide (o + n ≤ z.length) && AV.aC v.cells)) (setFrom z o v.cells)) := by
 simp only [eE, ym]
 by_cases c : v.cells.length = n ∧ o + n ≤ z.length ∧ AV.aC v.cells = true
 · rw [if_pos c]; obtain ⟨c1, c2, c3⟩ := c; simp [c1, c2, c3, Hp]
 · rw [if_neg c, if_neg]; · rfl
   simpa using c
def GZ (p : Option (List AV)) (f : Nat → AV) : Option (List AV × (Nat → AV)) := p.bind fun cs => some (cs, f)
theorem KH (cs : List AV) (f : Nat → AV) : GZ (some cs) f = some (cs, f) := rfl
theorem EY (e : Env) (z : List AV) : aX e (.alloc z) = GZ (ym (AV.aC z) z) (fun i => .aE i 0) := by
 simp only [aX, ym]; split <;> rfl
theorem IZ (e : Env) (n : Nat) (x : X) : aX e (.box n x) = GZ (ym (decide ((x.ev e).cells.length = n) && AV.aC (x.ev e).cells) (x.ev e).cells) (fun i => .aE i 0) := by
 simp only [aX, ym]
 by_cases c : (x.ev e).cells.length = n ∧ AV.aC (x.ev e).cells = true
 · rw [if_pos c]; simp [c, GZ]
 · rw [if_neg c, if_neg]; · rfl
   simpa using c
theorem DN (e : Env) (sz len : Nat) (z : List AV) (ps : List (Nat × X)) : aX e (.cZ sz len z ps) = GZ (Hp (ps.map fun p => (p.1 * sz, sz, p.2.ev e)) (ym (decide (z.length = sz) && (decide (0 < sz) && AV.aC z)) (eh len z))) (fun i => .aF i 0 len sz) := by
 simp only [aX, ym]
 by_cases c : z.length = sz ∧ 0 < sz ∧ AV.aC z = true
 · rw [if_pos c]; simp [c, GZ, Hp]
 · rw [if_neg c, if_neg]; · rfl
   simpa using c
theorem LH (z : List AV) : eh 0 z = [] := rfl
theorem LG (n : Nat) (z : List AV) : eh (n + 1) z = z ++ eh n z := rfl
def PV (xX : List Nat) (e : Env) (h : H) (b : Bool) : dY := if b then some (.normal, ay e xX, h) else none
theorem K9 (xX : List Nat) (e : Env) (h : H) : PV xX e h true = some (.normal, ay e xX, h) := rfl
def Uh (c : ah) (ops : List ak) (fl : List (Nat × List Nat)) (xX : List Nat) (p : Option (Env × H × List H)) : dY := p.bind fun q => PV xX q.1 q.2.1 (aY c ops q.1 q.2.2 fl)
theorem Nv (c : ah) (ops : List ak) (fl : List (Nat × List Nat)) (xX : List Nat) (e : Env) (h : H) (gs : List H) : Uh c ops fl xX (some (e, h, gs)) = PV xX e h (aY c ops e gs fl) := rfl
theorem IV (c : ah) (l : bP) (ord : List Nat) (ops : List ak) (x : Nat × List Nat) (fl : List (Nat × List Nat)) (xX : List Nat) (e : Env) (h : H) : aM c l (.jm ord ops (x :: fl) xX) e h = Uh c ops (x :: fl) xX (aO c ops e h) := by
 rw [aM]; rfl
theorem NT (c : ah) (ops : List ak) (e : Env) (gs : List H) : aY c ops e gs [] = true := rfl
def Tn (c : ah) (ops : List ak) (e : Env) (gs : List H) (i : Nat) (ks : List Nat) : Bool := ks.all (bN c ops e gs i)
theorem NS (c : ah) (ops : List ak) (e : Env) (gs : List H) (i : Nat) (ks : List Nat) (r : List (Nat × List Nat)) : aY c ops e gs ((i, ks) :: r) = (Tn c ops e gs i ks && aY c ops e gs r) := rfl
theorem NQ (c : ah) (ops : List ak) (e : Env) (gs : List H) (i : Nat) : Tn c ops e gs i [] = true := rfl
def M7 (c : ah) (e : Env) (o : Option ak) (g : Option H) : Bool := match o, g with
 | some o, some g =>
   if o.op.aJ then
    match o.dst.map (look e) with
    | some (.bU []) => true
    | some v => (match v.id?, aX e o.op with
      | some id, some b => (match g.get id with | some cs => AV.gJ cs b.1 | none => false)
      | _, _ => false)
    | none => false
   else match o.dst.map (look e) with
    | some v => (match aj c o e g with | some (u, _) => AV.beq u v | none => false)
    | none => false
 | _, _ => false
theorem NP (c : ah) (ops : List ak) (e : Env) (gs : List H) (i k : Nat) (r : List Nat) : Tn c ops e gs i (k :: r) = (M7 c e (ops[i]?) (gs[k]?) && Tn c ops e gs i r) := by
 unfold Tn
 rw [List.all_cons]
 congr 1
def Ud (v : AV) (p : Option (AV × H)) : Bool := match p with | some (u, _) => AV.beq u v | none => false
theorem NR (v u : AV) (h : H) : Ud v (some (u, h)) = AV.beq u v := rfl
def Qq (b : Bool) (x y : Bool) : Bool := if b then x else y
theorem NN (x y : Bool) : Qq false x y = y := rfl
def EU (c : ah) (e : Env) (o : Option ak) (g : Option H) : Bool := M7 c e o g
theorem NM (c : ah) (e : Env) (d : Nat) (op : cf) (g : H) : M7 c e (some ⟨some d, op, none⟩) (some g) = Qq op.aJ (EU c e (some ⟨some d, op, none⟩) (some g)) (Ud (look e d) (ai c e g op)) := by
 unfold EU M7 Qq
 dsimp only
 cases op.aJ <;> rfl
theorem NL (c : ah) (e : Env) (d : Nat) (op : cf) (k : Nat) (w : Bool) (g : H) : M7 c e (some ⟨some d, op, some (k, w)⟩) (some g) = Qq op.aJ (EU c e (some ⟨some d, op, some (k, w)⟩) (some g)) (Ud (look e d) (mw w c e g op (look e k))) := by
 unfold EU M7 Qq
 dsimp only
 cases op.aJ with
 | true => rfl
 | false => rw [nN]; rfl
mutual
theorem beq_refl : ∀ a : AV, AV.beq a a = true
 | .bot => rfl
 | .bool b => by simp [AV.beq]
 | .int k n => by simp [AV.beq]
 | .str s => DA s
 | .cH => rfl
 | .aE i o => by simp [AV.beq]
 | .aL c o => by simp [AV.beq, yh c]
 | .aQ => rfl
 | .aF i o l z => by simp [AV.beq]
 | .aV t c o l z => by simp [AV.beq, yh c]
 | .fn f a b => by simp [AV.beq, yh a, yh b]
 | .fq => rfl
 | .iface t v => by simp [AV.beq, beq_refl v]
 | .ft => rfl
 | .agg c => by simp [AV.beq, yh c]
 | .bU c => by simp [AV.beq, yh c]
theorem yh : ∀ l : List AV, AV.gJ l l = true
 | [] => rfl
 | a :: l => by simp [AV.gJ, beq_refl a, yh l]
end
theorem NO (x y : Bool) : Qq true x y = x := rfl
def Qx (c : Option (List AV)) (d : List AV) : Bool := match c with | some cs => AV.gJ cs d | none => false
theorem Nn (c d : List AV) : Qx (some c) d = AV.gJ c d := rfl
def GK (v : AV) (b : Option (List AV × (Nat → AV))) (g : H) : Bool := match v with
 | .bU [] => true
 | v => match v.id?, b with
   | some id, some b => Qx (g.get id) b.1
   | _, _ => false
theorem LP (b : Option (List AV × (Nat → AV))) (g : H) : GK (.bU []) b g = true := rfl
theorem LO (i o : Nat) (cs : List AV) (f : Nat → AV) (g : H) : GK (.aE i o) (some (cs, f)) g = Qx (g.get i) cs := rfl
theorem LN (i o l z : Nat) (cs : List AV) (f : Nat → AV) (g : H) : GK (.aF i o l z) (some (cs, f)) g = Qx (g.get i) cs := rfl
theorem DE {c : ah} {e : Env} {d : Nat} {op : cf} {gd : Option (Nat × Bool)} {g : H} (hb : op.aJ = true) : EU c e (some ⟨some d, op, gd⟩) (some g) = GK (look e d) (aX e op) g := by
 unfold EU M7
 dsimp only
 rw [hb, if_pos rfl]
 show (match some (look e d) with
  | some (.bU []) => true
  | some v => (match v.id?, aX e op with
    | some id, some b => (match g.get id with | some cs => AV.gJ cs b.1 | none => false)
    | _, _ => false)
  | none => false) = _
 generalize look e d = v
 unfold GK Qx
 cases v with
 | bU vs => cases vs <;> rfl
 | _ => cases aX e op <;> rfl
theorem EC (c : ah) (e : Env) (d : Nat) (z : List AV) (gd : Option (Nat × Bool)) (g : H) : EU c e (some ⟨some d, .alloc z, gd⟩) (some g) = GK (look e d) (aX e (.alloc z)) g := DE rfl
theorem H2 (c : ah) (e : Env) (d n : Nat) (x : X) (gd : Option (Nat × Bool)) (g : H) : EU c e (some ⟨some d, .box n x, gd⟩) (some g) = GK (look e d) (aX e (.box n x)) g := DE rfl
theorem Ds (c : ah) (e : Env) (d n m : Nat) (z : List AV) (ps : List (Nat × X)) (gd : Option (Nat × Bool)) (g : H) : EU c e (some ⟨some d, .cZ n m z ps, gd⟩) (some g) = GK (look e d) (aX e (.cZ n m z ps)) g := DE rfl
theorem FP (c : ah) (e : Env) (d n m : Nat) (z : List AV) (x y : X) (gd : Option (Nat × Bool)) (g : H) : EU c e (some ⟨some d, .jo n m z x y, gd⟩) (some g) = GK (look e d) (aX e (.jo n m z x y)) g := DE rfl
theorem GV (b : Bool) : AV.beq (.bool b) (.bool b) = true := by simp [AV.beq]
theorem GY : AV.beq (.bU []) (.bU []) = true := rfl
theorem GW : AV.beq .aQ .aQ = true := rfl
theorem EX : AV.beq .cH .cH = true := rfl
theorem Ld (sz id off len : Nat) (i : AV) : gG sz (.aF id off len sz) i = vr id off sz (dq i len) := by simp [gG, vr]
theorem Lb (t : Bool) (cells : List AV) (sz off len : Nat) (i : AV) : gG sz (.aV t cells off len sz) i = vt cells off sz (dq i len) := by simp [gG, vt]
def yX (n : Nat) (z : List AV) : List AV := eh n z
def NA (sz bytes : Nat) (zero : List AV) (l c : AV) : Option (List AV × (Nat → AV)) :=
 match l, c with
 | .int .i64 l, .int .i64 c => GZ (ym (decide (0 ≤ l) && (decide (l ≤ c) && (decide (c ≤ 9223372036854775807) && (decide ((bytes : Int) * c ≤ 281474976710656) && (decide (zero.length = sz) && (decide (0 < sz) && AV.aC zero)))))) (yX c.toNat zero)) (fun i => .aF i 0 l.toNat sz)
 | _, _ => none
theorem Gs (sz bytes : Nat) (zero : List AV) (l c : Int) : NA sz bytes zero (.int .i64 l) (.int .i64 c) = GZ (ym (decide (0 ≤ l) && (decide (l ≤ c) && (decide (c ≤ 9223372036854775807) && (decide ((bytes : Int) * c ≤ 281474976710656) && (decide (zero.length = sz) && (decide (0 < sz) && AV.aC zero)))))) (yX c.toNat zero)) (fun i => .aF i 0 l.toNat sz) := rfl
theorem G3 (e : Env) (sz bytes : Nat) (zero : List AV) (l c : X) : aX e (.jo sz bytes zero l c) = NA sz bytes zero (l.ev e) (c.ev e) := by
 simp only [aX]
 cases l.ev e with
 | int k l => cases k <;> cases c.ev e with
   | int k2 c => cases k2 <;> first
     | rfl
     | (simp only [Gs, ym]
        by_cases q : 0 ≤ l ∧ l ≤ c ∧ c ≤ 9223372036854775807 ∧ (bytes : Int) * c ≤ 281474976710656 ∧ zero.length = sz ∧ 0 < sz ∧ AV.aC zero = true
        · rw [if_pos q]; obtain ⟨q1, q2, q3, q4, q5, q6, q7⟩ := q
          rw [if_pos]
          · rfl
          · simp [q1, q2, q3, q4, q5, q6, q7]
        · rw [if_neg q, if_neg]
          · rfl
          · simpa using q)
   | _ => rfl
 | _ => cases c.ev e <;> rfl
theorem Ky (i o l z : Nat) : jy false (.aF i o l z) = some (.int .i64 l) := rfl
theorem Kx : jy false .aQ = some (.int .i64 0) := rfl
theorem Kw (t : Bool) (c : List AV) (o l z : Nat) : jy false (.aV t c o l z) = some (.int .i64 l) := rfl
theorem B8 (s : ByteArray) : jy true (.str s) = some (.int .i64 s.size) := rfl
theorem LZ (a b : Nat) : ((a : Int) + (b : Int)).toNat = a + b := by omega
theorem EK (a : Nat) : ((a : Int)).toNat = a := by omega
def yE (s : ByteArray) (i : Nat) : Nat := ((s[i]?).map (·.toNat)).getD 0
theorem zK (s : ByteArray) (i : Nat) : yE s i < 256 := by
 unfold yE
 cases s[i]? with
 | none => simp
 | some b => simp; exact b.toNat_lt
theorem Gi {s : ByteArray} {i : Int} (h : 0 ≤ i ∧ i < s.size) : ni (.str s) (.int .i64 i) = some (.int .u8 (yE s i.toNat : Nat)) := by
 have hi : i.toNat < s.size := by omega
 simp [ni, Qs h, yE, hi]
def C5 {α : Type} (b : Bool) (x y : Option α) : Option α := if b then x else y
theorem LJ {α : Type} (x y : Option α) : C5 true x y = x := rfl
theorem LI {α : Type} (x y : Option α) : C5 false x y = y := rfl
def Qf (n o k : Nat) (p : Option (List AV)) : Option (Nat × List AV) := p.bind fun cs => ym (decide (o + k * n ≤ cs.length)) (k, (cs.drop o).take (k * n))
theorem LM (n o k : Nat) (cs : List AV) : Qf n o k (some cs) = ym (decide (o + k * n ≤ cs.length)) (k, (cs.drop o).take (k * n)) := rfl
theorem NJ (h : H) (n p o k : Nat) : aT h n (.aF p o k n) = Qf n o k (h.get p) := by
 simp only [aT, if_true, Qf]
 cases h.get p with
 | none => rfl
 | some cs => simp only [vO, ym, Vq]
theorem NH (h : H) (t : Bool) (n o k : Nat) (cs : List AV) : aT h n (.aV t cs o k n) = ym (decide (o + k * n ≤ cs.length)) (k, (cs.drop o).take (k * n)) := by
 simp only [aT, if_true, ym, Vq]
theorem NI (h : H) (n : Nat) : aT h n .aQ = some (0, []) := vL rfl rfl
theorem NK (h : H) (s : ByteArray) : aT h 1 (.str s) = some (s.size, s.data.toList.map fun b => .int .u8 b.toNat) := vL rfl rfl
def Qu (h : H) (n z : Nat) (a : AV) (p : Option (Nat × List AV)) : Option (AV × H) := p.bind fun r => ep h n z a r.1 r.2
theorem KD (h : H) (n z : Nat) (a : AV) (m : Nat) (bs : List AV) : Qu h n z a (some (m, bs)) = ep h n z a m bs := rfl
theorem Nk (h : H) (n z : Nat) (a b : AV) : lL h n z a b = Qu h n z a (aT h n b) := vL rfl rfl
def Tt (h : H) (n z p o k m : Nat) (bs : List AV) (q : Option (List AV)) : Option (AV × H) := q.bind fun cs =>
 C5 (decide (o + (k + m) * n ≤ cs.length)) (some (.aF p o (k + m) n, h.set p (setFrom cs (o + k * n) bs))) (C5 (decide (o + k * n = cs.length) && roomy z (k + m)) (some (.aF h.next 0 (k + m) n, (h.del p).alloc (cs.drop o ++ bs))) none)
theorem Nh (h : H) (n z p o k m : Nat) (bs cs : List AV) : Tt h n z p o k m bs (some cs) = C5 (decide (o + (k + m) * n ≤ cs.length)) (some (.aF p o (k + m) n, h.set p (setFrom cs (o + k * n) bs))) (C5 (decide (o + k * n = cs.length) && roomy z (k + m)) (some (.aF h.next 0 (k + m) n, (h.del p).alloc (cs.drop o ++ bs))) none) := rfl
theorem Nj (h : H) (n z p o k m : Nat) (bs : List AV) : ep h n z (.aF p o k n) m bs = C5 (decide (m = 0)) (some (.aF p o k n, h)) (C5 (AV.aC bs && (decide (0 < n) && decide (h.floor ≤ p))) (Tt h n z p o k m bs (h.get p)) none) := by
 unfold ep C5
 by_cases c : m = 0
 · simp [c]
 · rw [if_neg c]
   simp only [Vq, if_neg c]
   by_cases c1 : AV.aC bs = false ∨ n = 0
   · rw [if_pos c1, if_neg]
     rcases c1 with c1 | c1
     · simp [c1]
     · simp [c1]
   · rw [if_neg c1]
     have q1 : AV.aC bs = true := by cases q : AV.aC bs with | true => rfl | false => exact absurd (.inl q) c1
     by_cases c2 : h.floor ≤ p
     · have qq : (AV.aC bs && (decide (0 < n) && decide (h.floor ≤ p))) = true := by simp [q1, c2]; omega
       simp only [true_and, if_pos c2, qq, if_true, Tt, C5]
       cases h.get p with
       | none => rfl
       | some cs => simp only [vO, Vq, vS]
     · have qq : (AV.aC bs && (decide (0 < n) && decide (h.floor ≤ p))) = false := by simp [c2]
       simp only [true_and, if_neg c2, qq]; rfl
theorem Ni (h : H) (n z m : Nat) (bs : List AV) : ep h n z .aQ m bs = C5 (decide (m = 0)) (some (.aQ, h)) (C5 (AV.aC bs && (decide (0 < n) && roomy z m)) (some (.aF h.next 0 m n, h.alloc bs)) none) := by
 unfold ep C5
 by_cases c : m = 0
 · simp [c]
 · rw [if_neg c]
   simp only [Vq, if_neg c]
   by_cases c1 : AV.aC bs = false ∨ n = 0
   · rw [if_pos c1, if_neg]
     rcases c1 with c1 | c1
     · simp [c1]
     · simp [c1]
   · rw [if_neg c1]
     have q1 : AV.aC bs = true := by cases q : AV.aC bs with | true => rfl | false => exact absurd (.inl q) c1
     have q2 : 0 < n := by omega
     simp [q1, q2]
theorem yi {b n : Nat} (h : 1 ≤ b ∧ (n + n / 4 + 512) * b ≤ 281474976710656) : roomy b n = true := by simp only [roomy, h.1, h.2, and_self, decide_true]
theorem Gf {α : Type} {C : α → List AV} {n : Nat} (hC : ∀ x, (C x).length = n) : ∀ {l : List α} {i f : Nat} {x : α}, l[i]? = some x → f < n → (l.flatMap C)[i * n + f]? = (C x)[f]?
 | [], i, f, x, h, _ => by simp at h
 | y :: l, 0, f, x, h, hf => by
   obtain rfl : y = x := by simpa using h
   rw [UU, Nat.zero_mul, vW, Ve (by rw [hC]; exact hf)]
 | y :: l, i + 1, f, x, h, hf => by
   rw [UU, U6 (by rw [hC, wh]; omega), hC]
   rw [show (i + 1) * n + f - n = i * n + f by rw [wh]; omega]
   exact Gf hC (by simpa using h) hf
theorem CX {α : Type} {C : α → List AV} {n : Nat} (hC : ∀ x, (C x).length = n) : ∀ l : List α, (l.flatMap C).length = l.length * n
 | [] => by simp
 | y :: l => by rw [UU, wo, hC, CX hC l, UO, wh]; omega
theorem Gg {α : Type} {C : α → List AV} {n : Nat} (hC : ∀ x, (C x).length = n) : ∀ {l : List α} {i : Nat} {x : α}, l[i]? = some x → ((l.flatMap C).drop (i * n)).take n = C x
 | [], i, x, h => by simp at h
 | y :: l, 0, x, h => by
   obtain rfl : y = x := by simpa using h
   rw [UU, Nat.zero_mul, Vg, List.take_append_of_le_length (by rw [hC]; omega), U3 (by rw [hC]; omega)]
 | y :: l, i + 1, x, h => by
   rw [UU, List.drop_append, List.drop_of_length_le (by rw [hC, wh]; omega), List.nil_append, hC, show (i + 1) * n - n = i * n by rw [wh]; omega]
   exact Gg hC (by simpa using h)
def zE (n : Nat) (h : H) (v : AV) (k : Nat) (cs : List AV) : Prop := aT h n v = some (k, cs) ∧ cs.length = k * n ∧ ∀ s, v ≠ .str s
theorem Rd.Ub {h : H} {v : AV} {cs : List AV} (r : Rd h v cs) : zE 1 h v cs.length cs := ⟨r.1, by omega, r.2⟩
theorem zE.len {n : Nat} {h : H} {v : AV} {k : Nat} {cs : List AV} (r : zE n h v k cs) : jy false v = some (.int .i64 k) := by
 obtain ⟨r, _, hs⟩ := r
 unfold aT at r
 split at r
 · obtain ⟨h1, h2⟩ := vJ (vG r); subst h1; rfl
 · exact absurd rfl (hs _)
 · split at r
   · simp only [vH] at r
     obtain ⟨c, _, r⟩ := r
     split at r
     · obtain ⟨h1, h2⟩ := vJ (vG r); simp [jy, h1]
     · cases r
   · cases r
 · split at r
   · split at r
     · obtain ⟨h1, h2⟩ := vJ (vG r); simp [jy, h1]
     · cases r
   · cases r
 · cases r
theorem zE.mono {n : Nat} {h g : H} {v : AV} {k : Nat} {cs : List AV} (r : zE n h v k cs) (hg : ∀ id c, h.get id = some c → g.get id = some c) : zE n g v k cs := by
 obtain ⟨r, hl, hs⟩ := r
 refine ⟨?_, hl, hs⟩
 unfold aT at r ⊢
 split at r
 · exact r
 · exact r
 · split at r
   · rename_i q; simp only [if_pos q, vH] at r ⊢
     obtain ⟨c, h1, r⟩ := r
     exact ⟨c, hg _ _ h1, r⟩
   · cases r
 · exact r
 · cases r
theorem zE.at_ {n : Nat} {h : H} {v : AV} {k : Nat} {cs : List AV} (r : zE n h v k cs) : ∃ ad : Int → Nat → AV,
 (∀ i : Int, 0 ≤ i ∧ i < k → gG n v (.int .i64 i) = some (ad i 0)) ∧
 (∀ (i : Int) (f g : Nat), 0 ≤ i ∧ i < k → fJ g (ad i f) = some (ad i (f + g))) ∧
 (∀ (i : Int) (f : Nat) (g : H), 0 ≤ i ∧ i < k → jS g (ad i f) = some (ad i f, g)) ∧
 (∀ g : H, (∀ id c, h.get id = some c → g.get id = some c) → (∀ (i : Int) (f : Nat) (c : AV), 0 ≤ i ∧ i < k → cs[i.toNat * n + f]? = some c → cJ false 1 (ad i f) g = some c) ∧
   ∀ i : Int, 0 ≤ i ∧ i < k → cJ true n (ad i 0) g = some (.agg ((cs.drop (i.toNat * n)).take n))) := by
 obtain ⟨r, hl, hs⟩ := r
 unfold aT at r
 split at r
 · obtain ⟨h1, h2⟩ := vJ (vG r); subst h1
   exact ⟨fun _ _ => .bot, fun i hi => by omega, fun i f g hi => by omega, fun i f g hi => by omega, fun g _ => ⟨fun i f c hi => by omega, fun i hi => by omega⟩⟩
 · exact absurd rfl (hs _)
 · rename_i id off len s
   split at r
   · rename_i q
     subst q
     simp only [vH] at r
     obtain ⟨d, hd, r⟩ := r
     split at r
     · rename_i hle
       obtain ⟨h1, h2⟩ := vJ (vG r)
       subst h1
       have bnd : ∀ i : Int, 0 ≤ i ∧ i < len → i.toNat * s + s ≤ len * s := fun i hi => by
        have := vU s (show i.toNat + 1 ≤ len by omega); rw [wh] at this; omega
       refine ⟨fun i f => .aE id (off + i.toNat * s + f), fun i hi => by simp [gG, Qs hi], fun i f g _ => by simp [fJ]; omega, fun i f g _ => rfl, fun g hg => ⟨fun i f c hi hc => ?_, fun i hi => ?_⟩⟩
       · simp only [cJ, hg _ _ hd, vO, iG, vP, wq]
         rw [← h2, wm] at hc
         split at hc
         · rw [v9] at hc; rw [vQ]; exact hc
         · cases hc
       · have := bnd i hi
         simp only [cJ, hg _ _ hd, vO, iG, if_true, Nat.add_zero]
         rw [if_pos (by omega), ← h2, List.drop_take, List.take_take, List.drop_drop, Nat.min_eq_left (by omega)]
     · cases r
   · cases r
 · rename_i t cells off len s
   split at r
   · rename_i q
     subst q
     split at r
     · rename_i hle
       obtain ⟨h1, h2⟩ := vJ (vG r)
       subst h1
       have bnd : ∀ i : Int, 0 ≤ i ∧ i < len → i.toNat * s + s ≤ len * s := fun i hi => by
        have := vU s (show i.toNat + 1 ≤ len by omega); rw [wh] at this; omega
       refine ⟨fun i f => .aL cells (off + i.toNat * s + f), fun i hi => by simp [gG, Qs hi], fun i f g _ => by simp [fJ]; omega, fun i f g _ => rfl, fun g hg => ⟨fun i f c hi hc => ?_, fun i hi => ?_⟩⟩
       · simp only [cJ, iG, vP, wq]
         rw [← h2, wm] at hc
         split at hc
         · rw [v9] at hc; rw [vQ]; exact hc
         · cases hc
       · have := bnd i hi
         simp only [cJ, iG, if_true, Nat.add_zero]
         rw [if_pos (by omega), ← h2, List.drop_take, List.take_take, List.drop_drop, Nat.min_eq_left (by omega)]
     · cases r
   · cases r
 · cases r
def wW (n : Nat) (h : H) (v : AV) (k : Nat) (cs : List AV) : Prop := cs.length = k * n ∧ ((v = .aQ ∧ k = 0) ∨ ∃ id, v = .aF id 0 k n ∧ h.get id = some cs ∧ h.floor ≤ id ∧ 0 < k)
theorem wW.nil {n : Nat} {h : H} : wW n h .aQ 0 [] := ⟨by simp, .inl ⟨rfl, rfl⟩⟩
theorem wW.mono {n : Nat} {h g : H} {v : AV} {k : Nat} {cs : List AV} (o : wW n h v k cs) (hf : g.floor = h.floor) (hg : ∀ i, v.id? = some i → g.get i = h.get i) : wW n g v k cs := by
 obtain ⟨l, o⟩ := o
 refine ⟨l, ?_⟩
 rcases o with o | ⟨id, rfl, h1, h2, h3⟩
 · exact .inl o
 · exact .inr ⟨id, rfl, by rw [hg id rfl]; exact h1, by rw [hf]; exact h2, h3⟩
theorem wW.sc {n : Nat} {h : H} {v : AV} {k : Nat} {cs : List AV} (o : wW n h v k cs) : v.sc = true := by
 rcases o.2 with ⟨rfl, _⟩ | ⟨id, rfl, _⟩ <;> rfl
theorem wW.lt {n : Nat} {h : H} {v : AV} {k : Nat} {cs : List AV} (o : wW n h v k cs) {i : Nat} (hi : v.id? = some i) : h.floor ≤ i ∧ i < h.next := by
 rcases o.2 with ⟨rfl, _⟩ | ⟨id, rfl, h1, h2⟩
 · cases hi
 · obtain rfl := vG hi; exact ⟨h2.1, h.lt _ _ h1⟩
theorem wW.rd {n : Nat} {h : H} {v : AV} {k : Nat} {cs : List AV} (o : wW n h v k cs) : zE n h v k cs := by
 obtain ⟨l, o⟩ := o
 rcases o with ⟨rfl, rfl⟩ | ⟨id, rfl, h1, h2⟩
 · have : cs = [] := List.eq_nil_of_length_eq_zero (by omega)
   subst this
   exact ⟨rfl, by simp, fun _ => by simp⟩
 · refine ⟨?_, l, fun _ => by simp⟩
   simp only [aT, if_true, h1, vO, vW]
   rw [if_pos (by omega), Vg, U3 (by omega)]
theorem wW.app {n : Nat} {h : H} {v : AV} {k : Nat} {cs : List AV} (o : wW n h v k cs) (hfn : h.floor ≤ h.next) {z m : Nat} (hm : 0 < m) (hn : 0 < n) (bs : List AV) (hb : bs.length = m * n) (hc : AV.aC bs = true) (hr : roomy z (k + m) = true) :
 ∃ v' h', ep h n z v m bs = some (v', h') ∧ wW n h' v' (k + m) (cs ++ bs) ∧ h'.floor = h.floor ∧ h.next ≤ h'.next ∧ (∀ i, v.id? ≠ some i → i ≠ h.next → h'.get i = h.get i) ∧ v'.id? = some h.next := by
 obtain ⟨hl, o⟩ := o
 have hll : (cs ++ bs).length = (k + m) * n := by rw [wo, hl, hb, wh]
 rcases o with ⟨rfl, rfl⟩ | ⟨id, rfl, hg, hf, _⟩
 · have : cs = [] := List.eq_nil_of_length_eq_zero (by omega)
   subst this
   refine ⟨.aF h.next 0 m n, h.alloc bs, ?_, ⟨hll, .inr ⟨h.next, by simp, by simp [H.aW], by simp; omega, by omega⟩⟩, by simp, by simp, fun i _ hi => by rw [H.aW, if_neg hi], rfl⟩
   unfold ep
   rw [if_neg (by omega), if_neg (by simp [hc]; omega)]
   rw [vW] at hr
   simp only [hr, if_true]
 · have hmn : 0 < m * n := Nat.mul_pos hm hn
   have hnot : ¬ 0 + (k + m) * n ≤ cs.length := by rw [hl, wh]; omega
   refine ⟨.aF h.next 0 (k + m) n, (h.del id).alloc (cs ++ bs), ?_, ⟨hll, .inr ⟨h.next, by simp, by simp [H.aW], ?_, by omega⟩⟩, by simp, by simp, fun i h1 h2 => ?_, rfl⟩
   · unfold ep
     rw [if_neg (by omega), if_neg (by simp [hc]; omega)]
     simp only [hf, and_self, if_true, hg, vO]
     rw [if_neg hnot, if_pos ⟨by omega, hr⟩]
     simp
   · have := h.lt id cs hg; simp; omega
   · rw [H.aW, H.jQ, if_neg h2, H.eI, if_neg]
     intro e; subst e; exact h1 rfl
theorem wW.push {n : Nat} {h : H} {v : AV} {k : Nat} {cs : List AV} (o : wW n h v k cs) (hfn : h.floor ≤ h.next) {z m : Nat} (hm : 0 < m) (hn : 0 < n) (bs : List AV) (hb : bs.length = m * n) (hc : AV.aC bs = true) (hr : roomy z (k + m) = true) :
 ∃ v' h', lL (h.alloc bs) n z v (.aF h.next 0 m n) = some (v', h') ∧ wW n h' v' (k + m) (cs ++ bs) ∧ h'.floor = h.floor ∧ h.next + 1 ≤ h'.next ∧ (∀ i, v.id? ≠ some i → i < h.next → h'.get i = h.get i) ∧ v'.id? = some (h.next + 1) := by
 have o1 : wW n (h.alloc bs) v k cs := o.mono (by simp) fun i q => by rw [H.aW, if_neg]; have := o.lt q; omega
 obtain ⟨v', h', p1, p2, p3, p4, p5, p6⟩ := o1.app (z := z) (by simp; omega) hm hn bs hb hc hr
 refine ⟨v', h', ?_, p2, by rw [p3]; simp, by simpa using p4, fun i q1 q2 => ?_, by simpa using p6⟩
 · have src : aT (h.alloc bs) n (.aF h.next 0 m n) = some (m, bs) := by
    simp only [aT, if_true, H.aW, vO, vW]
    rw [if_pos (by omega), Vg, U3 (by omega)]
   unfold lL; rw [src, vO]; exact p1
 · rw [p5 i q1 (by simp; omega), H.aW, if_neg (by omega)]
def zO (n k : Nat) (cs : List AV) : AV := if k = 0 then .aQ else .aV false cs 0 k n
theorem GG {n k : Nat} {h : H} {cs : List AV} (hl : cs.length = k * n) : zE n h (zO n k cs) k cs := by
 unfold zO
 by_cases hk : k = 0
 · subst hk
   have : cs = [] := List.eq_nil_of_length_eq_zero (by omega)
   subst this
   exact ⟨rfl, by simp, fun _ => by simp⟩
 · rw [if_neg hk]
   refine ⟨?_, hl, fun _ => by simp⟩
   simp only [aT, if_true, vW]
   rw [if_pos (by omega), Vg, U3 (by omega)]
theorem wW.yj {n : Nat} {h : H} {v : AV} {k : Nat} {l : List Int} {fl m : Nat} {t : Bool} (o : wW n h v k (ints l)) (hf : fl ≤ h.floor) : snap h.get fl (m + 2) t v = some (zO n k (ints l)) := by
 obtain ⟨hl, o⟩ := o
 rw [qy] at hl
 rcases o with ⟨rfl, rfl⟩ | ⟨id, rfl, q, h2, hk⟩
 · rfl
 · unfold snap
   rw [if_neg (by omega), q, vO, if_pos (by rw [qy]; omega)]
   rw [Vg, U3 (by rw [qy]; omega), yH]
   unfold zO
   rw [if_neg (by omega)]; rfl
attribute [go_sem] List.map_cons List.map_nil Bool.and_true Bool.true_and Bool.and_self List.append_nil Option.map_some Option.map_none Bool.and_false Bool.false_and Bool.or_false Bool.or_true Bool.true_or Bool.false_or Bool.or_self List.take_succ_cons List.take_zero List.drop_zero List.drop_succ_cons Int.cast_ofNat_Int Int.natCast_one Int.natCast_zero List.length_set
theorem wI : type_of% @dt ∧ type_of% @df ∧ type_of% @Ug ∧ type_of% @TW ∧ type_of% @Uk ∧ type_of% @Uj ∧ type_of% @wi ∧ type_of% @wb ∧ type_of% @B8 ∧ type_of% @Gi ∧ type_of% @LZ ∧ type_of% @EK ∧ type_of% @Qs ∧ type_of% @wO ∧ type_of% @wY ∧ type_of% @wS ∧ type_of% @wL ∧ type_of% @H.jK ∧ type_of% @H.kM ∧ type_of% @H.mu ∧ type_of% @H.jR ∧ type_of% @JB ∧ type_of% @I4 ∧ type_of% @KZ ∧ type_of% @KY ∧ type_of% @Ji ∧ type_of% @DN ∧ type_of% @EY ∧ type_of% @IZ ∧ type_of% @KH ∧ type_of% @LG ∧ type_of% @LH ∧ type_of% @qF ∧ type_of% @qc ∧ type_of% @sI ∧ type_of% @qN ∧ type_of% @Ld ∧ type_of% @Lb ∧ type_of% @tS ∧ type_of% @tT ∧ type_of% @G3 ∧ type_of% @Gs ∧ type_of% @Ky ∧ type_of% @Kx ∧ type_of% @Kw ∧ type_of% @IV ∧ type_of% @Nv ∧ type_of% @K9 ∧ type_of% @NT ∧ type_of% @NS ∧ type_of% @NQ ∧ type_of% @NP ∧ type_of% @NR ∧ type_of% @NN ∧ type_of% @F8 ∧ type_of% @GV ∧ type_of% @GY ∧ type_of% @GW ∧ type_of% @EX ∧ type_of% @DA ∧ type_of% @DL ∧ type_of% @GX ∧ type_of% @CI ∧ type_of% @Gx ∧ type_of% @Ls ∧ type_of% @Gh ∧ type_of% @GC ∧ type_of% @GB ∧ type_of% @NM ∧ type_of% @NL ∧ type_of% @uX ∧ type_of% @beq_refl ∧ type_of% @yh ∧ type_of% @NO ∧ type_of% @Nn ∧ type_of% @LP ∧ type_of% @LO ∧ type_of% @LN ∧ type_of% @EC ∧ type_of% @H2 ∧ type_of% @Ds ∧ type_of% @FP := ⟨@dt, @df, @Ug, @TW, @Uk, @Uj, @wi, @wb, @B8, @Gi, @LZ, @EK, @Qs, @wO, @wY, @wS, @wL, @H.jK, @H.kM, @H.mu, @H.jR, @JB, @I4, @KZ, @KY, @Ji, @DN, @EY, @IZ, @KH, @LG, @LH, @qF, @qc, @sI, @qN, @Ld, @Lb, @tS, @tT, @G3, @Gs, @Ky, @Kx, @Kw, @IV, @Nv, @K9, @NT, @NS, @NQ, @NP, @NR, @NN, @F8, @GV, @GY, @GW, @EX, @DA, @DL, @GX, @CI, @Gx, @Ls, @Gh, @GC, @GB, @NM, @NL, @uX, @beq_refl, @yh, @NO, @Nn, @LP, @LO, @LN, @EC, @H2, @Ds, @FP⟩
theorem FJ : type_of% @CH ∧ type_of% @CB ∧ type_of% @Cz ∧ type_of% @Gt ∧ type_of% @Ge ∧ type_of% @AJ ∧ type_of% @Ul ∧ type_of% @LJ ∧ type_of% @LI ∧ type_of% @LM ∧ type_of% @NJ ∧ type_of% @NH ∧ type_of% @NI ∧ type_of% @NK ∧ type_of% @KD ∧ type_of% @Nk ∧ type_of% @Nh ∧ type_of% @Nj ∧ type_of% @Ni ∧ type_of% @yi ∧ type_of% @xV ∧ type_of% @xY ∧ type_of% @Nd ∧ type_of% @Nc := ⟨@CH, @CB, @Cz, @Gt, @Ge, @AJ, @Ul, @LJ, @LI, @LM, @NJ, @NH, @NI, @NK, @KD, @Nk, @Nh, @Nj, @Ni, @yi, @xV, @xY, @Nd, @Nc⟩
theorem yx : type_of% @H.kM ∧ type_of% @H.jR ∧ type_of% @Gt ∧ type_of% @CH ∧ type_of% @H.jK ∧ type_of% @H.mu ∧ type_of% @Ge ∧ type_of% @Cz := ⟨@H.kM, @H.jR, @Gt, @CH, @H.jK, @H.mu, @Ge, @Cz⟩
theorem ER : type_of% @wO ∧ type_of% @wY ∧ type_of% @wS ∧ type_of% @wL ∧ type_of% @AJ ∧ type_of% @CB := ⟨@wO, @wY, @wS, @wL, @AJ, @CB⟩
end Ab
set_option maxRecDepth 100000
namespace Ab
open Go
theorem wrap_u32 {n : Nat} (h : n < 4294967296) : IntKind.wrap .u32 (n : Int) = n := by
 have e : IntKind.wrap .u32 (n : Int) = (n : Int) % 4294967296 := by simp [IntKind.wrap, IntKind.bits, IntKind.signed]
 rw [e]; omega
theorem Kr (n : Int) : IntKind.wrap .u32 n = n % 4294967296 := by simp [IntKind.wrap, IntKind.bits, IntKind.signed]
theorem wu {n : Int} (h : 0 ≤ n ∧ n < 4294967296) : IntKind.wrap .u32 n = n := by rw [Kr]; omega
theorem Ai {a b : Nat} (ha : a < 4294967296) (hb : b < 4294967296) : a ^^^ b < 4294967296 := Nat.xor_lt_two_pow (n := 32) ha hb
theorem zg {a b : Nat} (ha : a < 4294967296) (hb : b < 4294967296) : bits .xor .u32 (a : Int) (b : Int) = ((a ^^^ b : Nat) : Int) := by
 have h3 := Ai ha hb
 show IntKind.wrap .u32 (((BitVec.ofInt 32 (a : Int) ^^^ BitVec.ofInt 32 (b : Int)).toNat : Nat) : Int) = _
 rw [BitVec.toNat_xor, yd 32 a (by omega), yd 32 b (by omega)]
 exact wrap_u32 h3
theorem DO {a : Nat} (ha : a < 4294967296) : bits .and .u32 (a : Int) 1 = ((a % 2 : Nat) : Int) := by
 show IntKind.wrap .u32 (((BitVec.ofInt 32 (a : Int) &&& BitVec.ofInt 32 ((1 : Nat) : Int)).toNat : Nat) : Int) = _
 rw [BitVec.toNat_and, yd 32 a (by omega), yd 32 1 (by omega), Nat.and_one_is_mod]
 exact wrap_u32 (by omega)
theorem Jz {a : Nat} (ha : a < 4294967296) : qe .shr .u32 (a : Int) 1 = some (.int .u32 ((a / 2 : Nat) : Int)) := by
 unfold qe
 rw [if_neg (by omega)]
 have e : (2 : Int) ^ min (Int.toNat 1) IntKind.u32.bits = 2 := by decide
 rw [e]
 show some (AV.int .u32 _) = _
 rw [Int.fdiv_eq_ediv_of_nonneg _ (by omega)]
 rfl
theorem Gk {h : H} {a : Nat} (ha : a < 4294967296) : tV h (.int .u32 (a : Int)) = some (.int .u32 ((4294967295 - a : Nat) : Int), h) := by
 rw [u0]
 have e : (if IntKind.u32.signed then -1 else IntKind.u32.max) = ((4294967295 : Nat) : Int) := by decide
 rw [e, zg (by omega) ha]
 have h2 : 4294967295 ^^^ a = 4294967295 - a := by
  have h1 : a < 2 ^ 32 := by simpa using ha
  have : 4294967295 - a = 2 ^ 32 - (a + 1) := by omega
  rw [this]
  apply Nat.eq_of_testBit_eq
  intro i
  rw [Nat.testBit_two_pow_sub_succ h1, Nat.testBit_xor, show 4294967295 = 2 ^ 32 - 1 from rfl, Nat.testBit_two_pow_sub_one]
  by_cases hi : i < 32
  · simp [hi]
  · have : a.testBit i = false := Nat.testBit_lt_two_pow (Nat.lt_of_lt_of_le h1 (UX (by omega) (by omega)))
    simp [hi, this]
 rw [h2]
def BE (c : Nat) : Nat := if c % 2 = 1 then (c / 2) ^^^ 3988292384 else c / 2
def Cv : Nat → Nat → Nat
 | 0, c => c
 | n + 1, c => Cv n (BE c)
def AY (c b : Nat) : Nat := Cv 8 (c ^^^ b)
def zj (s : ByteArray) : Nat → Nat → Nat → Nat
 | 0, _, c => c
 | n + 1, i, c => zj s n (i + 1) (AY c (yE s i))
theorem CT {c : Nat} (h : c < 4294967296) : BE c < 4294967296 := by
 unfold BE; split
 · exact Ai (by omega) (by omega)
 · omega
theorem DV : ∀ (n : Nat) {c : Nat}, c < 4294967296 → Cv n c < 4294967296
 | 0, _, h => h
 | n + 1, _, h => DV n (CT h)
theorem BG {c b : Nat} (hc : c < 4294967296) (hb : b < 256) : AY c b < 4294967296 := DV 8 (Ai hc (by omega))
theorem CU (s : ByteArray) : ∀ (n i : Nat) {c : Nat}, c < 4294967296 → zj s n i c < 4294967296
 | 0, _, _, h => h
 | n + 1, i, _, h => CU s n (i + 1) (BG h (zK s i))
theorem Fi (a b d : AV) (h : H) : ∀ (n c k : Nat), k + n = 8 → c < 4294967296 →
 ∃ e', Lp AP.A [1, 5, 12, 13, 22] AP.f103L0 [(1, a), (5, .int .u32 c), (12, b), (13, d), (22, .int .i64 k)] h = some (.exit 2, e', h) ∧ look e' 1 = a ∧ look e' 5 = .int .u32 (Cv n c : Nat) ∧ look e' 12 = b ∧ look e' 13 = d
 | 0, c, k, hk, hc => by
   refine ⟨[(1, a), (5, .int .u32 c), (12, b), (13, d), (22, .int .i64 k), (23, .bool false)], ux ?_, rfl, rfl, rfl, rfl⟩
   simp (disch := omega) only [go_sem, wy, wz, Nat.reduceEqDiff, reduceIte, Nat.reduceAdd, Nat.reduceMul, Nat.reduceLT, Nat.reduceLeDiff, Int.reduceBEq, Int.reduceBNe, Int.reduceLT, Int.reduceLE, Int.reduceEq, wI, cf.aP, cf.aJ, Int.reduceAdd, Int.reduceSub, Int.reduceMul, Int.reduceNeg, Int.reduceToNat, AP.f103L0]
 | n + 1, c, k, hk, hc => by
   obtain ⟨e', r1, r2, r3, r4, r5⟩ := Fi a b d h n (BE c) (k + 1) (by omega) (CT hc)
   have n1 : ((k + 1 : Nat) : Int) = (k : Int) + 1 := by omega
   have x1 := zg (a := c / 2) (b := 3988292384) (by omega) (by omega)
   have a1 := DO hc
   have s1 := Jz hc
   refine ⟨e', uy ?_ r1, r2, r3, r4, r5⟩
   rw [n1]
   unfold BE
   by_cases p : c % 2 = 1
   · rw [if_pos p]
     rw [show ((3988292384 : Nat) : Int) = 3988292384 from rfl] at x1
     simp (disch := omega) only [go_sem, wy, wz, Nat.reduceEqDiff, reduceIte, Nat.reduceAdd, Nat.reduceMul, Nat.reduceLT, Nat.reduceLeDiff, Int.reduceBEq, Int.reduceBNe, Int.reduceLT, Int.reduceLE, Int.reduceEq, wI, cf.aP, cf.aJ, Int.reduceAdd, Int.reduceSub, Int.reduceMul, Int.reduceNeg, Int.reduceToNat, AP.f103L0, a1, s1, x1]
   · rw [if_neg p]
     simp (disch := omega) only [go_sem, wy, wz, Nat.reduceEqDiff, reduceIte, Nat.reduceAdd, Nat.reduceMul, Nat.reduceLT, Nat.reduceLeDiff, Int.reduceBEq, Int.reduceBNe, Int.reduceLT, Int.reduceLE, Int.reduceEq, wI, cf.aP, cf.aJ, Int.reduceAdd, Int.reduceSub, Int.reduceMul, Int.reduceNeg, Int.reduceToNat, AP.f103L0, a1, s1]
theorem Fj (s : ByteArray) (hs : s.size < 1125899906842624) (h : H) : ∀ (n i c : Nat), i + n = s.size → c < 4294967296 →
 ∃ e', Lp AP.A [1, 5, 12, 13] AP.f103L1 [(1, .str s), (5, .int .u32 c), (12, .int .i64 s.size), (13, .int .i64 i)] h = some (.exit 0, e', h) ∧ look e' 5 = .int .u32 (zj s n i c : Nat)
 | 0, i, c, hi, hc => by
   refine ⟨[(1, .str s), (5, .int .u32 c), (12, .int .i64 s.size), (13, .int .i64 i), (14, .bool false)], ux ?_, rfl⟩
   simp (disch := omega) only [go_sem, wy, wz, Nat.reduceEqDiff, reduceIte, Nat.reduceAdd, Nat.reduceMul, Nat.reduceLT, Nat.reduceLeDiff, Int.reduceBEq, Int.reduceBNe, Int.reduceLT, Int.reduceLE, Int.reduceEq, wI, cf.aP, cf.aJ, Int.reduceAdd, Int.reduceSub, Int.reduceMul, Int.reduceNeg, Int.reduceToNat, AP.f103L1]
 | n + 1, i, c, hi, hc => by
   have hb := zK s i
   obtain ⟨e', r1, r2⟩ := Fj s hs h n (i + 1) (AY c (yE s i)) (by omega) (BG hc hb)
   obtain ⟨e1, q1, q2, q3, q4, q5⟩ := Fi (.str s) (.int .i64 s.size) (.int .i64 i) h 8 (c ^^^ yE s i) 0 rfl (Ai hc (by omega))
   have q1' : Lp AP.A [1, 5, 12, 13, 22] AP.f103L0 [(1, .str s), (5, .int .u32 (c ^^^ yE s i : Nat)), (12, .int .i64 s.size), (13, .int .i64 i), (22, .int .i64 0)] h = some (.exit 2, e1, h) := q1
   clear q1
   have x1 := zg hc (show yE s i < 4294967296 by omega)
   have n1 : ((i + 1 : Nat) : Int) = (i : Int) + 1 := by omega
   refine ⟨e', uy ?_ r1, r2⟩
   rw [n1]
   unfold AY
   simp (disch := omega) only [go_sem, wy, wz, Nat.reduceEqDiff, reduceIte, Nat.reduceAdd, Nat.reduceMul, Nat.reduceLT, Nat.reduceLeDiff, Int.reduceBEq, Int.reduceBNe, Int.reduceLT, Int.reduceLE, Int.reduceEq, wI, cf.aP, cf.aJ, Int.reduceAdd, Int.reduceSub, Int.reduceMul, Int.reduceNeg, Int.reduceToNat, AP.f103L1, wu, x1, th, q1', q2, q3, q4, q5]
def D9 (a : Nat) (s : ByteArray) : Nat := 4294967295 - zj s s.size 0 (4294967295 - a)
theorem Hy (a : Nat) (s : ByteArray) : D9 a s < 4294967296 := by unfold D9; omega
theorem P1 (h : H) (s : ByteArray) (a : Nat) (ha : a < 4294967296) (hs : s.size < 1125899906842624) : aS AP.A 103 [.int .i64 a, .str s] h = some (.int .i64 (D9 a s : Nat), h) := by
 obtain ⟨e', r1, r2⟩ := Fj s hs h.ez s.size 0 (4294967295 - a) (by omega) (by omega)
 have r1' : Lp AP.A [1, 5, 12, 13] AP.f103L1 [(1, .str s), (5, .int .u32 (4294967295 - a : Nat)), (12, .int .i64 s.size), (13, .int .i64 0)] h.ez = some (.exit 0, e', h.ez) := r1
 clear r1
 have lt := CU s s.size 0 (c := 4294967295 - a) (by omega)
 have v1 : ∀ g : H, tV g (.int .u32 (a : Int)) = some (.int .u32 ((4294967295 - a : Nat) : Int), g) := fun g => Gk ha
 have v2 : ∀ g : H, tV g (.int .u32 (zj s s.size 0 (4294967295 - a) : Nat)) = some (.int .u32 ((4294967295 - zj s s.size 0 (4294967295 - a) : Nat) : Int), g) := fun g => Gk lt
 refine u7 (fn := AP.f103) (h2 := h.ez) (e := [(4, .int .i64 (D9 a s : Nat))]) rfl rfl rfl ?_ rfl rfl
 unfold D9
 simp (disch := omega) only [go_sem, wy, wz, Nat.reduceEqDiff, reduceIte, Nat.reduceAdd, Nat.reduceMul, Nat.reduceLT, Nat.reduceLeDiff, Int.reduceBEq, Int.reduceBNe, Int.reduceLT, Int.reduceLE, Int.reduceEq, wI, cf.aP, cf.aJ, Int.reduceAdd, Int.reduceSub, Int.reduceMul, Int.reduceNeg, Int.reduceToNat, AP.f103, wu, v1, v2, th, r1', r2]
def Nx (x : Int) : Bool := decide (0 ≤ x ∧ x ≤ 4294967295)
theorem TZ (h : H) (x : Int) : aS AP.A 105 [.int .i64 x] h = some (.bool (Nx x), h) := by
 refine u7 (fn := AP.f105) (h2 := h.ez) (e := [(2, .bool (Nx x))]) rfl rfl rfl ?_ rfl rfl
 unfold Nx
 by_cases c1 : 0 ≤ x
 · by_cases c2 : x ≤ 4294967295
   · simp (disch := omega) only [go_sem, wy, wz, Nat.reduceEqDiff, reduceIte, Nat.reduceAdd, Nat.reduceMul, Nat.reduceLT, Nat.reduceLeDiff, Int.reduceBEq, Int.reduceBNe, Int.reduceLT, Int.reduceLE, Int.reduceEq, wI, cf.aP, cf.aJ, Int.reduceAdd, Int.reduceSub, Int.reduceMul, Int.reduceNeg, Int.reduceToNat, AP.f105]
   · simp (disch := omega) only [go_sem, wy, wz, Nat.reduceEqDiff, reduceIte, Nat.reduceAdd, Nat.reduceMul, Nat.reduceLT, Nat.reduceLeDiff, Int.reduceBEq, Int.reduceBNe, Int.reduceLT, Int.reduceLE, Int.reduceEq, wI, cf.aP, cf.aJ, Int.reduceAdd, Int.reduceSub, Int.reduceMul, Int.reduceNeg, Int.reduceToNat, AP.f105]
 · simp (disch := omega) only [go_sem, wy, wz, Nat.reduceEqDiff, reduceIte, Nat.reduceAdd, Nat.reduceMul, Nat.reduceLT, Nat.reduceLeDiff, Int.reduceBEq, Int.reduceBNe, Int.reduceLT, Int.reduceLE, Int.reduceEq, wI, cf.aP, cf.aJ, Int.reduceAdd, Int.reduceSub, Int.reduceMul, Int.reduceNeg, Int.reduceToNat, AP.f105]
def zL (s : ByteArray) : Nat := D9 0 s
theorem Li (h : H) (s : ByteArray) (hs : s.size < 1125899906842624) : aS AP.A 115 [.str s] h = some (.int .i64 (zL s : Nat), h) := by
 have k1 := P1 h.ez s 0 (by omega) hs
 have k1' : aS AP.A 103 [.int .i64 0, .str s] h.ez = some (.int .i64 (zL s : Nat), h.ez) := k1
 refine u7 (fn := AP.f115) (h2 := h.ez) (e := [(2, .int .i64 (zL s : Nat))]) rfl rfl rfl ?_ rfl rfl
 simp (disch := omega) only [go_sem, wy, wz, Nat.reduceEqDiff, reduceIte, Nat.reduceAdd, Nat.reduceMul, Nat.reduceLT, Nat.reduceLeDiff, Int.reduceBEq, Int.reduceBNe, Int.reduceLT, Int.reduceLE, Int.reduceEq, wI, cf.aP, cf.aJ, Int.reduceAdd, Int.reduceSub, Int.reduceMul, Int.reduceNeg, Int.reduceToNat, AP.f115, k1']
theorem FX (a d : AV) (h : H) : ∀ (n c k : Nat), k + n = 8 → c < 4294967296 →
 ∃ e', Lp AP.A [0, 1, 5, 6] AP.f111L0 [(0, .int .u32 c), (1, a), (5, d), (6, .int .i64 k)] h = some (.exit 2, e', h) ∧ look e' 1 = a ∧ look e' 0 = .int .u32 (Cv n c : Nat) ∧ look e' 5 = d
 | 0, c, k, hk, hc => by
   refine ⟨[(0, .int .u32 c), (1, a), (5, d), (6, .int .i64 k), (20, .bool false)], ux ?_, rfl, rfl, rfl⟩
   simp (disch := omega) only [go_sem, wy, wz, Nat.reduceEqDiff, reduceIte, Nat.reduceAdd, Nat.reduceMul, Nat.reduceLT, Nat.reduceLeDiff, Int.reduceBEq, Int.reduceBNe, Int.reduceLT, Int.reduceLE, Int.reduceEq, wI, cf.aP, cf.aJ, Int.reduceAdd, Int.reduceSub, Int.reduceMul, Int.reduceNeg, Int.reduceToNat, AP.f111L0]
 | n + 1, c, k, hk, hc => by
   obtain ⟨e', r1, r2, r3, r4⟩ := FX a d h n (BE c) (k + 1) (by omega) (CT hc)
   have n1 : ((k + 1 : Nat) : Int) = (k : Int) + 1 := by omega
   have x1 := zg (a := c / 2) (b := 3988292384) (by omega) (by omega)
   have a1 := DO hc
   have s1 := Jz hc
   refine ⟨e', uy ?_ r1, r2, r3, r4⟩
   rw [n1]
   unfold BE
   by_cases p : c % 2 = 1
   · rw [if_pos p]
     rw [show ((3988292384 : Nat) : Int) = 3988292384 from rfl] at x1
     simp (disch := omega) only [go_sem, wy, wz, Nat.reduceEqDiff, reduceIte, Nat.reduceAdd, Nat.reduceMul, Nat.reduceLT, Nat.reduceLeDiff, Int.reduceBEq, Int.reduceBNe, Int.reduceLT, Int.reduceLE, Int.reduceEq, wI, cf.aP, cf.aJ, Int.reduceAdd, Int.reduceSub, Int.reduceMul, Int.reduceNeg, Int.reduceToNat, AP.f111L0, a1, s1, x1]
   · rw [if_neg p]
     simp (disch := omega) only [go_sem, wy, wz, Nat.reduceEqDiff, reduceIte, Nat.reduceAdd, Nat.reduceMul, Nat.reduceLT, Nat.reduceLeDiff, Int.reduceBEq, Int.reduceBNe, Int.reduceLT, Int.reduceLE, Int.reduceEq, wI, cf.aP, cf.aJ, Int.reduceAdd, Int.reduceSub, Int.reduceMul, Int.reduceNeg, Int.reduceToNat, AP.f111L0, a1, s1]
theorem FY (s : ByteArray) (hs : s.size < 1125899906842624) (h : H) : ∀ (n i c : Nat), i + n = s.size → c < 4294967296 →
 ∃ e', Lp AP.A [0, 1, 5] AP.f111L1 [(0, .int .u32 c), (1, .str s), (5, .int .i64 i)] h = some (.exit 0, e', h) ∧ look e' 0 = .int .u32 (zj s n i c : Nat)
 | 0, i, c, hi, hc => by
   refine ⟨[(0, .int .u32 c), (1, .str s), (5, .int .i64 i), (10, .bool false)], ux ?_, rfl⟩
   simp (disch := omega) only [go_sem, wy, wz, Nat.reduceEqDiff, reduceIte, Nat.reduceAdd, Nat.reduceMul, Nat.reduceLT, Nat.reduceLeDiff, Int.reduceBEq, Int.reduceBNe, Int.reduceLT, Int.reduceLE, Int.reduceEq, wI, cf.aP, cf.aJ, Int.reduceAdd, Int.reduceSub, Int.reduceMul, Int.reduceNeg, Int.reduceToNat, AP.f111L1]
 | n + 1, i, c, hi, hc => by
   have hb := zK s i
   obtain ⟨e', r1, r2⟩ := FY s hs h n (i + 1) (AY c (yE s i)) (by omega) (BG hc hb)
   obtain ⟨e1, q1, q2, q3, q4⟩ := FX (.str s) (.int .i64 i) h 8 (c ^^^ yE s i) 0 rfl (Ai hc (by omega))
   have q1' : Lp AP.A [0, 1, 5, 6] AP.f111L0 [(0, .int .u32 (c ^^^ yE s i : Nat)), (1, .str s), (5, .int .i64 i), (6, .int .i64 0)] h = some (.exit 2, e1, h) := q1
   clear q1
   have x1 := zg hc (show yE s i < 4294967296 by omega)
   have n1 : ((i + 1 : Nat) : Int) = (i : Int) + 1 := by omega
   refine ⟨e', uy ?_ r1, r2⟩
   rw [n1]
   unfold AY
   simp (disch := omega) only [go_sem, wy, wz, Nat.reduceEqDiff, reduceIte, Nat.reduceAdd, Nat.reduceMul, Nat.reduceLT, Nat.reduceLeDiff, Int.reduceBEq, Int.reduceBNe, Int.reduceLT, Int.reduceLE, Int.reduceEq, wI, cf.aP, cf.aJ, Int.reduceAdd, Int.reduceSub, Int.reduceMul, Int.reduceNeg, Int.reduceToNat, AP.f111L1, wu, x1, th, q1', q2, q3, q4]
theorem Ql (h : H) (s : ByteArray) (c : Nat) (hc : c < 4294967296) (hs : s.size < 1125899906842624) : aS AP.A 111 [.int .u32 c, .str s] h = some (.int .u32 (zj s s.size 0 c : Nat), h) := by
 obtain ⟨e', r1, r2⟩ := FY s hs h.ez s.size 0 c (by omega) hc
 have r1' : Lp AP.A [0, 1, 5] AP.f111L1 [(0, .int .u32 c), (1, .str s), (5, .int .i64 0)] h.ez = some (.exit 0, e', h.ez) := r1
 clear r1
 refine u7 (fn := AP.f111) (h2 := h.ez) (e := [(4, .int .u32 (zj s s.size 0 c : Nat))]) rfl rfl rfl ?_ rfl rfl
 simp (disch := omega) only [go_sem, wy, wz, Nat.reduceEqDiff, reduceIte, Nat.reduceAdd, Nat.reduceMul, Nat.reduceLT, Nat.reduceLeDiff, Int.reduceBEq, Int.reduceBNe, Int.reduceLT, Int.reduceLE, Int.reduceEq, wI, cf.aP, cf.aJ, Int.reduceAdd, Int.reduceSub, Int.reduceMul, Int.reduceNeg, Int.reduceToNat, AP.f111, th, r1', r2]
theorem KP (h : H) (s : ByteArray) (hs : s.size < 1125899906842624) : aS AP.A 101 [.str s] h = some (.int .i64 (zL s : Nat), h) := by
 have k1 := Ql h.ez s 4294967295 (by omega) hs
 have k1' : aS AP.A 111 [.int .u32 4294967295, .str s] h.ez = some (.int .u32 (zj s s.size 0 4294967295 : Nat), h.ez) := k1
 have lt := CU s s.size 0 (c := 4294967295) (by omega)
 have v2 : ∀ g : H, tV g (.int .u32 (zj s s.size 0 4294967295 : Nat)) = some (.int .u32 (zL s : Nat), g) := fun g => Gk lt
 have lt2 := Hy 0 s
 unfold zL at v2 ⊢
 refine u7 (fn := AP.f101) (h2 := h.ez) (e := [(2, .int .i64 (D9 0 s : Nat))]) rfl rfl rfl ?_ rfl rfl
 simp (disch := omega) only [go_sem, wy, wz, Nat.reduceEqDiff, reduceIte, Nat.reduceAdd, Nat.reduceMul, Nat.reduceLT, Nat.reduceLeDiff, Int.reduceBEq, Int.reduceBNe, Int.reduceLT, Int.reduceLE, Int.reduceEq, wI, cf.aP, cf.aJ, Int.reduceAdd, Int.reduceSub, Int.reduceMul, Int.reduceNeg, Int.reduceToNat, AP.f101, k1', v2]
theorem HZ {a s : Nat} (hs : s ≤ 64) : qe .shr .i64 (a : Int) (s : Int) = some (.int .i64 ((a / 2 ^ s : Nat) : Int)) := by
 unfold qe
 rw [if_neg (by omega)]
 simp only [IntKind.bits, Vo, Nat.min_eq_left hs]
 rw [Int.fdiv_eq_ediv_of_nonneg _ (Int.pow_nonneg (by omega))]
 simp
theorem GU {h : H} {v : AV} {k : Nat} {l : List Nat} (o : wW 1 h v k (zH l)) : uV h v (aT h 1 v) = some (.str (bytesOf l), h) := by
 rw [o.rd.1]
 simp only [uV, vO, F7]
 rcases o.2 with ⟨rfl, _⟩ | ⟨id, rfl, _⟩ <;> rfl
theorem Qt {k : IntKind} {i : Int} {n : Nat} (h : 0 ≤ i ∧ i < n) : dq (.int k i) n = some i.toNat := by simp [dq, oJ, h]
def okB (b : Nat) : Bool := decide (97 ≤ b ∧ b ≤ 122 ∨ 48 ≤ b ∧ b ≤ 57 ∨ b = 46 ∨ b = 45 ∨ b = 95)
def yO (s : ByteArray) : Nat → Nat → Bool
 | 0, _ => false
 | n + 1, i => decide (i = yE s n) || yO s n i
def MS : ByteArray := ⟨#[97, 98, 99, 100, 101, 102, 103, 104, 105, 106, 107, 108, 109, 110, 111, 112, 113, 114, 115, 116, 117, 118, 119, 120, 121, 122, 48, 49, 50, 51, 52, 53, 54, 55, 56, 57, 46, 45, 95]⟩
def bT (P : Nat → Bool) : List AV := oz 256 fun i => .bool (P i)
theorem Bw (P : Nat → Bool) : (bT P).length = 256 := by simp [bT]
theorem NV (P : Nat → Bool) {i : Nat} (h : i < 256) : (bT P)[i]? = some (.bool (P i)) := gE h
theorem NX (s : ByteArray) (n : Nat) : (bT (yO s n)).set (yE s n) (.bool true) = bT (yO s (n + 1)) := by
 unfold bT
 rw [uP (zK s n)]
 congr 1
 funext i
 have e : yO s (n + 1) i = (decide (i = yE s n) || yO s n i) := rfl
 rw [e]
 unfold vh
 by_cases h : i = yE s n
 · simp [h]
 · simp [h]
theorem Qv : bT (yO MS 39) = bT okB := by
 unfold bT oz
 refine Vi fun i hi => ?_
 have hi' : i < 256 := Vs.1 hi
 have : ∀ i, i < 256 → yO MS 39 i = okB i := by decide +kernel
 rw [this i hi']
theorem Ei (g : Nat → Option (List AV)) (fl n : Nat) (t : Bool) : ∀ l : List Bool, fV (snap g fl (n + 1) t) (l.map .bool) = some (l.map .bool)
 | [] => rfl
 | b :: l => by
   have := Ei g fl n t l
   simp only [UW, fV, this]; rfl
theorem MN (g : Nat → Option (List AV)) (fl n : Nat) (t : Bool) (P : Nat → Bool) : fV (snap g fl (n + 1) t) (bT P) = some (bT P) := by
 have e : bT P = ((List.range 256).map P).map .bool := by unfold bT oz; rw [List.map_map]; rfl
 rw [e]; exact Ei g fl n t _
theorem KI (e : Env) : aX e (.alloc [.bool false, .bool false, .bool false, .bool false, .bool false, .bool false, .bool false, .bool false, .bool false, .bool false, .bool false, .bool false, .bool false, .bool false, .bool false, .bool false, .bool false, .bool false, .bool false, .bool false, .bool false, .bool false, .bool false, .bool false, .bool false, .bool false, .bool false, .bool false, .bool false, .bool false, .bool false, .bool false, .bool false, .bool false, .bool false, .bool false, .bool false, .bool false, .bool false, .bool false, .bool false, .bool false, .bool false, .bool false, .bool false, .bool false, .bool false, .bool false, .bool false, .bool false, .bool false, .bool false, .bool false, .bool false, .bool false, .bool false, .bool false, .bool false, .bool false, .bool false, .bool false, .bool false, .bool false, .bool false, .bool false, .bool false, .bool false, .bool false, .bool false, .bool false, .bool false, .bool false, .bool false, .bool false, .bool false, .bool false, .bool false, .bool false, .bool false, .bool false, .bool false, .bool false, .bool false, .bool false, .bool false, .bool false, .bool false, .bool false, .bool false, .bool false, .bool false, .bool false, .bool false, .bool false, .bool false, .bool false, .bool false, .bool false, .bool false, .bool false, .bool false, .bool false, .bool false, .bool false, .bool false, .bool false, .bool false, .bool false, .bool false, .bool false, .bool false, .bool false, .bool false, .bool false, .bool false, .bool false, .bool false, .bool false, .bool false, .bool false, .bool false, .bool false, .bool false, .bool false, .bool false, .bool false, .bool false, .bool false, .bool false, .bool false, .bool false, .bool false, .bool false, .bool false, .bool false, .bool false, .bool false, .bool false, .bool false, .bool false, .bool false, .bool false, .bool false, .bool false, .bool false, .bool false, .bool false, .bool false, .bool false, .bool false, .bool false, .bool false, .bool false, .bool false, .bool false, .bool false, .bool false, .bool false, .bool false, .bool false, .bool false, .bool false, .bool false, .bool false, .bool false, .bool false, .bool false, .bool false, .bool false, .bool false, .bool false, .bool false, .bool false, .bool false, .bool false, .bool false, .bool false, .bool false, .bool false, .bool false, .bool false, .bool false, .bool false, .bool false, .bool false, .bool false, .bool false, .bool false, .bool false, .bool false, .bool false, .bool false, .bool false, .bool false, .bool false, .bool false, .bool false, .bool false, .bool false, .bool false, .bool false, .bool false, .bool false, .bool false, .bool false, .bool false, .bool false, .bool false, .bool false, .bool false, .bool false, .bool false, .bool false, .bool false, .bool false, .bool false, .bool false, .bool false, .bool false, .bool false, .bool false, .bool false, .bool false, .bool false, .bool false, .bool false, .bool false, .bool false, .bool false, .bool false, .bool false, .bool false, .bool false, .bool false, .bool false, .bool false, .bool false, .bool false, .bool false, .bool false, .bool false, .bool false, .bool false, .bool false, .bool false, .bool false, .bool false, .bool false, .bool false, .bool false, .bool false, .bool false, .bool false, .bool false, .bool false, .bool false]) = some (bT fun _ => false, fun i => .aE i 0) := rfl
theorem Jr (s : ByteArray) (hs : s.size < 100000) (h7 : ∀ i, i < s.size → yE s i < 128) (id : Nat) : ∀ (m n : Nat) (h : H), n + m = s.size → h.get id = some (bT (yO s n)) → h.floor ≤ id →
 ∃ e' h', Lp AP.A [0, 2, 4] AP.f127L0 [(0, .str s), (2, .aE id 0), (4, .int .i64 n)] h = some (.exit 0, e', h') ∧ look e' 2 = .aE id 0 ∧ h'.get id = some (bT (yO s s.size)) ∧ h'.floor = h.floor
 | 0, n, h, hn, hg, hf => by
   obtain rfl : n = s.size := by omega
   refine ⟨[(0, .str s), (2, .aE id 0), (4, .int .i64 s.size), (9, .bool false)], h, ux ?_, rfl, hg, rfl⟩
   simp (disch := omega) only [go_sem, wy, wz, Nat.reduceEqDiff, reduceIte, Nat.reduceAdd, Nat.reduceMul, Nat.reduceLT, Nat.reduceLeDiff, Int.reduceBEq, Int.reduceBNe, Int.reduceLT, Int.reduceLE, Int.reduceEq, wI, cf.aP, cf.aJ, Int.reduceAdd, Int.reduceSub, Int.reduceMul, Int.reduceNeg, Int.reduceToNat, AP.f127L0]
 | m + 1, n, h, hn, hg, hf => by
   have g2 : (h.set id (bT (yO s (n + 1)))).get id = some (bT (yO s (n + 1))) := by rw [wS rfl, hg]; rfl
   obtain ⟨e', h', r1, r2, r3, r4⟩ := Jr s hs h7 id m (n + 1) _ (by omega) g2 (by simpa using hf)
   have n1 : ((n + 1 : Nat) : Int) = (n : Int) + 1 := by omega
   have hb := zK s n
   have hb7 := h7 n (by omega)
   have ia : dq (.int .u8 (yE s n : Nat)) 256 = some (yE s n) := by rw [Qt (by omega)]; rfl
   have st : ve h id (yE s n) 1 [.bool true] (some (bT (yO s n))) = some (h.set id (bT (yO s (n + 1)))) := by rw [vA hf (by rw [Bw]; exact hb) rfl, NX]
   refine ⟨e', h', uy ?_ r1, r2, r3, by rw [r4]; simp⟩
   rw [n1]
   generalize bT (yO s n) = T at *
   generalize bT (yO s (n + 1)) = T2 at *
   simp (disch := omega) only [go_sem, wy, wz, Nat.reduceEqDiff, reduceIte, Nat.reduceAdd, Nat.reduceMul, Nat.reduceLT, Nat.reduceLeDiff, Int.reduceBEq, Int.reduceBNe, Int.reduceLT, Int.reduceLE, Int.reduceEq, wI, cf.aP, cf.aJ, Int.reduceAdd, Int.reduceSub, Int.reduceMul, Int.reduceNeg, Int.reduceToNat, AP.f127L0, ia, hg, st]
theorem Bi {h : H} {id n : Nat} {v cs : List AV} (hf : h.floor ≤ id) (hv : v.length = n) (hc : cs.length = n) (hs : AV.aC v = true) : ve h id 0 n v (some cs) = some (h.set id v) := by
 rw [JB]
 have e : setFrom cs 0 v = v := by
  have := yY cs v [] [] (by omega)
  simpa using this
 simp [hf, hv, hc, hs, e, ym]
theorem Nl (P : Nat → Bool) : AV.aC (bT P) = true := by
 have e : bT P = ((List.range 256).map P).map .bool := by unfold bT oz; rw [List.map_map]; rfl
 rw [e]
 generalize (List.range 256).map P = l
 induction l with
 | nil => rfl
 | cons b l ih => simp [ih]
theorem P9 (P : Nat → Bool) : iG true 256 (bT P) 0 = some (.agg (bT P)) := by
 simp only [iG, if_true]
 rw [if_pos (by rw [Bw]; omega), Vg, U3 (by rw [Bw]; omega)]
theorem MP (h : H) (s : ByteArray) (hs : s.size < 100000) (h7 : ∀ i, i < s.size → yE s i < 128) : aS AP.A 127 [.str s] h = some (.bU [.agg (bT (yO s s.size)), .bool true], h) := by
 obtain ⟨h1, eh1⟩ : ∃ g, g = h.ez.alloc (bT fun _ => false) := ⟨_, rfl⟩
 have g1 : h1.get h.next = some (bT (yO s 0)) := by rw [eh1, wO (by simp)]; rfl
 obtain ⟨e', h', r1, r2, r3, r4⟩ := Jr s hs h7 h.next s.size 0 h1 (by omega) g1 (by rw [eh1]; simp)
 have r1' : Lp AP.A [0, 2, 4] AP.f127L0 [(0, .str s), (2, .aE h.next 0), (4, .int .i64 0)] h1 = some (.exit 0, e', h') := r1
 clear r1
 obtain ⟨h2, eh2⟩ : ∃ g, g = h'.set h.next (bT (yO s s.size)) := ⟨_, rfl⟩
 have st : ve h' h.next 0 256 (bT (yO s s.size)) (some (bT (yO s s.size))) = some h2 := by
  rw [Bi (by rw [r4, eh1]; simp) (Bw _) (Bw _) (Nl _), eh2]
 have g2 : h2.get h.next = some (bT (yO s s.size)) := by rw [eh2, wS rfl, r3]; rfl
 have hn : h.ez.next = h.next := rfl
 have rd := P9 (yO s s.size)
 refine u7 (fn := AP.f127) (h2 := h2) (e := [(2, .aE h.next 0), (3, .bool true)]) (vs := [.agg (bT (yO s s.size)), .bool true]) rfl rfl rfl ?_ ?_ ?_
 · generalize bT (yO s s.size) = T at *
   simp (disch := omega) only [go_sem, wy, wz, Nat.reduceEqDiff, reduceIte, Nat.reduceAdd, Nat.reduceMul, Nat.reduceLT, Nat.reduceLeDiff, Int.reduceBEq, Int.reduceBNe, Int.reduceLT, Int.reduceLE, Int.reduceEq, AP.f127, KI, hn, ← eh1, th, r1', r2, r3, rd, st]
 · simp only [AP.f127, cO, od, nQ, rH, g2, uo, rd, mB, ne_eq, Nat.reduceEqDiff, not_false_eq_true]
   rfl
 · show (fV (snap h2.get h.next 15 true) [.agg (bT (yO s s.size)), .bool true]).bind _ = _
   have m1 : snap h2.get h.next 15 true (.agg (bT (yO s s.size))) = some (.agg (bT (yO s s.size))) := by
    unfold snap; rw [MN]; rfl
   simp only [fV, m1]; rfl
theorem Nw (h : H) (id b : Nat) (P : Nat → Bool) (hg : h.get id = some (bT P)) (hb : b < 256) : aS AP.A 132 [.aE id 0, .int .u8 b] h = some (.bool (P b), h) := by
 have ia : dq (.int .u8 b) 256 = some b := by rw [Qt (by omega)]; congr 1
 have g := NV P hb
 refine uM (fn := AP.f132) (h2 := h) (e := [(4, .bool (P b))]) (vs := [.bool (P b)]) rfl rfl rfl ?_ rfl
 generalize bT P = T at *
 simp (disch := omega) only [go_sem, wy, wz, Nat.reduceEqDiff, reduceIte, Nat.reduceAdd, Nat.reduceMul, Nat.reduceLT, Nat.reduceLeDiff, Int.reduceBEq, Int.reduceBNe, Int.reduceLT, Int.reduceLE, Int.reduceEq, wI, cf.aP, cf.aJ, Int.reduceAdd, Int.reduceSub, Int.reduceMul, Int.reduceNeg, Int.reduceToNat, AP.f132, ia, hg, g]
theorem KG {s : ByteArray} {n : Nat} (hn : n ≤ s.size) : oK (.str s) none (some (.int .i64 n)) = some (.str (s.extract 0 n)) := Mn hn
theorem Mo {s : ByteArray} {n : Nat} (hn : n ≤ s.size) : oK (.str s) (some (.int .i64 n)) none = some (.str (s.extract n s.size)) := by
 have : kQ (.int .i64 n) s.size = some n := HX hn
 simp [oK, aB, this]
theorem DB {s : ByteArray} {a b i : Nat} (hb : b ≤ s.size) (hi : a + i < b) : yE (s.extract a b) i = yE s (a + i) := by
 have e : (s.extract a b)[i]? = s[a + i]? := by
  show (s.extract a b).data[i]? = s.data[a + i]?
  rw [ByteArray.data_extract, Array.getElem?_extract]
  have : s.data.size = s.size := rfl
  rw [if_pos (by omega)]
 unfold yE; rw [e]
theorem CK {s : ByteArray} {a b : Nat} (hb : b ≤ s.size) : (s.extract a b).size = b - a := by simp [ByteArray.size_extract]; omega
theorem Jh (s : ByteArray) : s.extract 0 s.size = s := by
 apply ByteArray.ext
 rw [ByteArray.data_extract]
 exact Array.extract_size
theorem MD (s : ByteArray) {n m : Nat} (hm : m ≤ n) : (s.extract 0 n).extract 0 m = s.extract 0 m := by
 apply ByteArray.ext
 rw [ByteArray.data_extract, ByteArray.data_extract, ByteArray.data_extract, Array.extract_extract]
 simp [hm]
theorem Ev (id : Nat) (P : Nat → Bool) (h : H) (hg : h.get id = some (bT P)) : ∀ (n : Nat) (s : ByteArray), s.size = n → n < 100000 →
 ∃ e' m, Lp AP.A [0, 1] AP.f129L0 [(0, .str s), (1, .aE id 0)] h = some (.exit 0, e', h) ∧ look e' 0 = .str (s.extract 0 m) ∧ m ≤ s.size ∧ (∀ i, m ≤ i → i < s.size → P (yE s i) = true) ∧ (0 < m → P (yE s (m - 1)) = false)
 | 0, s, hs, hn => by
   refine ⟨[(0, .str s), (1, .aE id 0), (7, .bool false)], 0, ux ?_, ?_, by omega, fun i h1 h2 => by omega, fun q => by omega⟩
   · simp (disch := omega) only [go_sem, wy, wz, Nat.reduceEqDiff, reduceIte, Nat.reduceAdd, Nat.reduceMul, Nat.reduceLT, Nat.reduceLeDiff, Int.reduceBEq, Int.reduceBNe, Int.reduceLT, Int.reduceLE, Int.reduceEq, wI, cf.aP, cf.aJ, Int.reduceAdd, Int.reduceSub, Int.reduceMul, Int.reduceNeg, Int.reduceToNat, AP.f129L0]
   · show AV.str s = _
     congr 1
     have := Jh s
     rw [hs] at this
     exact this.symm
 | n + 1, s, hs, hn => by
   have hb := zK s n
   have k1 := Nw h id (yE s n) P hg hb
   have n1 : (s.size : Int) - 1 = (n : Int) := by omega
   have sl := KG (s := s) (n := n) (by omega)
   by_cases c : P (yE s n) = true
   · rw [c] at k1
     obtain ⟨e', m, r1, r2, r3, r4, r5⟩ := Ev id P h hg n (s.extract 0 n) (by rw [CK (by omega)]; omega) (by omega)
     rw [CK (by omega)] at r3 r4
     refine ⟨e', m, uy ?_ r1, ?_, by omega, fun i h1 h2 => ?_, fun q => ?_⟩
     · simp (disch := omega) only [go_sem, wy, wz, Nat.reduceEqDiff, reduceIte, Nat.reduceAdd, Nat.reduceMul, Nat.reduceLT, Nat.reduceLeDiff, Int.reduceBEq, Int.reduceBNe, Int.reduceLT, Int.reduceLE, Int.reduceEq, wI, cf.aP, cf.aJ, Int.reduceAdd, Int.reduceSub, Int.reduceMul, Int.reduceNeg, Int.reduceToNat, AP.f129L0, n1, k1, sl]
     · rw [r2]; congr 1; exact MD s r3
     · by_cases hi : i = n
       · rw [hi]; exact c
       · have := r4 i h1 (by omega)
         rwa [DB (by omega) (by omega), vW] at this
     · have := r5 q
       rwa [DB (by omega) (by omega), vW] at this
   · have c' : P (yE s n) = false := by simpa using c
     rw [c'] at k1
     refine ⟨[(0, .str s), (1, .aE id 0), (15, .bool true)], s.size, ux ?_, ?_, vR _, fun i h1 h2 => by omega, fun q => by rw [hs]; exact c'⟩
     · simp (disch := omega) only [go_sem, wy, wz, Nat.reduceEqDiff, reduceIte, Nat.reduceAdd, Nat.reduceMul, Nat.reduceLT, Nat.reduceLeDiff, Int.reduceBEq, Int.reduceBNe, Int.reduceLT, Int.reduceLE, Int.reduceEq, wI, cf.aP, cf.aJ, Int.reduceAdd, Int.reduceSub, Int.reduceMul, Int.reduceNeg, Int.reduceToNat, AP.f129L0, n1, k1]
     · show AV.str s = _
       congr 1
       exact (Jh s).symm
theorem OU (s : ByteArray) {n : Nat} (h : s.size = n + 1) : (s.extract 1 s.size).size = n := by rw [CK (vR _)]; omega
theorem Fp (id : Nat) (P : Nat → Bool) (h : H) (hg : h.get id = some (bT P)) : ∀ (n : Nat) (s : ByteArray), s.size = n → n < 100000 → (0 < n → P (yE s (n - 1)) = false) →
 ∃ e' r, Lp AP.A [0, 1] AP.f128L0 [(0, .str s), (1, .aE id 0)] h = some (.exit 0, e', h) ∧ look e' 0 = .str r ∧ (r.size = 0 ↔ n = 0)
 | 0, s, hs, hn, hp => by
   refine ⟨[(0, .str s), (1, .aE id 0), (7, .bool false)], s, ux ?_, rfl, by omega⟩
   simp (disch := omega) only [go_sem, wy, wz, Nat.reduceEqDiff, reduceIte, Nat.reduceAdd, Nat.reduceMul, Nat.reduceLT, Nat.reduceLeDiff, Int.reduceBEq, Int.reduceBNe, Int.reduceLT, Int.reduceLE, Int.reduceEq, wI, cf.aP, cf.aJ, Int.reduceAdd, Int.reduceSub, Int.reduceMul, Int.reduceNeg, Int.reduceToNat, AP.f128L0]
 | n + 1, s, hs, hn, hp => by
   have hb := zK s 0
   have k1 := Nw h id (yE s 0) P hg hb
   have sl : oK (.str s) (some (.int .i64 1)) none = some (.str (s.extract 1 s.size)) := Mo (s := s) (n := 1) (by omega)
   have ix : ni (.str s) (.int .i64 0) = some (.int .u8 (yE s 0 : Nat)) := Gi (by omega)
   by_cases c : P (yE s 0) = true
   · rw [c] at k1
     have hn0 : n ≠ 0 := fun e => by subst e; have := hp (by omega); simp only [vW, Nat.sub_self] at this; rw [c] at this; cases this
     obtain ⟨e', r, r1, r2, r3⟩ := Fp id P h hg n (s.extract 1 s.size) (OU s hs) (by omega) (fun q => by
      rw [DB (vR _) (by omega), show 1 + (n - 1) = n + 1 - 1 by omega]; exact hp (by omega))
     refine ⟨e', r, uy ?_ r1, r2, by omega⟩
     clear hp
     simp (disch := omega) only [go_sem, wy, wz, Nat.reduceEqDiff, reduceIte, Nat.reduceAdd, Nat.reduceMul, Nat.reduceLT, Nat.reduceLeDiff, Int.reduceBEq, Int.reduceBNe, Int.reduceLT, Int.reduceLE, Int.reduceEq, dt, df, B8, AP.f128L0, k1, sl, ix, US, Vk]
   · have c' : P (yE s 0) = false := by simpa using c
     rw [c'] at k1
     refine ⟨[(0, .str s), (1, .aE id 0), (12, .bool true)], s, ux ?_, rfl, by omega⟩
     clear hp
     simp (disch := omega) only [go_sem, wy, wz, Nat.reduceEqDiff, reduceIte, Nat.reduceAdd, Nat.reduceMul, Nat.reduceLT, Nat.reduceLeDiff, Int.reduceBEq, Int.reduceBNe, Int.reduceLT, Int.reduceLE, Int.reduceEq, dt, df, B8, AP.f128L0, k1, sl, ix, US, Vk]
def DI (s : ByteArray) : Bool := (List.range s.size).all fun i => okB (yE s i)
theorem Ej : MS.size = 39 := rfl
theorem NW : bT (yO MS MS.size) = bT okB := Qv
theorem Ue (h : H) (s : ByteArray) (id : Nat) (P : Nat → Bool) (hg : h.get id = some (bT P)) (hs : s.size < 100000) (hp : 0 < s.size → P (yE s (s.size - 1)) = false) : ∃ r, aS AP.A 128 [.str s, .aE id 0] h = some (.str r, h) ∧ (r.size = 0 ↔ s.size = 0) := by
 obtain ⟨e', r, r1, r2, r3⟩ := Fp id P h hg s.size s rfl hs hp
 refine ⟨r, uM (fn := AP.f128) (h2 := h) (e := [(4, .str r)]) (vs := [.str r]) rfl rfl rfl ?_ rfl, r3⟩
 clear hp
 simp only [go_sem, wy, wz, Nat.reduceEqDiff, reduceIte, Nat.reduceAdd, Nat.reduceMul, Nat.reduceLT, Nat.reduceLeDiff, Int.reduceBEq, Int.reduceBNe, Int.reduceLT, Int.reduceLE, Int.reduceEq, AP.f128, th, r1, r2]
theorem Uf (h : H) (s : ByteArray) (id : Nat) (P : Nat → Bool) (hg : h.get id = some (bT P)) (hs : s.size < 100000) :
 ∃ m, aS AP.A 129 [.str s, .aE id 0] h = some (.str (s.extract 0 m), h) ∧ m ≤ s.size ∧ (∀ i, m ≤ i → i < s.size → P (yE s i) = true) ∧ (0 < m → P (yE s (m - 1)) = false) := by
 obtain ⟨e', m, r1, r2, r3, r4, r5⟩ := Ev id P h hg s.size s rfl hs
 refine ⟨m, uM (fn := AP.f129) (h2 := h) (e := [(4, .str (s.extract 0 m))]) (vs := [.str (s.extract 0 m)]) rfl rfl rfl ?_ rfl, r3, r4, r5⟩
 simp only [go_sem, wy, wz, Nat.reduceEqDiff, reduceIte, Nat.reduceAdd, Nat.reduceMul, Nat.reduceLT, Nat.reduceLeDiff, Int.reduceBEq, Int.reduceBNe, Int.reduceLT, Int.reduceLE, Int.reduceEq, AP.f129, th, r1, r2]
theorem IJ {a b : ByteArray} (h : a ≠ b) : (a.data.toList == b.data.toList) = false := by
 rw [beq_eq_false_iff_ne]
 intro e
 apply h
 apply ByteArray.ext
 exact Array.toList_inj.1 e
theorem LR (a : ByteArray) : (a.data.toList == a.data.toList) = true := by simp
theorem Qk (h : H) (s : ByteArray) (h0 : 0 < s.size) (hs : s.size < 100000) : ∃ r, aS AP.A 124 [.str s, .str MS] h = some (.str r, h) ∧ (r.size = 0 ↔ DI s = true) := by
 have m1 := MP h.ez MS (by rw [Ej]; omega) (by rw [Ej]; decide +kernel)
 rw [NW] at m1
 obtain ⟨h1, eh1⟩ : ∃ g, g = h.ez.alloc (bT fun _ => false) := ⟨_, rfl⟩
 have hn : h.ez.next = h.next := rfl
 have g1 : h1.get h.next = some (bT fun _ => false) := by rw [eh1, wO (by simp)]
 obtain ⟨h2, eh2⟩ : ∃ g, g = h1.set h.next (bT okB) := ⟨_, rfl⟩
 have st : ve h1 h.next 0 256 (bT okB) (some (bT fun _ => false)) = some h2 := by
  rw [Bi (by rw [eh1]; simp) (Bw _) (Bw _) (Nl _), eh2]
 have g2 : h2.get h.next = some (bT okB) := by rw [eh2, wS rfl, g1]; rfl
 obtain ⟨m, a1, a2, a3, a4⟩ := Uf h2 s h.next okB g2 hs
 have sz := CK (s := s) (a := 0) (b := m) a2
 obtain ⟨r, b1, b2⟩ := Ue h2 (s.extract 0 m) h.next okB g2 (by omega) (fun q => by
  rw [sz, Nat.sub_zero, DB a2 (by omega), vW]; exact a4 (by omega))
 refine ⟨r, ?_, ?_⟩
 · have e1 : bw .eql (.str s) (.str ⟨#[]⟩) = some (.bool false) := by
    rw [Au, IJ]; intro e; rw [e] at h0; exact absurd h0 (by decide)
   have e2 : bw .eql (.str MS) (.str ⟨#[]⟩) = some (.bool false) := by
    rw [Au, IJ]; intro e; have := Ej; rw [e] at this; exact absurd this (by decide)
   have l2 : jy true (.str MS) = some (.int .i64 39) := rfl
   refine u7 (fn := AP.f124) (h2 := h2) (e := [(4, .str r)]) rfl rfl rfl ?_ rfl rfl
   clear a3 a4
   generalize bT okB = T at *
   generalize hT : (bT fun _ => false) = T0 at *
   have ba : ∀ e : Env, aX e (.alloc [.bool false, .bool false, .bool false, .bool false, .bool false, .bool false, .bool false, .bool false, .bool false, .bool false, .bool false, .bool false, .bool false, .bool false, .bool false, .bool false, .bool false, .bool false, .bool false, .bool false, .bool false, .bool false, .bool false, .bool false, .bool false, .bool false, .bool false, .bool false, .bool false, .bool false, .bool false, .bool false, .bool false, .bool false, .bool false, .bool false, .bool false, .bool false, .bool false, .bool false, .bool false, .bool false, .bool false, .bool false, .bool false, .bool false, .bool false, .bool false, .bool false, .bool false, .bool false, .bool false, .bool false, .bool false, .bool false, .bool false, .bool false, .bool false, .bool false, .bool false, .bool false, .bool false, .bool false, .bool false, .bool false, .bool false, .bool false, .bool false, .bool false, .bool false, .bool false, .bool false, .bool false, .bool false, .bool false, .bool false, .bool false, .bool false, .bool false, .bool false, .bool false, .bool false, .bool false, .bool false, .bool false, .bool false, .bool false, .bool false, .bool false, .bool false, .bool false, .bool false, .bool false, .bool false, .bool false, .bool false, .bool false, .bool false, .bool false, .bool false, .bool false, .bool false, .bool false, .bool false, .bool false, .bool false, .bool false, .bool false, .bool false, .bool false, .bool false, .bool false, .bool false, .bool false, .bool false, .bool false, .bool false, .bool false, .bool false, .bool false, .bool false, .bool false, .bool false, .bool false, .bool false, .bool false, .bool false, .bool false, .bool false, .bool false, .bool false, .bool false, .bool false, .bool false, .bool false, .bool false, .bool false, .bool false, .bool false, .bool false, .bool false, .bool false, .bool false, .bool false, .bool false, .bool false, .bool false, .bool false, .bool false, .bool false, .bool false, .bool false, .bool false, .bool false, .bool false, .bool false, .bool false, .bool false, .bool false, .bool false, .bool false, .bool false, .bool false, .bool false, .bool false, .bool false, .bool false, .bool false, .bool false, .bool false, .bool false, .bool false, .bool false, .bool false, .bool false, .bool false, .bool false, .bool false, .bool false, .bool false, .bool false, .bool false, .bool false, .bool false, .bool false, .bool false, .bool false, .bool false, .bool false, .bool false, .bool false, .bool false, .bool false, .bool false, .bool false, .bool false, .bool false, .bool false, .bool false, .bool false, .bool false, .bool false, .bool false, .bool false, .bool false, .bool false, .bool false, .bool false, .bool false, .bool false, .bool false, .bool false, .bool false, .bool false, .bool false, .bool false, .bool false, .bool false, .bool false, .bool false, .bool false, .bool false, .bool false, .bool false, .bool false, .bool false, .bool false, .bool false, .bool false, .bool false, .bool false, .bool false, .bool false, .bool false, .bool false, .bool false, .bool false, .bool false, .bool false, .bool false, .bool false, .bool false, .bool false, .bool false, .bool false, .bool false, .bool false, .bool false, .bool false, .bool false, .bool false, .bool false, .bool false, .bool false, .bool false, .bool false]) = some (T0, fun i => .aE i 0) := fun e => by rw [KI, hT]
   simp (disch := omega) only [go_sem, wy, wz, Nat.reduceEqDiff, reduceIte, Nat.reduceAdd, Nat.reduceMul, Nat.reduceLT, Nat.reduceLeDiff, Int.reduceBEq, Int.reduceBNe, Int.reduceLT, Int.reduceLE, Int.reduceEq, AP.f124, ba, hn, ← eh1, e1, e2, l2, TW, m1, g1, st, a1, b1]
 · rw [b2, sz]
   unfold DI
   rw [List.all_eq_true]
   constructor
   · intro q i hi
     exact a3 i (by omega) (Vs.1 hi)
   · intro q
     by_cases hm : m = 0
     · omega
     · have := a4 (by omega)
       rw [q (m - 1) (Vs.2 (by omega))] at this
       cases this
def OQ : ByteArray := ⟨#[46]⟩
def KU : ByteArray := ⟨#[46, 46]⟩
def AO (s : ByteArray) : Bool := decide (1 ≤ s.size) && (decide (s.size ≤ 8) && (DI s && (!(s.data.toList == OQ.data.toList) && !(s.data.toList == KU.data.toList))))
theorem P4 (h : H) (s : ByteArray) (hs : s.size < 1125899906842624) : aS AP.A 121 [.str s] h = some (.bool (AO s), h) := by
 refine u7 (fn := AP.f121) (h2 := h.ez) (e := [(2, .bool (AO s))]) rfl rfl rfl ?_ rfl rfl
 unfold AO
 by_cases c1 : 1 ≤ s.size
 · by_cases c2 : s.size ≤ 8
   · obtain ⟨r, t1, t2⟩ := Qk h.ez s (by omega) (by omega)
     have t1' : aS AP.A 124 [.str s, .str ⟨#[97, 98, 99, 100, 101, 102, 103, 104, 105, 106, 107, 108, 109, 110, 111, 112, 113, 114, 115, 116, 117, 118, 119, 120, 121, 122, 48, 49, 50, 51, 52, 53, 54, 55, 56, 57, 46, 45, 95]⟩] h.ez = some (.str r, h.ez) := t1
     have e1 : bw .eql (.str r) (.str ⟨#[]⟩) = some (.bool (DI s)) := by
      rw [Au]
      by_cases q : DI s = true
      · rw [q]
        have : r = ⟨#[]⟩ := by
         apply ByteArray.ext
         exact Array.size_eq_zero_iff.1 (t2.2 q)
        rw [this, LR]
      · have q' : DI s = false := by simpa using q
        rw [q', IJ]
        intro e
        rw [e] at t2
        exact q (t2.1 rfl)
     have e2 : bw .neq (.str s) (.str ⟨#[46]⟩) = some (.bool (!(s.data.toList == OQ.data.toList))) := DF _ _
     have e3 : bw .neq (.str s) (.str ⟨#[46, 46]⟩) = some (.bool (!(s.data.toList == KU.data.toList))) := DF _ _
     clear t1 t2
     generalize (!(s.data.toList == OQ.data.toList)) = B2 at *
     generalize (!(s.data.toList == KU.data.toList)) = B3 at *
     generalize DI s = B1 at *
     cases B1 <;> cases B2 <;> cases B3 <;> simp (disch := omega) only [go_sem, wy, wz, Nat.reduceEqDiff, reduceIte, Nat.reduceAdd, Nat.reduceMul, Nat.reduceLT, Nat.reduceLeDiff, Int.reduceBEq, Int.reduceBNe, Int.reduceLT, Int.reduceLE, Int.reduceEq, wI, cf.aP, cf.aJ, Int.reduceAdd, Int.reduceSub, Int.reduceMul, Int.reduceNeg, Int.reduceToNat, AP.f121, t1', e1, e2, e3]
   · simp (disch := omega) only [go_sem, wy, wz, Nat.reduceEqDiff, reduceIte, Nat.reduceAdd, Nat.reduceMul, Nat.reduceLT, Nat.reduceLeDiff, Int.reduceBEq, Int.reduceBNe, Int.reduceLT, Int.reduceLE, Int.reduceEq, wI, cf.aP, cf.aJ, Int.reduceAdd, Int.reduceSub, Int.reduceMul, Int.reduceNeg, Int.reduceToNat, AP.f121]
 · simp (disch := omega) only [go_sem, wy, wz, Nat.reduceEqDiff, reduceIte, Nat.reduceAdd, Nat.reduceMul, Nat.reduceLT, Nat.reduceLeDiff, Int.reduceBEq, Int.reduceBNe, Int.reduceLT, Int.reduceLE, Int.reduceEq, wI, cf.aP, cf.aJ, Int.reduceAdd, Int.reduceSub, Int.reduceMul, Int.reduceNeg, Int.reduceToNat, AP.f121]
def zr (s : ByteArray) (i j : Nat) : Nat → Nat → Nat
 | 0, k => k
 | f + 1, k => if k < 258 ∧ i + k < s.size ∧ yE s (i + k) = yE s (j + k) then zr s i j f (k + 1) else k
theorem FN (s : ByteArray) (i j : Nat) (hs : s.size < 100000) (hj : j ≤ i) (hi : i ≤ s.size) (h : H) : ∀ (f k : Nat), k + f = 258 →
 ∃ e', Lp AP.A [0, 1, 2, 7] AP.f26L0 [(0, .str s), (1, .int .i64 i), (2, .int .i64 j), (7, .int .i64 k)] h = some (.exit 0, e', h) ∧ look e' 7 = .int .i64 (zr s i j f k : Nat)
 | 0, k, hk => by
   refine ⟨[(0, .str s), (1, .int .i64 i), (2, .int .i64 j), (7, .int .i64 k), (30, .bool false)], ux ?_, rfl⟩
   simp (disch := omega) only [go_sem, wy, wz, Nat.reduceEqDiff, reduceIte, Nat.reduceAdd, Nat.reduceMul, Nat.reduceLT, Nat.reduceLeDiff, Int.reduceBEq, Int.reduceBNe, Int.reduceLT, Int.reduceLE, Int.reduceEq, wI, cf.aP, cf.aJ, Int.reduceAdd, Int.reduceSub, Int.reduceMul, Int.reduceNeg, Int.reduceToNat, AP.f26L0]
 | f + 1, k, hk => by
   have n1 : ((k : Int) + 1) = ((k + 1 : Nat) : Int) := by omega
   by_cases c1 : i + k < s.size
   · by_cases c2 : yE s (i + k) = yE s (j + k)
     · obtain ⟨e', r1, r2⟩ := FN s i j hs hj hi h f (k + 1) (by omega)
       refine ⟨e', uy ?_ r1, ?_⟩
       · rw [← n1]
         simp (disch := omega) only [go_sem, wy, wz, Nat.reduceEqDiff, reduceIte, Nat.reduceAdd, Nat.reduceMul, Nat.reduceLT, Nat.reduceLeDiff, Int.reduceBEq, Int.reduceBNe, Int.reduceLT, Int.reduceLE, Int.reduceEq, wI, cf.aP, cf.aJ, Int.reduceAdd, Int.reduceSub, Int.reduceMul, Int.reduceNeg, Int.reduceToNat, AP.f26L0]
       · rw [r2, zr, if_pos ⟨by omega, c1, c2⟩]
     · refine ⟨[(0, .str s), (1, .int .i64 i), (2, .int .i64 j), (7, .int .i64 k), (30, .bool false)], ux ?_, ?_⟩
       · simp (disch := omega) only [go_sem, wy, wz, Nat.reduceEqDiff, reduceIte, Nat.reduceAdd, Nat.reduceMul, Nat.reduceLT, Nat.reduceLeDiff, Int.reduceBEq, Int.reduceBNe, Int.reduceLT, Int.reduceLE, Int.reduceEq, wI, cf.aP, cf.aJ, Int.reduceAdd, Int.reduceSub, Int.reduceMul, Int.reduceNeg, Int.reduceToNat, AP.f26L0]
       · rw [zr, if_neg (fun q => c2 q.2.2)]; rfl
   · refine ⟨[(0, .str s), (1, .int .i64 i), (2, .int .i64 j), (7, .int .i64 k), (30, .bool false)], ux ?_, ?_⟩
     · simp (disch := omega) only [go_sem, wy, wz, Nat.reduceEqDiff, reduceIte, Nat.reduceAdd, Nat.reduceMul, Nat.reduceLT, Nat.reduceLeDiff, Int.reduceBEq, Int.reduceBNe, Int.reduceLT, Int.reduceLE, Int.reduceEq, wI, cf.aP, cf.aJ, Int.reduceAdd, Int.reduceSub, Int.reduceMul, Int.reduceNeg, Int.reduceToNat, AP.f26L0]
     · rw [zr, if_neg (fun q => c1 q.2.1)]; rfl
def same (s : ByteArray) (i j : Nat) : Nat := zr s i j 258 0
theorem Qb (h : H) (s : ByteArray) (i j : Nat) (hs : s.size < 100000) (hj : j ≤ i) (hi : i ≤ s.size) : aS AP.A 26 [.str s, .int .i64 i, .int .i64 j] h = some (.int .i64 (same s i j : Nat), h) := by
 obtain ⟨e', r1, r2⟩ := FN s i j hs hj hi h.ez 258 0 rfl
 have r1' : Lp AP.A [0, 1, 2, 7] AP.f26L0 [(0, .str s), (1, .int .i64 i), (2, .int .i64 j), (7, .int .i64 0)] h.ez = some (.exit 0, e', h.ez) := r1
 clear r1
 refine u7 (fn := AP.f26) (h2 := h.ez) (e := [(6, .int .i64 (same s i j : Nat))]) rfl rfl rfl ?_ rfl rfl
 simp (disch := omega) only [go_sem, wy, wz, Nat.reduceEqDiff, reduceIte, Nat.reduceAdd, Nat.reduceMul, Nat.reduceLT, Nat.reduceLeDiff, Int.reduceBEq, Int.reduceBNe, Int.reduceLT, Int.reduceLE, Int.reduceEq, wI, cf.aP, cf.aJ, Int.reduceAdd, Int.reduceSub, Int.reduceMul, Int.reduceNeg, Int.reduceToNat, AP.f26, th, r1', r2, same]
def yc (s : ByteArray) (i : Nat) : Nat → Nat × Nat → Nat × Nat
 | 0, b => b
 | j + 1, b => yc s i j (if b.1 < same s i j then (same s i j, i - j) else b)
theorem HW (s : ByteArray) (i j : Nat) : ∀ f k, zr s i j f k ≤ k + f
 | 0, k => by simp [zr]
 | f + 1, k => by
   unfold zr
   split
   · have := HW s i j f (k + 1); omega
   · omega
theorem Jx (s : ByteArray) (i j : Nat) : same s i j ≤ 258 := by have := HW s i j 258 0; unfold same; omega
theorem Ez (s : ByteArray) (i j : Nat) (hi : i ≤ s.size) : ∀ f k, i + k ≤ s.size → i + zr s i j f k ≤ s.size
 | 0, k, h => by simpa [zr] using h
 | f + 1, k, h => by
   unfold zr
   split
   · rename_i q; exact Ez s i j hi f (k + 1) (by omega)
   · exact h
theorem FO (s : ByteArray) (i j : Nat) (hi : i ≤ s.size) : i + same s i j ≤ s.size := Ez s i j hi 258 0 (by omega)
theorem Bx (s : ByteArray) (i : Nat) (hi : i ≤ s.size) : ∀ (j : Nat) (b : Nat × Nat), i + b.1 ≤ s.size → i + (yc s i j b).1 ≤ s.size
 | 0, b, h => h
 | j + 1, b, h => by
   unfold yc
   refine Bx s i hi j _ ?_
   split
   · exact FO s i j hi
   · exact h
theorem CQ (s : ByteArray) (i : Nat) (hs : s.size < 100000) (hi : i < s.size) (v4 : AV) (h : H) : ∀ (n : Nat) (b : Nat × Nat) (j : Int), n ≤ i → j = (n : Int) - 1 →
 ∃ e', Lp AP.A [0, 4, 5, 6, 7, 8] AP.f12L0 [(0, .str s), (4, v4), (5, .int .i64 i), (6, .int .i64 b.1), (7, .int .i64 b.2), (8, .int .i64 j)] h = some (.exit 2, e', h) ∧
   look e' 0 = .str s ∧ look e' 4 = v4 ∧ look e' 5 = .int .i64 i ∧ look e' 6 = .int .i64 (yc s i n b).1 ∧ look e' 7 = .int .i64 (yc s i n b).2
 | 0, b, j, hn, hj => by
   refine ⟨[(0, .str s), (4, v4), (5, .int .i64 i), (6, .int .i64 b.1), (7, .int .i64 b.2), (8, .int .i64 j), (20, .bool false)], ux ?_, rfl, rfl, rfl, rfl, rfl⟩
   simp (disch := omega) only [go_sem, wy, wz, Nat.reduceEqDiff, reduceIte, Nat.reduceAdd, Nat.reduceMul, Nat.reduceLT, Nat.reduceLeDiff, Int.reduceBEq, Int.reduceBNe, Int.reduceLT, Int.reduceLE, Int.reduceEq, wI, cf.aP, cf.aJ, Int.reduceAdd, Int.reduceSub, Int.reduceMul, Int.reduceNeg, Int.reduceToNat, AP.f12L0]
 | n + 1, b, j, hn, hj => by
   obtain rfl : j = (n : Int) := by omega
   have k1 := Qb h s i n hs (by omega) (by omega)
   have k2 := Jx s i n
   have n1 : (i : Int) - (n : Int) = ((i - n : Nat) : Int) := by omega
   by_cases c : b.1 < same s i n
   · obtain ⟨e', r1, r2, r3, r4, r5, r6⟩ := CQ s i hs hi v4 h n (same s i n, i - n) ((n : Int) - 1) (by omega) rfl
     refine ⟨e', uy ?_ r1, r2, r3, r4, ?_, ?_⟩
     · simp (disch := omega) only [go_sem, wy, wz, Nat.reduceEqDiff, reduceIte, Nat.reduceAdd, Nat.reduceMul, Nat.reduceLT, Nat.reduceLeDiff, Int.reduceBEq, Int.reduceBNe, Int.reduceLT, Int.reduceLE, Int.reduceEq, wI, cf.aP, cf.aJ, Int.reduceAdd, Int.reduceSub, Int.reduceMul, Int.reduceNeg, Int.reduceToNat, AP.f12L0, k1, n1]
     · rw [r5, yc, if_pos c]
     · rw [r6, yc, if_pos c]
   · obtain ⟨e', r1, r2, r3, r4, r5, r6⟩ := CQ s i hs hi v4 h n b ((n : Int) - 1) (by omega) rfl
     refine ⟨e', uy ?_ r1, r2, r3, r4, ?_, ?_⟩
     · simp (disch := omega) only [go_sem, wy, wz, Nat.reduceEqDiff, reduceIte, Nat.reduceAdd, Nat.reduceMul, Nat.reduceLT, Nat.reduceLeDiff, Int.reduceBEq, Int.reduceBNe, Int.reduceLT, Int.reduceLE, Int.reduceEq, wI, cf.aP, cf.aJ, Int.reduceAdd, Int.reduceSub, Int.reduceMul, Int.reduceNeg, Int.reduceToNat, AP.f12L0, k1, n1]
     · rw [r5, yc, if_neg c]
     · rw [r6, yc, if_neg c]
structure Tok where
 lit : Int
 len : Int
 xb : Int
deriving DecidableEq
def Ng (t : Tok) : List Int := [t.lit, t.len, t.xb]
def IL (t : Tok) : List AV := ints (Ng t)
def NU (ts : List Tok) : List Int := ts.flatMap Ng
def xu (ts : List Tok) : List AV := ts.flatMap IL
theorem EL (t : Tok) : (IL t).length = 3 := rfl
theorem Kl (ts : List Tok) : (xu ts).length = ts.length * 3 := CX EL ts
theorem B6 : ∀ ts : List Tok, xu ts = ints (NU ts)
 | [] => rfl
 | t :: ts => by
   have := B6 ts
   unfold xu NU at *
   rw [UU, UU, qx, this]; rfl
theorem IM (ts : List Tok) (t : Tok) : xu (ts ++ [t]) = xu ts ++ IL t := by simp [xu]
def xN (s : ByteArray) (i : Nat) : Tok × Nat :=
 if (yc s i i (0, 0)).1 < 3 then (⟨yE s i, 0, 0⟩, i + 1) else (⟨0, (yc s i i (0, 0)).1, (yc s i i (0, 0)).2⟩, i + (yc s i i (0, 0)).1)
def B5 (s : ByteArray) : Nat → Nat → List Tok
 | 0, _ => []
 | f + 1, i => if i < s.size then (xN s i).1 :: B5 s f (xN s i).2 else []
theorem Ib (s : ByteArray) (i : Nat) : i < (xN s i).2 := by
 unfold xN; split <;> simp <;> omega
theorem Ia (s : ByteArray) (i : Nat) (hi : i < s.size) : (xN s i).2 ≤ s.size := by
 unfold xN; split
 · exact hi
 · exact Bx s i (by omega) i (0, 0) (by show i + 0 ≤ _; omega)
theorem Ic (s : ByteArray) (i : Nat) (hi : s.size ≤ i) (h : H) (ov : AV) : ∃ e', Lp AP.A [0, 4, 5] AP.f12L1 [(0, .str s), (4, ov), (5, .int .i64 i)] h = some (.exit 0, e', h) ∧ look e' 4 = ov := by
 refine ⟨[(0, .str s), (4, ov), (5, .int .i64 i), (16, .bool false)], ux ?_, rfl⟩
 simp (disch := omega) only [go_sem, wy, wz, Nat.reduceEqDiff, reduceIte, Nat.reduceAdd, Nat.reduceMul, Nat.reduceLT, Nat.reduceLeDiff, Int.reduceBEq, Int.reduceBNe, Int.reduceLT, Int.reduceLE, Int.reduceEq, wI, cf.aP, cf.aJ, Int.reduceAdd, Int.reduceSub, Int.reduceMul, Int.reduceNeg, Int.reduceToNat, AP.f12L1]
theorem L5 (s : ByteArray) (hs : s.size < 100000) : ∀ (f i : Nat) (h : H) (ov : AV) (ts : List Tok), s.size - i ≤ f → i ≤ s.size → ts.length ≤ i → wW 3 h ov ts.length (xu ts) → h.floor ≤ h.next →
 ∃ e' h' ov', Lp AP.A [0, 4, 5] AP.f12L1 [(0, .str s), (4, ov), (5, .int .i64 i)] h = some (.exit 0, e', h') ∧ look e' 4 = ov' ∧ wW 3 h' ov' (ts ++ B5 s f i).length (xu (ts ++ B5 s f i)) ∧ h'.floor = h.floor ∧ h.next ≤ h'.next := by
 intro f
 induction f with
 | zero =>
   intro i h ov ts hf hi hts o hfn
   obtain ⟨e', r1, r2⟩ := Ic s i (by omega) h ov
   exact ⟨e', h, ov, r1, r2, by simpa [B5] using o, rfl, vR _⟩
 | succ f ih =>
   intro i h ov ts hf hi hts o hfn
   by_cases c0 : i < s.size
   · obtain ⟨e1, q1, q2, q3, q4, q5, q6⟩ := CQ s i hs c0 ov h i (0, 0) ((i : Int) - 1) (by omega) rfl
     have q1' : Lp AP.A [0, 4, 5, 6, 7, 8] AP.f12L0 [(0, .str s), (4, ov), (5, .int .i64 i), (6, .int .i64 0), (7, .int .i64 0), (8, .int .i64 ((i : Int) - 1))] h = some (.exit 2, e1, h) := q1
     clear q1
     have hb := zK s i
     have hr := Bx s i (by omega) i (0, 0) (by show i + 0 ≤ _; omega)
     have lt := Ib s i
     have le := Ia s i c0
     obtain ⟨t, i', et⟩ : ∃ t i', xN s i = (t, i') := ⟨_, _, rfl⟩
     have et0 := et
     rw [et] at lt le
     simp only at lt le
     obtain ⟨v', h', p1, p2, p3, p4, p5, p6⟩ := o.push hfn (z := 24) (m := 1) (by omega) (by omega) (IL t) rfl rfl (by simp [roomy]; omega)
     have step : aM (aS AP.A) bG AP.f12L1 (ay [(0, .str s), (4, ov), (5, .int .i64 i)] [0, 4, 5]) h = some (.normal, [(0, .str s), (4, v'), (5, .int .i64 i')], h') := by
      unfold xN at et
      by_cases c1 : (yc s i i (0, 0)).1 < 3
      · rw [if_pos c1] at et
        obtain ⟨rfl, rfl⟩ := vJ et
        simp only [IL, Ng, ints, UW, Vn, I] at p1
        have n1 : ((i + 1 : Nat) : Int) = (i : Int) + 1 := by omega
        simp (disch := omega) only [go_sem, wy, wz, Nat.reduceEqDiff, reduceIte, Nat.reduceAdd, Nat.reduceMul, Nat.reduceLT, Nat.reduceLeDiff, Int.reduceBEq, Int.reduceBNe, Int.reduceLT, Int.reduceLE, Int.reduceEq, wI, cf.aP, cf.aJ, Int.reduceAdd, Int.reduceSub, Int.reduceMul, Int.reduceNeg, Int.reduceToNat, AP.f12L1, th, q1', q2, q3, q4, q5, q6, p1, n1]
      · rw [if_neg c1] at et
        obtain ⟨rfl, rfl⟩ := vJ et
        simp only [IL, Ng, ints, UW, Vn, I] at p1
        have n1 : ((i + (yc s i i (0, 0)).1 : Nat) : Int) = (i : Int) + ((yc s i i (0, 0)).1 : Nat) := by omega
        simp (disch := omega) only [go_sem, wy, wz, Nat.reduceEqDiff, reduceIte, Nat.reduceAdd, Nat.reduceMul, Nat.reduceLT, Nat.reduceLeDiff, Int.reduceBEq, Int.reduceBNe, Int.reduceLT, Int.reduceLE, Int.reduceEq, wI, cf.aP, cf.aJ, Int.reduceAdd, Int.reduceSub, Int.reduceMul, Int.reduceNeg, Int.reduceToNat, AP.f12L1, th, q1', q2, q3, q4, q5, q6, p1, n1]
     have o2 : wW 3 h' v' (ts ++ [t]).length (xu (ts ++ [t])) := by rw [IM, wo]; exact p2
     obtain ⟨e', h2, ov', r1, r2, r3, r4, r5⟩ := ih i' h' v' (ts ++ [t]) (by omega) le (by simp; omega) o2 (by omega)
     refine ⟨e', h2, ov', uy step r1, r2, ?_, by omega, by omega⟩
     rw [B5, if_pos c0, et0]
     simpa using r3
   · obtain ⟨e', r1, r2⟩ := Ic s i (by omega) h ov
     exact ⟨e', h, ov, r1, r2, by simpa [B5, c0] using o, rfl, vR _⟩
def FV (ts : List Tok) : AV := zO 3 ts.length (xu ts)
def tokens (s : ByteArray) : List Tok := B5 s s.size 0
theorem L6 (h : H) (s : ByteArray) (hs : s.size < 1125899906842624) : aS AP.A 12 [.str s] h = some (if 300 < s.size then .bU [.aQ, .int .i64 500] else .bU [FV (tokens s), .int .i64 0], h) := by
 by_cases c : 300 < s.size
 · rw [if_pos c]
   refine u7 (fn := AP.f12) (h2 := h.ez) (e := [(2, .aQ), (3, .int .i64 500)]) rfl rfl rfl ?_ rfl rfl
   simp (disch := omega) only [go_sem, wy, wz, Nat.reduceEqDiff, reduceIte, Nat.reduceAdd, Nat.reduceMul, Nat.reduceLT, Nat.reduceLeDiff, Int.reduceBEq, Int.reduceBNe, Int.reduceLT, Int.reduceLE, Int.reduceEq, wI, cf.aP, cf.aJ, Int.reduceAdd, Int.reduceSub, Int.reduceMul, Int.reduceNeg, Int.reduceToNat, AP.f12]
 · rw [if_neg c]
   obtain ⟨e', h', ov', r1, r2, r3, r4, r5⟩ := L5 s (by omega) s.size 0 h.ez .aQ [] (by omega) (by omega) (by simp) wW.nil (by simp)
   have r1' : Lp AP.A [0, 4, 5] AP.f12L1 [(0, .str s), (4, .aQ), (5, .int .i64 0)] h.ez = some (.exit 0, e', h') := r1
   clear r1
   rw [List.nil_append] at r3
   refine u7 (fn := AP.f12) (h2 := h') (e := [(2, ov'), (3, .int .i64 0)]) (vs := [ov', .int .i64 0]) rfl rfl rfl ?_ rfl ?_
   · simp (disch := omega) only [go_sem, wy, wz, Nat.reduceEqDiff, reduceIte, Nat.reduceAdd, Nat.reduceMul, Nat.reduceLT, Nat.reduceLeDiff, Int.reduceBEq, Int.reduceBNe, Int.reduceLT, Int.reduceLE, Int.reduceEq, wI, cf.aP, cf.aJ, Int.reduceAdd, Int.reduceSub, Int.reduceMul, Int.reduceNeg, Int.reduceToNat, AP.f12, th, r1', r2]
   · have o' := r3
     rw [B6] at o'
     have s1 := o'.yj (fl := h.next) (m := 13) (t := true) (by rw [r4]; simp)
     show (fV (snap h'.get h.next 15 true) [ov', .int .i64 0]).bind _ = _
     simp only [fV, s1, vO]
     rw [← B6]; rfl
def Ext (h g : H) : Prop := ∀ id c, h.get id = some c → g.get id = some c
theorem Ext.refl (h : H) : Ext h h := fun _ _ q => q
theorem Ext.trans {a b c : H} (x : Ext a b) (y : Ext b c) : Ext a c := fun i d q => y i d (x i d q)
theorem Ext.alloc {a h : H} (x : Ext a h) (cs : List AV) : Ext a (h.alloc cs) := fun i d q => by
 have := h.lt _ _ (x i d q)
 rw [H.aW, if_neg (by omega)]; exact x i d q
theorem Ext.set {a h : H} (x : Ext a h) {id : Nat} (hid : a.next ≤ id) (cs : List AV) : Ext a (h.set id cs) := fun i d q => by
 have := a.lt _ _ q
 rw [H.dQ, if_neg (by omega)]; exact x i d q
theorem zE.Kk {h : H} {v : AV} {ts : List Tok} (r : zE 3 h v ts.length (xu ts)) : ∃ ad : Int → Nat → AV,
 (∀ i : Int, 0 ≤ i ∧ i < ts.length → gG 3 v (.int .i64 i) = some (ad i 0)) ∧
 (∀ (i : Int) (f g : Nat), 0 ≤ i ∧ i < ts.length → fJ g (ad i f) = some (ad i (f + g))) ∧
 ∀ g : H, Ext h g → ∀ (i : Nat) (t : Tok), ts[i]? = some t → cJ false 1 (ad i 0) g = some (.int .i64 t.lit) ∧ cJ false 1 (ad i 1) g = some (.int .i64 t.len) ∧ cJ false 1 (ad i 2) g = some (.int .i64 t.xb) ∧
   cJ true 3 (ad i 0) g = some (.agg [.int .i64 t.lit, .int .i64 t.len, .int .i64 t.xb]) := by
 obtain ⟨ad, a1, a2, _, a3⟩ := r.at_
 refine ⟨ad, a1, a2, fun g hg i t ht => ?_⟩
 obtain ⟨b1, b2⟩ := a3 g hg
 have hi : i < ts.length := (vN.1 ht).1
 have hI : (0 : Int) ≤ (i : Int) ∧ (i : Int) < ts.length := ⟨by omega, by omega⟩
 have ti : ((i : Int)).toNat = i := by omega
 have q : ∀ f, f < 3 → (xu ts)[((i : Int)).toNat * 3 + f]? = (IL t)[f]? := fun f hf => by rw [ti]; exact Gf EL ht hf
 refine ⟨b1 i 0 _ hI (q 0 (by omega)), b1 i 1 _ hI (q 1 (by omega)), b1 i 2 _ hI (q 2 (by omega)), ?_⟩
 rw [b2 i hI, ti, xu, Gg EL ht]; rfl
def xU (size : Int) (t : Tok) : Option Int :=
 if t.len = 0 then (if t.lit < 0 ∨ 255 < t.lit ∨ t.xb ≠ 0 then none else some (size + 1))
 else if t.len < 3 ∨ 258 < t.len ∨ t.xb < 1 ∨ 32768 < t.xb ∨ size < t.xb ∨ t.lit ≠ 0 then none else some (size + t.len)
def xa : Int → List Tok → Bool
 | _, [] => true
 | s, t :: r => match xU s t with
   | none => false
   | some s' => if 8192 < s' then false else xa s' r
theorem LY {v a0 : AV} {n i : Nat} {s : Int} {t : Tok} {h h1 : H} (hi : i < n) (hfl : h.floor ≤ h.next) (ln : jy false v = some (.int .i64 n)) (b1 : gG 3 v (.int .i64 i) = some a0) (b2 : cJ true 3 a0 h = some (.agg [.int .i64 t.lit, .int .i64 t.len, .int .i64 t.xb]))
 (eh1 : h1 = (h.alloc [.int .i64 0, .int .i64 0, .int .i64 0]).set h.next [.int .i64 t.lit, .int .i64 t.len, .int .i64 t.xb]) (g1 : h1.get h.next = some [.int .i64 t.lit, .int .i64 t.len, .int .i64 t.xb]) (hb : xU s t = none) :
 aM (aS AP.A) bG AP.f69L0 (ay [(0, v), (3, .int .i64 s), (4, .int .i64 i)] [0, 3, 4]) h = some (.ret, [(2, .bool false)], h1) := by
 unfold xU at hb
 by_cases c0 : t.len = 0
 · rw [if_pos c0] at hb
   have hb' : t.lit < 0 ∨ 255 < t.lit ∨ t.xb ≠ 0 := by
    by_cases c : t.lit < 0 ∨ 255 < t.lit ∨ t.xb ≠ 0
    · exact c
    · rw [if_neg c] at hb; cases hb
   by_cases d1 : t.lit < 0
   · clear hb' hb; simp (disch := omega) only [go_sem, wy, wz, Nat.reduceEqDiff, reduceIte, Nat.reduceAdd, Nat.reduceMul, Nat.reduceLT, Nat.reduceLeDiff, Int.reduceBEq, Int.reduceBNe, Int.reduceLT, Int.reduceLE, Int.reduceEq, wI, cf.aP, cf.aJ, Int.reduceAdd, Int.reduceSub, Int.reduceMul, Int.reduceNeg, Int.reduceToNat, AP.f69L0, ln, b1, b2, ← eh1, g1]
   by_cases d2 : 255 < t.lit
   · clear hb' hb; simp (disch := omega) only [go_sem, wy, wz, Nat.reduceEqDiff, reduceIte, Nat.reduceAdd, Nat.reduceMul, Nat.reduceLT, Nat.reduceLeDiff, Int.reduceBEq, Int.reduceBNe, Int.reduceLT, Int.reduceLE, Int.reduceEq, wI, cf.aP, cf.aJ, Int.reduceAdd, Int.reduceSub, Int.reduceMul, Int.reduceNeg, Int.reduceToNat, AP.f69L0, ln, b1, b2, ← eh1, g1]
   have d3 : ¬ t.xb = 0 := by omega
   clear hb' hb
   simp (disch := omega) only [go_sem, wy, wz, Nat.reduceEqDiff, reduceIte, Nat.reduceAdd, Nat.reduceMul, Nat.reduceLT, Nat.reduceLeDiff, Int.reduceBEq, Int.reduceBNe, Int.reduceLT, Int.reduceLE, Int.reduceEq, wI, cf.aP, cf.aJ, Int.reduceAdd, Int.reduceSub, Int.reduceMul, Int.reduceNeg, Int.reduceToNat, AP.f69L0, ln, b1, b2, ← eh1, g1]
 · rw [if_neg c0] at hb
   have hb' : t.len < 3 ∨ 258 < t.len ∨ t.xb < 1 ∨ 32768 < t.xb ∨ s < t.xb ∨ t.lit ≠ 0 := by
    by_cases c : t.len < 3 ∨ 258 < t.len ∨ t.xb < 1 ∨ 32768 < t.xb ∨ s < t.xb ∨ t.lit ≠ 0
    · exact c
    · rw [if_neg c] at hb; cases hb
   by_cases d1 : t.len < 3
   · clear hb' hb; simp (disch := omega) only [go_sem, wy, wz, Nat.reduceEqDiff, reduceIte, Nat.reduceAdd, Nat.reduceMul, Nat.reduceLT, Nat.reduceLeDiff, Int.reduceBEq, Int.reduceBNe, Int.reduceLT, Int.reduceLE, Int.reduceEq, wI, cf.aP, cf.aJ, Int.reduceAdd, Int.reduceSub, Int.reduceMul, Int.reduceNeg, Int.reduceToNat, AP.f69L0, ln, b1, b2, ← eh1, g1]
   by_cases d2 : 258 < t.len
   · clear hb' hb; simp (disch := omega) only [go_sem, wy, wz, Nat.reduceEqDiff, reduceIte, Nat.reduceAdd, Nat.reduceMul, Nat.reduceLT, Nat.reduceLeDiff, Int.reduceBEq, Int.reduceBNe, Int.reduceLT, Int.reduceLE, Int.reduceEq, wI, cf.aP, cf.aJ, Int.reduceAdd, Int.reduceSub, Int.reduceMul, Int.reduceNeg, Int.reduceToNat, AP.f69L0, ln, b1, b2, ← eh1, g1]
   by_cases d3 : t.xb < 1
   · clear hb' hb; simp (disch := omega) only [go_sem, wy, wz, Nat.reduceEqDiff, reduceIte, Nat.reduceAdd, Nat.reduceMul, Nat.reduceLT, Nat.reduceLeDiff, Int.reduceBEq, Int.reduceBNe, Int.reduceLT, Int.reduceLE, Int.reduceEq, wI, cf.aP, cf.aJ, Int.reduceAdd, Int.reduceSub, Int.reduceMul, Int.reduceNeg, Int.reduceToNat, AP.f69L0, ln, b1, b2, ← eh1, g1]
   by_cases d4 : 32768 < t.xb
   · clear hb' hb; simp (disch := omega) only [go_sem, wy, wz, Nat.reduceEqDiff, reduceIte, Nat.reduceAdd, Nat.reduceMul, Nat.reduceLT, Nat.reduceLeDiff, Int.reduceBEq, Int.reduceBNe, Int.reduceLT, Int.reduceLE, Int.reduceEq, wI, cf.aP, cf.aJ, Int.reduceAdd, Int.reduceSub, Int.reduceMul, Int.reduceNeg, Int.reduceToNat, AP.f69L0, ln, b1, b2, ← eh1, g1]
   by_cases d5 : s < t.xb
   · clear hb' hb; simp (disch := omega) only [go_sem, wy, wz, Nat.reduceEqDiff, reduceIte, Nat.reduceAdd, Nat.reduceMul, Nat.reduceLT, Nat.reduceLeDiff, Int.reduceBEq, Int.reduceBNe, Int.reduceLT, Int.reduceLE, Int.reduceEq, wI, cf.aP, cf.aJ, Int.reduceAdd, Int.reduceSub, Int.reduceMul, Int.reduceNeg, Int.reduceToNat, AP.f69L0, ln, b1, b2, ← eh1, g1]
   have d6 : ¬ t.lit = 0 := by omega
   clear hb' hb
   simp (disch := omega) only [go_sem, wy, wz, Nat.reduceEqDiff, reduceIte, Nat.reduceAdd, Nat.reduceMul, Nat.reduceLT, Nat.reduceLeDiff, Int.reduceBEq, Int.reduceBNe, Int.reduceLT, Int.reduceLE, Int.reduceEq, wI, cf.aP, cf.aJ, Int.reduceAdd, Int.reduceSub, Int.reduceMul, Int.reduceNeg, Int.reduceToNat, AP.f69L0, ln, b1, b2, ← eh1, g1]
theorem Kj {v a0 : AV} {n i : Nat} {s s' : Int} {t : Tok} {h h1 : H} (hi : i < n) (hn : n < 1000000000) (hs : 0 ≤ s ∧ s ≤ 8192) (hfl : h.floor ≤ h.next) (ln : jy false v = some (.int .i64 n)) (b1 : gG 3 v (.int .i64 i) = some a0) (b2 : cJ true 3 a0 h = some (.agg [.int .i64 t.lit, .int .i64 t.len, .int .i64 t.xb]))
 (eh1 : h1 = (h.alloc [.int .i64 0, .int .i64 0, .int .i64 0]).set h.next [.int .i64 t.lit, .int .i64 t.len, .int .i64 t.xb]) (g1 : h1.get h.next = some [.int .i64 t.lit, .int .i64 t.len, .int .i64 t.xb]) (hst : xU s t = some s') :
 aM (aS AP.A) bG AP.f69L0 (ay [(0, v), (3, .int .i64 s), (4, .int .i64 i)] [0, 3, 4]) h = if 8192 < s' then some (.ret, [(2, .bool false)], h1) else some (.normal, [(0, v), (3, .int .i64 s'), (4, .int .i64 ((i : Int) + 1))], h1) := by
 unfold xU at hst
 by_cases c0 : t.len = 0
 · rw [if_pos c0] at hst
   by_cases c : t.lit < 0 ∨ 255 < t.lit ∨ t.xb ≠ 0
   · rw [if_pos c] at hst; cases hst
   rw [if_neg c] at hst
   obtain rfl := vG hst
   have k1 : ¬ t.lit < 0 := by omega
   have k2 : ¬ 255 < t.lit := by omega
   have k3 : t.xb = 0 := by omega
   clear c
   by_cases k : 8192 < s + 1
   · rw [if_pos k]
     simp (disch := omega) only [go_sem, wy, wz, Nat.reduceEqDiff, reduceIte, Nat.reduceAdd, Nat.reduceMul, Nat.reduceLT, Nat.reduceLeDiff, Int.reduceBEq, Int.reduceBNe, Int.reduceLT, Int.reduceLE, Int.reduceEq, wI, cf.aP, cf.aJ, Int.reduceAdd, Int.reduceSub, Int.reduceMul, Int.reduceNeg, Int.reduceToNat, AP.f69L0, ln, b1, b2, ← eh1, g1]
   · rw [if_neg k]
     simp (disch := omega) only [go_sem, wy, wz, Nat.reduceEqDiff, reduceIte, Nat.reduceAdd, Nat.reduceMul, Nat.reduceLT, Nat.reduceLeDiff, Int.reduceBEq, Int.reduceBNe, Int.reduceLT, Int.reduceLE, Int.reduceEq, wI, cf.aP, cf.aJ, Int.reduceAdd, Int.reduceSub, Int.reduceMul, Int.reduceNeg, Int.reduceToNat, AP.f69L0, ln, b1, b2, ← eh1, g1]
 · rw [if_neg c0] at hst
   by_cases c : t.len < 3 ∨ 258 < t.len ∨ t.xb < 1 ∨ 32768 < t.xb ∨ s < t.xb ∨ t.lit ≠ 0
   · rw [if_pos c] at hst; cases hst
   rw [if_neg c] at hst
   obtain rfl := vG hst
   have k1 : ¬ t.len < 3 := by omega
   have k2 : ¬ 258 < t.len := by omega
   have k3 : ¬ t.xb < 1 := by omega
   have k4 : ¬ 32768 < t.xb := by omega
   have k5 : ¬ s < t.xb := by omega
   have k6 : t.lit = 0 := by omega
   clear c
   by_cases k : 8192 < s + t.len
   · rw [if_pos k]
     simp (disch := omega) only [go_sem, wy, wz, Nat.reduceEqDiff, reduceIte, Nat.reduceAdd, Nat.reduceMul, Nat.reduceLT, Nat.reduceLeDiff, Int.reduceBEq, Int.reduceBNe, Int.reduceLT, Int.reduceLE, Int.reduceEq, wI, cf.aP, cf.aJ, Int.reduceAdd, Int.reduceSub, Int.reduceMul, Int.reduceNeg, Int.reduceToNat, AP.f69L0, ln, b1, b2, ← eh1, g1]
   · rw [if_neg k]
     simp (disch := omega) only [go_sem, wy, wz, Nat.reduceEqDiff, reduceIte, Nat.reduceAdd, Nat.reduceMul, Nat.reduceLT, Nat.reduceLeDiff, Int.reduceBEq, Int.reduceBNe, Int.reduceLT, Int.reduceLE, Int.reduceEq, wI, cf.aP, cf.aJ, Int.reduceAdd, Int.reduceSub, Int.reduceMul, Int.reduceNeg, Int.reduceToNat, AP.f69L0, ln, b1, b2, ← eh1, g1]
theorem FT {v : AV} {ts : List Tok} (hn : ts.length < 1000000000) (h0 : H) (rd : zE 3 h0 v ts.length (xu ts)) : ∀ (q p : List Tok) (s : Int) (h : H), ts = p ++ q → 0 ≤ s ∧ s ≤ 8192 → Ext h0 h → h0.next ≤ h.next → h.floor ≤ h.next →
 (∃ e' h', Lp AP.A [0, 3, 4] AP.f69L0 [(0, v), (3, .int .i64 s), (4, .int .i64 p.length)] h = some (.exit 0, e', h') ∧ xa s q = true) ∨
 (∃ e' h', Lp AP.A [0, 3, 4] AP.f69L0 [(0, v), (3, .int .i64 s), (4, .int .i64 p.length)] h = some (.ret, e', h') ∧ look e' 2 = .bool false ∧ xa s q = false)
 | [], p, s, h, hp, hs, hx, hnx, hfl => by
   left
   have ln := rd.len
   rw [U7] at hp; subst hp
   refine ⟨[(0, v), (3, .int .i64 s), (4, .int .i64 ts.length), (9, .bool false)], h, ux ?_, rfl⟩
   simp (disch := omega) only [go_sem, wy, wz, Nat.reduceEqDiff, reduceIte, Nat.reduceAdd, Nat.reduceMul, Nat.reduceLT, Nat.reduceLeDiff, Int.reduceBEq, Int.reduceBNe, Int.reduceLT, Int.reduceLE, Int.reduceEq, wI, cf.aP, cf.aJ, Int.reduceAdd, Int.reduceSub, Int.reduceMul, Int.reduceNeg, Int.reduceToNat, AP.f69L0, ln]
 | t :: q, p, s, h, hp, hs, hx, hnx, hfl => by
   have ln := rd.len
   have hlen : ts.length = p.length + (q.length + 1) := by rw [hp]; simp
   have ht : ts[p.length]? = some t := by rw [hp]; simp
   obtain ⟨ad, a1, a2, a3⟩ := rd.Kk
   have hI : (0 : Int) ≤ (p.length : Int) ∧ (p.length : Int) < ts.length := ⟨by omega, by omega⟩
   have b1 := a1 _ hI
   obtain ⟨_, _, _, b2⟩ := a3 h hx _ _ ht
   obtain ⟨h1, eh1⟩ : ∃ g, g = (h.alloc [.int .i64 0, .int .i64 0, .int .i64 0]).set h.next [.int .i64 t.lit, .int .i64 t.len, .int .i64 t.xb] := ⟨_, rfl⟩
   have w1 : ((p.length : Int) + 1) = (((p ++ [t]).length : Nat) : Int) := by simp
   have b2' := b2
   have gA : (h.alloc [.int .i64 0, .int .i64 0, .int .i64 0]).get h.next = some [.int .i64 0, .int .i64 0, .int .i64 0] := wO rfl
   have ldA : cJ true 3 (ad p.length 0) (h.alloc [.int .i64 0, .int .i64 0, .int .i64 0]) = some (.agg [.int .i64 t.lit, .int .i64 t.len, .int .i64 t.xb]) := (a3 _ (hx.alloc _) _ _ ht).2.2.2
   have g1 : h1.get h.next = some [.int .i64 t.lit, .int .i64 t.len, .int .i64 t.xb] := by rw [eh1, wS rfl, gA]; rfl
   have hx1 : Ext h0 h1 := by rw [eh1]; exact (hx.alloc _).set hnx _
   have hn1 : h0.next ≤ h1.next := by rw [eh1]; simp; omega
   have hf1 : h1.floor ≤ h1.next := by rw [eh1]; simp; omega
   cases hst : xU s t with
   | none =>
     right
     exact ⟨_, h1, uT (LY (by omega) hfl ln b1 b2 eh1 g1 hst), rfl, by simp [xa, hst]⟩
   | some s' =>
     have good := Kj (by omega) hn hs hfl ln b1 b2 eh1 g1 hst
     have hs' : 0 ≤ s' := by
      unfold xU at hst
      clear good
      by_cases c0 : t.len = 0
      · rw [if_pos c0] at hst
        split at hst
        · cases hst
        · obtain rfl := vG hst; omega
      · rw [if_neg c0] at hst
        split at hst
        · cases hst
        · obtain rfl := vG hst; omega
     by_cases k : 8192 < s'
     · right
       rw [if_pos k] at good
       exact ⟨_, h1, uT good, rfl, by simp [xa, hst, k]⟩
     · rw [if_neg k] at good
       have e : xa s (t :: q) = xa s' q := by simp [xa, hst, k]
       rw [e]
       rw [w1] at good
       rcases FT hn h0 rd q (p ++ [t]) s' h1 (by rw [hp]; simp) ⟨hs', by omega⟩ hx1 hn1 hf1 with ⟨e', h', r1, r2⟩ | ⟨e', h', r1, r2, r3⟩
       · exact .inl ⟨e', h', uy good r1, r2⟩
       · exact .inr ⟨e', h', uy good r1, r2, r3⟩
def y0 (n : Int) : Bool := decide (0 ≤ n) && decide (n ≤ 1048576)
theorem I5 (h : H) (n : Int) : aS AP.A 119 [.int .i64 n] h = some (.bool (y0 n), h) := by
 refine u7 (fn := AP.f119) (h2 := h.ez) (e := [(2, .bool (y0 n))]) rfl rfl rfl ?_ rfl rfl
 unfold y0
 by_cases c1 : 0 ≤ n <;> by_cases c2 : n ≤ 1048576 <;> simp (disch := omega) only [go_sem, wy, wz, Nat.reduceEqDiff, reduceIte, Nat.reduceAdd, Nat.reduceMul, Nat.reduceLT, Nat.reduceLeDiff, Int.reduceBEq, Int.reduceBNe, Int.reduceLT, Int.reduceLE, Int.reduceEq, wI, cf.aP, cf.aJ, Int.reduceAdd, Int.reduceSub, Int.reduceMul, Int.reduceNeg, Int.reduceToNat, AP.f119]
def FA (n : Int) : Bool := decide (0 ≤ n) && decide (n < 4)
theorem P5 (h : H) (n : Int) : aS AP.A 120 [.int .i64 n] h = some (.bool (FA n), h) := by
 refine u7 (fn := AP.f120) (h2 := h.ez) (e := [(2, .bool (FA n))]) rfl rfl rfl ?_ rfl rfl
 unfold FA
 by_cases c1 : 0 ≤ n <;> by_cases c2 : n < 4 <;> simp (disch := omega) only [go_sem, wy, wz, Nat.reduceEqDiff, reduceIte, Nat.reduceAdd, Nat.reduceMul, Nat.reduceLT, Nat.reduceLeDiff, Int.reduceBEq, Int.reduceBNe, Int.reduceLT, Int.reduceLE, Int.reduceEq, wI, cf.aP, cf.aJ, Int.reduceAdd, Int.reduceSub, Int.reduceMul, Int.reduceNeg, Int.reduceToNat, AP.f120]
def JE (v : AV) : Bool := match v with | .int .i64 n => !y0 n | _ => false
theorem Kn (h : H) (n : Int) : aS AP.A 123 [.int .i64 n] h = some (.bool (!y0 n), h) := by
 have k1 := I5 h.ez n
 refine u7 (fn := AP.f123) (h2 := h.ez) (e := [(2, .bool (!y0 n))]) rfl rfl rfl ?_ rfl rfl
 simp (disch := omega) only [go_sem, wy, wz, Nat.reduceEqDiff, reduceIte, Nat.reduceAdd, Nat.reduceMul, Nat.reduceLT, Nat.reduceLeDiff, Int.reduceBEq, Int.reduceBNe, Int.reduceLT, Int.reduceLE, Int.reduceEq, wI, cf.aP, cf.aJ, Int.reduceAdd, Int.reduceSub, Int.reduceMul, Int.reduceNeg, Int.reduceToNat, AP.f123, k1]
def EN (l : List Int) : Bool := decide (l.length = 4) && l.all y0
theorem C9 : ∀ l : List Int, (ints l).any JE = !l.all y0
 | [] => rfl
 | n :: l => by
   have := C9 l
   simp only [ints, UW, List.any_cons, List.all_cons, Bool.not_and] at *
   rw [this]; rfl
theorem Ma (h : H) (v : AV) (l : List Int) (rd : Rd h v (ints l)) (hl : l.length < 1125899906842624) : aS AP.A 117 [v] h = some (.bool (EN l), h) := by
 have rd' := rd.mono (wJ h)
 have ln := rd'.len
 rw [qy] at ln
 simp only [I] at ln
 refine u7 (fn := AP.f117) (h2 := h.ez) (e := [(2, .bool (EN l))]) rfl rfl rfl ?_ rfl rfl
 unfold EN
 by_cases c : l.length = 4
 · have k1 := DU (fv := .fn 123 [] []) JE (fun x hx g => by
    obtain ⟨n, hn, rfl⟩ := U9.1 hx
    rw [oN]; exact Kn g n) (by simp; omega) h.ez rd'
   rw [C9] at k1
   have c' : (l.length : Int) = 4 := by omega
   simp (disch := omega) only [go_sem, wy, wz, Nat.reduceEqDiff, reduceIte, Nat.reduceAdd, Nat.reduceMul, Nat.reduceLT, Nat.reduceLeDiff, Int.reduceBEq, Int.reduceBNe, Int.reduceLT, Int.reduceLE, Int.reduceEq, wI, cf.aP, cf.aJ, Int.reduceAdd, Int.reduceSub, Int.reduceMul, Int.reduceNeg, Int.reduceToNat, AP.f117, ln, k1, Bool.not_not]
 · have c' : ¬ (l.length : Int) = 4 := by omega
   simp (disch := omega) only [go_sem, wy, wz, Nat.reduceEqDiff, reduceIte, Nat.reduceAdd, Nat.reduceMul, Nat.reduceLT, Nat.reduceLeDiff, Int.reduceBEq, Int.reduceBNe, Int.reduceLT, Int.reduceLE, Int.reduceEq, wI, cf.aP, cf.aJ, Int.reduceAdd, Int.reduceSub, Int.reduceMul, Int.reduceNeg, Int.reduceToNat, AP.f117, ln]
theorem Rd.xQ {h : H} {v : AV} {l : List Int} (r : Rd h v (ints l)) : ∃ ad : Int → AV, (∀ i : Int, 0 ≤ i ∧ i < l.length → gG 1 v (.int .i64 i) = some (ad i)) ∧
 ∀ g : H, Ext h g → ∀ (i : Nat) (n : Int), l[i]? = some n → cJ false 1 (ad i) g = some (.int .i64 n) := by
 have r2 := r.Ub
 rw [qy] at r2
 obtain ⟨ad, a1, _, _, a3⟩ := r2.at_
 refine ⟨fun i => ad i 0, a1, fun g hg i n hn => ?_⟩
 have hi : i < l.length := (vN.1 hn).1
 refine (a3 g hg).1 i 0 _ ⟨by omega, by omega⟩ ?_
 rw [EK, Nat.mul_one, Nat.add_zero]
 exact tU hn
structure zD where
 name : ByteArray
 gone : Bool
 vec : List Int
 w9 : Int
 node : Int
 method : Int
 packed : ByteArray
 size : Int
 I8 : Int
def wF (e : zD) (v : AV) : List AV := [.str e.name, .bool e.gone, v, .int .i64 e.w9, .int .i64 e.node, .int .i64 e.method, .str e.packed, .int .i64 e.size, .int .i64 e.I8]
def Ay (e : zD) : Bool := EN e.vec && (decide (1 ≤ e.w9) && (y0 e.w9 && FA e.node))
structure PE (h : H) (p : AV) (cs : List AV) : Prop where
 nil : ∀ g : H, jS g p = some (p, g)
 uF : ∃ q : Nat → AV, (∀ k, fJ k p = some (q k)) ∧ ∀ g : H, Ext h g → ∀ (k : Nat) (c : AV), cs[k]? = some c → cJ false 1 (q k) g = some c
theorem PY (h : H) (p v : AV) (e : zD) (pe : PE h p (wF e v)) (rd : Rd h v (ints e.vec)) (hl : e.vec.length < 1125899906842624) : aS AP.A 112 [p] h = some (.bool (Ay e), h) := by
 have nl := pe.nil
 obtain ⟨q, f1, f2⟩ := pe.uF
 have l2 := f2 h (Ext.refl h) 2 v rfl
 have l3 := f2 h (Ext.refl h) 3 _ rfl
 have l4 := f2 h (Ext.refl h) 4 _ rfl
 have k1 := Ma h v e.vec rd hl
 have k2 := I5 h e.w9
 have k3 := P5 h e.node
 have c2 : y0 e.w9 = true → 1 ≤ e.w9 → True := fun _ _ => trivial
 refine uM (fn := AP.f112) (h2 := h) (e := [(2, .bool (Ay e))]) (vs := [.bool (Ay e)]) rfl rfl rfl ?_ rfl
 unfold Ay
 clear pe f2 rd c2
 generalize EN e.vec = B1 at *
 generalize y0 e.w9 = B2 at *
 generalize FA e.node = B3 at *
 by_cases c1 : 1 ≤ e.w9 <;> cases B1 <;> cases B2 <;> cases B3 <;> simp (disch := omega) only [go_sem, wy, wz, Nat.reduceEqDiff, reduceIte, Nat.reduceAdd, Nat.reduceMul, Nat.reduceLT, Nat.reduceLeDiff, Int.reduceBEq, Int.reduceBNe, Int.reduceLT, Int.reduceLE, Int.reduceEq, wI, cf.aP, cf.aJ, Int.reduceAdd, Int.reduceSub, Int.reduceMul, Int.reduceNeg, Int.reduceToNat, AP.f112, nl, f1, l2, l3, l4, k1, k2, k3]
def Le (s : ByteArray) : Bool := s.data.toList == (⟨#[]⟩ : ByteArray).data.toList
def zT (e : zD) : Bool :=
 if e.gone then decide (e.method = 0) && (Le e.packed && (decide (e.size = 0) && decide (e.I8 = 0)))
 else (decide (0 ≤ e.size) && (decide (e.size ≤ 300) && Nx e.I8)) && (decide (e.method = 0) && decide ((e.packed.size : Int) = e.size) || decide (e.method = 8) && decide (e.packed.size ≤ 300))
theorem JU (h : H) (p v : AV) (e : zD) (pe : PE h p (wF e v)) : aS AP.A 122 [p] h = some (.bool (zT e), h) := by
 have nl := pe.nil
 obtain ⟨q, f1, f2⟩ := pe.uF
 have l1 := f2 h (Ext.refl h) 1 _ rfl
 have l5 := f2 h (Ext.refl h) 5 _ rfl
 have l6 := f2 h (Ext.refl h) 6 _ rfl
 have l7 := f2 h (Ext.refl h) 7 _ rfl
 have l8 := f2 h (Ext.refl h) 8 _ rfl
 have k1 := TZ h e.I8
 have e1 : bw .eql (.str e.packed) (.str ⟨#[]⟩) = some (.bool (Le e.packed)) := Au _ _
 refine uM (fn := AP.f122) (h2 := h) (e := [(2, .bool (zT e))]) (vs := [.bool (zT e)]) rfl rfl rfl ?_ rfl
 unfold zT
 clear pe f2
 generalize Le e.packed = B1 at *
 generalize Nx e.I8 = B2 at *
 cases hg : e.gone with
 | true =>
   rw [hg] at l1
   rw [if_pos rfl]
   by_cases c1 : e.method = 0
   · cases B1 with
     | false => simp (disch := omega) only [go_sem, wy, wz, Nat.reduceEqDiff, reduceIte, Nat.reduceAdd, Nat.reduceMul, Nat.reduceLT, Nat.reduceLeDiff, Int.reduceBEq, Int.reduceBNe, Int.reduceLT, Int.reduceLE, Int.reduceEq, wI, cf.aP, cf.aJ, Int.reduceAdd, Int.reduceSub, Int.reduceMul, Int.reduceNeg, Int.reduceToNat, AP.f122, nl, f1, l1, l5, l6, l7, l8, e1]
     | true =>
       by_cases c2 : e.size = 0
       · by_cases c3 : e.I8 = 0 <;> simp (disch := omega) only [go_sem, wy, wz, Nat.reduceEqDiff, reduceIte, Nat.reduceAdd, Nat.reduceMul, Nat.reduceLT, Nat.reduceLeDiff, Int.reduceBEq, Int.reduceBNe, Int.reduceLT, Int.reduceLE, Int.reduceEq, wI, cf.aP, cf.aJ, Int.reduceAdd, Int.reduceSub, Int.reduceMul, Int.reduceNeg, Int.reduceToNat, AP.f122, nl, f1, l1, l5, l6, l7, l8, e1]
       · simp (disch := omega) only [go_sem, wy, wz, Nat.reduceEqDiff, reduceIte, Nat.reduceAdd, Nat.reduceMul, Nat.reduceLT, Nat.reduceLeDiff, Int.reduceBEq, Int.reduceBNe, Int.reduceLT, Int.reduceLE, Int.reduceEq, wI, cf.aP, cf.aJ, Int.reduceAdd, Int.reduceSub, Int.reduceMul, Int.reduceNeg, Int.reduceToNat, AP.f122, nl, f1, l1, l5, l6, l7, l8, e1]
   · simp (disch := omega) only [go_sem, wy, wz, Nat.reduceEqDiff, reduceIte, Nat.reduceAdd, Nat.reduceMul, Nat.reduceLT, Nat.reduceLeDiff, Int.reduceBEq, Int.reduceBNe, Int.reduceLT, Int.reduceLE, Int.reduceEq, wI, cf.aP, cf.aJ, Int.reduceAdd, Int.reduceSub, Int.reduceMul, Int.reduceNeg, Int.reduceToNat, AP.f122, nl, f1, l1, l5, l6, l7, l8, e1]
 | false =>
   rw [hg] at l1
   rw [if_neg (by decide)]
   by_cases c1 : e.method = 0
   · have c1' : ¬ e.method = 8 := by omega
     by_cases c2 : (e.packed.size : Int) = e.size
     · by_cases c3 : 0 ≤ e.size
       · by_cases c4 : e.size ≤ 300
         · cases B2 <;> simp (disch := omega) only [go_sem, wy, wz, Nat.reduceEqDiff, reduceIte, Nat.reduceAdd, Nat.reduceMul, Nat.reduceLT, Nat.reduceLeDiff, Int.reduceBEq, Int.reduceBNe, Int.reduceLT, Int.reduceLE, Int.reduceEq, wI, cf.aP, cf.aJ, Int.reduceAdd, Int.reduceSub, Int.reduceMul, Int.reduceNeg, Int.reduceToNat, AP.f122, nl, f1, l1, l5, l6, l7, l8, e1, k1]
         · simp (disch := omega) only [go_sem, wy, wz, Nat.reduceEqDiff, reduceIte, Nat.reduceAdd, Nat.reduceMul, Nat.reduceLT, Nat.reduceLeDiff, Int.reduceBEq, Int.reduceBNe, Int.reduceLT, Int.reduceLE, Int.reduceEq, wI, cf.aP, cf.aJ, Int.reduceAdd, Int.reduceSub, Int.reduceMul, Int.reduceNeg, Int.reduceToNat, AP.f122, nl, f1, l1, l5, l6, l7, l8, e1, k1]
       · exfalso; omega
     · simp (disch := omega) only [go_sem, wy, wz, Nat.reduceEqDiff, reduceIte, Nat.reduceAdd, Nat.reduceMul, Nat.reduceLT, Nat.reduceLeDiff, Int.reduceBEq, Int.reduceBNe, Int.reduceLT, Int.reduceLE, Int.reduceEq, wI, cf.aP, cf.aJ, Int.reduceAdd, Int.reduceSub, Int.reduceMul, Int.reduceNeg, Int.reduceToNat, AP.f122, nl, f1, l1, l5, l6, l7, l8, e1, k1]
   · by_cases c0 : e.method = 8
     · by_cases c2 : e.packed.size ≤ 300
       · by_cases c3 : 0 ≤ e.size
         · by_cases c4 : e.size ≤ 300
           · cases B2 <;> simp (disch := omega) only [go_sem, wy, wz, Nat.reduceEqDiff, reduceIte, Nat.reduceAdd, Nat.reduceMul, Nat.reduceLT, Nat.reduceLeDiff, Int.reduceBEq, Int.reduceBNe, Int.reduceLT, Int.reduceLE, Int.reduceEq, wI, cf.aP, cf.aJ, Int.reduceAdd, Int.reduceSub, Int.reduceMul, Int.reduceNeg, Int.reduceToNat, AP.f122, nl, f1, l1, l5, l6, l7, l8, e1, k1]
           · simp (disch := omega) only [go_sem, wy, wz, Nat.reduceEqDiff, reduceIte, Nat.reduceAdd, Nat.reduceMul, Nat.reduceLT, Nat.reduceLeDiff, Int.reduceBEq, Int.reduceBNe, Int.reduceLT, Int.reduceLE, Int.reduceEq, wI, cf.aP, cf.aJ, Int.reduceAdd, Int.reduceSub, Int.reduceMul, Int.reduceNeg, Int.reduceToNat, AP.f122, nl, f1, l1, l5, l6, l7, l8, e1, k1]
         · simp (disch := omega) only [go_sem, wy, wz, Nat.reduceEqDiff, reduceIte, Nat.reduceAdd, Nat.reduceMul, Nat.reduceLT, Nat.reduceLeDiff, Int.reduceBEq, Int.reduceBNe, Int.reduceLT, Int.reduceLE, Int.reduceEq, wI, cf.aP, cf.aJ, Int.reduceAdd, Int.reduceSub, Int.reduceMul, Int.reduceNeg, Int.reduceToNat, AP.f122, nl, f1, l1, l5, l6, l7, l8, e1, k1]
       · simp (disch := omega) only [go_sem, wy, wz, Nat.reduceEqDiff, reduceIte, Nat.reduceAdd, Nat.reduceMul, Nat.reduceLT, Nat.reduceLeDiff, Int.reduceBEq, Int.reduceBNe, Int.reduceLT, Int.reduceLE, Int.reduceEq, wI, cf.aP, cf.aJ, Int.reduceAdd, Int.reduceSub, Int.reduceMul, Int.reduceNeg, Int.reduceToNat, AP.f122, nl, f1, l1, l5, l6, l7, l8, e1, k1]
     · simp (disch := omega) only [go_sem, wy, wz, Nat.reduceEqDiff, reduceIte, Nat.reduceAdd, Nat.reduceMul, Nat.reduceLT, Nat.reduceLeDiff, Int.reduceBEq, Int.reduceBNe, Int.reduceLT, Int.reduceLE, Int.reduceEq, wI, cf.aP, cf.aJ, Int.reduceAdd, Int.reduceSub, Int.reduceMul, Int.reduceNeg, Int.reduceToNat, AP.f122, nl, f1, l1, l5, l6, l7, l8, e1, k1]
def De (prev : Option zD) (e : zD) : Bool := AO e.name && ((match prev with | none => true | some p => Op.bytesLess p.name.toList e.name.toList) && (Ay e && zT e))
theorem Jf (e : zD) : De none e = (AO e.name && (Ay e && zT e)) := by simp [De]
theorem MC (p e : zD) : De (some p) e = (AO e.name && (Op.bytesLess p.name.toList e.name.toList && (Ay e && zT e))) := rfl
def ES : Option zD → List zD → Bool
 | _, [] => true
 | p, e :: r => De p e && ES (some e) r
abbrev GO := zD × AV
def To (x : GO) : List AV := wF x.1 x.2
def Hm (l : List GO) : List AV := l.flatMap To
theorem Jg (x : GO) : (To x).length = 9 := rfl
structure CP (h : H) (x : GO) : Prop where
 vec : Rd h x.2 (ints x.1.vec)
 vl : x.1.vec.length < 1125899906842624
 nl : x.1.name.size < 1125899906842624
 pl : x.1.packed.size < 1125899906842624
theorem CP.mono {h g : H} {x : GO} (o : CP h x) (e : Ext h g) : CP g x := ⟨o.vec.mono fun i c q => e i c q, o.vl, o.nl, o.pl⟩
theorem JI {v : AV} {l : List GO} (hn : l.length < 1125899906842624) (h : H) (b : Nat) (hb : h.get b = some [v]) (rd : zE 9 h v l.length (Hm l)) (hv : ∀ x ∈ l, CP h x) : ∀ (q p : List GO), l = p ++ q →
 (∃ e', Lp AP.A [1, 7, 8] AP.f113L0 [(1, .aE b 0), (7, .int .i64 l.length), (8, .int .i64 p.length)] h = some (.exit 0, e', h) ∧ look e' 1 = .aE b 0 ∧ ES (p.getLast?.map (·.1)) (q.map (·.1)) = true) ∨
 (∃ e', Lp AP.A [1, 7, 8] AP.f113L0 [(1, .aE b 0), (7, .int .i64 l.length), (8, .int .i64 p.length)] h = some (.ret, e', h) ∧ look e' 2 = .bool false ∧ ES (p.getLast?.map (·.1)) (q.map (·.1)) = false)
 | [], p, hp => by
   left
   rw [U7] at hp; subst hp
   refine ⟨[(1, .aE b 0), (7, .int .i64 l.length), (8, .int .i64 l.length), (9, .bool false)], ux ?_, rfl, rfl⟩
   simp (disch := omega) only [go_sem, wy, wz, Nat.reduceEqDiff, reduceIte, Nat.reduceAdd, Nat.reduceMul, Nat.reduceLT, Nat.reduceLeDiff, Int.reduceBEq, Int.reduceBNe, Int.reduceLT, Int.reduceLE, Int.reduceEq, wI, cf.aP, cf.aJ, Int.reduceAdd, Int.reduceSub, Int.reduceMul, Int.reduceNeg, Int.reduceToNat, AP.f113L0]
 | x :: q, p, hp => by
   have hlen : l.length = p.length + (q.length + 1) := by rw [hp]; simp
   have hx : l[p.length]? = some x := by rw [hp]; simp
   have ho := hv x (by rw [hp]; simp)
   obtain ⟨ad, a1, a2, a4, a3⟩ := rd.at_
   have hI : (0 : Int) ≤ (p.length : Int) ∧ (p.length : Int) < l.length := ⟨by omega, by omega⟩
   have b1 := a1 _ hI
   have pe : PE h (ad p.length 0) (wF x.1 x.2) := by
    refine ⟨fun g => a4 _ 0 g hI, fun k => ad p.length (0 + k), fun k => a2 _ 0 k hI, fun g hg k c hc => ?_⟩
    have hk : k < 9 := (vN.1 hc).1
    refine (a3 g hg).1 _ _ _ hI ?_
    rw [EK, vW, show Hm l = l.flatMap To from rfl, Gf Jg hx hk]; exact hc
   have k1 := P4 h x.1.name ho.nl
   have k2 := PY h _ _ x.1 pe ho.vec ho.vl
   have k3 := JU h _ _ x.1 pe
   have nl := pe.nil
   obtain ⟨qq, f1, f2⟩ := pe.uF
   have l0 := f2 h (Ext.refl h) 0 _ rfl
   have ih := JI hn h b hb rd hv q (p ++ [x]) (by rw [hp]; simp)
   have w1 : (((p ++ [x]).length : Nat) : Int) = (p.length : Int) + 1 := by simp
   rw [w1, List.getLast?_concat] at ih
   have step : aM (aS AP.A) bG AP.f113L0 (ay [(1, .aE b 0), (7, .int .i64 l.length), (8, .int .i64 p.length)] [1, 7, 8]) h = if De (p.getLast?.map (·.1)) x.1 then some (.normal, [(1, .aE b 0), (7, .int .i64 l.length), (8, .int .i64 ((p.length : Int) + 1))], h) else some (.ret, [(2, .bool false)], h) := by
    cases hl : p.getLast? with
    | none =>
      have hp0 : p = [] := List.getLast?_eq_none_iff.1 hl
      have hp1 : p.length = 0 := by rw [hp0]; rfl
      clear ih w1 pe f2 a1 a2 a3 a4 hl hv hp ho hx
      rw [Vk, Jf]
      generalize AO x.1.name = B1 at *
      generalize Ay x.1 = B3 at *
      generalize zT x.1 = B4 at *
      cases B1 with
      | false =>
        rw [Vr, if_neg (by decide)]
        simp (disch := omega) only [go_sem, wy, wz, Nat.reduceEqDiff, reduceIte, Nat.reduceAdd, Nat.reduceMul, Nat.reduceLT, Nat.reduceLeDiff, Int.reduceBEq, Int.reduceBNe, Int.reduceLT, Int.reduceLE, Int.reduceEq, wI, cf.aP, cf.aJ, Int.reduceAdd, Int.reduceSub, Int.reduceMul, Int.reduceNeg, Int.reduceToNat, AP.f113L0, hb, b1, nl, f1, l0, k1, k2, k3]
      | true =>
        cases B3 with
        | false =>
          rw [Vr, Vl, if_neg (by decide)]
          simp (disch := omega) only [go_sem, wy, wz, Nat.reduceEqDiff, reduceIte, Nat.reduceAdd, Nat.reduceMul, Nat.reduceLT, Nat.reduceLeDiff, Int.reduceBEq, Int.reduceBNe, Int.reduceLT, Int.reduceLE, Int.reduceEq, wI, cf.aP, cf.aJ, Int.reduceAdd, Int.reduceSub, Int.reduceMul, Int.reduceNeg, Int.reduceToNat, AP.f113L0, hb, b1, nl, f1, l0, k1, k2, k3]
        | true =>
          cases B4 with
          | false =>
            rw [Vl, Vl, if_neg (by decide)]
            simp (disch := omega) only [go_sem, wy, wz, Nat.reduceEqDiff, reduceIte, Nat.reduceAdd, Nat.reduceMul, Nat.reduceLT, Nat.reduceLeDiff, Int.reduceBEq, Int.reduceBNe, Int.reduceLT, Int.reduceLE, Int.reduceEq, wI, cf.aP, cf.aJ, Int.reduceAdd, Int.reduceSub, Int.reduceMul, Int.reduceNeg, Int.reduceToNat, AP.f113L0, hb, b1, nl, f1, l0, k1, k2, k3]
          | true =>
            rw [Bool.and_self, Bool.and_self, if_pos rfl]
            simp (disch := omega) only [go_sem, wy, wz, Nat.reduceEqDiff, reduceIte, Nat.reduceAdd, Nat.reduceMul, Nat.reduceLT, Nat.reduceLeDiff, Int.reduceBEq, Int.reduceBNe, Int.reduceLT, Int.reduceLE, Int.reduceEq, wI, cf.aP, cf.aJ, Int.reduceAdd, Int.reduceSub, Int.reduceMul, Int.reduceNeg, Int.reduceToNat, AP.f113L0, hb, b1, nl, f1, l0, k1, k2, k3]
    | some y =>
      obtain ⟨p', rfl⟩ : ∃ p', p = p' ++ [y] := List.getLast?_eq_some_iff.1 hl
      have hpl : (p' ++ [y]).length = p'.length + 1 := by simp
      have hy : l[p'.length]? = some y := by rw [hp]; simp
      have hJ : (0 : Int) ≤ (p'.length : Int) ∧ (p'.length : Int) < l.length := ⟨by omega, by omega⟩
      have bj := a1 _ hJ
      have fj := a2 _ 0 0 hJ
      have lj := (a3 h (Ext.refl h)).1 p'.length (0 + 0) (.str y.1.name) hJ (by
       rw [EK, show Hm l = l.flatMap To from rfl, vW, Gf Jg hy (by omega)]; rfl)
      have cmp : bw .geq (.str y.1.name) (.str x.1.name) = some (.bool (!(Op.bytesLess y.1.name.toList x.1.name.toList))) := rfl
      have n2 : (((p' ++ [y]).length : Nat) : Int) - 1 = (p'.length : Int) := by rw [hpl]; omega
      clear ih w1 pe f2 a1 a2 a3 a4 hl hv hp ho hx hy
      rw [US, MC]
      simp only [Nat.add_zero] at fj lj
      generalize Op.bytesLess y.1.name.toList x.1.name.toList = B2 at *
      generalize AO x.1.name = B1 at *
      generalize Ay x.1 = B3 at *
      generalize zT x.1 = B4 at *
      generalize (p' ++ [y]).length = pl at *
      cases B1 with
      | false =>
        rw [Vr, if_neg (by decide)]
        simp (disch := omega) only [go_sem, wy, wz, Nat.reduceEqDiff, reduceIte, Nat.reduceAdd, Nat.reduceMul, Nat.reduceLT, Nat.reduceLeDiff, Int.reduceBEq, Int.reduceBNe, Int.reduceLT, Int.reduceLE, Int.reduceEq, wI, cf.aP, cf.aJ, Int.reduceAdd, Int.reduceSub, Int.reduceMul, Int.reduceNeg, Int.reduceToNat, AP.f113L0, hb, b1, nl, f1, l0, k1, k2, k3, bj, fj, lj, cmp, n2]
      | true =>
        cases B2 with
        | false =>
          rw [Vr, Vl, if_neg (by decide)]
          simp (disch := omega) only [go_sem, wy, wz, Nat.reduceEqDiff, reduceIte, Nat.reduceAdd, Nat.reduceMul, Nat.reduceLT, Nat.reduceLeDiff, Int.reduceBEq, Int.reduceBNe, Int.reduceLT, Int.reduceLE, Int.reduceEq, wI, cf.aP, cf.aJ, Int.reduceAdd, Int.reduceSub, Int.reduceMul, Int.reduceNeg, Int.reduceToNat, AP.f113L0, hb, b1, nl, f1, l0, k1, k2, k3, bj, fj, lj, cmp, n2]
        | true =>
          cases B3 with
          | false =>
            rw [Vr, Vl, Vl, if_neg (by decide)]
            simp (disch := omega) only [go_sem, wy, wz, Nat.reduceEqDiff, reduceIte, Nat.reduceAdd, Nat.reduceMul, Nat.reduceLT, Nat.reduceLeDiff, Int.reduceBEq, Int.reduceBNe, Int.reduceLT, Int.reduceLE, Int.reduceEq, wI, cf.aP, cf.aJ, Int.reduceAdd, Int.reduceSub, Int.reduceMul, Int.reduceNeg, Int.reduceToNat, AP.f113L0, hb, b1, nl, f1, l0, k1, k2, k3, bj, fj, lj, cmp, n2]
          | true =>
            cases B4 with
            | false =>
              rw [Vl, Vl, Vl, if_neg (by decide)]
              simp (disch := omega) only [go_sem, wy, wz, Nat.reduceEqDiff, reduceIte, Nat.reduceAdd, Nat.reduceMul, Nat.reduceLT, Nat.reduceLeDiff, Int.reduceBEq, Int.reduceBNe, Int.reduceLT, Int.reduceLE, Int.reduceEq, wI, cf.aP, cf.aJ, Int.reduceAdd, Int.reduceSub, Int.reduceMul, Int.reduceNeg, Int.reduceToNat, AP.f113L0, hb, b1, nl, f1, l0, k1, k2, k3, bj, fj, lj, cmp, n2]
            | true =>
              rw [Bool.and_self, Bool.and_self, Bool.and_self, if_pos rfl]
              simp (disch := omega) only [go_sem, wy, wz, Nat.reduceEqDiff, reduceIte, Nat.reduceAdd, Nat.reduceMul, Nat.reduceLT, Nat.reduceLeDiff, Int.reduceBEq, Int.reduceBNe, Int.reduceLT, Int.reduceLE, Int.reduceEq, wI, cf.aP, cf.aJ, Int.reduceAdd, Int.reduceSub, Int.reduceMul, Int.reduceNeg, Int.reduceToNat, AP.f113L0, hb, b1, nl, f1, l0, k1, k2, k3, bj, fj, lj, cmp, n2]
   have hmay : ES (p.getLast?.map (·.1)) ((x :: q).map (·.1)) = (De (p.getLast?.map (·.1)) x.1 && ES (some x.1) (q.map (·.1))) := rfl
   rw [hmay]
   by_cases hok : De (p.getLast?.map (·.1)) x.1 = true
   · rw [if_pos hok] at step
     rw [hok, Bool.true_and]
     rcases ih with ⟨e', r1, r2, r3⟩ | ⟨e', r1, r2, r3⟩
     · exact .inl ⟨e', uy step r1, r2, r3⟩
     · exact .inr ⟨e', uy step r1, r2, r3⟩
   · have hok' : De (p.getLast?.map (·.1)) x.1 = false := by simpa using hok
     rw [if_neg hok] at step
     rw [hok', Vr]
     exact .inr ⟨_, uT step, rfl, rfl⟩
def Gp (l : List zD) : Bool := ES none l && decide (l.length ≤ 6)
theorem Qp (h : H) (v : AV) (l : List GO) (hvs : v.sc = true) (hn : l.length < 1125899906842624) (rd : zE 9 h v l.length (Hm l)) (hv : ∀ x ∈ l, CP h x) : aS AP.A 113 [.agg [v]] h = some (.bool (Gp (l.map (·.1))), h) := by
 obtain ⟨h1, eh1⟩ : ∃ g, g = h.ez.alloc [v] := ⟨_, rfl⟩
 have hx : Ext h.ez h1 := by rw [eh1]; exact (Ext.refl _).alloc _
 have hx0 : Ext h h1 := fun i c q => hx i c q
 have hn0 : h.ez.next = h.next := rfl
 have g1 : h1.get h.next = some [v] := by rw [eh1]; exact wO rfl
 have Es := rd.mono fun i c q => hx0 i c q
 have ln := Es.len
 have hb : ∀ ev : Env, look ev 0 = .agg [v] → aX ev (.box 1 (.t 0)) = some ([v], fun i => .aE i 0) := by
  intro ev q
  simp only [aX, tu, q, lZ]
  rw [if_pos ⟨rfl, by simp [hvs]⟩]
 unfold Gp
 rcases JI hn h1 h.next g1 Es (fun x hx => (hv x hx).mono hx0) l [] rfl with ⟨e', r1, r2, r3⟩ | ⟨e', r1, r2, r3⟩
 · have r1' : Lp AP.A [1, 7, 8] AP.f113L0 [(1, .aE h.next 0), (7, .int .i64 l.length), (8, .int .i64 0)] h1 = some (.exit 0, e', h1) := r1
   clear r1
   have r3' : ES none (l.map (·.1)) = true := r3
   rw [r3', Bool.true_and, List.length_map]
   refine u7 (fn := AP.f113) (h2 := h1) (e := [(2, .bool (decide (l.length ≤ 6)))]) rfl rfl rfl ?_ rfl rfl
   clear rd Es hv hx hx0 r3 r3'
   simp only [nZ, n8, AP.f113]
   rw [sS, sR, ui, jq, hb _ rfl]
   simp only [nz, hn0, ← eh1]
   by_cases c : l.length ≤ 6
   · simp (disch := omega) only [go_sem, wy, wz, Nat.reduceEqDiff, reduceIte, Nat.reduceAdd, Nat.reduceMul, Nat.reduceLT, Nat.reduceLeDiff, Int.reduceBEq, Int.reduceBNe, Int.reduceLT, Int.reduceLE, Int.reduceEq, wI, cf.aP, cf.aJ, Int.reduceAdd, Int.reduceSub, Int.reduceMul, Int.reduceNeg, Int.reduceToNat, g1, ln, th, r1', r2]
   · simp (disch := omega) only [go_sem, wy, wz, Nat.reduceEqDiff, reduceIte, Nat.reduceAdd, Nat.reduceMul, Nat.reduceLT, Nat.reduceLeDiff, Int.reduceBEq, Int.reduceBNe, Int.reduceLT, Int.reduceLE, Int.reduceEq, wI, cf.aP, cf.aJ, Int.reduceAdd, Int.reduceSub, Int.reduceMul, Int.reduceNeg, Int.reduceToNat, g1, ln, th, r1', r2]
 · have r1' : Lp AP.A [1, 7, 8] AP.f113L0 [(1, .aE h.next 0), (7, .int .i64 l.length), (8, .int .i64 0)] h1 = some (.ret, e', h1) := r1
   clear r1
   have r3' : ES none (l.map (·.1)) = false := r3
   rw [r3', Vr]
   refine u7 (fn := AP.f113) (h2 := h1) (e := e') (vs := [.bool false]) rfl rfl rfl ?_ (by simp only [AP.f113, cO, od, r2]; rfl) rfl
   clear rd Es hv hx hx0 r3 r3'
   simp only [nZ, n8, AP.f113]
   rw [sS, sR, ui, jq, hb _ rfl]
   simp only [nz, hn0, ← eh1]
   simp (disch := omega) only [go_sem, wy, wz, Nat.reduceEqDiff, reduceIte, Nat.reduceAdd, Nat.reduceMul, Nat.reduceLT, Nat.reduceLeDiff, Int.reduceBEq, Int.reduceBNe, Int.reduceLT, Int.reduceLE, Int.reduceEq, wI, cf.aP, cf.aJ, Int.reduceAdd, Int.reduceSub, Int.reduceMul, Int.reduceNeg, Int.reduceToNat, g1, ln, th, r1']
def zc (method : Int) (s : ByteArray) (size : Int) : Option ByteArray :=
 if size < 0 ∨ 300 < size then none
 else if method = 0 then (if (s.size : Int) = size then some s else none)
 else if method = 8 then (match xz s size with
  | .ok (o, took) => if (o.length : Int) = size ∧ took = s.size then some (bytesOf o) else none
  | .error _ => none)
 else none
theorem GL {m : Int} {s : ByteArray} {z : Int} {t : ByteArray} (h : zc m s z = some t) : (t.size : Int) = z ∧ 0 ≤ z ∧ z ≤ 300 := by
 unfold zc at h
 split at h
 · cases h
 · rename_i q
   split at h
   · split at h
     · rename_i q2; obtain rfl := vG h; omega
     · cases h
   · split at h
     · split at h
       · split at h
         · rename_i q2
           obtain rfl := vG h
           rw [xD]; omega
         · cases h
       · cases h
     · cases h
def Qm : Option ByteArray → AV
 | some t => .bU [.str t, .int .i64 0]
 | none => .bU [.str ⟨#[]⟩, .int .i64 900]
theorem L9 (h : H) (hf : h.floor ≤ h.next) (m : Int) (s : ByteArray) (z : Int) (hs : s.size < 1125899906842624) : aS AP.A 114 [.int .i64 m, .str s, .int .i64 z] h = some (Qm (zc m s z), h) := by
 unfold zc
 by_cases c1 : z < 0
 · rw [if_pos (.inl c1)]
   refine u7 (fn := AP.f114) (h2 := h.ez) (e := [(6, .str ⟨#[]⟩), (7, .int .i64 900)]) rfl rfl rfl ?_ rfl rfl
   simp (disch := omega) only [go_sem, wy, wz, Nat.reduceEqDiff, reduceIte, Nat.reduceAdd, Nat.reduceMul, Nat.reduceLT, Nat.reduceLeDiff, Int.reduceBEq, Int.reduceBNe, Int.reduceLT, Int.reduceLE, Int.reduceEq, wI, cf.aP, cf.aJ, Int.reduceAdd, Int.reduceSub, Int.reduceMul, Int.reduceNeg, Int.reduceToNat, AP.f114]
 by_cases c2 : 300 < z
 · rw [if_pos (.inr c2)]
   refine u7 (fn := AP.f114) (h2 := h.ez) (e := [(6, .str ⟨#[]⟩), (7, .int .i64 900)]) rfl rfl rfl ?_ rfl rfl
   simp (disch := omega) only [go_sem, wy, wz, Nat.reduceEqDiff, reduceIte, Nat.reduceAdd, Nat.reduceMul, Nat.reduceLT, Nat.reduceLeDiff, Int.reduceBEq, Int.reduceBNe, Int.reduceLT, Int.reduceLE, Int.reduceEq, wI, cf.aP, cf.aJ, Int.reduceAdd, Int.reduceSub, Int.reduceMul, Int.reduceNeg, Int.reduceToNat, AP.f114]
 rw [if_neg (by omega)]
 by_cases c3 : m = 0
 · rw [if_pos c3]
   by_cases c4 : (s.size : Int) = z
   · rw [if_pos c4]
     refine u7 (fn := AP.f114) (h2 := h.ez) (e := [(6, .str s), (7, .int .i64 0)]) rfl rfl rfl ?_ rfl rfl
     simp (disch := omega) only [go_sem, wy, wz, Nat.reduceEqDiff, reduceIte, Nat.reduceAdd, Nat.reduceMul, Nat.reduceLT, Nat.reduceLeDiff, Int.reduceBEq, Int.reduceBNe, Int.reduceLT, Int.reduceLE, Int.reduceEq, wI, cf.aP, cf.aJ, Int.reduceAdd, Int.reduceSub, Int.reduceMul, Int.reduceNeg, Int.reduceToNat, AP.f114]
   · rw [if_neg c4]
     refine u7 (fn := AP.f114) (h2 := h.ez) (e := [(6, .str ⟨#[]⟩), (7, .int .i64 900)]) rfl rfl rfl ?_ rfl rfl
     simp (disch := omega) only [go_sem, wy, wz, Nat.reduceEqDiff, reduceIte, Nat.reduceAdd, Nat.reduceMul, Nat.reduceLT, Nat.reduceLeDiff, Int.reduceBEq, Int.reduceBNe, Int.reduceLT, Int.reduceLE, Int.reduceEq, wI, cf.aP, cf.aJ, Int.reduceAdd, Int.reduceSub, Int.reduceMul, Int.reduceNeg, Int.reduceToNat, AP.f114]
 rw [if_neg c3]
 by_cases c5 : m = 8
 · rw [if_pos c5]
   have k1 := J3 h.ez (by simp) s z hs
   simp only [I] at k1
   cases hi : xz s z with
   | error k =>
     rw [hi] at k1
     simp only [P0, I] at k1
     have hk := Gj hi
     have hk' : ¬ k = 0 := by rcases hk with rfl | rfl <;> decide
     clear hk
     refine u7 (fn := AP.f114) (h2 := h.ez) (e := [(6, .str ⟨#[]⟩), (7, .int .i64 900)]) rfl rfl rfl ?_ rfl rfl
     simp (disch := omega) only [go_sem, wy, wz, Nat.reduceEqDiff, reduceIte, Nat.reduceAdd, Nat.reduceMul, Nat.reduceLT, Nat.reduceLeDiff, Int.reduceBEq, Int.reduceBNe, Int.reduceLT, Int.reduceLE, Int.reduceEq, wI, cf.aP, cf.aJ, Int.reduceAdd, Int.reduceSub, Int.reduceMul, Int.reduceNeg, Int.reduceToNat, AP.f114, k1]
   | ok r =>
     obtain ⟨o, took⟩ := r
     rw [hi] at k1
     simp only [P0, I] at k1
     dsimp only
     have sz := xD o
     by_cases c6 : (o.length : Int) = z
     · by_cases c7 : took = s.size
       · rw [if_pos ⟨c6, c7⟩]
         refine u7 (fn := AP.f114) (h2 := h.ez) (e := [(6, .str (bytesOf o)), (7, .int .i64 0)]) rfl rfl rfl ?_ rfl rfl
         simp (disch := omega) only [go_sem, wy, wz, Nat.reduceEqDiff, reduceIte, Nat.reduceAdd, Nat.reduceMul, Nat.reduceLT, Nat.reduceLeDiff, Int.reduceBEq, Int.reduceBNe, Int.reduceLT, Int.reduceLE, Int.reduceEq, wI, cf.aP, cf.aJ, Int.reduceAdd, Int.reduceSub, Int.reduceMul, Int.reduceNeg, Int.reduceToNat, AP.f114, k1, sz]
       · rw [if_neg (fun q => c7 q.2)]
         refine u7 (fn := AP.f114) (h2 := h.ez) (e := [(6, .str ⟨#[]⟩), (7, .int .i64 900)]) rfl rfl rfl ?_ rfl rfl
         simp (disch := omega) only [go_sem, wy, wz, Nat.reduceEqDiff, reduceIte, Nat.reduceAdd, Nat.reduceMul, Nat.reduceLT, Nat.reduceLeDiff, Int.reduceBEq, Int.reduceBNe, Int.reduceLT, Int.reduceLE, Int.reduceEq, wI, cf.aP, cf.aJ, Int.reduceAdd, Int.reduceSub, Int.reduceMul, Int.reduceNeg, Int.reduceToNat, AP.f114, k1, sz]
     · rw [if_neg (fun q => c6 q.1)]
       refine u7 (fn := AP.f114) (h2 := h.ez) (e := [(6, .str ⟨#[]⟩), (7, .int .i64 900)]) rfl rfl rfl ?_ rfl rfl
       simp (disch := omega) only [go_sem, wy, wz, Nat.reduceEqDiff, reduceIte, Nat.reduceAdd, Nat.reduceMul, Nat.reduceLT, Nat.reduceLeDiff, Int.reduceBEq, Int.reduceBNe, Int.reduceLT, Int.reduceLE, Int.reduceEq, wI, cf.aP, cf.aJ, Int.reduceAdd, Int.reduceSub, Int.reduceMul, Int.reduceNeg, Int.reduceToNat, AP.f114, k1, sz]
 · rw [if_neg c5]
   refine u7 (fn := AP.f114) (h2 := h.ez) (e := [(6, .str ⟨#[]⟩), (7, .int .i64 900)]) rfl rfl rfl ?_ rfl rfl
   simp (disch := omega) only [go_sem, wy, wz, Nat.reduceEqDiff, reduceIte, Nat.reduceAdd, Nat.reduceMul, Nat.reduceLT, Nat.reduceLeDiff, Int.reduceBEq, Int.reduceBNe, Int.reduceLT, Int.reduceLE, Int.reduceEq, wI, cf.aP, cf.aJ, Int.reduceAdd, Int.reduceSub, Int.reduceMul, Int.reduceNeg, Int.reduceToNat, AP.f114]
def yu (e : zD) : Option ByteArray :=
 if Gp [e] = false then none
 else if e.gone then some ⟨#[]⟩
 else match zc e.method e.packed e.size with
  | some t => if (zL t : Int) = e.I8 then some t else none
  | none => none
theorem LX (h : H) (hf : h.floor ≤ h.next) (e : zD) (v : AV) (hv : v.sc = true) (ok : CP h (e, v)) : ∃ t, aS AP.A 107 [.agg (wF e v)] h = some (.bU [.str t, .bool (yu e).isSome], h) ∧ (∀ u, yu e = some u → t = u) := by
 obtain ⟨h1, eh1⟩ : ∃ g, g = h.ez.alloc (wF e v) := ⟨_, rfl⟩
 obtain ⟨h2, eh2⟩ : ∃ g, g = h1.alloc (wF e v) := ⟨_, rfl⟩
 have hx1 : Ext h h1 := fun i c q => by rw [eh1]; exact ((Ext.refl h.ez).alloc _) i c q
 have hx2 : Ext h h2 := by rw [eh2]; exact hx1.alloc _
 have hn0 : h.ez.next = h.next := rfl
 have hn1 : h1.next = h.next + 1 := by rw [eh1]; simp
 have g1 : h2.get h.next = some (wF e v) := by rw [eh2, wY (by omega), eh1, wO (by simp)]
 have g0 : h1.get h.next = some (wF e v) := by rw [eh1, wO (by simp)]
 have o : zE 9 h2 (.aF (h.next + 1) 0 1 9) 1 (Hm [(e, v)]) := by
  refine ⟨?_, rfl, fun _ => by simp⟩
  simp only [aT, if_true]
  rw [eh2, wO (by omega)]
  rfl
 have k1 := Qp h2 (.aF (h.next + 1) 0 1 9) [(e, v)] rfl (by simp) o (fun x hx => by
  obtain rfl : x = (e, v) := by simpa using hx
  exact ok.mono hx2)
 have k1' : aS AP.A 113 [.agg [.aF (h.next + 1) 0 1 9]] h2 = some (.bool (Gp [e]), h2) := k1
 have hf2 : h2.floor ≤ h2.next := by rw [eh2, eh1]; simp; omega
 have k2 := L9 h2 hf2 e.method e.packed e.size ok.pl
 have rdA : iG true 9 (wF e v) 0 = some (.agg (wF e v)) := rfl
 have cr : ∀ t : ByteArray, t.size < 1125899906842624 → aS AP.A 115 [.str t] h2 = some (.int .i64 (zL t : Nat), h2) := fun t ht => Li h2 t ht
 clear k1 o hx1 hx2
 unfold yu
 simp only [wF] at *
 cases hm : Gp [e] with
 | false =>
   rw [hm] at k1'
   refine ⟨⟨#[]⟩, ?_, fun u q => by simp at q⟩
   rw [if_pos rfl]
   refine u7 (fn := AP.f107) (h2 := h2) (e := [(2, .str ⟨#[]⟩), (3, .bool false)]) rfl rfl rfl ?_ rfl rfl
   simp (disch := omega) only [go_sem, wy, wz, Nat.reduceEqDiff, reduceIte, Nat.reduceAdd, Nat.reduceMul, Nat.reduceLT, Nat.reduceLeDiff, Int.reduceBEq, Int.reduceBNe, Int.reduceLT, Int.reduceLE, Int.reduceEq, wI, cf.aP, cf.aJ, Int.reduceAdd, Int.reduceSub, Int.reduceMul, Int.reduceNeg, Int.reduceToNat, AP.f107, hv, hn0, ← eh1, g0, rdA, hn1, ← eh2, k1']
 | true =>
   rw [hm] at k1'
   rw [if_neg (by decide)]
   cases hg : e.gone with
   | true =>
     rw [hg] at g1 g0 eh1 eh2 rdA
     refine ⟨⟨#[]⟩, ?_, fun u q => by simpa using q⟩
     refine u7 (fn := AP.f107) (h2 := h2) (e := [(2, .str ⟨#[]⟩), (3, .bool true)]) rfl rfl rfl ?_ rfl rfl
     simp (disch := omega) only [go_sem, wy, wz, Nat.reduceEqDiff, reduceIte, Nat.reduceAdd, Nat.reduceMul, Nat.reduceLT, Nat.reduceLeDiff, Int.reduceBEq, Int.reduceBNe, Int.reduceLT, Int.reduceLE, Int.reduceEq, wI, cf.aP, cf.aJ, Int.reduceAdd, Int.reduceSub, Int.reduceMul, Int.reduceNeg, Int.reduceToNat, AP.f107, hv, hn0, ← eh1, g0, g1, rdA, hn1, ← eh2, k1']
   | false =>
     rw [hg] at g1 g0 eh1 eh2 rdA
     rw [if_neg (by decide)]
     cases hu : zc e.method e.packed e.size with
     | none =>
       rw [hu] at k2
       simp only [Qm] at k2
       refine ⟨⟨#[]⟩, ?_, fun u q => by simp at q⟩
       refine u7 (fn := AP.f107) (h2 := h2) (e := [(2, .str ⟨#[]⟩), (3, .bool false)]) rfl rfl rfl ?_ rfl rfl
       simp (disch := omega) only [go_sem, wy, wz, Nat.reduceEqDiff, reduceIte, Nat.reduceAdd, Nat.reduceMul, Nat.reduceLT, Nat.reduceLeDiff, Int.reduceBEq, Int.reduceBNe, Int.reduceLT, Int.reduceLE, Int.reduceEq, wI, cf.aP, cf.aJ, Int.reduceAdd, Int.reduceSub, Int.reduceMul, Int.reduceNeg, Int.reduceToNat, AP.f107, hv, hn0, ← eh1, g0, g1, rdA, hn1, ← eh2, k1', k2]
     | some t =>
       rw [hu] at k2
       simp only [Qm] at k2
       have kc := cr t (by have := GL hu; omega)
       dsimp only
       by_cases c : (zL t : Int) = e.I8
       · rw [if_pos c]
         refine ⟨t, ?_, fun u q => vG q⟩
         refine u7 (fn := AP.f107) (h2 := h2) (e := [(2, .str t), (3, .bool true)]) rfl rfl rfl ?_ rfl rfl
         simp (disch := omega) only [go_sem, wy, wz, Nat.reduceEqDiff, reduceIte, Nat.reduceAdd, Nat.reduceMul, Nat.reduceLT, Nat.reduceLeDiff, Int.reduceBEq, Int.reduceBNe, Int.reduceLT, Int.reduceLE, Int.reduceEq, wI, cf.aP, cf.aJ, Int.reduceAdd, Int.reduceSub, Int.reduceMul, Int.reduceNeg, Int.reduceToNat, AP.f107, hv, hn0, ← eh1, g0, g1, rdA, hn1, ← eh2, k1', k2, kc]
       · rw [if_neg c]
         refine ⟨t, ?_, fun u q => by simp at q⟩
         refine u7 (fn := AP.f107) (h2 := h2) (e := [(2, .str t), (3, .bool false)]) rfl rfl rfl ?_ rfl rfl
         simp (disch := omega) only [go_sem, wy, wz, Nat.reduceEqDiff, reduceIte, Nat.reduceAdd, Nat.reduceMul, Nat.reduceLT, Nat.reduceLeDiff, Int.reduceBEq, Int.reduceBNe, Int.reduceLT, Int.reduceLE, Int.reduceEq, wI, cf.aP, cf.aJ, Int.reduceAdd, Int.reduceSub, Int.reduceMul, Int.reduceNeg, Int.reduceToNat, AP.f107, hv, hn0, ← eh1, g0, g1, rdA, hn1, ← eh2, k1', k2, kc]
def zG (e : zD) : Bool := (yu e).isSome
theorem BH (h : H) (hf : h.floor ≤ h.next) (e : zD) (v : AV) (hv : v.sc = true) (ok : CP h (e, v)) : aS AP.A 96 [.agg (wF e v)] h = some (.bool (zG e), h) := by
 obtain ⟨h1, eh1⟩ : ∃ g, g = h.ez.alloc (wF e v) := ⟨_, rfl⟩
 have hx1 : Ext h h1 := fun i c q => by rw [eh1]; exact ((Ext.refl h.ez).alloc _) i c q
 have hn0 : h.ez.next = h.next := rfl
 have g0 : h1.get h.next = some (wF e v) := by rw [eh1, wO (by simp)]
 obtain ⟨t, k1, _⟩ := LX h1 (by rw [eh1]; simp) e v hv (ok.mono hx1)
 have rdA : iG true 9 (wF e v) 0 = some (.agg (wF e v)) := rfl
 refine u7 (fn := AP.f96) (h2 := h1) (e := [(2, .bool (zG e))]) rfl rfl rfl ?_ rfl rfl
 clear hx1
 unfold zG
 simp only [wF] at *
 simp (disch := omega) only [go_sem, wy, wz, Nat.reduceEqDiff, reduceIte, Nat.reduceAdd, Nat.reduceMul, Nat.reduceLT, Nat.reduceLeDiff, Int.reduceBEq, Int.reduceBNe, Int.reduceLT, Int.reduceLE, Int.reduceEq, wI, cf.aP, cf.aJ, Int.reduceAdd, Int.reduceSub, Int.reduceMul, Int.reduceNeg, Int.reduceToNat, AP.f96, hv, hn0, ← eh1, g0, rdA, k1]
def Ig (e : zD) : AV := match yu e with
 | none => .bU [.str ⟨#[]⟩, .int .i64 1500]
 | some t => if e.gone then .bU [.str ⟨#[]⟩, .int .i64 1501] else .bU [.str t, .int .i64 0]
theorem Gd (h : H) (hf : h.floor ≤ h.next) (e : zD) (v : AV) (hv : v.sc = true) (ok : CP h (e, v)) : aS AP.A 100 [.agg (wF e v)] h = some (Ig e, h) := by
 obtain ⟨h1, eh1⟩ : ∃ g, g = h.ez.alloc (wF e v) := ⟨_, rfl⟩
 have hx1 : Ext h h1 := fun i c q => by rw [eh1]; exact ((Ext.refl h.ez).alloc _) i c q
 have hn0 : h.ez.next = h.next := rfl
 have g0 : h1.get h.next = some (wF e v) := by rw [eh1, wO (by simp)]
 obtain ⟨t, k1, kt⟩ := LX h1 (by rw [eh1]; simp) e v hv (ok.mono hx1)
 have rdA : iG true 9 (wF e v) 0 = some (.agg (wF e v)) := rfl
 unfold Ig
 clear hx1
 cases ht : yu e with
 | none =>
   rw [ht] at k1
   refine u7 (fn := AP.f100) (h2 := h1) (e := [(2, .str ⟨#[]⟩), (3, .int .i64 1500)]) rfl rfl rfl ?_ rfl rfl
   simp only [wF, Option.isSome_none] at *
   simp (disch := omega) only [go_sem, wy, wz, Nat.reduceEqDiff, reduceIte, Nat.reduceAdd, Nat.reduceMul, Nat.reduceLT, Nat.reduceLeDiff, Int.reduceBEq, Int.reduceBNe, Int.reduceLT, Int.reduceLE, Int.reduceEq, wI, cf.aP, cf.aJ, Int.reduceAdd, Int.reduceSub, Int.reduceMul, Int.reduceNeg, Int.reduceToNat, AP.f100, hv, hn0, ← eh1, g0, rdA, k1]
 | some u =>
   rw [ht] at k1
   obtain rfl := kt u ht
   cases hg : e.gone with
   | true =>
     refine u7 (fn := AP.f100) (h2 := h1) (e := [(2, .str ⟨#[]⟩), (3, .int .i64 1501)]) rfl rfl rfl ?_ rfl rfl
     simp only [wF, Option.isSome_some, hg] at *
     simp (disch := omega) only [go_sem, wy, wz, Nat.reduceEqDiff, reduceIte, Nat.reduceAdd, Nat.reduceMul, Nat.reduceLT, Nat.reduceLeDiff, Int.reduceBEq, Int.reduceBNe, Int.reduceLT, Int.reduceLE, Int.reduceEq, wI, cf.aP, cf.aJ, Int.reduceAdd, Int.reduceSub, Int.reduceMul, Int.reduceNeg, Int.reduceToNat, AP.f100, hv, hn0, ← eh1, g0, rdA, k1]
   | false =>
     refine u7 (fn := AP.f100) (h2 := h1) (e := [(2, .str t), (3, .int .i64 0)]) rfl rfl rfl ?_ rfl rfl
     simp only [wF, Option.isSome_some, hg] at *
     simp (disch := omega) only [go_sem, wy, wz, Nat.reduceEqDiff, reduceIte, Nat.reduceAdd, Nat.reduceMul, Nat.reduceLT, Nat.reduceLeDiff, Int.reduceBEq, Int.reduceBNe, Int.reduceLT, Int.reduceLE, Int.reduceEq, wI, cf.aP, cf.aJ, Int.reduceAdd, Int.reduceSub, Int.reduceMul, Int.reduceNeg, Int.reduceToNat, AP.f100, hv, hn0, ← eh1, g0, rdA, k1]
theorem Nz (e : zD) : Gp [e] = (AO e.name && (Ay e && zT e)) := by
 unfold Gp ES
 rw [Jf]
 simp [ES]
theorem Lr (c : ah) (e : Env) (h : H) (x y : X) : ai c e h (.mx [x, y]) = dI h (nk (x.ev e) (y.ev e)) := by
 simp only [ai, bC, UW, Vn, gV]
 cases nk (x.ev e) (y.ev e) <;> rfl
def xC (a b : Int) : Int := if a < b then b else a
theorem IY (k : IntKind) (a b : Int) : nk (.int k a) (.int k b) = some (.int k (xC a b)) := rfl
def xJ (a b : List Int) : List Int := List.zipWith xC a b
theorem Rd.T8 {h : H} {v : AV} {cs : List AV} (r : Rd h v cs) (hc : cs ≠ []) : fU 1 v .aQ = some false := by
 obtain ⟨r, hs⟩ := r
 unfold aT at r
 split at r
 · obtain ⟨_, h2⟩ := vJ (vG r); exact absurd h2.symm hc
 · exact absurd rfl (hs _)
 · rfl
 · rfl
 · cases r
theorem EW {n : Nat} {h : H} {v : AV} {k : Nat} {cs : List AV} (r : zE n h v k cs) (hfn : h.floor ≤ h.next) (hn : 0 < n) (hk : 0 < k) {z : Nat} (hr : roomy z k = true) (hc : AV.aC cs = true) :
 lL (h.alloc []) n z (.aF h.next 0 0 n) v = some (.aF (h.next + 1) 0 k n, ((h.alloc []).del h.next).alloc cs) := by
 have r2 : zE n (h.alloc []) v k cs := r.mono fun i c q => by rw [H.aW, if_neg (by have := h.lt _ _ q; omega)]; exact q
 unfold lL
 rw [r2.1, vO]
 have hkn : 0 < k * n := Nat.mul_pos hk hn
 unfold ep
 rw [if_neg (by omega), if_neg (by simp [hc]; omega)]
 simp only [H.jK, hfn, and_self, if_true]
 rw [wO rfl, vO, if_neg (by simp; omega), if_pos ⟨by simp, by simpa using hr⟩]
 simp
theorem BK : ∀ l : List Int, AV.aC (ints l) = true
 | [] => rfl
 | n :: l => by
   have := BK l
   show AV.aC (I n :: ints l) = true
   rw [qN, this]; rfl
theorem Mw (h : H) (v : AV) (l : List Int) (rd : Rd h v (ints l)) (hl : 0 < l.length) (hb : l.length < 1000000) (hfn : h.floor ≤ h.next) : aS AP.A 118 [v] h = some (.aF (h.next + 1) 0 l.length 1, ((h.alloc []).del h.next).alloc (ints l)) := by
 have r2 := rd.Ub
 rw [qy] at r2
 have ap := EW r2 hfn (by omega) hl (z := 8) (by simp [roomy]; omega) (BK l)
 have nn := rd.T8 (fun q => by
  have q2 : (ints l).length = 0 := by rw [q]; rfl
  rw [qy] at q2
  omega)
 refine uM (fn := AP.f118) (h2 := ((h.alloc []).del h.next).alloc (ints l)) (e := [(2, .aF (h.next + 1) 0 l.length 1)]) (vs := [.aF (h.next + 1) 0 l.length 1]) rfl rfl rfl ?_ rfl
 clear rd r2
 simp (disch := omega) only [go_sem, wy, wz, Nat.reduceEqDiff, reduceIte, Nat.reduceAdd, Nat.reduceMul, Nat.reduceLT, Nat.reduceLeDiff, Int.reduceBEq, Int.reduceBNe, Int.reduceLT, Int.reduceLE, Int.reduceEq, wI, cf.aP, cf.aJ, Int.reduceAdd, Int.reduceSub, Int.reduceMul, Int.reduceNeg, Int.reduceToNat, AP.f118, nn, ap]
theorem Ny {l : List Int} (h : l.length = 4) : ∃ a b c d, l = [a, b, c, d] := by
 match l, h with
 | [a, b, c, d], _ => exact ⟨a, b, c, d, rfl⟩
def xf (l : List Int) : AV := zO 1 l.length (ints l)
theorem A5 (h : H) (id : Nat) (b0 : AV) (adv : Int → AV) (i : Nat) (x y : Int) (cs : List AV) (hi : i < 4) (hg : h.get id = some cs) (hl : cs.length = 4) (hx : cs[i]? = some (.int .i64 x)) (hf : h.floor ≤ id)
 (a1 : gG 1 b0 (.int .i64 i) = some (adv i)) (a2 : cJ false 1 (adv i) h = some (.int .i64 y)) :
 aM (aS AP.A) bG AP.f110L0 (ay [(6, .aF id 0 4 1), (19, b0), (20, .int .i64 4), (21, .int .i64 i)] [6, 19, 20, 21]) h = some (.normal, [(6, .aF id 0 4 1), (19, b0), (20, .int .i64 4), (21, .int .i64 ((i : Int) + 1))], h.set id (cs.set i (.int .i64 (xC x y)))) := by
 have st := vA (h := h) (id := id) (off := i) (v := .int .i64 (xC x y)) (cs := cs) hf (by omega) rfl
 simp (disch := omega) only [go_sem, wy, wz, Nat.reduceEqDiff, reduceIte, Nat.reduceAdd, Nat.reduceMul, Nat.reduceLT, Nat.reduceLeDiff, Int.reduceBEq, Int.reduceBNe, Int.reduceLT, Int.reduceLE, Int.reduceEq, wI, cf.aP, cf.aJ, Int.reduceAdd, Int.reduceSub, Int.reduceMul, Int.reduceNeg, Int.reduceToNat, AP.f110L0, a1, a2, hg, hx, Lr, IY, st]
theorem ML (h : H) (v w : AV) (a b : List Int) (ra : Rd h v (ints a)) (rb : Rd h w (ints b)) (ha : EN a = true) (hb : EN b = true) (hfn : h.floor ≤ h.next) : aS AP.A 110 [v, w] h = some (.bU [xf (xJ a b), .int .i64 0], h) := by
 have la : a.length = 4 := by unfold EN at ha; simp only [vS, Vq] at ha; exact ha.1
 have lb : b.length = 4 := by unfold EN at hb; simp only [vS, Vq] at hb; exact hb.1
 have ra' := ra.mono (wJ h)
 have rb' := rb.mono (wJ h)
 have k1 := Ma h.ez v a ra' (by omega)
 have k2 := Ma h.ez w b rb' (by omega)
 rw [ha] at k1; rw [hb] at k2
 have k3 := Mw h.ez v a ra' (by omega) (by omega) (by simp)
 rw [la] at k3
 have hn : h.ez.next = h.next := rfl
 rw [hn] at k3
 obtain ⟨h1, eh1⟩ : ∃ g, g = ((h.ez.alloc []).del h.next).alloc (ints a) := ⟨_, rfl⟩
 rw [← eh1] at k3
 have n1 : h1.next = h.next + 2 := by rw [eh1]; simp
 have f1 : h1.floor = h.next := by rw [eh1]; simp
 have g1 : h1.get (h.next + 1) = some (ints a) := by rw [eh1]; exact wO (by simp)
 have e1 : Ext h h1 := fun i c q => by
  have := h.lt _ _ q
  rw [eh1, H.aW, if_neg (by simp; omega), H.eI, if_neg (by omega), H.aW, if_neg (by simp; omega)]; exact q
 have ln := (rb.mono fun i c q => e1 i c q).len
 rw [qy, lb] at ln
 obtain ⟨adv, a1, a2⟩ := rb.xQ
 obtain ⟨a0, b0, c0, d0, rfl⟩ := Ny la
 obtain ⟨p0, p1, p2, p3, rfl⟩ := Ny lb
 obtain ⟨h2, eh2⟩ : ∃ g, g = h1.set (h.next + 1) (ints [xC a0 p0, b0, c0, d0]) := ⟨_, rfl⟩
 obtain ⟨h3, eh3⟩ : ∃ g, g = h2.set (h.next + 1) (ints [xC a0 p0, xC b0 p1, c0, d0]) := ⟨_, rfl⟩
 obtain ⟨h4, eh4⟩ : ∃ g, g = h3.set (h.next + 1) (ints [xC a0 p0, xC b0 p1, xC c0 p2, d0]) := ⟨_, rfl⟩
 obtain ⟨h5, eh5⟩ : ∃ g, g = h4.set (h.next + 1) (ints [xC a0 p0, xC b0 p1, xC c0 p2, xC d0 p3]) := ⟨_, rfl⟩
 have g2 : h2.get (h.next + 1) = some (ints [xC a0 p0, b0, c0, d0]) := by rw [eh2, wS rfl, g1]; rfl
 have g3 : h3.get (h.next + 1) = some (ints [xC a0 p0, xC b0 p1, c0, d0]) := by rw [eh3, wS rfl, g2]; rfl
 have g4 : h4.get (h.next + 1) = some (ints [xC a0 p0, xC b0 p1, xC c0 p2, d0]) := by rw [eh4, wS rfl, g3]; rfl
 have g5 : h5.get (h.next + 1) = some (ints [xC a0 p0, xC b0 p1, xC c0 p2, xC d0 p3]) := by rw [eh5, wS rfl, g4]; rfl
 have e2 : Ext h h2 := by rw [eh2]; exact e1.set (by omega) _
 have e3 : Ext h h3 := by rw [eh3]; exact e2.set (by omega) _
 have e4 : Ext h h4 := by rw [eh4]; exact e3.set (by omega) _
 have s0 := A5 h1 (h.next + 1) w adv 0 a0 p0 _ (by omega) g1 rfl rfl (by omega) (a1 0 (by simp)) (a2 h1 e1 0 _ rfl)
 have s1 := A5 h2 (h.next + 1) w adv 1 b0 p1 _ (by omega) g2 rfl rfl (by rw [eh2]; simp; omega) (a1 1 (by simp)) (a2 h2 e2 1 _ rfl)
 have s2 := A5 h3 (h.next + 1) w adv 2 c0 p2 _ (by omega) g3 rfl rfl (by rw [eh3, eh2]; simp; omega) (a1 2 (by simp)) (a2 h3 e3 2 _ rfl)
 have s3 := A5 h4 (h.next + 1) w adv 3 d0 p3 _ (by omega) g4 rfl rfl (by rw [eh4, eh3, eh2]; simp; omega) (a1 3 (by simp)) (a2 h4 e4 3 _ rfl)
 have st0 : h1.set (h.next + 1) ((ints [a0, b0, c0, d0]).set 0 (.int .i64 (xC a0 p0))) = h2 := eh2.symm
 have M7 : h2.set (h.next + 1) ((ints [xC a0 p0, b0, c0, d0]).set 1 (.int .i64 (xC b0 p1))) = h3 := eh3.symm
 have st2 : h3.set (h.next + 1) ((ints [xC a0 p0, xC b0 p1, c0, d0]).set 2 (.int .i64 (xC c0 p2))) = h4 := eh4.symm
 have st3 : h4.set (h.next + 1) ((ints [xC a0 p0, xC b0 p1, xC c0 p2, d0]).set 3 (.int .i64 (xC d0 p3))) = h5 := eh5.symm
 rw [st0] at s0; rw [M7] at s1; rw [st2] at s2; rw [st3] at s3
 have fin : Lp AP.A [6, 19, 20, 21] AP.f110L0 [(6, .aF (h.next + 1) 0 4 1), (19, w), (20, .int .i64 4), (21, .int .i64 4)] h5 = some (.exit 0, [(6, .aF (h.next + 1) 0 4 1), (19, w), (20, .int .i64 4), (21, .int .i64 4), (22, .bool false)], h5) := by
  refine ux ?_
  simp (disch := omega) only [go_sem, wy, wz, Nat.reduceEqDiff, reduceIte, Nat.reduceAdd, Nat.reduceMul, Nat.reduceLT, Nat.reduceLeDiff, Int.reduceBEq, Int.reduceBNe, Int.reduceLT, Int.reduceLE, Int.reduceEq, wI, cf.aP, cf.aJ, Int.reduceAdd, Int.reduceSub, Int.reduceMul, Int.reduceNeg, Int.reduceToNat, AP.f110L0]
 have lp : Lp AP.A [6, 19, 20, 21] AP.f110L0 [(6, .aF (h.next + 1) 0 4 1), (19, w), (20, .int .i64 4), (21, .int .i64 0)] h1 = some (.exit 0, [(6, .aF (h.next + 1) 0 4 1), (19, w), (20, .int .i64 4), (21, .int .i64 4), (22, .bool false)], h5) :=
  uy s0 (uy s1 (uy s2 (uy s3 fin)))
 simp only [I] at ln
 have ln' : jy false w = some (.int .i64 4) := ln
 refine u7 (fn := AP.f110) (h2 := h5) (e := [(4, .aF (h.next + 1) 0 4 1), (5, .int .i64 0)]) (vs := [.aF (h.next + 1) 0 4 1, .int .i64 0]) rfl rfl rfl ?_ rfl ?_
 · clear a1 a2 e1 e2 e3 e4 s0 s1 s2 s3 ra rb ra' rb' fin ha hb
   simp (disch := omega) only [go_sem, wy, wz, Nat.reduceEqDiff, reduceIte, Nat.reduceAdd, Nat.reduceMul, Nat.reduceLT, Nat.reduceLeDiff, Int.reduceBEq, Int.reduceBNe, Int.reduceLT, Int.reduceLE, Int.reduceEq, wI, cf.aP, cf.aJ, Int.reduceAdd, Int.reduceSub, Int.reduceMul, Int.reduceNeg, Int.reduceToNat, AP.f110, k1, k2, k3, ln', th, lp]
 · have o : wW 1 h5 (.aF (h.next + 1) 0 4 1) 4 (ints [xC a0 p0, xC b0 p1, xC c0 p2, xC d0 p3]) := ⟨rfl, .inr ⟨_, rfl, g5, by rw [eh5, eh4, eh3, eh2]; simp; omega, by omega⟩⟩
   have s := o.yj (fl := h.next) (m := 13) (t := true) (by rw [eh5, eh4, eh3, eh2]; simp [f1])
   show (fV (snap h5.get h.next 15 true) [.aF (h.next + 1) 0 4 1, .int .i64 0]).bind _ = _
   simp only [fV, s, vO]
   rfl
def DQ (a b : Int) : Int := if a < b then -1 else if b < a then 1 else 0
theorem NB (h : H) (a : Int) : aS AP.A 116 [.int .i64 a] h = some (.bool false, h) := by
 refine u7 (fn := AP.f116) (h2 := h.ez) (e := [(2, .bool false)]) rfl rfl rfl ?_ rfl rfl
 simp (disch := omega) only [go_sem, wy, wz, Nat.reduceEqDiff, reduceIte, Nat.reduceAdd, Nat.reduceMul, Nat.reduceLT, Nat.reduceLeDiff, Int.reduceBEq, Int.reduceBNe, Int.reduceLT, Int.reduceLE, Int.reduceEq, wI, cf.aP, cf.aJ, Int.reduceAdd, Int.reduceSub, Int.reduceMul, Int.reduceNeg, Int.reduceToNat, AP.f116]
theorem Nq (h : H) (a b : Int) : aS AP.A 109 [.int .i64 a, .int .i64 b] h = some (.int .i64 (DQ a b), h) := by
 have k1 := NB h.ez a
 have k2 := NB h.ez b
 unfold DQ
 refine u7 (fn := AP.f109) (h2 := h.ez) (e := [(4, .int .i64 (if a < b then -1 else if b < a then 1 else 0))]) rfl rfl rfl ?_ rfl rfl
 by_cases c1 : a < b
 · rw [if_pos c1]; simp (disch := omega) only [go_sem, wy, wz, Nat.reduceEqDiff, reduceIte, Nat.reduceAdd, Nat.reduceMul, Nat.reduceLT, Nat.reduceLeDiff, Int.reduceBEq, Int.reduceBNe, Int.reduceLT, Int.reduceLE, Int.reduceEq, wI, cf.aP, cf.aJ, Int.reduceAdd, Int.reduceSub, Int.reduceMul, Int.reduceNeg, Int.reduceToNat, AP.f109, k1, k2]
 · rw [if_neg c1]
   by_cases c2 : b < a
   · rw [if_pos c2]; simp (disch := omega) only [go_sem, wy, wz, Nat.reduceEqDiff, reduceIte, Nat.reduceAdd, Nat.reduceMul, Nat.reduceLT, Nat.reduceLeDiff, Int.reduceBEq, Int.reduceBNe, Int.reduceLT, Int.reduceLE, Int.reduceEq, wI, cf.aP, cf.aJ, Int.reduceAdd, Int.reduceSub, Int.reduceMul, Int.reduceNeg, Int.reduceToNat, AP.f109, k1, k2]
   · rw [if_neg c2]; simp (disch := omega) only [go_sem, wy, wz, Nat.reduceEqDiff, reduceIte, Nat.reduceAdd, Nat.reduceMul, Nat.reduceLT, Nat.reduceLeDiff, Int.reduceBEq, Int.reduceBNe, Int.reduceLT, Int.reduceLE, Int.reduceEq, wI, cf.aP, cf.aJ, Int.reduceAdd, Int.reduceSub, Int.reduceMul, Int.reduceNeg, Int.reduceToNat, AP.f109, k1, k2]
def Tp (a b : Int) : Int := if a = 0 then b else a
theorem Ua (h : H) (v : AV) (a b : Int) (rd : Rd h v (ints [a, b])) : aS AP.A 108 [v] h = some (.int .i64 (Tp a b), h) := by
 have rd' := rd.mono (wJ h)
 have ln : jy false v = some (.int .i64 2) := rd'.len
 obtain ⟨ad, a1, a2⟩ := rd'.xQ
 have i0 := a1 0 (by simp)
 have i1 := a1 1 (by simp)
 have l0 : cJ false 1 (ad 0) h.ez = some (.int .i64 a) := a2 h.ez (Ext.refl _) 0 a rfl
 have l1 : cJ false 1 (ad 1) h.ez = some (.int .i64 b) := a2 h.ez (Ext.refl _) 1 b rfl
 clear a1 a2 rd rd'
 unfold Tp
 by_cases c1 : a = 0
 · rw [if_pos c1]
   have s0 : aM (aS AP.A) bG AP.f108L0 (ay [(3, .int .i64 0), (6, v), (7, .int .i64 2), (8, .int .i64 0)] [3, 6, 7, 8]) h.ez = some (.normal, [(3, .int .i64 0), (6, v), (7, .int .i64 2), (8, .int .i64 1)], h.ez) := by
    simp (disch := omega) only [go_sem, wy, wz, Nat.reduceEqDiff, reduceIte, Nat.reduceAdd, Nat.reduceMul, Nat.reduceLT, Nat.reduceLeDiff, Int.reduceBEq, Int.reduceBNe, Int.reduceLT, Int.reduceLE, Int.reduceEq, wI, cf.aP, cf.aJ, Int.reduceAdd, Int.reduceSub, Int.reduceMul, Int.reduceNeg, Int.reduceToNat, AP.f108L0, i0, l0]
   by_cases c2 : b = 0
   · have s1 : aM (aS AP.A) bG AP.f108L0 (ay [(3, .int .i64 0), (6, v), (7, .int .i64 2), (8, .int .i64 1)] [3, 6, 7, 8]) h.ez = some (.normal, [(3, .int .i64 0), (6, v), (7, .int .i64 2), (8, .int .i64 2)], h.ez) := by
      simp (disch := omega) only [go_sem, wy, wz, Nat.reduceEqDiff, reduceIte, Nat.reduceAdd, Nat.reduceMul, Nat.reduceLT, Nat.reduceLeDiff, Int.reduceBEq, Int.reduceBNe, Int.reduceLT, Int.reduceLE, Int.reduceEq, wI, cf.aP, cf.aJ, Int.reduceAdd, Int.reduceSub, Int.reduceMul, Int.reduceNeg, Int.reduceToNat, AP.f108L0, i1, l1]
     have fin : Lp AP.A [3, 6, 7, 8] AP.f108L0 [(3, .int .i64 0), (6, v), (7, .int .i64 2), (8, .int .i64 2)] h.ez = some (.exit 0, [(3, .int .i64 0), (6, v), (7, .int .i64 2), (8, .int .i64 2), (9, .bool false)], h.ez) := by
      refine ux ?_
      simp (disch := omega) only [go_sem, wy, wz, Nat.reduceEqDiff, reduceIte, Nat.reduceAdd, Nat.reduceMul, Nat.reduceLT, Nat.reduceLeDiff, Int.reduceBEq, Int.reduceBNe, Int.reduceLT, Int.reduceLE, Int.reduceEq, wI, cf.aP, cf.aJ, Int.reduceAdd, Int.reduceSub, Int.reduceMul, Int.reduceNeg, Int.reduceToNat, AP.f108L0]
     have lp := uy s0 (uy s1 fin)
     refine u7 (fn := AP.f108) (h2 := h.ez) (e := [(2, .int .i64 0)]) (vs := [.int .i64 b]) rfl rfl rfl ?_ (by rw [c2]; rfl) rfl
     clear s0 s1 fin
     simp (disch := omega) only [go_sem, wy, wz, Nat.reduceEqDiff, reduceIte, Nat.reduceAdd, Nat.reduceMul, Nat.reduceLT, Nat.reduceLeDiff, Int.reduceBEq, Int.reduceBNe, Int.reduceLT, Int.reduceLE, Int.reduceEq, wI, cf.aP, cf.aJ, Int.reduceAdd, Int.reduceSub, Int.reduceMul, Int.reduceNeg, Int.reduceToNat, AP.f108, ln, th, lp]
   · have s1 : Lp AP.A [3, 6, 7, 8] AP.f108L0 [(3, .int .i64 0), (6, v), (7, .int .i64 2), (8, .int .i64 1)] h.ez = some (.ret, [(2, .int .i64 b)], h.ez) := by
      refine uT ?_
      simp (disch := omega) only [go_sem, wy, wz, Nat.reduceEqDiff, reduceIte, Nat.reduceAdd, Nat.reduceMul, Nat.reduceLT, Nat.reduceLeDiff, Int.reduceBEq, Int.reduceBNe, Int.reduceLT, Int.reduceLE, Int.reduceEq, wI, cf.aP, cf.aJ, Int.reduceAdd, Int.reduceSub, Int.reduceMul, Int.reduceNeg, Int.reduceToNat, AP.f108L0, i1, l1]
     have lp := uy s0 s1
     refine u7 (fn := AP.f108) (h2 := h.ez) (e := [(2, .int .i64 b)]) rfl rfl rfl ?_ rfl rfl
     clear s0 s1
     simp (disch := omega) only [go_sem, wy, wz, Nat.reduceEqDiff, reduceIte, Nat.reduceAdd, Nat.reduceMul, Nat.reduceLT, Nat.reduceLeDiff, Int.reduceBEq, Int.reduceBNe, Int.reduceLT, Int.reduceLE, Int.reduceEq, wI, cf.aP, cf.aJ, Int.reduceAdd, Int.reduceSub, Int.reduceMul, Int.reduceNeg, Int.reduceToNat, AP.f108, ln, th, lp]
 · rw [if_neg c1]
   have lp : Lp AP.A [3, 6, 7, 8] AP.f108L0 [(3, .int .i64 0), (6, v), (7, .int .i64 2), (8, .int .i64 0)] h.ez = some (.ret, [(2, .int .i64 a)], h.ez) := by
    refine uT ?_
    simp (disch := omega) only [go_sem, wy, wz, Nat.reduceEqDiff, reduceIte, Nat.reduceAdd, Nat.reduceMul, Nat.reduceLT, Nat.reduceLeDiff, Int.reduceBEq, Int.reduceBNe, Int.reduceLT, Int.reduceLE, Int.reduceEq, wI, cf.aP, cf.aJ, Int.reduceAdd, Int.reduceSub, Int.reduceMul, Int.reduceNeg, Int.reduceToNat, AP.f108L0, i0, l0]
   refine u7 (fn := AP.f108) (h2 := h.ez) (e := [(2, .int .i64 a)]) rfl rfl rfl ?_ rfl rfl
   simp (disch := omega) only [go_sem, wy, wz, Nat.reduceEqDiff, reduceIte, Nat.reduceAdd, Nat.reduceMul, Nat.reduceLT, Nat.reduceLeDiff, Int.reduceBEq, Int.reduceBNe, Int.reduceLT, Int.reduceLE, Int.reduceEq, wI, cf.aP, cf.aJ, Int.reduceAdd, Int.reduceSub, Int.reduceMul, Int.reduceNeg, Int.reduceToNat, AP.f108, ln, th, lp]
def Ih (a b : zD) : Bool := decide (a.w9 < b.w9) || (decide (a.w9 = b.w9) && decide (a.node < b.node))
theorem Qo (a b : zD) : decide (Tp (DQ a.w9 b.w9) (DQ a.node b.node) < 0) = Ih a b := by
 unfold Tp DQ Ih
 by_cases c1 : a.w9 < b.w9
 · simp [c1]
 · by_cases c2 : b.w9 < a.w9
   · have : ¬ a.w9 = b.w9 := by omega
     simp [c1, c2, this]
   · have : a.w9 = b.w9 := by omega
     rw [if_neg c1, if_neg c2, if_pos rfl]
     by_cases c3 : a.node < b.node
     · simp [c3, this]
     · by_cases c4 : b.node < a.node
       · simp [c3, c4, this]
       · simp [c3, c4, this]
def yR (a b : zD) : Option zD :=
 if zG a && (zG b && (a.name.data.toList == b.name.data.toList)) then some { (if Ih a b then b else a) with vec := xJ a.vec b.vec } else none
def zF : zD := ⟨⟨#[]⟩, false, [], 0, 0, 0, ⟨#[]⟩, 0, 0⟩
def Gq : Option zD → AV
 | some e => .bU [.agg (wF e (xf e.vec)), .int .i64 0]
 | none => .bU [.agg (wF zF .aQ), .int .i64 1500]
theorem HE {e : zD} (h : zG e = true) : EN e.vec = true := by
 unfold zG yu at h
 by_cases c : Gp [e] = false
 · rw [if_pos c] at h; cases h
 · rw [Nz] at c
   simp only [Bool.not_eq_false, vS] at c
   have := c.2.1
   unfold Ay at this
   simp only [vS] at this
   exact this.1
theorem H0 {g : Nat → Option (List AV)} {fl n : Nat} {e : zD} {v v' : AV} (hv : snap g fl (n + 1) true v = some v') : snap g fl (n + 2) true (.agg (wF e v)) = some (.agg (wF e v')) := by
 unfold snap
 simp only [wF, fV, hv]
 rfl
abbrev Z9 : List AV := [.str ⟨#[]⟩, .bool false, .aQ, .int .i64 0, .int .i64 0, .int .i64 0, .str ⟨#[]⟩, .int .i64 0, .int .i64 0]
theorem ID {h h1 h2 h3 h4 h5 h6 h7 h8 h9 : H} {A B W R : List AV} {va vb vj : AV} {na nb : ByteArray} {wn : Bool} {sa sb da db ca cb oo : Int}
 (lA : A.length = 9) (sA : AV.aC A = true) (lB : B.length = 9) (sB : AV.aC B = true)
 (ra : iG true 9 A 0 = some (.agg A)) (rb : iG true 9 B 0 = some (.agg B)) (rr : iG true 9 R 0 = some (.agg R))
 (a0 : A[0]? = some (.str na)) (a2 : A[2]? = some va) (a3 : A[3]? = some (.int .i64 sa)) (a4 : A[4]? = some (.int .i64 da))
 (b0 : B[0]? = some (.str nb)) (b2 : B[2]? = some vb) (b3 : B[3]? = some (.int .i64 sb)) (b4 : B[4]? = some (.int .i64 db))
 (n0 : h.ez.next = h.next) (n1 : h1.next = h.next + 1) (n2 : h2.next = h.next + 2) (n3 : h3.next = h.next + 3) (n5 : h5.next = h.next + 4)
 (e1 : h.ez.alloc A = h1) (e2 : h1.alloc B = h2) (e3 : h2.alloc [.str ⟨#[]⟩, .bool false, .aQ, .int .i64 0, .int .i64 0, .int .i64 0, .str ⟨#[]⟩, .int .i64 0, .int .i64 0] = h3)
 (ga3 : h3.get h.next = some A) (gb3 : h3.get (h.next + 1) = some B)
 (k1 : aS AP.A 96 [.agg A] h3 = some (.bool true, h3)) (k2 : aS AP.A 96 [.agg B] h3 = some (.bool true, h3)) (cm : bw .neq (.str na) (.str nb) = some (.bool false))
 (e4 : h3.alloc [.str ⟨#[]⟩, .bool false, .aQ, .int .i64 0, .int .i64 0, .int .i64 0, .str ⟨#[]⟩, .int .i64 0, .int .i64 0] = h4) (gz4 : h4.get (h.next + 3) = some Z9)
 (st5 : ve h4 (h.next + 3) 0 9 A (some Z9) = some h5)
 (ga5 : h5.get h.next = some A) (gb5 : h5.get (h.next + 1) = some B)
 (m1 : aS AP.A 109 [.int .i64 sa, .int .i64 sb] h5 = some (.int .i64 ca, h5)) (m2 : aS AP.A 109 [.int .i64 da, .int .i64 db] h5 = some (.int .i64 cb, h5))
 (e6 : h5.alloc [.int .i64 ca, .int .i64 cb] = h6) (m3 : aS AP.A 108 [.aF (h.next + 4) 0 2 1] h6 = some (.int .i64 oo, h6)) (hw : decide (oo < 0) = wn)
 (ga6 : h6.get h.next = some A) (gb6 : h6.get (h.next + 1) = some B) (gd6 : h6.get (h.next + 3) = some A)
 (st7 : ve h6 (h.next + 3) 0 9 B (some A) = some (h6.set (h.next + 3) B)) (e7 : h7 = if wn then h6.set (h.next + 3) B else h6)
 (ga7 : h7.get h.next = some A) (gb7 : h7.get (h.next + 1) = some B) (gd7 : h7.get (h.next + 3) = some W)
 (m4 : aS AP.A 110 [va, vb] h7 = some (.bU [vj, .int .i64 0], h7)) (hj : vj.cells = [vj])
 (st8 : ve h7 (h.next + 3) 2 1 [vj] (some W) = some h8) (gd8 : h8.get (h.next + 3) = some R) (gc8 : h8.get (h.next + 2) = some Z9)
 (st9 : ve h8 (h.next + 2) 0 9 R (some Z9) = some h9) :
 aM (aS AP.A) bG AP.f97.body (params 0 [.agg A, .agg B]) h.ez = some (.ret, [(4, .aE (h.next + 2) 0), (5, .int .i64 0)], h9) := by
 cases wn with
 | true =>
   rw [if_pos rfl] at e7
   rw [← e7] at st7
   simp (disch := omega) only [go_sem, wy, wz, Nat.reduceEqDiff, reduceIte, Nat.reduceAdd, Nat.reduceMul, Nat.reduceLT, Nat.reduceLeDiff, Int.reduceBEq, Int.reduceBNe, Int.reduceLT, Int.reduceLE, Int.reduceEq, wI, cf.aP, cf.aJ, Int.reduceAdd, Int.reduceSub, Int.reduceMul, Int.reduceNeg, Int.reduceToNat, AP.f97, lA, sA, lB, sB, ra, rb, rr, a0, a2, a3, a4, b0, b2, b3, b4, n0, n1, n2, n3, n5, e1, e2, e3, ga3, gb3, k1, k2, cm, e4, gz4, st5, ga5, gb5, m1, m2, e6, m3, hw, ga6, gb6, gd6, st7, ga7, gb7, gd7, m4, hj, st8, gd8, gc8, st9]
 | false =>
   rw [if_neg (by decide)] at e7
   subst e7
   simp (disch := omega) only [go_sem, wy, wz, Nat.reduceEqDiff, reduceIte, Nat.reduceAdd, Nat.reduceMul, Nat.reduceLT, Nat.reduceLeDiff, Int.reduceBEq, Int.reduceBNe, Int.reduceLT, Int.reduceLE, Int.reduceEq, wI, cf.aP, cf.aJ, Int.reduceAdd, Int.reduceSub, Int.reduceMul, Int.reduceNeg, Int.reduceToNat, AP.f97, lA, sA, lB, sB, ra, rb, rr, a0, a2, a3, a4, b0, b2, b3, b4, n0, n1, n2, n3, n5, e1, e2, e3, ga3, gb3, k1, k2, cm, e4, gz4, st5, ga5, gb5, m1, m2, e6, m3, hw, ga7, gb7, gd7, m4, hj, st8, gd8, gc8, st9]
theorem Lh (h : H) (hf : h.floor ≤ h.next) (a b : zD) (va vb : AV) (sa : va.sc = true) (sb : vb.sc = true) (oka : CP h (a, va)) (okb : CP h (b, vb)) (hm : yR a b = none) :
 aS AP.A 97 [.agg (wF a va), .agg (wF b vb)] h = some (Gq (yR a b), h) := by
 obtain ⟨h1, eh1⟩ : ∃ g, g = h.ez.alloc (wF a va) := ⟨_, rfl⟩
 obtain ⟨h2, eh2⟩ : ∃ g, g = h1.alloc (wF b vb) := ⟨_, rfl⟩
 obtain ⟨h3, eh3⟩ : ∃ g, g = h2.alloc (wF zF .aQ) := ⟨_, rfl⟩
 have x1 : Ext h h1 := fun i c q => by rw [eh1]; exact ((Ext.refl h.ez).alloc _) i c q
 have x2 : Ext h h2 := by rw [eh2]; exact x1.alloc _
 have x3 : Ext h h3 := by rw [eh3]; exact x2.alloc _
 have n0 : h.ez.next = h.next := rfl
 have n1 : h1.next = h.next + 1 := by rw [eh1]; simp
 have n2 : h2.next = h.next + 2 := by rw [eh2]; simp [n1]
 have n3 : h3.next = h.next + 3 := by rw [eh3]; simp [n2]
 have f3 : h3.floor = h.next := by rw [eh3, eh2, eh1]; simp
 have ga3 : h3.get h.next = some (wF a va) := by rw [eh3, wY (by omega), eh2, wY (by omega), eh1, wO (by simp)]
 have gb3 : h3.get (h.next + 1) = some (wF b vb) := by rw [eh3, wY (by omega), eh2, wO (by omega)]
 have gc3 : h3.get (h.next + 2) = some (wF zF .aQ) := by rw [eh3, wO (by omega)]
 have k1 := BH h3 (by omega) a va sa (oka.mono x3)
 have k2 := BH h3 (by omega) b vb sb (okb.mono x3)
 have ra : iG true 9 (wF a va) 0 = some (.agg (wF a va)) := rfl
 have rb : iG true 9 (wF b vb) 0 = some (.agg (wF b vb)) := rfl
 have cm : bw .neq (.str a.name) (.str b.name) = some (.bool (!(a.name.data.toList == b.name.data.toList))) := DF _ _
 have e3e : h2.alloc [.str ⟨#[]⟩, .bool false, .aQ, .int .i64 0, .int .i64 0, .int .i64 0, .str ⟨#[]⟩, .int .i64 0, .int .i64 0] = h3 := eh3.symm
 rw [hm]
 unfold yR at hm
 have hbad : (zG a && (zG b && (a.name.data.toList == b.name.data.toList))) = false := by
  cases hq : (zG a && (zG b && (a.name.data.toList == b.name.data.toList))) with
  | false => rfl
  | true => rw [hq, if_pos rfl] at hm; cases hm
 clear hm
 obtain ⟨h4, eh4⟩ : ∃ g, g = h3.set (h.next + 2) (wF zF .aQ) := ⟨_, rfl⟩
 have g4 : h4.get (h.next + 2) = some (wF zF .aQ) := by rw [eh4, wS rfl, gc3]; rfl
 have e4e : h3.set (h.next + 2) [.str ⟨#[]⟩, .bool false, .aQ, .int .i64 0, .int .i64 0, .int .i64 0, .str ⟨#[]⟩, .int .i64 0, .int .i64 0] = h4 := eh4.symm
 refine u7 (fn := AP.f97) (h2 := h4) (e := [(4, .aE (h.next + 2) 0), (5, .int .i64 1500)]) (vs := [.agg (wF zF .aQ), .int .i64 1500]) rfl rfl rfl ?_ ?_ rfl
 · clear x1 x2 x3 oka okb g4
   generalize zG a = B1 at *
   generalize zG b = B2 at *
   generalize (a.name.data.toList == b.name.data.toList) = B3 at *
   simp only [wF, zF] at *
   cases B1 with
   | false => simp (disch := omega) only [go_sem, wy, wz, Nat.reduceEqDiff, reduceIte, Nat.reduceAdd, Nat.reduceMul, Nat.reduceLT, Nat.reduceLeDiff, Int.reduceBEq, Int.reduceBNe, Int.reduceLT, Int.reduceLE, Int.reduceEq, wI, cf.aP, cf.aJ, Int.reduceAdd, Int.reduceSub, Int.reduceMul, Int.reduceNeg, Int.reduceToNat, AP.f97, sa, sb, n0, ← eh1, n1, ← eh2, n2, e3e, ga3, gb3, gc3, ra, rb, k1, k2, cm, e4e, f3]
   | true =>
     cases B2 with
     | false => simp (disch := omega) only [go_sem, wy, wz, Nat.reduceEqDiff, reduceIte, Nat.reduceAdd, Nat.reduceMul, Nat.reduceLT, Nat.reduceLeDiff, Int.reduceBEq, Int.reduceBNe, Int.reduceLT, Int.reduceLE, Int.reduceEq, wI, cf.aP, cf.aJ, Int.reduceAdd, Int.reduceSub, Int.reduceMul, Int.reduceNeg, Int.reduceToNat, AP.f97, sa, sb, n0, ← eh1, n1, ← eh2, n2, e3e, ga3, gb3, gc3, ra, rb, k1, k2, cm, e4e, f3]
     | true =>
       cases B3 with
       | false => simp (disch := omega) only [go_sem, wy, wz, Nat.reduceEqDiff, reduceIte, Nat.reduceAdd, Nat.reduceMul, Nat.reduceLT, Nat.reduceLeDiff, Int.reduceBEq, Int.reduceBNe, Int.reduceLT, Int.reduceLE, Int.reduceEq, wI, cf.aP, cf.aJ, Int.reduceAdd, Int.reduceSub, Int.reduceMul, Int.reduceNeg, Int.reduceToNat, AP.f97, sa, sb, n0, ← eh1, n1, ← eh2, n2, e3e, ga3, gb3, gc3, ra, rb, k1, k2, cm, e4e, f3]
       | true => cases hbad
 · simp only [AP.f97, cO, od, nQ, mB, ne_eq, Nat.reduceEqDiff, not_false_eq_true, rH, g4, uo]
   rfl
set_option maxHeartbeats 1600000 in
theorem Jq (h : H) (hf : h.floor ≤ h.next) (a b : zD) (va vb : AV) (sa : va.sc = true) (sb : vb.sc = true) (oka : CP h (a, va)) (okb : CP h (b, vb)) :
 aS AP.A 97 [.agg (wF a va), .agg (wF b vb)] h = some (Gq (yR a b), h) := by
 obtain ⟨h1, eh1⟩ : ∃ g, g = h.ez.alloc (wF a va) := ⟨_, rfl⟩
 obtain ⟨h2, eh2⟩ : ∃ g, g = h1.alloc (wF b vb) := ⟨_, rfl⟩
 obtain ⟨h3, eh3⟩ : ∃ g, g = h2.alloc (wF zF .aQ) := ⟨_, rfl⟩
 have x1 : Ext h h1 := fun i c q => by rw [eh1]; exact ((Ext.refl h.ez).alloc _) i c q
 have x2 : Ext h h2 := by rw [eh2]; exact x1.alloc _
 have x3 : Ext h h3 := by rw [eh3]; exact x2.alloc _
 have n0 : h.ez.next = h.next := rfl
 have n1 : h1.next = h.next + 1 := by rw [eh1]; simp
 have n2 : h2.next = h.next + 2 := by rw [eh2]; simp [n1]
 have n3 : h3.next = h.next + 3 := by rw [eh3]; simp [n2]
 have f3 : h3.floor = h.next := by rw [eh3, eh2, eh1]; simp
 have ga3 : h3.get h.next = some (wF a va) := by rw [eh3, wY (by omega), eh2, wY (by omega), eh1, wO (by simp)]
 have gb3 : h3.get (h.next + 1) = some (wF b vb) := by rw [eh3, wY (by omega), eh2, wO (by omega)]
 have gc3 : h3.get (h.next + 2) = some (wF zF .aQ) := by rw [eh3, wO (by omega)]
 have k1 := BH h3 (by omega) a va sa (oka.mono x3)
 have k2 := BH h3 (by omega) b vb sb (okb.mono x3)
 have ra : iG true 9 (wF a va) 0 = some (.agg (wF a va)) := rfl
 have rb : iG true 9 (wF b vb) 0 = some (.agg (wF b vb)) := rfl
 have cm : bw .neq (.str a.name) (.str b.name) = some (.bool (!(a.name.data.toList == b.name.data.toList))) := DF _ _
 have e3e : h2.alloc [.str ⟨#[]⟩, .bool false, .aQ, .int .i64 0, .int .i64 0, .int .i64 0, .str ⟨#[]⟩, .int .i64 0, .int .i64 0] = h3 := eh3.symm
 cases hq : (zG a && (zG b && (a.name.data.toList == b.name.data.toList))) with
 | false => exact Lh h hf a b va vb sa sb oka okb (by unfold yR; rw [hq]; rfl)
 | true =>
   have hm : yR a b = some { (if Ih a b then b else a) with vec := xJ a.vec b.vec } := by unfold yR; rw [if_pos hq]
   rw [hm]
   simp only [vS] at hq
   obtain ⟨q1, q2, q3⟩ := hq
   rw [q1] at k1; rw [q2] at k2; rw [q3] at cm
   clear hm
   obtain ⟨h4, eh4⟩ : ∃ g, g = h3.alloc (wF zF .aQ) := ⟨_, rfl⟩
   obtain ⟨h5, eh5⟩ : ∃ g, g = h4.set (h.next + 3) (wF a va) := ⟨_, rfl⟩
   obtain ⟨h6, eh6⟩ : ∃ g, g = h5.alloc (ints [DQ a.w9 b.w9, DQ a.node b.node]) := ⟨_, rfl⟩
   obtain ⟨w, ew⟩ : ∃ w, w = if Ih a b then (b, vb) else (a, va) := ⟨_, rfl⟩
   obtain ⟨h7, eh7⟩ : ∃ g, g = if Ih a b then h6.set (h.next + 3) (wF b vb) else h6 := ⟨_, rfl⟩
   obtain ⟨r, er⟩ : ∃ r : zD, r = { (if Ih a b then b else a) with vec := xJ a.vec b.vec } := ⟨_, rfl⟩
   obtain ⟨h8, eh8⟩ : ∃ g, g = h7.set (h.next + 3) (wF r (xf (xJ a.vec b.vec))) := ⟨_, rfl⟩
   obtain ⟨h9, eh9⟩ : ∃ g, g = h8.set (h.next + 2) (wF r (xf (xJ a.vec b.vec))) := ⟨_, rfl⟩
   have x4 : Ext h h4 := by rw [eh4]; exact x3.alloc _
   have x5 : Ext h h5 := by rw [eh5]; exact x4.set (by omega) _
   have x6 : Ext h h6 := by rw [eh6]; exact x5.alloc _
   have x7 : Ext h h7 := by rw [eh7]; split; · exact x6.set (by omega) _
                            exact x6
   have n4 : h4.next = h.next + 4 := by rw [eh4]; simp [n3]
   have n5 : h5.next = h.next + 4 := by rw [eh5]; simp [n4]
   have n6 : h6.next = h.next + 5 := by rw [eh6]; simp [n5]
   have f4 : h4.floor = h.next := by rw [eh4]; simp [f3]
   have f5 : h5.floor = h.next := by rw [eh5]; simp [f4]
   have f6 : h6.floor = h.next := by rw [eh6]; simp [f5]
   have f7 : h7.floor = h.next := by rw [eh7]; split <;> simp [f6]
   have f8 : h8.floor = h.next := by rw [eh8]; simp [f7]
   have n7 : h7.next = h.next + 5 := by rw [eh7]; split <;> simp [n6]
   have gz4 : h4.get (h.next + 3) = some (wF zF .aQ) := by rw [eh4, wO (by omega)]
   have g5 : ∀ i, i ≠ h.next + 3 → i < h.next + 3 → h5.get i = h3.get i := fun i hi hl => by rw [eh5, wL hi, eh4, wY (by omega)]
   have gd5 : h5.get (h.next + 3) = some (wF a va) := by rw [eh5, wS rfl, gz4]; rfl
   have ga5 : h5.get h.next = some (wF a va) := by rw [g5 _ (by omega) (by omega), ga3]
   have gb5 : h5.get (h.next + 1) = some (wF b vb) := by rw [g5 _ (by omega) (by omega), gb3]
   have g6 : ∀ i, i < h.next + 4 → h6.get i = h5.get i := fun i hl => by rw [eh6, wY (by omega)]
   have ga6 : h6.get h.next = some (wF a va) := by rw [g6 _ (by omega), ga5]
   have gb6 : h6.get (h.next + 1) = some (wF b vb) := by rw [g6 _ (by omega), gb5]
   have gd6 : h6.get (h.next + 3) = some (wF a va) := by rw [g6 _ (by omega), gd5]
   have g7 : ∀ i, i ≠ h.next + 3 → h7.get i = h6.get i := fun i hi => by rw [eh7]; split; · rw [wL hi]
                                                                         rfl
   have ga7 : h7.get h.next = some (wF a va) := by rw [g7 _ (by omega), ga6]
   have gb7 : h7.get (h.next + 1) = some (wF b vb) := by rw [g7 _ (by omega), gb6]
   have gd7 : h7.get (h.next + 3) = some (wF w.1 w.2) := by
    rw [eh7, ew]; split
    · rw [wS rfl, gd6]; rfl
    · exact gd6
   have gc8 : h8.get (h.next + 2) = some (wF zF .aQ) := by rw [eh8, wL (by omega), g7 _ (by omega), g6 _ (by omega), g5 _ (by omega) (by omega), gc3]
   have gd8 : h8.get (h.next + 3) = some (wF r (xf (xJ a.vec b.vec))) := by rw [eh8, wS rfl, gd7]; rfl
   have gc9 : h9.get (h.next + 2) = some (wF r (xf (xJ a.vec b.vec))) := by rw [eh9, wS rfl, gc8]; rfl
   have m1 := Nq h5 a.w9 b.w9
   have m2 := Nq h5 a.node b.node
   have rd6 : Rd h6 (.aF (h.next + 4) 0 2 1) (ints [DQ a.w9 b.w9, DQ a.node b.node]) := by
    refine ⟨?_, fun _ => by simp⟩
    simp only [aT, if_true]
    rw [eh6, wO (by omega)]; rfl
   have m3 := Ua h6 (.aF (h.next + 4) 0 2 1) _ _ rd6
   have m4 := ML h7 va vb a.vec b.vec (oka.mono x7).vec (okb.mono x7).vec (HE q1) (HE q2) (by omega)
   have wn := Qo a b
   have st8 : setFrom (wF w.1 w.2) 2 (xf (xJ a.vec b.vec)).cells = wF r (xf (xJ a.vec b.vec)) := by
    have hc : (xf (xJ a.vec b.vec)).cells = [xf (xJ a.vec b.vec)] := by unfold xf zO; split <;> rfl
    rw [hc, ew, er]
    cases Ih a b <;> rfl
   have sv : (xf (xJ a.vec b.vec)).sc = true := by unfold xf zO; split <;> rfl
   have hc : (xf (xJ a.vec b.vec)).cells = [xf (xJ a.vec b.vec)] := by unfold xf zO; split <;> rfl
   have sw : AV.aC (wF w.1 w.2) = true := by rw [ew]; split <;> simp [wF, sa, sb]
   have rr : iG true 9 (wF r (xf (xJ a.vec b.vec))) 0 = some (.agg (wF r (xf (xJ a.vec b.vec)))) := rfl
   have lr : (wF r (xf (xJ a.vec b.vec))).length = 9 := rfl
   have lw : (wF w.1 w.2).length = 9 := rfl
   have s4e : h3.alloc [.str ⟨#[]⟩, .bool false, .aQ, .int .i64 0, .int .i64 0, .int .i64 0, .str ⟨#[]⟩, .int .i64 0, .int .i64 0] = h4 := eh4.symm
   have st5 : ve h4 (h.next + 3) 0 9 (wF a va) (some (wF zF .aQ)) = some h5 := by rw [eh5]; exact Bi (by omega) rfl rfl (by simp [wF, sa])
   have st7 : ve h6 (h.next + 3) 0 9 (wF b vb) (some (wF a va)) = some (h6.set (h.next + 3) (wF b vb)) := Bi (by omega) rfl rfl (by simp [wF, sb])
   have st8' : ve h7 (h.next + 3) 2 1 [xf (xJ a.vec b.vec)] (some (wF w.1 w.2)) = some h8 := by
    rw [vA (by omega) (by rw [lw]; omega) sv]
    rw [hc] at st8
    have : setFrom (wF w.1 w.2) 2 [xf (xJ a.vec b.vec)] = (wF w.1 w.2).set 2 (xf (xJ a.vec b.vec)) := rfl
    rw [← this, st8, eh8]
   have st9 : ve h8 (h.next + 2) 0 9 (wF r (xf (xJ a.vec b.vec))) (some (wF zF .aQ)) = some h9 := by rw [eh9]; exact Bi (by omega) rfl rfl (by simp [wF, sv])
   have ca3 : (wF a va)[3]? = some (.int .i64 a.w9) := rfl
   have ca4 : (wF a va)[4]? = some (.int .i64 a.node) := rfl
   have ca2 : (wF a va)[2]? = some va := rfl
   have ca0 : (wF a va)[0]? = some (.str a.name) := rfl
   have cb3 : (wF b vb)[3]? = some (.int .i64 b.w9) := rfl
   have cb4 : (wF b vb)[4]? = some (.int .i64 b.node) := rfl
   have cb2 : (wF b vb)[2]? = some vb := rfl
   have cb0 : (wF b vb)[0]? = some (.str b.name) := rfl
   have e1e : h.ez.alloc (wF a va) = h1 := eh1.symm
   have e2e : h1.alloc (wF b vb) = h2 := eh2.symm
   have e6e : h5.alloc [.int .i64 (DQ a.w9 b.w9), .int .i64 (DQ a.node b.node)] = h6 := eh6.symm
   have hvr : r.vec = xJ a.vec b.vec := by rw [er]
   refine u7 (fn := AP.f97) (h2 := h9) (e := [(4, .aE (h.next + 2) 0), (5, .int .i64 0)]) (vs := [.agg (wF r (xf (xJ a.vec b.vec))), .int .i64 0]) rfl rfl rfl ?_ ?_ ?_
   · exact ID rfl (by simp [wF, sa]) rfl (by simp [wF, sb]) ra rb rr ca0 ca2 ca3 ca4 cb0 cb2 cb3 cb4 n0 n1 n2 n3 n5 e1e e2e e3e ga3 gb3 k1 k2 cm s4e gz4 st5 ga5 gb5 m1 m2 e6e m3 wn ga6 gb6 gd6 st7 eh7 ga7 gb7 gd7 m4 hc st8' gd8 gc8 st9
   · simp only [AP.f97, cO, od, nQ, mB, ne_eq, Nat.reduceEqDiff, not_false_eq_true, rH, gc9, uo, rr]
     rfl
   · show (fV (snap h9.get h.next 15 true) [.agg (wF r (xf (xJ a.vec b.vec))), .int .i64 0]).bind _ = _
     have s1 : snap h9.get h.next 15 true (.agg (wF r (xf (xJ a.vec b.vec)))) = some (.agg (wF r (xf (xJ a.vec b.vec)))) := by
      refine H0 ?_
      unfold xf zO
      split <;> rfl
     simp only [fV, s1, vO]
     rw [← er]
     show _ = some (AV.bU [.agg (wF r (xf r.vec)), .int .i64 0])
     rw [hvr]; rfl
def BW (name : ByteArray) (node : Nat) (w9 : Int) (text : ByteArray) : zD := ⟨name, false, [0, 0, 0, 0].set node w9, w9, node, 0, text, text.size, zL text⟩
theorem Qn {l : List Int} (h : l.length = 4) : xf l = .aV false (ints l) 0 4 1 := by unfold xf zO; rw [h, if_neg (by omega)]
theorem GJ (h : H) (name text : ByteArray) (node : Nat) (w9 : Int) (hn : node < 4) (ht : text.size < 1125899906842624) :
 aS AP.A 99 [.str name, .int .i64 node, .int .i64 w9, .str text] h = some (.agg (wF (BW name node w9 text) (xf ([0, 0, 0, 0].set node w9))), h) := by
 obtain ⟨h1, eh1⟩ : ∃ g, g = h.ez.alloc (wF zF .aQ) := ⟨_, rfl⟩
 obtain ⟨h2, eh2⟩ : ∃ g, g = h1.alloc (ints [0, 0, 0, 0]) := ⟨_, rfl⟩
 obtain ⟨h3, eh3⟩ : ∃ g, g = h2.set (h.next + 1) (ints ([0, 0, 0, 0].set node w9)) := ⟨_, rfl⟩
 obtain ⟨h4, eh4⟩ : ∃ g, g = h3.set h.next (wF (BW name node w9 text) (.aF (h.next + 1) 0 4 1)) := ⟨_, rfl⟩
 have n0 : h.ez.next = h.next := rfl
 have n1 : h1.next = h.next + 1 := by rw [eh1]; simp
 have f2 : h2.floor = h.next := by rw [eh2, eh1]; simp
 have f3 : h3.floor = h.next := by rw [eh3]; simp [f2]
 have g2 : h2.get (h.next + 1) = some (ints [0, 0, 0, 0]) := by rw [eh2, wO (by omega)]
 have gz3 : h3.get h.next = some (wF zF .aQ) := by rw [eh3, wL (by omega), eh2, wY (by omega), eh1, wO (by simp)]
 have g3 : h3.get (h.next + 1) = some (ints ([0, 0, 0, 0].set node w9)) := by rw [eh3, wS rfl, g2]; rfl
 have g4 : h4.get h.next = some (wF (BW name node w9 text) (.aF (h.next + 1) 0 4 1)) := by rw [eh4, wS rfl, gz3]; rfl
 have g4' : h4.get (h.next + 1) = some (ints ([0, 0, 0, 0].set node w9)) := by rw [eh4, wL (by omega), g3]
 have st3 : ve h2 (h.next + 1) node 1 [.int .i64 w9] (some (ints [0, 0, 0, 0])) = some h3 := by
  rw [vA (by omega) (by simp; omega) rfl, eh3]
  congr 2
  match node, hn with
  | 0, _ => rfl
  | 1, _ => rfl
  | 2, _ => rfl
  | 3, _ => rfl
 have st4 : ve h3 h.next 0 9 [.str name, .bool false, .aF (h.next + 1) 0 4 1, .int .i64 w9, .int .i64 node, .int .i64 0, .str text, .int .i64 text.size, .int .i64 (zL text : Nat)] (some (wF zF .aQ)) = some h4 := by
  rw [eh4]; exact Bi (by omega) rfl rfl rfl
 have e1 : h.ez.alloc [.str ⟨#[]⟩, .bool false, .aQ, .int .i64 0, .int .i64 0, .int .i64 0, .str ⟨#[]⟩, .int .i64 0, .int .i64 0] = h1 := eh1.symm
 have e2 : h1.alloc (yX 4 [.int .i64 0]) = h2 := eh2.symm
 have kc := KP h3 text ht
 have hlen : ([0, 0, 0, 0].set node w9 : List Int).length = 4 := by simp
 have o : wW 1 h4 (.aF (h.next + 1) 0 4 1) 4 (ints ([0, 0, 0, 0].set node w9)) := ⟨by simp, .inr ⟨_, rfl, g4', by rw [eh4]; simp; omega, by omega⟩⟩
 have s1 : snap h4.get h.next 15 true (.aF (h.next + 1) 0 4 1) = some (xf ([0, 0, 0, 0].set node w9)) := by
  have := o.yj (fl := h.next) (m := 13) (t := true) (by rw [eh4]; simp; omega)
  rw [this]; unfold xf; rw [hlen]
 have body : aM (aS AP.A) bG AP.f99.body (params 0 [.str name, .int .i64 node, .int .i64 w9, .str text]) h.ez = some (.ret, [(8, .aE h.next 0)], h4) := by
  clear o s1 g4 g4' g3
  have it : ((node : Nat) : Int).toNat = node := by omega
  simp (disch := omega) only [go_sem, wy, wz, Nat.reduceEqDiff, reduceIte, Nat.reduceAdd, Nat.reduceMul, Nat.reduceLT, Nat.reduceLeDiff, Int.reduceBEq, Int.reduceBNe, Int.reduceLT, Int.reduceLE, Int.reduceEq, wI, cf.aP, cf.aJ, Int.reduceAdd, Int.reduceSub, Int.reduceMul, Int.reduceNeg, Int.reduceToNat, AP.f99, n0, e1, n1, e2, it, g2, st3, kc, gz3, st4]
 refine u7 (fn := AP.f99) (h2 := h4) (e := [(8, .aE h.next 0)]) (vs := [.agg (wF (BW name node w9 text) (.aF (h.next + 1) 0 4 1))]) rfl rfl rfl body ?_ ?_
 · simp only [AP.f99, cO, od, nQ, rH, g4, uo]; rfl
 · exact H0 s1
theorem JA {v w : AV} {a b : List Int} (hab : a.length = b.length) (hl : a.length < 1125899906842624) (h : H) (ra : Rd h v (ints a)) (rb : Rd h w (ints b)) : ∀ (p q r : List Int) (p' : List Int), a = p ++ q → b = p' ++ r → p.length = p'.length →
 (∃ e', Lp AP.A [0, 1, 5] AP.f106L0 [(0, v), (1, w), (5, .int .i64 p.length)] h = some (.exit 0, e', h) ∧ decide (q = r) = true) ∨
 (∃ e', Lp AP.A [0, 1, 5] AP.f106L0 [(0, v), (1, w), (5, .int .i64 p.length)] h = some (.ret, e', h) ∧ look e' 4 = .bool false ∧ decide (q = r) = false)
 | p, [], r, p', hp, hq, hpp => by
   have hr : r = [] := List.eq_nil_of_length_eq_zero (by rw [hp, hq] at hab; simp at hab; omega)
   left
   have ln := ra.len
   rw [qy] at ln
   simp only [I] at ln
   rw [U7] at hp
   refine ⟨[(0, v), (1, w), (5, .int .i64 p.length), (14, .bool false)], ux ?_, by rw [hr]; rfl⟩
   rw [hp] at ln
   clear hab hl ra rb
   simp (disch := omega) only [go_sem, wy, wz, Nat.reduceEqDiff, reduceIte, Nat.reduceAdd, Nat.reduceMul, Nat.reduceLT, Nat.reduceLeDiff, Int.reduceBEq, Int.reduceBNe, Int.reduceLT, Int.reduceLE, Int.reduceEq, wI, cf.aP, cf.aJ, Int.reduceAdd, Int.reduceSub, Int.reduceMul, Int.reduceNeg, Int.reduceToNat, AP.f106L0, ln]
 | p, x :: q, [], p', hp, hq, hpp => by
   exfalso
   rw [hp, hq] at hab; simp at hab; omega
 | p, x :: q, y :: r, p', hp, hq, hpp => by
   have ln := ra.len
   rw [qy] at ln
   simp only [I] at ln
   have hlen : a.length = p.length + (q.length + 1) := by rw [hp]; simp
   have hx : a[p.length]? = some x := by rw [hp]; simp
   have hy : b[p.length]? = some y := by rw [hpp, hq]; simp
   obtain ⟨ad, a1, a2⟩ := ra.xQ
   obtain ⟨bd, b1, b2⟩ := rb.xQ
   have i1 := a1 p.length ⟨by omega, by omega⟩
   have i2 := b1 p.length ⟨by omega, by omega⟩
   have l1 := a2 h (Ext.refl h) _ _ hx
   have l2 := b2 h (Ext.refl h) _ _ hy
   have w1 : (((p ++ [x]).length : Nat) : Int) = (p.length : Int) + 1 := by simp
   have ih := JA hab hl h ra rb (p ++ [x]) q r (p' ++ [y]) (by rw [hp]; simp) (by rw [hq]; simp) (by simp; omega)
   rw [w1] at ih
   clear a1 a2 b1 b2 ra rb w1
   by_cases c : x = y
   · have step : aM (aS AP.A) bG AP.f106L0 (ay [(0, v), (1, w), (5, .int .i64 p.length)] [0, 1, 5]) h = some (.normal, [(0, v), (1, w), (5, .int .i64 ((p.length : Int) + 1))], h) := by
      clear ih hp hq
      simp (disch := omega) only [go_sem, wy, wz, Nat.reduceEqDiff, reduceIte, Nat.reduceAdd, Nat.reduceMul, Nat.reduceLT, Nat.reduceLeDiff, Int.reduceBEq, Int.reduceBNe, Int.reduceLT, Int.reduceLE, Int.reduceEq, wI, cf.aP, cf.aJ, Int.reduceAdd, Int.reduceSub, Int.reduceMul, Int.reduceNeg, Int.reduceToNat, AP.f106L0, ln, i1, i2, l1, l2]
     have e : decide (x :: q = y :: r) = decide (q = r) := by simp [c]
     rw [e]
     rcases ih with ⟨e', r1, r2⟩ | ⟨e', r1, r2, r3⟩
     · exact .inl ⟨e', uy step r1, r2⟩
     · exact .inr ⟨e', uy step r1, r2, r3⟩
   · right
     refine ⟨[(4, .bool false)], uT ?_, rfl, by simp [c]⟩
     clear ih hp hq
     simp (disch := omega) only [go_sem, wy, wz, Nat.reduceEqDiff, reduceIte, Nat.reduceAdd, Nat.reduceMul, Nat.reduceLT, Nat.reduceLeDiff, Int.reduceBEq, Int.reduceBNe, Int.reduceLT, Int.reduceLE, Int.reduceEq, wI, cf.aP, cf.aJ, Int.reduceAdd, Int.reduceSub, Int.reduceMul, Int.reduceNeg, Int.reduceToNat, AP.f106L0, ln, i1, i2, l1, l2]
theorem MY (h : H) (v w : AV) (a b : List Int) (ra : Rd h v (ints a)) (rb : Rd h w (ints b)) (hl : a.length < 1125899906842624) : aS AP.A 106 [v, w] h = some (.bool (decide (a = b)), h) := by
 have ra' := ra.mono (wJ h)
 have rb' := rb.mono (wJ h)
 have la := ra'.len
 have lb := rb'.len
 rw [qy] at la lb
 simp only [I] at la lb
 by_cases c : a.length = b.length
 · rcases JA c hl h.ez ra' rb' [] a b [] rfl rfl rfl with ⟨e', r1, r2⟩ | ⟨e', r1, r2, r3⟩
   · have r1' : Lp AP.A [0, 1, 5] AP.f106L0 [(0, v), (1, w), (5, .int .i64 0)] h.ez = some (.exit 0, e', h.ez) := r1
     clear r1
     rw [r2]
     refine u7 (fn := AP.f106) (h2 := h.ez) (e := [(4, .bool true)]) rfl rfl rfl ?_ rfl rfl
     simp (disch := omega) only [go_sem, wy, wz, Nat.reduceEqDiff, reduceIte, Nat.reduceAdd, Nat.reduceMul, Nat.reduceLT, Nat.reduceLeDiff, Int.reduceBEq, Int.reduceBNe, Int.reduceLT, Int.reduceLE, Int.reduceEq, wI, cf.aP, cf.aJ, Int.reduceAdd, Int.reduceSub, Int.reduceMul, Int.reduceNeg, Int.reduceToNat, AP.f106, la, lb, th, r1']
   · have r1' : Lp AP.A [0, 1, 5] AP.f106L0 [(0, v), (1, w), (5, .int .i64 0)] h.ez = some (.ret, e', h.ez) := r1
     clear r1
     rw [r3]
     refine u7 (fn := AP.f106) (h2 := h.ez) (e := e') (vs := [.bool false]) rfl rfl rfl ?_ (by simp only [AP.f106, cO, od, r2]; rfl) rfl
     simp (disch := omega) only [go_sem, wy, wz, Nat.reduceEqDiff, reduceIte, Nat.reduceAdd, Nat.reduceMul, Nat.reduceLT, Nat.reduceLeDiff, Int.reduceBEq, Int.reduceBNe, Int.reduceLT, Int.reduceLE, Int.reduceEq, wI, cf.aP, cf.aJ, Int.reduceAdd, Int.reduceSub, Int.reduceMul, Int.reduceNeg, Int.reduceToNat, AP.f106, la, lb, th, r1']
 · have e : decide (a = b) = false := by rw [decide_eq_false_iff_not]; intro q; exact c (by rw [q])
   rw [e]
   refine u7 (fn := AP.f106) (h2 := h.ez) (e := [(4, .bool false)]) rfl rfl rfl ?_ rfl rfl
   simp (disch := omega) only [go_sem, wy, wz, Nat.reduceEqDiff, reduceIte, Nat.reduceAdd, Nat.reduceMul, Nat.reduceLT, Nat.reduceLeDiff, Int.reduceBEq, Int.reduceBNe, Int.reduceLT, Int.reduceLE, Int.reduceEq, wI, cf.aP, cf.aJ, Int.reduceAdd, Int.reduceSub, Int.reduceMul, Int.reduceNeg, Int.reduceToNat, AP.f106, la, lb]
def nA : ByteArray := ⟨#[97]⟩
def nB : ByteArray := ⟨#[98]⟩
def LW : ByteArray := ⟨#[104, 105]⟩
def Um : ByteArray := ⟨#[104, 111]⟩
def eA : zD := BW nA 0 1 LW
def eB : zD := BW nA 2 1 Um
def eC : zD := BW nB 0 1 ⟨#[]⟩
def eG : zD := ⟨nA, true, [9, 0, 0, 0], 9, 0, 0, ⟨#[]⟩, 0, 0⟩
theorem UJ : yu eA = some LW := by decide +kernel
theorem UK : yu eG = some ⟨#[]⟩ := by decide +kernel
theorem UE : zG eA = true := by decide +kernel
theorem UF : zG eB = true := by decide +kernel
theorem UG : zG { eA with I8 := (zL LW ^^^ 1 : Nat) } = false := by decide +kernel
def eM : zD := { eB with vec := [1, 0, 1, 0] }
theorem Uz : yR eA eB = some eM := by
 unfold yR
 rw [UE, UF]
 rfl
theorem UA : yR eA eC = none := by
 unfold yR
 have : (eA.name.data.toList == eC.name.data.toList) = false := by decide
 rw [this, Vl, Vl]; rfl
theorem JQ {a : Nat} (ha : a < 4294967296) : bits .xor .i64 (a : Int) 1 = ((a ^^^ 1 : Nat) : Int) := by
 have h3 : a ^^^ 1 < 4294967296 := Ai ha (by omega)
 show IntKind.wrap .i64 (((BitVec.ofInt 64 (a : Int) ^^^ BitVec.ofInt 64 ((1 : Nat) : Int)).toNat : Nat) : Int) = _
 rw [BitVec.toNat_xor, yd 64 a (by omega), yd 64 1 (by omega)]
 exact wC (by omega)
theorem CP.au {h : H} {e : zD} (hv : e.vec.length = 4) (nl : e.name.size < 1000000) (pl : e.packed.size < 1000000) : CP h (e, xf e.vec) :=
 ⟨by rw [show (e, xf e.vec).2 = xf e.vec from rfl, Qn hv]; have := zo h e.vec; unfold yN at this; rw [hv] at this; exact this, by show e.vec.length < _; omega, by show e.name.size < _; omega, by show e.packed.size < _; omega⟩
theorem Rd.obj {h : H} {p n : Nat} {l : List Int} (hp : h.get p = some (ints l)) (hl : l.length = n) : Rd h (.aF p 0 n 1) (ints l) :=
 ⟨by subst hl; simp only [aT, if_true, hp, vO]; rw [if_pos (by simp), Vg, U3 (by simp), qy], fun s e => by cases e⟩
theorem CP.obj {h : H} {e : zD} {p n : Nat} {l : List Int} (hp : h.get p = some (ints l)) (hl : l.length = n) (he : e.vec = l := by rfl) (nl : e.name.size < 1125899906842624) (pl : e.packed.size < 1125899906842624) (hn : n < 1000000 := by decide) : CP h (e, .aF p 0 n 1) :=
 ⟨by show Rd h _ (ints e.vec); rw [he]; exact Rd.obj hp hl, by show e.vec.length < _; rw [he]; omega, by show e.name.size < _; omega, by show e.packed.size < _; omega⟩
theorem I9 (t : ByteArray) : zL t < 4294967296 := Hy 0 t
theorem zd (l : List Int) : (xf l).sc = true := by unfold xf zO; split <;> rfl
theorem Gc {e : zD} {v : AV} (h : v.sc = true) : AV.aC (wF e v) = true := by simp [wF, h]
theorem UH : Ig eA = .bU [.str ⟨#[104, 105]⟩, .int .i64 0] := by unfold Ig; rw [UJ]; rfl
theorem UI : Ig eG = .bU [.str ⟨#[]⟩, .int .i64 1501] := by unfold Ig; rw [UK]; rfl
theorem UC : Gq (yR eA eB) = .bU [.agg (wF eM (xf [1, 0, 1, 0])), .int .i64 0] := by rw [Uz]; rfl
theorem UD : Gq (yR eA eC) = .bU [.agg (wF zF .aQ), .int .i64 1500] := by rw [UA]; rfl
def eD : zD := { eA with I8 := (zL LW ^^^ 1 : Nat) }
theorem Mx (h : H) (hf : h.floor ≤ h.next) (e : zD) (v : AV) (hv : v.sc = true) (hb : e.vec.length < 1000000) (r : aT ((h.alloc (wF e v)).alloc Z9 |>.alloc []) 1 v = some (e.vec.length, ints e.vec)) (h0 : 0 < e.vec.length) :
 aS AP.A 92 [.agg (wF e v)] h = some (.agg (wF e (.aF (h.next + 1 + 1 + 1) 0 e.vec.length 1)), ((((((h.alloc (wF e v)).alloc Z9).alloc []).del (h.next + 1 + 1)).alloc (ints e.vec)).set h.next (wF e (.aF (h.next + 1 + 1 + 1) 0 e.vec.length 1))).set (h.next + 1) (wF e (.aF (h.next + 1 + 1 + 1) 0 e.vec.length 1))) := by
 have cA : AV.aC (wF e v) = true := Gc hv
 have lA : (wF e v).length = 9 := rfl
 have gA : (wF e v)[2]? = some v := rfl
 have fA : setFrom (wF e v) 2 [.aF (h.next + 1 + 1 + 1) 0 e.vec.length 1] = wF e (.aF (h.next + 1 + 1 + 1) 0 e.vec.length 1) := rfl
 have tA : List.take 9 (wF e (.aF (h.next + 1 + 1 + 1) 0 e.vec.length 1)) = wF e (.aF (h.next + 1 + 1 + 1) 0 e.vec.length 1) := rfl
 have lB : (wF e (.aF (h.next + 1 + 1 + 1) 0 e.vec.length 1)).length = 9 := rfl
 have cB : AV.aC (wF e (.aF (h.next + 1 + 1 + 1) 0 e.vec.length 1)) = true := rfl
 have fB : setFrom Z9 0 (wF e (.aF (h.next + 1 + 1 + 1) 0 e.vec.length 1)) = wF e (.aF (h.next + 1 + 1 + 1) 0 e.vec.length 1) := rfl
 have la := BK e.vec
 have ll := qy e.vec
 refine uM (fn := AP.f92) (e := [(2, .aE (h.next + 1) 0)]) (vs := [.agg (wF e (.aF (h.next + 1 + 1 + 1) 0 e.vec.length 1))]) rfl rfl rfl ?_ ?_
 · generalize wF e v = A at *
   generalize hB : wF e (.aF (h.next + 1 + 1 + 1) 0 e.vec.length 1) = B at *
   generalize e.vec.length = n at *
   generalize ints e.vec = L at *
   simp (disch := first | omega | (simp only [yx, UO, UR, vW, Nat.reduceAdd]; first | done | omega | fail) | (simp (disch := first | omega | (simp only [yx, UO, UR, vW, Nat.reduceAdd]; first | done | omega | fail) | fail) only [yx, ER, US, UO, UR, vW, Nat.reduceAdd]; done) | fail) only [go_sem, wy, wz, Nat.reduceEqDiff, reduceIte, Nat.reduceAdd, Nat.reduceMul, Nat.reduceLT, Nat.reduceLeDiff, Int.reduceBEq, Int.reduceBNe, Int.reduceLT, Int.reduceLE, Int.reduceEq, wI, FJ, cf.aP, cf.aJ, Int.reduceAdd, Int.reduceSub, Int.reduceMul, Int.reduceNeg, Int.reduceToNat, AP.f92, lA, cA, gA, fA, tA, lB, cB, fB, r, la, ll]
 · simp only [AP.f92, cO, od, nQ]
   generalize hB : wF e (.aF (h.next + 1 + 1 + 1) 0 e.vec.length 1) = B at *
   simp (disch := first | omega | (simp only [yx, UO, UR, vW, Nat.reduceAdd]; first | done | omega | fail) | (simp (disch := first | omega | (simp only [yx, UO, UR, vW, Nat.reduceAdd]; first | done | omega | fail) | fail) only [yx, ER, US, UO, UR, vW, Nat.reduceAdd]; done) | fail) only [go_sem, wy, wz, Nat.reduceEqDiff, reduceIte, Nat.reduceAdd, Nat.reduceMul, Nat.reduceLT, Nat.reduceLeDiff, Int.reduceBEq, Int.reduceBNe, Int.reduceLT, Int.reduceLE, Int.reduceEq, wI, FJ, cf.aP, cf.aJ, Int.reduceAdd, Int.reduceSub, Int.reduceMul, Int.reduceNeg, Int.reduceToNat, tA, lB]
   rfl
set_option maxHeartbeats 4000000 in
theorem JN (h : H) : aS AP.A 95 [] h = some (.bool true, h) := by
 obtain ⟨A, hA⟩ : ∃ x, x = wF eA (xf [1, 0, 0, 0]) := ⟨_, rfl⟩
 obtain ⟨B, hB⟩ : ∃ x, x = wF eB (xf [0, 0, 1, 0]) := ⟨_, rfl⟩
 obtain ⟨C, hC⟩ : ∃ x, x = wF eC (xf [1, 0, 0, 0]) := ⟨_, rfl⟩
 obtain ⟨M, hM⟩ : ∃ x, x = wF eM (xf [1, 0, 1, 0]) := ⟨_, rfl⟩
 have lA : A.length = 9 := by rw [hA]; rfl
 have lB : B.length = 9 := by rw [hB]; rfl
 have lM : M.length = 9 := by rw [hM]; rfl
 have cA : AV.aC A = true := by rw [hA]; exact Gc (zd _)
 have cB : AV.aC B = true := by rw [hB]; exact Gc (zd _)
 have cM : AV.aC M = true := by rw [hM]; exact Gc (zd _)
 have tA : List.take 9 A = A := by rw [hA]; rfl
 have tB : List.take 9 B = B := by rw [hB]; rfl
 have s1 : ∀ g, aS AP.A 99 [.str ⟨#[97]⟩, .int .i64 0, .int .i64 1, .str ⟨#[104, 105]⟩] g = some (.agg A, g) := fun g => by rw [hA]; exact GJ g nA LW 0 1 (by omega) (by decide)
 have s2 : ∀ g, aS AP.A 99 [.str ⟨#[97]⟩, .int .i64 2, .int .i64 1, .str ⟨#[104, 111]⟩] g = some (.agg B, g) := fun g => by rw [hB]; exact GJ g nA Um 2 1 (by omega) (by decide)
 have s3 : ∀ g, aS AP.A 99 [.str ⟨#[98]⟩, .int .i64 0, .int .i64 1, .str ⟨#[]⟩] g = some (.agg C, g) := fun g => by rw [hC]; exact GJ g nB ⟨#[]⟩ 0 1 (by omega) (by decide)
 have okA : ∀ g, CP g (eA, xf [1, 0, 0, 0]) := fun g => CP.au (e := eA) rfl (by decide) (by decide)
 have okB' : ∀ g, CP g (eB, xf [0, 0, 1, 0]) := fun g => CP.au (e := eB) rfl (by decide) (by decide)
 have Dz : ∀ g, CP g (eC, xf [1, 0, 0, 0]) := fun g => CP.au (e := eC) rfl (by decide) (by decide)
 have k1 : ∀ g : H, g.floor ≤ g.next → aS AP.A 100 [.agg A] g = some (.bU [.str ⟨#[104, 105]⟩, .int .i64 0], g) := fun g hg => by
  have := Gd g hg eA (xf [1, 0, 0, 0]) (zd _) (okA g)
  rw [UH] at this
  rw [hA]; exact this
 have k2 : ∀ g : H, g.floor ≤ g.next → aS AP.A 97 [.agg A, .agg B] g = some (.bU [.agg M, .int .i64 0], g) := fun g hg => by
  have := Jq g hg eA eB (xf [1, 0, 0, 0]) (xf [0, 0, 1, 0]) (zd _) (zd _) (okA g) (okB' g)
  rw [UC] at this
  rw [hA, hB, hM]; exact this
 have k3 : ∀ g : H, g.floor ≤ g.next → aS AP.A 97 [.agg A, .agg C] g = some (.bU [.agg (wF zF .aQ), .int .i64 1500], g) := fun g hg => by
  have := Jq g hg eA eC (xf [1, 0, 0, 0]) (xf [1, 0, 0, 0]) (zd _) (zd _) (okA g) (Dz g)
  rw [UD] at this
  rw [hA, hC]; exact this
 have fA : setFrom Z9 0 A = A := by rw [hA]; rfl
 have fB : setFrom Z9 0 B = B := by rw [hB]; rfl
 have fM : setFrom Z9 0 M = M := by rw [hM]; rfl
 have fE : setFrom Z9 0 (wF zF .aQ) = Z9 := rfl
 have cE : AV.aC (wF zF .aQ) = true := rfl
 have lE : (wF zF .aQ).length = 9 := rfl
 have m6 : M[6]? = some (.str ⟨#[104, 111]⟩) := by rw [hM]; rfl
 have m4 : M[4]? = some (.int .i64 2) := by rw [hM]; rfl
 have m2 : M[2]? = some (xf [1, 0, 1, 0]) := by rw [hM]; rfl
 have k4 : ∀ (g : H) (p : Nat), g.floor ≤ g.next → g.get p = some [.int .i64 9, .int .i64 0, .int .i64 0, .int .i64 0] → aS AP.A 100 [.agg [.str ⟨#[97]⟩, .bool true, .aF p 0 4 1, .int .i64 9, .int .i64 0, .int .i64 0, .str ⟨#[]⟩, .int .i64 0, .int .i64 0]] g = some (.bU [.str ⟨#[]⟩, .int .i64 1501], g) := fun g p hg hp => by
  have := Gd g hg eG (.aF p 0 4 1) rfl (CP.obj (l := [9, 0, 0, 0]) hp rfl rfl (by decide) (by decide))
  rw [UI] at this; exact this
 have k5 : ∀ (g : H) (p : Nat), g.floor ≤ g.next → g.get p = some [.int .i64 9, .int .i64 0, .int .i64 0, .int .i64 0] → aS AP.A 96 [.agg [.str ⟨#[97]⟩, .bool true, .aF p 0 4 1, .int .i64 9, .int .i64 0, .int .i64 0, .str ⟨#[]⟩, .int .i64 0, .int .i64 0]] g = some (.bool true, g) := fun g p hg hp => by
  have := BH g hg eG (.aF p 0 4 1) rfl (CP.obj (l := [9, 0, 0, 0]) hp rfl rfl (by decide) (by decide))
  rw [show zG eG = true by decide +kernel] at this; exact this
 obtain ⟨K, hK⟩ : ∃ K, K = ((zL LW : Nat) : Int) := ⟨_, rfl⟩
 obtain ⟨K', hK'⟩ : ∃ K, K = ((zL LW ^^^ 1 : Nat) : Int) := ⟨_, rfl⟩
 have x1 : bits .xor .i64 K 1 = K' := by rw [hK, hK']; exact JQ (I9 _)
 have k6 : ∀ g : H, g.floor ≤ g.next → aS AP.A 92 [.agg A] g = some (.agg [.str nA, .bool false, .aF (g.next + 1 + 1 + 1) 0 4 1, .int .i64 1, .int .i64 0, .int .i64 0, .str LW, .int .i64 2, .int .i64 K], ((((((g.alloc A).alloc Z9).alloc []).del (g.next + 1 + 1)).alloc [.int .i64 1, .int .i64 0, .int .i64 0, .int .i64 0]).set g.next [.str nA, .bool false, .aF (g.next + 1 + 1 + 1) 0 4 1, .int .i64 1, .int .i64 0, .int .i64 0, .str LW, .int .i64 2, .int .i64 K]).set (g.next + 1) [.str nA, .bool false, .aF (g.next + 1 + 1 + 1) 0 4 1, .int .i64 1, .int .i64 0, .int .i64 0, .str LW, .int .i64 2, .int .i64 K]) := fun g hg => by
  rw [hA, hK]
  exact Mx g hg eA (xf [1, 0, 0, 0]) (zd _) (by decide) rfl (by decide)
 have k7 : ∀ (g : H) (p : Nat), g.floor ≤ g.next → g.get p = some [.int .i64 1, .int .i64 0, .int .i64 0, .int .i64 0] → aS AP.A 96 [.agg [.str nA, .bool false, .aF p 0 4 1, .int .i64 1, .int .i64 0, .int .i64 0, .str LW, .int .i64 2, .int .i64 K']] g = some (.bool false, g) := fun g p hg hp => by
  have := BH g hg eD (.aF p 0 4 1) rfl (CP.obj (l := [1, 0, 0, 0]) hp rfl rfl (by decide) (by decide))
  rw [show zG eD = false from UG] at this
  rw [hK']; exact this
 have k8 : ∀ (g : H) (p : Nat), g.get p = some [.int .i64 1, .int .i64 0, .int .i64 1, .int .i64 0] → aS AP.A 106 [xf [1, 0, 1, 0], .aF p 0 4 1] g = some (.bool true, g) := fun g p hp => by
  have := MY g (xf [1, 0, 1, 0]) (.aF p 0 4 1) [1, 0, 1, 0] [1, 0, 1, 0] ?_ (Rd.obj (l := [1, 0, 1, 0]) hp rfl) (by decide)
  · exact this
  · have := zo g [1, 0, 1, 0]; unfold yN at this; exact this
 have k9 := fun (g : H) n => NC g n
 simp only [I] at k9
 have cm : (xf [1, 0, 1, 0]).cells = [xf [1, 0, 1, 0]] := rfl
 have y1 : bw .eql (.str ⟨#[104, 105]⟩) (.str ⟨#[104, 105]⟩) = some (.bool true) := by rw [Au]; rfl
 have y2 : bw .eql (.str ⟨#[104, 111]⟩) (.str ⟨#[104, 111]⟩) = some (.bool true) := by rw [Au]; rfl
 obtain ⟨h2, hh⟩ : ∃ h2, aM (aS AP.A) bG AP.f95.body (params 0 []) h.ez = some (.ret, [(0, .bool true)], h2) := by
  refine ⟨?_, ?_⟩
  rotate_left
  simp (disch := first | omega | (simp only [yx, UO, UR, vW, Nat.reduceAdd]; first | done | omega | fail) | (simp (disch := first | omega | (simp only [yx, UO, UR, vW, Nat.reduceAdd]; first | done | omega | fail) | fail) only [yx, ER, US, UO, UR, vW, Nat.reduceAdd]; done) | fail) only [go_sem, wy, wz, Nat.reduceEqDiff, reduceIte, Nat.reduceAdd, Nat.reduceMul, Nat.reduceLT, Nat.reduceLeDiff, Int.reduceBEq, Int.reduceBNe, Int.reduceLT, Int.reduceLE, Int.reduceEq, wI, FJ, cf.aP, cf.aJ, Int.reduceAdd, Int.reduceSub, Int.reduceMul, Int.reduceNeg, Int.reduceToNat, AP.f95, lA, lB, lM, cA, cB, cM, s1, s2, s3, k1, k2, k3, fA, fB, fM, fE, cE, lE, m6, m4, m2, k4, k5, k6, k7, k8, k9, x1, cm, y1, y2, tA, tB]
  rfl
 exact u7 (fn := AP.f95) (h2 := h2) (e := [(0, .bool true)]) rfl rfl rfl hh rfl rfl
def Qg : Ty := .str
def KL : Ty := .bool
theorem MZ {B : Nat} {as : List AV} (h : Sh B .bool as) : ∃ b, as = [.bool b] := by
 cases h with
 | bool b => exact ⟨b, rfl⟩
theorem Qd {as : List AV} (h : Sh reachBytes .str as) : ∃ s : ByteArray, as = [.str s] ∧ s.size < 140737488355328 := by
 cases h with
 | str h => exact ⟨_, rfl, vg h⟩
theorem Uc {P : Ty × List AV → Prop} {a b : Ty} {r : List (Ty × List AV)} (h : r.map (·.1) = [a, b]) (hp : ∀ x ∈ r, P x) : ∃ x y, r = [(a, x), (b, y)] ∧ P (a, x) ∧ P (b, y) := by
 match r, h with
 | [(a', x), (b', y)], h => simp at h; obtain ⟨rfl, rfl⟩ := h; exact ⟨x, y, rfl, hp _ (by simp), hp _ (by simp)⟩
def Qi (s : ByteArray) : List Nat := s.data.toList.map (·.toNat)
theorem JD (s : ByteArray) : (Qi s).length = s.size := by unfold Qi; rw [List.length_map, Array.length_toList]; rfl
theorem Qj (s : ByteArray) : ∀ b ∈ Qi s, b < 256 := by
 intro b hb
 obtain ⟨x, _, rfl⟩ := U9.1 hb
 exact x.toNat_lt
theorem Da (s : ByteArray) : bytesOf (Qi s) = s := by
 unfold Qi bytesOf; rw [List.map_map]; apply ByteArray.ext; simp [Function.comp_def]
theorem PE.obj {h : H} {id : Nat} {cs : List AV} (hg : h.get id = some cs) : PE h (.aE id 0) cs :=
 ⟨fun g => rfl, fun k => .aE id (0 + k), fun k => rfl, fun g hx k c hc => by
  show cJ false 1 (.aE id (0 + k)) g = _
  rw [vW]
  simp only [cJ, hx _ _ hg, vO, iG, hc]; rfl⟩
theorem JM (x : Int) (k : Nat) (hk : k ≤ 62) : bits .and .i64 x ((2 ^ k - 1 : Nat) : Int) = x % ((2 ^ k : Nat) : Int) := by
 have h2 : 2 ^ k ≤ 2 ^ 62 := UX (by omega) hk
 have h3 : 0 < 2 ^ k := Nat.pow_pos (by omega)
 show IntKind.wrap .i64 (((BitVec.ofInt 64 x &&& BitVec.ofInt 64 ((2 ^ k - 1 : Nat) : Int)).toNat : Nat) : Int) = _
 rw [BitVec.toNat_and, yd 64 (2 ^ k - 1) (by omega), BitVec.toNat_ofInt, Nat.and_two_pow_sub_one_eq_mod, wC (by
  have := Nat.mod_lt (x % ((2 ^ 64 : Nat) : Int)).toNat h3
  omega)]
 have e : (((x % ((2 ^ 64 : Nat) : Int)).toNat : Nat) : Int) = x % ((2 ^ 64 : Nat) : Int) := Int.toNat_of_nonneg (Int.emod_nonneg _ (by decide))
 rw [Int.natCast_emod, e]
 refine Int.emod_emod_of_dvd x ?_
 refine Int.natCast_dvd_natCast.2 (Nat.pow_dvd_pow 2 (by omega))
theorem Un {n : Nat} (h : n < 256) : IntKind.wrap .u8 (n : Int) = n := wb (by omega)
theorem Nf {a n : Nat} (hn : 0 < n) : bw .rem (.int .i64 ((a : Nat) : Int)) (.int .i64 (n : Int)) = some (.int .i64 ((a % n : Nat) : Int)) := by
 show (if (n : Int) = 0 then none else some (AV.int .i64 ((a : Int).tmod n))) = _
 rw [if_neg (by omega), Int.tmod_eq_emod_of_nonneg (by omega)]; rfl
theorem BV : ∀ (l cs : List AV) (off : Nat), off + l.length ≤ cs.length → setFrom cs off l = cs.take off ++ (l ++ cs.drop (off + l.length))
 | [], cs, off, h => by simp [setFrom]
 | v :: l, cs, off, h => by
   rw [UO] at h
   rw [setFrom, BV l (cs.set off v) (off + 1) (by rw [U5]; omega)]
   rw [List.take_set, List.drop_set_of_lt (by omega), UO, show off + 1 + l.length = off + (l.length + 1) by omega]
   rw [List.take_succ_eq_append_getElem (by omega), List.set_append_right _ _ (by simp; omega)]
   simp [show min off cs.length = off by omega]
abbrev cE (e : zD) (v : AV) (n : ByteArray) (s : Int) : List AV := [.str n, .bool e.gone, v, .int .i64 s, .int .i64 e.node, .int .i64 e.method, .str e.packed, .int .i64 e.size, .int .i64 e.I8]
def xm (bs : List Nat) : List Nat := yA bs 0 []
theorem El : ∀ (a b : List Nat) (i : Nat) (out : List Nat), yA (a ++ b) i out = yA b (i + a.length) (yA a i out)
 | [], b, i, out => rfl
 | x :: a, b, i, out => by
   show yA (a ++ b) (i + 1) (xR out i x) = _
   rw [El a b]
   show yA b (i + 1 + a.length) _ = yA b (i + (a.length + 1)) _
   rw [show i + 1 + a.length = i + (a.length + 1) by omega]; rfl
theorem Kc (bs : List Nat) (b : Nat) : xm (bs ++ [b]) = xR (xm bs) bs.length b := by
 unfold xm; rw [El, vW]; rfl
theorem Ba (bs : List Nat) : (xm bs).length = (bs.length + 7) / 8 := by
 have : ∀ (l : List Nat) (i : Nat) (out : List Nat), out.length = (i + 7) / 8 → (yA l i out).length = (i + l.length + 7) / 8 := by
  intro l
  induction l with
  | nil => intro i out h; exact h
  | cons x l ih => intro i out h; rw [yA, ih (i + 1) _ (by rw [Dm h]), UO]; congr 1; omega
 have := this bs 0 [] rfl
 rw [xm, this, vW]
structure Wr (h : H) (w : Nat) (bs : List Nat) (ov : AV) : Prop where
 get : h.get w = some [ov, .int .i64 (bs.length : Nat)]
 own : wW 1 h ov (xm bs).length (zH (xm bs))
 fl : h.floor ≤ w
 Ks : h.floor ≤ h.next
 ne : ov.id? ≠ some w
 Np : IQ (xm bs)
structure GP (h : H) (w : Nat) (ov : AV) (h' : H) (ov' : AV) : Prop where
 floor : h'.floor = h.floor
 next : h.next ≤ h'.next
 xX : ∀ i, i < h.next → i ≠ w → ov.id? ≠ some i → h'.get i = h.get i
 ids : ∀ j, ov'.id? = some j → ov.id? = some j ∨ h.next ≤ j
theorem GP.refl (h : H) (w : Nat) (ov : AV) : GP h w ov h ov := ⟨rfl, vR _, fun _ _ _ _ => rfl, fun _ h => .inl h⟩
theorem GP.trans {h1 h2 h3 : H} {w : Nat} {o1 o2 o3 : AV} (a : GP h1 w o1 h2 o2) (b : GP h2 w o2 h3 o3) : GP h1 w o1 h3 o3 :=
 ⟨by rw [b.floor, a.floor], wk a.next b.next, fun i h hw ho => by
   rw [b.xX i (by have := a.next; omega) hw (fun q => by rcases a.ids i q with q | q; exact ho q; omega), a.xX i h hw ho],
  fun j h => by
   rcases b.ids j h with q | q
   · exact a.ids j q
   · exact .inr (wk a.next q)⟩
theorem M5 {b k : Nat} (hb : b ≤ 1) (hk : k < 8) : qe .shl .i64 (b : Int) ((k : Nat) : Int) = some (.int .i64 ((b * 2 ^ k : Nat) : Int)) := by
 unfold qe
 rw [if_neg (by omega)]
 simp only [IntKind.bits, Vo, show min k 64 = k by omega]
 have h1 : 2 ^ k ≤ 2 ^ 7 := UX (by omega) (by omega)
 have h2 : b * 2 ^ k ≤ 1 * 2 ^ 7 := Nat.mul_le_mul hb h1
 have : (b : Int) * 2 ^ k = ((b * 2 ^ k : Nat) : Int) := by rw [Int.natCast_mul, Int.natCast_pow]; rfl
 rw [this, wi (by omega)]
theorem Qz {l : List Nat} {i x : Nat} (h : l[i]? = some x) : (zH l)[i]? = some (.int .u8 (x : Int)) := by simp [zH, h]
theorem Tv (l : List Nat) (i x : Nat) : (zH l).set i (.int .u8 (x : Int)) = zH (l.set i x) := by simp [zH, List.map_set]
theorem QA (l : List Nat) : (zH l).length = l.length := by simp [zH]
theorem Lq {g : H} {w id n b : Nat} {P : List Nat} {x : Nat} (hb : b ≤ 1) (hw : g.get w = some [.aF id 0 (n / 8 + 1) 1, .int .i64 n]) (hi : g.get id = some (zH P)) (hl : P.length = n / 8 + 1) (hx : P[n / 8]? = some x) (hx8 : x < 256) (hne : id ≠ w) (hf : g.floor ≤ w) (hf2 : g.floor ≤ id) (hn : n < 1000000) :
 ∃ e', aM (aS AP.A) bG (Mh 1 AP.f57.body) [(0, .aE w 0), (1, .int .i64 b)] g = some (.normal, e', (g.set id (zH (P.set (n / 8) (x ||| b * 2 ^ (n % 8))))).set w [.aF id 0 (n / 8 + 1) 1, .int .i64 ((n : Int) + 1)]) := by
 have c8 : b * 2 ^ (n % 8) < 256 := by
  have h1 : 2 ^ (n % 8) ≤ 2 ^ 7 := UX (by omega) (by omega)
  have h2 : b * 2 ^ (n % 8) ≤ 1 * 2 ^ 7 := Nat.mul_le_mul hb h1
  omega
 have s1 := M5 hb (show n % 8 < 8 by omega)
 have o1 := KK hx8 c8
 have w1 := Un (n := b * 2 ^ (n % 8)) c8
 have rm := Nf (a := n) (n := 8) (by omega)
 have rm' : bw .rem (.int .i64 (n : Int)) (.int .i64 8) = some (.int .i64 ((n % 8 : Nat) : Int)) := rm
 have w2 : IntKind.wrap .i64 (((n / 8 + 1 : Nat) : Int) - 1) = ((n / 8 : Nat) : Int) := by rw [wi (by omega)]; omega
 have bl := QA P
 have gx := Qz hx
 have st := Tv P (n / 8) (x ||| b * 2 ^ (n % 8))
 have sgn : ((n / 8 : Nat) : Int).toNat = n / 8 := by omega
 have gw2 : (g.set id (zH (P.set (n / 8) (x ||| b * 2 ^ (n % 8))))).get w = some [.aF id 0 (n / 8 + 1) 1, .int .i64 n] := by rw [wL (fun q => hne q.symm), hw]
 generalize zH P = BP at *
 generalize b * 2 ^ (n % 8) = Y at *
 generalize (x ||| Y) = Z at *
 generalize zH (P.set (n / 8) Z) = BZ at *
 refine ⟨?_, ?_⟩
 rotate_left
 simp (disch := first | omega | (simp only [yx, UO, UR, vW, Nat.reduceAdd]; first | done | omega | fail) | (simp (disch := first | omega | (simp only [yx, UO, UR, vW, Nat.reduceAdd]; first | done | omega | fail) | fail) only [yx, ER, US, UO, UR, vW, Nat.reduceAdd]; done) | fail) only [go_sem, wy, wz, Nat.reduceEqDiff, reduceIte, Nat.reduceAdd, Nat.reduceMul, Nat.reduceLT, Nat.reduceLeDiff, Int.reduceBEq, Int.reduceBNe, Int.reduceLT, Int.reduceLE, Int.reduceEq, wI, FJ, cf.aP, cf.aJ, Int.reduceAdd, Int.reduceSub, Int.reduceMul, Int.reduceNeg, Int.reduceToNat, AP.f57, hw, hi, s1, o1, w1, rm', w2, bl, hl, gx, st, sgn, gw2]
 rfl
theorem DP (P : List Nat) (x : Nat) : zH (P ++ [x]) = zH P ++ [.int .u8 (x : Int)] := by simp [zH]
theorem Lm {h : H} {w b : Nat} {bs : List Nat} {ov : AV} (wr : Wr h w bs ov) (hb : b ≤ 1) (hn : bs.length < 1000000) :
 ∃ h' ov', aS AP.A 57 [.aE w 0, .int .i64 b] h = some (.bU [], h') ∧ Wr h' w (bs ++ [b]) ov' ∧ GP h w ov h' ov' := by
 obtain ⟨gw, ow, fl, Ks, ne, Np⟩ := wr
 obtain ⟨n, en⟩ : ∃ n, n = bs.length := ⟨_, rfl⟩
 rw [← en] at gw hn
 have pl := Ba bs
 rw [← en] at pl
 have pa := Kc bs b
 rw [← en] at pa
 obtain ⟨P, eP⟩ : ∃ P, P = xm bs := ⟨_, rfl⟩
 rw [← eP] at ow Np pa pl
 have wlt := h.lt _ _ gw
 obtain ⟨g, ov', id, P', x, s1, hw, hi, hl, hx, hid, hne, hf, hf2, hflx, hP, hk, hx8, hids, hbt⟩ : ∃ g ov' id P' x, aM (aS AP.A) bG (at_ 0 AP.f57.body) [(0, .aE w 0), (1, .int .i64 b)] h = some (.normal, [(0, .aE w 0), (1, .int .i64 b)], g) ∧ g.get w = some [.aF id 0 (n / 8 + 1) 1, .int .i64 n] ∧ g.get id = some (zH P') ∧ P'.length = n / 8 + 1 ∧ P'[n / 8]? = some x ∧ ov' = AV.aF id 0 (n / 8 + 1) 1 ∧ id ≠ w ∧ g.floor = h.floor ∧ h.floor ≤ id ∧ h.next ≤ g.next ∧ xR P n b = P'.set (n / 8) (x ||| b * 2 ^ (n % 8)) ∧ (∀ i, i < h.next → i ≠ w → ov.id? ≠ some i → g.get i = h.get i) ∧ x < 256 ∧ (ov.id? = some id ∨ h.next ≤ id) ∧ IQ P' := by
  have rm : bw .rem (.int .i64 (n : Int)) (.int .i64 8) = some (.int .i64 ((n % 8 : Nat) : Int)) := Nf (a := n) (n := 8) (by omega)
  by_cases c : n % 8 = 0
  · have cz : ((n % 8 : Nat) : Int) = 0 := by omega
    obtain ⟨v', h', p1, p2, p3, p4, p5, p6⟩ := ow.push Ks (z := 1) (m := 1) (by omega) (by omega) [.int .u8 0] rfl rfl (yi (by omega))
    have gw1 : h'.get w = some [ov, .int .i64 n] := by rw [p5 w ne wlt, gw]
    have e1 := p2.1
    rcases p2.2 with ⟨_, q⟩ | ⟨id, q1, q2, q3, q4⟩
    · omega
    · have hk : P.length + 1 = n / 8 + 1 := by omega
      rw [hk] at q1
      have qid : id = h.next + 1 := by rw [q1] at p6; exact vG p6
      refine ⟨h'.set w [v', .int .i64 n], v', id, P ++ [0], 0, ?_, ?_, ?_, ?_, ?_, q1, by omega, by simp [p3], by omega, ?_, ?_, ?_, by omega, .inr (by omega), ?_⟩
      · rw [q1]
        rw [q1] at p1
        have fl' : h'.floor ≤ w := by omega
        simp (disch := omega) only [go_sem, wy, wz, Nat.reduceEqDiff, reduceIte, Nat.reduceAdd, Nat.reduceMul, Nat.reduceLT, Nat.reduceLeDiff, Int.reduceBEq, Int.reduceBNe, Int.reduceLT, Int.reduceLE, Int.reduceEq, wI, cf.aP, cf.aJ, Int.reduceAdd, Int.reduceSub, Int.reduceMul, Int.reduceNeg, Int.reduceToNat, AP.f57, xV, gw, gw1, rm, cz, p1, fl', wS, wL]
      · rw [wS rfl, gw1, q1]; rfl
      · rw [wL (by omega), q2, DP]; rfl
      · simp; omega
      · rw [U6 (by omega), show n / 8 - P.length = 0 by omega]; rfl
      · simp; omega
      · unfold xR; rw [if_pos c]; dsimp only; rw [UM, U6 (by omega), show n / 8 - P.length = 0 by omega]; rfl
      · intro i hi hiw hio
        rw [wL hiw, p5 i hio hi]
      · intro y hy
        rcases Vf.1 hy with q | q
        · exact Np y q
        · simp at q; omega
  · have cz : ¬ ((n % 8 : Nat) : Int) = 0 := by omega
    rcases ow.2 with ⟨_, q⟩ | ⟨id, q1, q2, q3, q4⟩
    · omega
    · have hk : P.length = n / 8 + 1 := by omega
      rw [hk] at q1
      obtain ⟨x, hx⟩ : ∃ x, P[n / 8]? = some x := ⟨_, UP (by omega)⟩
      have hneq : id ≠ w := fun q => ne (by rw [q1, q]; rfl)
      refine ⟨h, ov, id, P, x, ?_, by rw [gw, q1], q2, hk, hx, q1, hneq, rfl, q3, vR _, ?_, fun _ _ _ _ => rfl, Np x (vV hx), .inl (by rw [q1]; rfl), Np⟩
      · simp (disch := first | omega | (simp only [yx, UO, UR, vW, Nat.reduceAdd]; first | done | omega | fail) | (simp (disch := first | omega | (simp only [yx, UO, UR, vW, Nat.reduceAdd]; first | done | omega | fail) | fail) only [yx, ER, US, UO, UR, vW, Nat.reduceAdd]; done) | fail) only [go_sem, wy, wz, Nat.reduceEqDiff, reduceIte, Nat.reduceAdd, Nat.reduceMul, Nat.reduceLT, Nat.reduceLeDiff, Int.reduceBEq, Int.reduceBNe, Int.reduceLT, Int.reduceLE, Int.reduceEq, wI, FJ, cf.aP, cf.aJ, Int.reduceAdd, Int.reduceSub, Int.reduceMul, Int.reduceNeg, Int.reduceToNat, AP.f57, gw, rm, cz]
      · unfold xR; rw [if_neg c]; dsimp only; rw [UM, hx]; rfl
 obtain ⟨e', s2⟩ := Lq hb hw hi hl hx hx8 hne (by omega) (by omega) hn
 have cs : aS AP.A 57 [.aE w 0, .int .i64 b] h = some (.bU [], (g.set id (zH (P'.set (n / 8) (x ||| b * 2 ^ (n % 8))))).set w [.aF id 0 (n / 8 + 1) 1, .int .i64 ((n : Int) + 1)]) := by
  refine xI (fn := AP.f57) (e := e') (vs := []) rfl rfl rfl ?_ rfl
  have hb : AP.f57.body = .seq (at_ 0 AP.f57.body) (Mh 1 AP.f57.body) := rfl
  rw [hb, sS]
  have s1' : aM (aS AP.A) bG (at_ 0 AP.f57.body) (params 0 [.aE w 0, .int .i64 b]) h = some (.normal, [(0, .aE w 0), (1, .int .i64 b)], g) := s1
  rw [s1', tP, s2]
 rw [← hP] at cs
 have ol : (xR P n b).length = n / 8 + 1 := by rw [hP, U5, hl]
 refine ⟨_, ov', cs, ⟨?_, ?_, ?_, ?_, ?_, ?_⟩, ?_, ?_, ?_, ?_⟩
 · rw [wS rfl, wL hne.symm, hw, hid, wo, ← en]; rfl
 · rw [pa, hid]
   exact ⟨by simp [zH, ol], .inr ⟨id, by rw [ol], by rw [wL hne, wS rfl, hi]; rfl, by simpa [hf] using hf2, by omega⟩⟩
 · simpa [hf] using fl
 · simp; omega
 · rw [hid]; exact fun q => hne (vG q)
 · rw [pa]; exact Dl hb Np
 · simp [hf]
 · simpa using hflx
 · intro i hi1 hi2 hi3
   have : i ≠ id := by
    rcases hids with q | q
    · intro q2; exact hi3 (by rw [q, q2])
    · omega
   rw [wL hi2, wL this, hk i hi1 hi2 hi3]
 · intro j hj
   rw [hid] at hj
   obtain rfl := vG hj
   exact hids
def En (v : Nat) : Nat → Nat → List Nat
 | _, 0 => []
 | i, m + 1 => v / 2 ^ i % 2 :: En v (i + 1) m
def w8 (v n : Nat) : List Nat := En v 0 n
def zh (v : Nat) : Nat → List Nat
 | 0 => []
 | m + 1 => v / 2 ^ m % 2 :: zh v m
theorem xc (v : Nat) : ∀ m i, (En v i m).length = m
 | 0, _ => rfl
 | m + 1, i => by simp [En, xc v m]
theorem xk (v : Nat) : ∀ m, (zh v m).length = m
 | 0 => rfl
 | m + 1 => by simp [zh, xk v m]
theorem GS {n : Nat} (h : n < 1000000000) : bits .and .i64 (n : Int) 1 = ((n % 2 : Nat) : Int) := by
 have := JM (n : Int) 1 (by omega)
 exact this.trans (by omega)
theorem F5 (w v n : Nat) (hv : v < 65536) (hn : n ≤ 16) : ∀ (m i : Nat) (h : H) (bs : List Nat) (ov : AV), i + m = n → Wr h w bs ov → bs.length + m < 1000000 →
 ∃ e' h' ov', Lp AP.A [0, 1, 2, 7] AP.f33L0 [(0, .aE w 0), (1, .int .i64 v), (2, .int .i64 n), (7, .int .i64 i)] h = some (.exit 0, e', h') ∧ Wr h' w (bs ++ En v i m) ov' ∧ GP h w ov h' ov'
 | 0, i, h, bs, ov, hi, wr, hb => by
   obtain rfl : i = n := by omega
   refine ⟨[(0, .aE w 0), (1, .int .i64 v), (2, .int .i64 i), (7, .int .i64 i), (35, .bool false)], h, ov, ux ?_, by simpa [En] using wr, GP.refl h w ov⟩
   simp (disch := omega) only [go_sem, wy, wz, Nat.reduceEqDiff, reduceIte, Nat.reduceAdd, Nat.reduceMul, Nat.reduceLT, Nat.reduceLeDiff, Int.reduceBEq, Int.reduceBNe, Int.reduceLT, Int.reduceLE, Int.reduceEq, wI, cf.aP, cf.aJ, Int.reduceAdd, Int.reduceSub, Int.reduceMul, Int.reduceNeg, Int.reduceToNat, AP.f33L0]
 | m + 1, i, h, bs, ov, hi, wr, hb => by
   have q := Nat.div_le_self v (2 ^ i)
   obtain ⟨h1, o1, k1, wr1, f1⟩ := Lm wr (b := v / 2 ^ i % 2) (by omega) (by omega)
   obtain ⟨e', h', ov', r1, r2, r3⟩ := F5 w v n hv hn m (i + 1) h1 _ o1 (by omega) wr1 (by simp; omega)
   have n1 : ((i + 1 : Nat) : Int) = (i : Int) + 1 := by omega
   have s1 := HZ (a := v) (s := i) (by omega)
   have a1 := GS (n := v / 2 ^ i) (by omega)
   rw [UY] at r2
   refine ⟨e', h', ov', uy ?_ r1, r2, f1.trans r3⟩
   rw [n1]
   simp (disch := omega) only [go_sem, wy, wz, Nat.reduceEqDiff, reduceIte, Nat.reduceAdd, Nat.reduceMul, Nat.reduceLT, Nat.reduceLeDiff, Int.reduceBEq, Int.reduceBNe, Int.reduceLT, Int.reduceLE, Int.reduceEq, wI, cf.aP, cf.aJ, Int.reduceAdd, Int.reduceSub, Int.reduceMul, Int.reduceNeg, Int.reduceToNat, AP.f33L0, s1, a1, k1]
theorem zy {h : H} {w : Nat} {bs : List Nat} {ov : AV} (wr : Wr h w bs ov) (v n : Nat) (hn : n ≤ 16) (hv : v < 2 ^ n) (hb : bs.length + n ≤ 65536) :
 ∃ h' ov', aS AP.A 33 [.aE w 0, .int .i64 v, .int .i64 n] h = some (.int .i64 0, h') ∧ Wr h' w (bs ++ w8 v n) ov' ∧ GP h w ov h' ov' := by
 have hp : 2 ^ n ≤ 2 ^ 16 := UX (by omega) hn
 obtain ⟨e', h', ov', r1, r2, r3⟩ := F5 w v n (by omega) hn n 0 h bs ov (by omega) wr (by omega)
 have r1' : Lp AP.A [0, 1, 2, 7] AP.f33L0 [(0, .aE w 0), (1, .int .i64 v), (2, .int .i64 n), (7, .int .i64 0)] h = some (.exit 0, e', h') := r1
 clear r1
 have gw := wr.get
 have s1 : qe .shl .i64 1 (n : Int) = some (.int .i64 ((2 ^ n : Nat) : Int)) := by
  have := y9 (a := 1) (s := n) (by omega) (by omega)
  rwa [Nat.one_mul] at this
 refine ⟨h', ov', uM (fn := AP.f33) (e := [(6, .int .i64 0)]) (vs := [.int .i64 0]) rfl rfl rfl ?_ rfl, r2, r3⟩
 generalize 2 ^ n = N at *
 simp (disch := omega) only [go_sem, wy, wz, Nat.reduceEqDiff, reduceIte, Nat.reduceAdd, Nat.reduceMul, Nat.reduceLT, Nat.reduceLeDiff, Int.reduceBEq, Int.reduceBNe, Int.reduceLT, Int.reduceLE, Int.reduceEq, wI, cf.aP, cf.aJ, Int.reduceAdd, Int.reduceSub, Int.reduceMul, Int.reduceNeg, Int.reduceToNat, AP.f33, th, r1', gw, s1]
theorem EO (w v : Nat) (A : List AV) (hA : A[1]? = some (.int .i64 v)) (hA2 : A.length = 2) (c : Nat) (hv : v < 65536) : ∀ (m : Nat) (h : H) (bs : List Nat) (ov : AV), m ≤ 15 → Wr h w bs ov → bs.length + m < 1000000 → h.get c = some A → c ≠ w → ov.id? ≠ some c →
 ∃ e' h' ov', Lp AP.A [0, 3, 5] AP.f35L0 [(0, .aE w 0), (3, .aE c 0), (5, .int .i64 ((m : Int) - 1))] h = some (.exit 0, e', h') ∧ Wr h' w (bs ++ zh v m) ov' ∧ GP h w ov h' ov'
 | 0, h, bs, ov, hm, wr, hb, hc, hcw, hco => by
   refine ⟨[(0, .aE w 0), (3, .aE c 0), (5, .int .i64 (-1)), (41, .bool false)], h, ov, ux ?_, by simpa [zh] using wr, GP.refl h w ov⟩
   simp (disch := omega) only [go_sem, wy, wz, Nat.reduceEqDiff, reduceIte, Nat.reduceAdd, Nat.reduceMul, Nat.reduceLT, Nat.reduceLeDiff, Int.reduceBEq, Int.reduceBNe, Int.reduceLT, Int.reduceLE, Int.reduceEq, wI, cf.aP, cf.aJ, Int.reduceAdd, Int.reduceSub, Int.reduceMul, Int.reduceNeg, Int.reduceToNat, AP.f35L0]
 | m + 1, h, bs, ov, hm, wr, hb, hc, hcw, hco => by
   have q := Nat.div_le_self v (2 ^ m)
   obtain ⟨h1, o1, k1, wr1, f1⟩ := Lm wr (b := v / 2 ^ m % 2) (by omega) (by omega)
   have hcl := h.lt _ _ hc
   obtain ⟨e', h', ov', r1, r2, r3⟩ := EO w v A hA hA2 c hv m h1 _ o1 (by omega) wr1 (by simp; omega) (by rw [f1.xX c hcl hcw hco, hc]) hcw (fun q => by rcases f1.ids c q with q | q; exact hco q; omega)
   have n1 : ((m + 1 : Nat) : Int) - 1 = (m : Int) := by omega
   have s1 := HZ (a := v) (s := m) (by omega)
   have a1 := GS (n := v / 2 ^ m) (by omega)
   rw [UY] at r2
   refine ⟨e', h', ov', uy ?_ r1, r2, f1.trans r3⟩
   rw [n1]
   simp (disch := omega) only [go_sem, wy, wz, Nat.reduceEqDiff, reduceIte, Nat.reduceAdd, Nat.reduceMul, Nat.reduceLT, Nat.reduceLeDiff, Int.reduceBEq, Int.reduceBNe, Int.reduceLT, Int.reduceLE, Int.reduceEq, wI, cf.aP, cf.aJ, Int.reduceAdd, Int.reduceSub, Int.reduceMul, Int.reduceNeg, Int.reduceToNat, AP.f35L0, s1, a1, k1, hc, hA, hA2]
theorem CN {h : H} {w : Nat} {bs : List Nat} {ov : AV} (wr : Wr h w bs ov) (v n : Nat) (hn0 : 1 ≤ n) (hn : n ≤ 15) (hv : v < 2 ^ n) (hb : bs.length + n ≤ 65536) :
 ∃ h' ov', aS AP.A 35 [.aE w 0, .agg [.int .i64 n, .int .i64 v]] h = some (.int .i64 0, h') ∧ Wr h' w (bs ++ zh v n) ov' ∧ GP h w ov h' ov' := by
 have hp : 2 ^ n ≤ 2 ^ 15 := UX (by omega) hn
 obtain ⟨g, eg⟩ : ∃ g, g = h.alloc [.int .i64 n, .int .i64 v] := ⟨_, rfl⟩
 have hw := h.lt _ _ wr.get
 have frA : ∀ i, i < h.next → g.get i = h.get i := fun i hi => by rw [eg, wY (by omega)]
 have wr1 : Wr g w bs ov := ⟨by rw [frA w hw, wr.get], wr.own.mono (by rw [eg]; simp) (fun i q => frA i (wr.own.lt q).2), by rw [eg]; simpa using wr.fl, by rw [eg]; have := wr.Ks; simp; omega, wr.ne, wr.Np⟩
 have gc : g.get h.next = some [.int .i64 n, .int .i64 v] := by rw [eg, wO rfl]
 obtain ⟨e', h', ov', r1, r2, r3⟩ := EO w v _ rfl rfl h.next (by omega) n g bs ov hn wr1 (by omega) gc (by omega) (fun q => by have := (wr.own.lt q).2; omega)
 have gw := wr1.get
 have s1 : qe .shl .i64 1 (n : Int) = some (.int .i64 ((2 ^ n : Nat) : Int)) := by
  have := y9 (a := 1) (s := n) (by omega) (by omega)
  rwa [Nat.one_mul] at this
 refine ⟨h', ov', uM (fn := AP.f35) (e := [(4, .int .i64 0)]) (vs := [.int .i64 0]) rfl rfl rfl ?_ rfl, r2, ⟨by rw [r3.floor, eg]; simp, by have := r3.next; rw [eg] at this; simp at this; omega, fun i h1 h2 h3 => by rw [r3.xX i (by rw [eg]; simp; omega) h2 h3, frA i h1], fun j hj => by
  rcases r3.ids j hj with q | q
  · exact .inl q
  · rw [eg] at q; simp at q; exact .inr (by omega)⟩⟩
 generalize 2 ^ n = N at *
 simp (disch := omega) only [go_sem, wy, wz, Nat.reduceEqDiff, reduceIte, Nat.reduceAdd, Nat.reduceMul, Nat.reduceLT, Nat.reduceLeDiff, Int.reduceBEq, Int.reduceBNe, Int.reduceLT, Int.reduceLE, Int.reduceEq, wI, cf.aP, cf.aJ, Int.reduceAdd, Int.reduceSub, Int.reduceMul, Int.reduceNeg, Int.reduceToNat, AP.f35, th, ← eg, r1, gw, gc, s1]
theorem GM {h : H} {w : Nat} {bs : List Nat} {ov : AV} (wr : Wr h w bs ov) : aS AP.A 37 [.aE w 0] h = some (.str (bytesOf (xm bs)), h) := by
 have gw := wr.get
 have b := GU wr.own
 refine uM (fn := AP.f37) (e := [(2, .str (bytesOf (xm bs)))]) (vs := [.str (bytesOf (xm bs))]) rfl rfl rfl ?_ rfl
 simp (disch := omega) only [go_sem, wy, wz, Nat.reduceEqDiff, reduceIte, Nat.reduceAdd, Nat.reduceMul, Nat.reduceLT, Nat.reduceLeDiff, Int.reduceBEq, Int.reduceBNe, Int.reduceLT, Int.reduceLE, Int.reduceEq, wI, cf.aP, cf.aJ, Int.reduceAdd, Int.reduceSub, Int.reduceMul, Int.reduceNeg, Int.reduceToNat, AP.f37, gw, b]
def wU (o : Option (Nat × Nat)) : Nat := (o.getD (0, 0)).1
def xZ (o : Option (Nat × Nat)) : Nat := (o.getD (0, 0)).2
def Bt (f : Nat → Option (Nat × Nat)) (k : Nat) : Nat → Nat
 | 0 => 0
 | s + 1 => if wU (f (s + 1)) ≤ k then s + 1 else Bt f k s
def xL (k : Nat) : Nat := Bt lenOf k 285
def zZ (k : Nat) : Nat := xZ (lenOf (xL k))
def AF (k : Nat) : Nat := k - wU (lenOf (xL k))
def ya (k : Nat) : Nat := Bt wR k 29
def zV (k : Nat) : Nat := xZ (wR (ya k))
def AE (k : Nat) : Nat := k - wU (wR (ya k))
theorem BQ {s : Nat} (h1 : 257 ≤ s) (h2 : s ≤ 285) : ∃ a b, lenOf s = some (a, b) := by
 unfold lenOf; rw [if_neg (by omega)]; split; exact ⟨_, _, rfl⟩; split <;> exact ⟨_, _, rfl⟩
theorem AL {s : Nat} (h2 : s ≤ 29) : ∃ a b, wR s = some (a, b) := by
 unfold wR; rw [if_neg (by omega)]; split <;> exact ⟨_, _, rfl⟩
theorem Jm : ∀ s, 257 ≤ s → s < 285 → wU (lenOf (s + 1)) ≤ wU (lenOf s) + 2 ^ xZ (lenOf s) := by
 intro s h1 h2
 have : ∀ s < 285, 257 ≤ s → wU (lenOf (s + 1)) ≤ wU (lenOf s) + 2 ^ xZ (lenOf s) := by decide +kernel
 exact this s h2 h1
theorem Hk : ∀ s, s < 29 → wU (wR (s + 1)) ≤ wU (wR s) + 2 ^ xZ (wR s) := by decide +kernel
theorem z9 {k : Nat} (h1 : 3 ≤ k) (h2 : k ≤ 258) : 257 ≤ xL k ∧ xL k ≤ 285 ∧ wU (lenOf (xL k)) ≤ k ∧ k < wU (lenOf (xL k)) + 2 ^ xZ (lenOf (xL k)) := by
 have key : ∀ n s, s = 257 + n → s ≤ 285 → (s = 285 ∨ k < wU (lenOf (s + 1))) → 257 ≤ Bt lenOf k s ∧ Bt lenOf k s ≤ 285 ∧ wU (lenOf (Bt lenOf k s)) ≤ k ∧ k < wU (lenOf (Bt lenOf k s)) + 2 ^ xZ (lenOf (Bt lenOf k s)) := by
  intro n
  induction n with
  | zero =>
    intro s hs h hk
    obtain rfl : s = 257 := hs
    have e : Bt lenOf k 257 = 257 := by rw [Bt, if_pos (show wU (lenOf (256 + 1)) ≤ k from h1)]
    have g := Jm 257 (by omega) (by omega)
    rw [e]
    refine ⟨by omega, by omega, h1, ?_⟩
    rcases hk with q | q
    · omega
    · omega
  | succ n ih =>
    intro s hs h hk
    obtain ⟨s, rfl⟩ : ∃ t, s = t + 1 := ⟨s - 1, by omega⟩
    by_cases c : wU (lenOf (s + 1)) ≤ k
    · rw [Bt, if_pos c]
      refine ⟨by omega, by omega, c, ?_⟩
      rcases hk with q | q
      · obtain rfl : s = 284 := by omega
        have : wU (lenOf (284 + 1)) = 258 := rfl
        have : 0 < 2 ^ xZ (lenOf (284 + 1)) := Nat.pow_pos (by omega)
        omega
      · by_cases c2 : s + 1 = 285
        · obtain rfl : s = 284 := by omega
          have : wU (lenOf (284 + 1)) = 258 := rfl
          have : 0 < 2 ^ xZ (lenOf (284 + 1)) := Nat.pow_pos (by omega)
          omega
        · have := Jm (s + 1) (by omega) (by omega); omega
    · rw [Bt, if_neg c]
      exact ih s (by omega) (by omega) (.inr (by omega))
 exact key 28 285 (by omega) (by omega) (.inl rfl)
theorem zW {k : Nat} (h1 : 1 ≤ k) (h2 : k ≤ 32768) : ya k ≤ 29 ∧ wU (wR (ya k)) ≤ k ∧ k < wU (wR (ya k)) + 2 ^ xZ (wR (ya k)) := by
 have l0 : wU (wR 0) = 1 := rfl
 have key : ∀ s, s ≤ 29 → (s = 29 ∨ k < wU (wR (s + 1))) → Bt wR k s ≤ 29 ∧ wU (wR (Bt wR k s)) ≤ k ∧ k < wU (wR (Bt wR k s)) + 2 ^ xZ (wR (Bt wR k s)) := by
  intro s
  induction s with
  | zero =>
    intro h hk
    rw [Bt]
    have g := Hk 0 (by omega)
    refine ⟨by omega, by omega, ?_⟩
    rcases hk with q | q <;> omega
  | succ s ih =>
    intro h hk
    by_cases c : wU (wR (s + 1)) ≤ k
    · rw [Bt, if_pos c]
      refine ⟨by omega, c, ?_⟩
      by_cases c2 : s + 1 = 29
      · obtain rfl : s = 28 := by omega
        have a1 : wU (wR (28 + 1)) = 24577 := rfl
        have a2 : 2 ^ xZ (wR (28 + 1)) = 8192 := rfl
        omega
      · have := Hk (s + 1) (by omega)
        rcases hk with q | q <;> omega
    · rw [Bt, if_neg c]
      exact ih (by omega) (.inr (by omega))
 exact key 29 (by omega) (.inl rfl)
theorem J5 (k : Nat) (h1 : 3 ≤ k) (h2 : k ≤ 258) (g : H) (id : Nat) (hf : g.floor ≤ id) (hfl : g.floor ≤ g.next) (hg : g.get id = some [.int .i64 0, .int .i64 0, .int .i64 0]) : ∀ n s : Nat, s = 257 + n → s ≤ 285 →
 Lp AP.A [0, 2, 4] AP.f28L0 [(0, .int .i64 k), (2, .aE id 0), (4, .int .i64 s)] g = some (.ret, [(2, .aE id 0), (3, .int .i64 0)], g.set id [.int .i64 (Bt lenOf k s : Nat), .int .i64 (xZ (lenOf (Bt lenOf k s)) : Nat), .int .i64 ((k - wU (lenOf (Bt lenOf k s)) : Nat) : Int)]) := by
 intro n
 induction n with
 | zero =>
   intro s hs h
   obtain rfl : s = 257 := hs
   have e : Bt lenOf k 257 = 257 := by rw [Bt, if_pos (show wU (lenOf (256 + 1)) ≤ k from h1)]
   have l1 : wU (lenOf 257) = 3 := rfl
   have b1 : xZ (lenOf 257) = 0 := rfl
   have kk : aS AP.A 50 [.int .i64 257] g = _ := HA g 257 (by omega)
   have tt : CM (lenOf 257) = .bU [.int .i64 3, .int .i64 0, .int .i64 0] := rfl
   rw [tt] at kk
   rw [e, l1, b1]
   have n1 : ((k - 3 : Nat) : Int) = (k : Int) - 3 := by omega
   rw [n1]
   refine uT ?_
   simp (disch := first | omega | (simp only [yx, UO, UR, vW, Nat.reduceAdd]; first | done | omega | fail) | (simp (disch := first | omega | (simp only [yx, UO, UR, vW, Nat.reduceAdd]; first | done | omega | fail) | fail) only [yx, ER, US, UO, UR, vW, Nat.reduceAdd]; done) | fail) only [go_sem, wy, wz, Nat.reduceEqDiff, reduceIte, Nat.reduceAdd, Nat.reduceMul, Nat.reduceLT, Nat.reduceLeDiff, Int.reduceBEq, Int.reduceBNe, Int.reduceLT, Int.reduceLE, Int.reduceEq, wI, FJ, cf.aP, cf.aJ, Int.reduceAdd, Int.reduceSub, Int.reduceMul, Int.reduceNeg, Int.reduceToNat, AP.f28L0, kk, hg]
 | succ n ih =>
   intro s hs h
   obtain ⟨s, rfl⟩ : ∃ t, s = t + 1 := ⟨s - 1, by omega⟩
   obtain ⟨a, b, hab⟩ := BQ (s := s + 1) (by omega) h
   have kk := HA g (s + 1) (by omega)
   rw [hab] at kk
   simp only [I, CM] at kk
   have la : wU (lenOf (s + 1)) = a := by rw [hab]; rfl
   have lb : xZ (lenOf (s + 1)) = b := by rw [hab]; rfl
   have bd := Ee hab
   by_cases c1 : a ≤ k
   · rw [Bt, la, if_pos c1, la, lb]
     have n1 : ((k - a : Nat) : Int) = (k : Int) - (a : Int) := by omega
     rw [n1]
     refine uT ?_
     simp (disch := first | omega | (simp only [yx, UO, UR, vW, Nat.reduceAdd]; first | done | omega | fail) | (simp (disch := first | omega | (simp only [yx, UO, UR, vW, Nat.reduceAdd]; first | done | omega | fail) | fail) only [yx, ER, US, UO, UR, vW, Nat.reduceAdd]; done) | fail) only [go_sem, wy, wz, Nat.reduceEqDiff, reduceIte, Nat.reduceAdd, Nat.reduceMul, Nat.reduceLT, Nat.reduceLeDiff, Int.reduceBEq, Int.reduceBNe, Int.reduceLT, Int.reduceLE, Int.reduceEq, wI, FJ, cf.aP, cf.aJ, Int.reduceAdd, Int.reduceSub, Int.reduceMul, Int.reduceNeg, Int.reduceToNat, AP.f28L0, kk, hg]
   · rw [Bt, la, if_neg c1]
     have r1 := ih s (by omega) (by omega)
     have n1 : ((s + 1 : Nat) : Int) - 1 = (s : Int) := by omega
     refine uy (e' := [(0, .int .i64 k), (2, .aE id 0), (4, .int .i64 s)]) ?_ r1
     simp (disch := first | omega | (simp only [yx, UO, UR, vW, Nat.reduceAdd]; first | done | omega | fail) | (simp (disch := first | omega | (simp only [yx, UO, UR, vW, Nat.reduceAdd]; first | done | omega | fail) | fail) only [yx, ER, US, UO, UR, vW, Nat.reduceAdd]; done) | fail) only [go_sem, wy, wz, Nat.reduceEqDiff, reduceIte, Nat.reduceAdd, Nat.reduceMul, Nat.reduceLT, Nat.reduceLeDiff, Int.reduceBEq, Int.reduceBNe, Int.reduceLT, Int.reduceLE, Int.reduceEq, wI, FJ, cf.aP, cf.aJ, Int.reduceAdd, Int.reduceSub, Int.reduceMul, Int.reduceNeg, Int.reduceToNat, AP.f28L0, kk, n1]
theorem HB (h : H) (k : Nat) (h1 : 3 ≤ k) (h2 : k ≤ 258) : aS AP.A 28 [.int .i64 k] h = some (.bU [.agg [.int .i64 (xL k : Nat), .int .i64 (zZ k : Nat), .int .i64 (AF k : Nat)], .int .i64 0], h) := by
 have r1 := J5 k h1 h2 (h.ez.alloc [.int .i64 0, .int .i64 0, .int .i64 0]) h.next (by simp) (by simp) (by rw [wO (by simp)]) 28 285 (by omega) (by omega)
 have r1' : Lp AP.A [0, 2, 4] AP.f28L0 [(0, .int .i64 k), (2, .aE h.next 0), (4, .int .i64 285)] (h.ez.alloc [.int .i64 0, .int .i64 0, .int .i64 0]) = some (.ret, [(2, .aE h.next 0), (3, .int .i64 0)], (h.ez.alloc [.int .i64 0, .int .i64 0, .int .i64 0]).set h.next [.int .i64 (xL k : Nat), .int .i64 (zZ k : Nat), .int .i64 (AF k : Nat)]) := r1
 clear r1
 generalize xL k = S at *
 generalize zZ k = B at *
 generalize AF k = V at *
 refine u7 (fn := AP.f28) (h2 := (h.ez.alloc [.int .i64 0, .int .i64 0, .int .i64 0]).set h.next [.int .i64 S, .int .i64 B, .int .i64 V]) (e := [(2, .aE h.next 0), (3, .int .i64 0)]) (vs := [.agg [.int .i64 S, .int .i64 B, .int .i64 V], .int .i64 0]) rfl rfl rfl ?_ ?_ ?_
 · simp (disch := first | omega | (simp only [yx, UO, UR, vW, Nat.reduceAdd]; first | done | omega | fail) | (simp (disch := first | omega | (simp only [yx, UO, UR, vW, Nat.reduceAdd]; first | done | omega | fail) | fail) only [yx, ER, US, UO, UR, vW, Nat.reduceAdd]; done) | fail) only [go_sem, wy, wz, Nat.reduceEqDiff, reduceIte, Nat.reduceAdd, Nat.reduceMul, Nat.reduceLT, Nat.reduceLeDiff, Int.reduceBEq, Int.reduceBNe, Int.reduceLT, Int.reduceLE, Int.reduceEq, wI, FJ, cf.aP, cf.aJ, Int.reduceAdd, Int.reduceSub, Int.reduceMul, Int.reduceNeg, Int.reduceToNat, AP.f28, th, r1']
 · simp (disch := first | omega | (simp only [yx, UO, UR, vW, Nat.reduceAdd]; first | done | omega | fail) | (simp (disch := first | omega | (simp only [yx, UO, UR, vW, Nat.reduceAdd]; first | done | omega | fail) | fail) only [yx, ER, US, UO, UR, vW, Nat.reduceAdd]; done) | fail) only [go_sem, wy, wz, Nat.reduceEqDiff, reduceIte, Nat.reduceAdd, Nat.reduceMul, Nat.reduceLT, Nat.reduceLeDiff, Int.reduceBEq, Int.reduceBNe, Int.reduceLT, Int.reduceLE, Int.reduceEq, wI, FJ, cf.aP, cf.aJ, Int.reduceAdd, Int.reduceSub, Int.reduceMul, Int.reduceNeg, Int.reduceToNat, AP.f28, cO, od]; rfl
 · rfl
theorem Iw (k : Nat) (h1 : 1 ≤ k) (h2 : k ≤ 32768) (g : H) (id : Nat) (hf : g.floor ≤ id) (hfl : g.floor ≤ g.next) (hg : g.get id = some [.int .i64 0, .int .i64 0, .int .i64 0]) : ∀ n s : Nat, s = n → s ≤ 29 →
 Lp AP.A [0, 2, 4] AP.f29L0 [(0, .int .i64 k), (2, .aE id 0), (4, .int .i64 s)] g = some (.ret, [(2, .aE id 0), (3, .int .i64 0)], g.set id [.int .i64 (Bt wR k s : Nat), .int .i64 (xZ (wR (Bt wR k s)) : Nat), .int .i64 ((k - wU (wR (Bt wR k s)) : Nat) : Int)]) := by
 intro n
 induction n with
 | zero =>
   intro s hs h
   obtain rfl : s = 0 := hs
   have e : Bt wR k 0 = 0 := rfl
   have l1 : wU (wR 0) = 1 := rfl
   have b1 : xZ (wR 0) = 0 := rfl
   have kk : aS AP.A 51 [.int .i64 0] g = _ := E8 g 0 (by omega)
   have tt : CM (wR 0) = .bU [.int .i64 1, .int .i64 0, .int .i64 0] := rfl
   rw [tt] at kk
   rw [e, l1, b1]
   have n1 : ((k - 1 : Nat) : Int) = (k : Int) - 1 := by omega
   rw [n1]
   refine uT ?_
   simp (disch := first | omega | (simp only [yx, UO, UR, vW, Nat.reduceAdd]; first | done | omega | fail) | (simp (disch := first | omega | (simp only [yx, UO, UR, vW, Nat.reduceAdd]; first | done | omega | fail) | fail) only [yx, ER, US, UO, UR, vW, Nat.reduceAdd]; done) | fail) only [go_sem, wy, wz, Nat.reduceEqDiff, reduceIte, Nat.reduceAdd, Nat.reduceMul, Nat.reduceLT, Nat.reduceLeDiff, Int.reduceBEq, Int.reduceBNe, Int.reduceLT, Int.reduceLE, Int.reduceEq, wI, FJ, cf.aP, cf.aJ, Int.reduceAdd, Int.reduceSub, Int.reduceMul, Int.reduceNeg, Int.reduceToNat, AP.f29L0, kk, hg]
 | succ n ih =>
   intro s hs h
   obtain ⟨s, rfl⟩ : ∃ t, s = t + 1 := ⟨s - 1, by omega⟩
   obtain ⟨a, b, hab⟩ := AL (s := s + 1) h
   have kk := E8 g (s + 1) (by omega)
   rw [hab] at kk
   simp only [I, CM] at kk
   have la : wU (wR (s + 1)) = a := by rw [hab]; rfl
   have lb : xZ (wR (s + 1)) = b := by rw [hab]; rfl
   have bd := CW hab
   by_cases c1 : a ≤ k
   · rw [Bt, la, if_pos c1, la, lb]
     have n1 : ((k - a : Nat) : Int) = (k : Int) - (a : Int) := by omega
     rw [n1]
     refine uT ?_
     simp (disch := first | omega | (simp only [yx, UO, UR, vW, Nat.reduceAdd]; first | done | omega | fail) | (simp (disch := first | omega | (simp only [yx, UO, UR, vW, Nat.reduceAdd]; first | done | omega | fail) | fail) only [yx, ER, US, UO, UR, vW, Nat.reduceAdd]; done) | fail) only [go_sem, wy, wz, Nat.reduceEqDiff, reduceIte, Nat.reduceAdd, Nat.reduceMul, Nat.reduceLT, Nat.reduceLeDiff, Int.reduceBEq, Int.reduceBNe, Int.reduceLT, Int.reduceLE, Int.reduceEq, wI, FJ, cf.aP, cf.aJ, Int.reduceAdd, Int.reduceSub, Int.reduceMul, Int.reduceNeg, Int.reduceToNat, AP.f29L0, kk, hg]
   · rw [Bt, la, if_neg c1]
     have r1 := ih s (by omega) (by omega)
     have n1 : ((s + 1 : Nat) : Int) - 1 = (s : Int) := by omega
     refine uy (e' := [(0, .int .i64 k), (2, .aE id 0), (4, .int .i64 s)]) ?_ r1
     simp (disch := first | omega | (simp only [yx, UO, UR, vW, Nat.reduceAdd]; first | done | omega | fail) | (simp (disch := first | omega | (simp only [yx, UO, UR, vW, Nat.reduceAdd]; first | done | omega | fail) | fail) only [yx, ER, US, UO, UR, vW, Nat.reduceAdd]; done) | fail) only [go_sem, wy, wz, Nat.reduceEqDiff, reduceIte, Nat.reduceAdd, Nat.reduceMul, Nat.reduceLT, Nat.reduceLeDiff, Int.reduceBEq, Int.reduceBNe, Int.reduceLT, Int.reduceLE, Int.reduceEq, wI, FJ, cf.aP, cf.aJ, Int.reduceAdd, Int.reduceSub, Int.reduceMul, Int.reduceNeg, Int.reduceToNat, AP.f29L0, kk, n1]
theorem KT (h : H) (k : Nat) (h1 : 1 ≤ k) (h2 : k ≤ 32768) : aS AP.A 29 [.int .i64 k] h = some (.bU [.agg [.int .i64 (ya k : Nat), .int .i64 (zV k : Nat), .int .i64 (AE k : Nat)], .int .i64 0], h) := by
 have r1 := Iw k h1 h2 (h.ez.alloc [.int .i64 0, .int .i64 0, .int .i64 0]) h.next (by simp) (by simp) (by rw [wO (by simp)]) 29 29 (by omega) (by omega)
 have r1' : Lp AP.A [0, 2, 4] AP.f29L0 [(0, .int .i64 k), (2, .aE h.next 0), (4, .int .i64 29)] (h.ez.alloc [.int .i64 0, .int .i64 0, .int .i64 0]) = some (.ret, [(2, .aE h.next 0), (3, .int .i64 0)], (h.ez.alloc [.int .i64 0, .int .i64 0, .int .i64 0]).set h.next [.int .i64 (ya k : Nat), .int .i64 (zV k : Nat), .int .i64 (AE k : Nat)]) := r1
 clear r1
 generalize ya k = S at *
 generalize zV k = B at *
 generalize AE k = V at *
 refine u7 (fn := AP.f29) (h2 := (h.ez.alloc [.int .i64 0, .int .i64 0, .int .i64 0]).set h.next [.int .i64 S, .int .i64 B, .int .i64 V]) (e := [(2, .aE h.next 0), (3, .int .i64 0)]) (vs := [.agg [.int .i64 S, .int .i64 B, .int .i64 V], .int .i64 0]) rfl rfl rfl ?_ ?_ ?_
 · simp (disch := first | omega | (simp only [yx, UO, UR, vW, Nat.reduceAdd]; first | done | omega | fail) | (simp (disch := first | omega | (simp only [yx, UO, UR, vW, Nat.reduceAdd]; first | done | omega | fail) | fail) only [yx, ER, US, UO, UR, vW, Nat.reduceAdd]; done) | fail) only [go_sem, wy, wz, Nat.reduceEqDiff, reduceIte, Nat.reduceAdd, Nat.reduceMul, Nat.reduceLT, Nat.reduceLeDiff, Int.reduceBEq, Int.reduceBNe, Int.reduceLT, Int.reduceLE, Int.reduceEq, wI, FJ, cf.aP, cf.aJ, Int.reduceAdd, Int.reduceSub, Int.reduceMul, Int.reduceNeg, Int.reduceToNat, AP.f29, th, r1']
 · simp (disch := first | omega | (simp only [yx, UO, UR, vW, Nat.reduceAdd]; first | done | omega | fail) | (simp (disch := first | omega | (simp only [yx, UO, UR, vW, Nat.reduceAdd]; first | done | omega | fail) | fail) only [yx, ER, US, UO, UR, vW, Nat.reduceAdd]; done) | fail) only [go_sem, wy, wz, Nat.reduceEqDiff, reduceIte, Nat.reduceAdd, Nat.reduceMul, Nat.reduceLT, Nat.reduceLeDiff, Int.reduceBEq, Int.reduceBNe, Int.reduceLT, Int.reduceLE, Int.reduceEq, wI, FJ, cf.aP, cf.aJ, Int.reduceAdd, Int.reduceSub, Int.reduceMul, Int.reduceNeg, Int.reduceToNat, AP.f29, cO, od]; rfl
 · rfl
theorem Qh (h : H) (v : AV) (ts : List Tok) (hn : ts.length < 1000000000) (rd : zE 3 h v ts.length (xu ts)) : aS AP.A 69 [v] h = some (.bool (xa 0 ts), h) := by
 have Es : zE 3 h.ez v ts.length (xu ts) := rd.mono fun i c q => q
 have hfl : h.ez.floor ≤ h.ez.next := by simp
 rcases FT hn h.ez Es ts [] 0 h.ez rfl (by omega) (Ext.refl _) (vR _) hfl with ⟨e', h', r1, r2⟩ | ⟨e', h', r1, r2, r3⟩
 · have r1' : Lp AP.A [0, 3, 4] AP.f69L0 [(0, v), (3, .int .i64 0), (4, .int .i64 0)] h.ez = some (.exit 0, e', h') := r1
   rw [r2]
   refine u7 (fn := AP.f69) (h2 := h') (e := [(2, .bool true)]) rfl rfl rfl ?_ rfl rfl
   simp (disch := omega) only [go_sem, wy, wz, Nat.reduceEqDiff, reduceIte, Nat.reduceAdd, Nat.reduceMul, Nat.reduceLT, Nat.reduceLeDiff, Int.reduceBEq, Int.reduceBNe, Int.reduceLT, Int.reduceLE, Int.reduceEq, wI, cf.aP, cf.aJ, Int.reduceAdd, Int.reduceSub, Int.reduceMul, Int.reduceNeg, Int.reduceToNat, AP.f69, th, r1']
 · have r1' : Lp AP.A [0, 3, 4] AP.f69L0 [(0, v), (3, .int .i64 0), (4, .int .i64 0)] h.ez = some (.ret, e', h') := r1
   rw [r3]
   obtain ⟨e2, he2⟩ : ∃ e2, aM (aS AP.A) bG AP.f69.body (params 0 [v]) h.ez = some (.ret, e2, h') ∧ look e2 2 = .bool false := by
    refine ⟨e', ?_, r2⟩
    simp (disch := omega) only [go_sem, wy, wz, Nat.reduceEqDiff, reduceIte, Nat.reduceAdd, Nat.reduceMul, Nat.reduceLT, Nat.reduceLeDiff, Int.reduceBEq, Int.reduceBNe, Int.reduceLT, Int.reduceLE, Int.reduceEq, wI, cf.aP, cf.aJ, Int.reduceAdd, Int.reduceSub, Int.reduceMul, Int.reduceNeg, Int.reduceToNat, AP.f69, th, r1']
   refine u7 (fn := AP.f69) (h2 := h') (e := e2) (vs := [.bool false]) rfl rfl rfl he2.1 ?_ rfl
   simp only [AP.f69, cO, od, he2.2]; rfl
def Ii (d : Nat) : Nat → List Nat → List Nat
 | 0, o => o
 | n + 1, o => Ii d n (o ++ [o.getD (o.length - d) 0])
theorem DC (d : Nat) : ∀ n o, (Ii d n o).length = o.length + n
 | 0, o => rfl
 | n + 1, o => by rw [Ii, DC d n]; simp; omega
theorem I6 (d : Nat) : ∀ n o, IQ o → IQ (Ii d n o)
 | 0, o, h => h
 | n + 1, o, h => by
   refine I6 d n _ fun x hx => ?_
   rcases Vf.1 hx with q | q
   · exact h x q
   · simp only [List.mem_singleton] at q
     subst q
     rw [UM]
     cases hg : o[o.length - d]? with
     | none => simp
     | some y => exact h y (vV hg)
def xj (o : List Nat) (t : Tok) : List Nat := if t.len = 0 then o ++ [t.lit.toNat] else Ii t.xb.toNat t.len.toNat o
def y8 : List Tok → List Nat → List Nat
 | [], o => o
 | t :: r, o => y8 r (xj o t)
theorem Hc {v : AV} {ts : List Tok} (hn : ts.length < 1000000000) (h0 : H) (rd : zE 3 h0 v ts.length (xu ts)) (i : Nat) (t : Tok) (ht : ts[i]? = some t) (L D : Nat) (hL : t.len = L) (hD : t.xb = D) (hLb : L ≤ 258) (hD1 : 1 ≤ D) : ∀ (m j : Nat) (out : List Nat) (h : H) (ov : AV), j + m = L → D ≤ out.length → out.length + m ≤ 10000 → IQ out → Ext h0 h → h0.next ≤ h.floor → h.floor ≤ h.next → wW 1 h ov out.length (zH out) →
 ∃ h' ov', Lp AP.A [0, 4, 5, 6] AP.f55L0 [(0, v), (4, ov), (5, .int .i64 i), (6, .int .i64 j)] h = some (.exit 2, [(0, v), (4, ov'), (5, .int .i64 i), (6, .int .i64 L), (37, .bool false)], h') ∧ Ext h0 h' ∧ h'.floor = h.floor ∧ h'.floor ≤ h'.next ∧ wW 1 h' ov' (Ii D m out).length (zH (Ii D m out))
 | 0, j, out, h, ov, hj, hDo, hs, hb, hx, hf, hfn, ow => by
   obtain rfl : j = L := by omega
   obtain ⟨ad, a1, a2, a3⟩ := rd.Kk
   have hi : i < ts.length := (vN.1 ht).1
   have hI : (0 : Int) ≤ (i : Int) ∧ (i : Int) < ts.length := ⟨by omega, by omega⟩
   have b1 := a1 _ hI
   have b2 := a2 i 0 1 hI
   obtain ⟨_, b3, _, _⟩ := a3 h hx _ _ ht
   rw [hL] at b3
   clear a1 a2 a3
   refine ⟨h, ov, ux ?_, hx, rfl, hfn, ow⟩
   simp (disch := omega) only [go_sem, wy, wz, Nat.reduceEqDiff, reduceIte, Nat.reduceAdd, Nat.reduceMul, Nat.reduceLT, Nat.reduceLeDiff, Int.reduceBEq, Int.reduceBNe, Int.reduceLT, Int.reduceLE, Int.reduceEq, wI, cf.aP, cf.aJ, Int.reduceAdd, Int.reduceSub, Int.reduceMul, Int.reduceNeg, Int.reduceToNat, AP.f55L0, b1, b2, b3]
 | m + 1, j, out, h, ov, hj, hDo, hs, hb, hx, hf, hfn, ow => by
   obtain ⟨ad, a1, a2, a3⟩ := rd.Kk
   have hi : i < ts.length := (vN.1 ht).1
   have hI : (0 : Int) ≤ (i : Int) ∧ (i : Int) < ts.length := ⟨by omega, by omega⟩
   have b1 := a1 _ hI
   have b2 := a2 i 0 1 hI
   have b2' := a2 i 0 2 hI
   obtain ⟨_, b3, b4, _⟩ := a3 h hx _ _ ht
   rw [hL] at b3
   rw [hD] at b4
   clear a1 a2 a3
   rcases ow.2 with ⟨_, q⟩ | ⟨id, q1, q2, q3, q4⟩
   · omega
   obtain ⟨x, hxx⟩ : ∃ x, out[out.length - D]? = some x := ⟨_, UP (by omega)⟩
   have gx := Qz hxx
   have gd : out.getD (out.length - D) 0 = x := by rw [UM, hxx]; rfl
   obtain ⟨v', h', p1, p2, p3, p4, p5, p6⟩ := ow.push hfn (z := 1) (m := 1) (by omega) (by omega) [.int .u8 x] rfl rfl (yi (by omega))
   have x8 := hb x (vV hxx)
   have hxn : Ext h0 h' := fun k c hk => by
    have := h0.lt _ _ hk
    rw [p5 k (fun e => by rw [q1] at e; have := vG e; omega) (by omega), hx k c hk]
   have ow2 : wW 1 h' v' (out ++ [x]).length (zH (out ++ [x])) := by rw [DP, wo]; exact p2
   obtain ⟨h2, ov', r1, r2, r3, r4, r5⟩ := Hc hn h0 rd i t ht L D hL hD hLb hD1 m (j + 1) (out ++ [x]) h' v' (by omega) (by simp; omega) (by simp; omega) (fun y hy => by
    rcases Vf.1 hy with q | q
    · exact hb y q
    · simp at q; omega) hxn (by omega) (by omega) ow2
   have n1 : ((j + 1 : Nat) : Int) = (j : Int) + 1 := by omega
   have n2 : (out.length : Int) - (D : Int) = ((out.length - D : Nat) : Int) := by omega
   have bl := QA out
   rw [Ii, gd]
   refine ⟨h2, ov', uy ?_ r1, r2, by omega, r4, r5⟩
   rw [n1]
   subst q1
   clear r5 hb x8 ow2 r1 r2 hx hxn
   generalize zH out = BO at *
   simp (disch := omega) only [go_sem, wy, wz, Nat.reduceEqDiff, reduceIte, Nat.reduceAdd, Nat.reduceMul, Nat.reduceLT, Nat.reduceLeDiff, Int.reduceBEq, Int.reduceBNe, Int.reduceLT, Int.reduceLE, Int.reduceEq, wI, cf.aP, cf.aJ, Int.reduceAdd, Int.reduceSub, Int.reduceMul, Int.reduceNeg, Int.reduceToNat, AP.f55L0, b1, b2, b2', b3, b4, n2, q2, gx, bl, p1]
theorem DZ {v : AV} {ts : List Tok} (hn : ts.length < 1000000000) (h0 : H) (rd : zE 3 h0 v ts.length (xu ts)) : ∀ (q p : List Tok) (out : List Nat) (h : H) (ov : AV), ts = p ++ q → xa out.length q = true → out.length ≤ 8192 → IQ out → Ext h0 h → h0.next ≤ h.floor → h.floor ≤ h.next → wW 1 h ov out.length (zH out) →
 ∃ e' h' ov', Lp AP.A [0, 4, 5] AP.f55L1 [(0, v), (4, ov), (5, .int .i64 p.length)] h = some (.exit 0, e', h') ∧ look e' 4 = ov' ∧ h'.floor = h.floor ∧ wW 1 h' ov' (y8 q out).length (zH (y8 q out)) ∧ (y8 q out).length ≤ 8192 ∧ IQ (y8 q out)
 | [], p, out, h, ov, hp, hm, hs, hb, hx, hf, hfn, ow => by
   rw [U7] at hp; subst hp
   have ln := rd.len
   refine ⟨[(0, v), (4, ov), (5, .int .i64 ts.length), (13, .bool false)], h, ov, ux ?_, rfl, rfl, ow, hs, hb⟩
   simp (disch := omega) only [go_sem, wy, wz, Nat.reduceEqDiff, reduceIte, Nat.reduceAdd, Nat.reduceMul, Nat.reduceLT, Nat.reduceLeDiff, Int.reduceBEq, Int.reduceBNe, Int.reduceLT, Int.reduceLE, Int.reduceEq, wI, cf.aP, cf.aJ, Int.reduceAdd, Int.reduceSub, Int.reduceMul, Int.reduceNeg, Int.reduceToNat, AP.f55L1, ln]
 | t :: q, p, out, h, ov, hp, hm, hs, hb, hx, hf, hfn, ow => by
   have ln := rd.len
   have hlen : ts.length = p.length + (q.length + 1) := by rw [hp]; simp
   have ht : ts[p.length]? = some t := by rw [hp]; simp
   obtain ⟨ad, a1, a2, a3⟩ := rd.Kk
   have hI : (0 : Int) ≤ (p.length : Int) ∧ (p.length : Int) < ts.length := ⟨by omega, by omega⟩
   have b1 := a1 _ hI
   have b2 := a2 p.length 0 1 hI
   have b2' := a2 p.length 0 0 hI
   obtain ⟨b3, b4, _, _⟩ := a3 h hx _ _ ht
   rw [xa] at hm
   have pl : p.length < ts.length := by omega
   cases hst : xU out.length t with
   | none => rw [hst] at hm; cases hm
   | some s' =>
     rw [hst] at hm
     simp only at hm
     by_cases k : 8192 < s'
     · rw [if_pos k] at hm; cases hm
     rw [if_neg k] at hm
     unfold xU at hst
     have n1 : (((p ++ [t]).length : Nat) : Int) = (p.length : Int) + 1 := by simp
     by_cases c0 : t.len = 0
     · rw [if_pos c0] at hst
       by_cases c : t.lit < 0 ∨ 255 < t.lit ∨ t.xb ≠ 0
       · rw [if_pos c] at hst; cases hst
       rw [if_neg c] at hst
       obtain rfl := vG hst
       obtain ⟨x, hxl⟩ : ∃ x : Nat, t.lit = x := UT (by omega)
       have es : xj out t = out ++ [x] := by unfold xj; rw [if_pos c0, hxl]; rfl
       have hx8 : x < 256 := by omega
       obtain ⟨v', h', p1, p2, p3, p4, p5, p6⟩ := ow.push hfn (z := 1) (m := 1) (by omega) (by omega) [.int .u8 x] rfl rfl (yi (by omega))
       have hxn : Ext h0 h' := fun k c hk => by
        have := h0.lt _ _ hk
        rw [p5 k (fun e => by have := ow.lt e; omega) (by omega), hx k c hk]
       have ow2 : wW 1 h' v' (out ++ [x]).length (zH (out ++ [x])) := by rw [DP, wo]; exact p2
       have hx3 : Ext h0 h' := hxn
       obtain ⟨b3', b4', _, _⟩ := a3 h' hxn _ _ ht
       rw [hxl] at b3
       rw [c0] at b4 b4'
       have wx := Un (n := x) hx8
       clear a1 a2 a3
       obtain ⟨e', h2, ov', r1, r2, r3, r4, r5, r6⟩ := DZ hn h0 rd q (p ++ [t]) (out ++ [x]) h' v' (by rw [hp]; simp) (by rw [← hm]; simp) (by simp; omega) (fun y hy => by
        rcases Vf.1 hy with q | q
        · exact hb y q
        · simp at q; omega) hxn (by omega) (by omega) ow2
       have L0 : Lp AP.A [0, 4, 5, 6] AP.f55L0 [(0, v), (4, v'), (5, .int .i64 p.length), (6, .int .i64 0)] h' = some (.exit 2, [(0, v), (4, v'), (5, .int .i64 p.length), (6, .int .i64 0), (37, .bool false)], h') := by
        refine ux ?_
        simp (disch := omega) only [go_sem, wy, wz, Nat.reduceEqDiff, reduceIte, Nat.reduceAdd, Nat.reduceMul, Nat.reduceLT, Nat.reduceLeDiff, Int.reduceBEq, Int.reduceBNe, Int.reduceLT, Int.reduceLE, Int.reduceEq, wI, cf.aP, cf.aJ, Int.reduceAdd, Int.reduceSub, Int.reduceMul, Int.reduceNeg, Int.reduceToNat, AP.f55L0, b1, b2, b4']
       rw [y8, es]
       refine ⟨e', h2, ov', uy ?_ r1, r2, by omega, r4, r5, r6⟩
       rw [n1]
       clear r1 r2 r4 r5 r6 hm hp hx hxn hx3 hb hst c
       simp (disch := omega) only [go_sem, wy, wz, Nat.reduceEqDiff, reduceIte, Nat.reduceAdd, Nat.reduceMul, Nat.reduceLT, Nat.reduceLeDiff, Int.reduceBEq, Int.reduceBNe, Int.reduceLT, Int.reduceLE, Int.reduceEq, wI, cf.aP, cf.aJ, Int.reduceAdd, Int.reduceSub, Int.reduceMul, Int.reduceNeg, Int.reduceToNat, AP.f55L1, ln, b1, b2, b2', b3, b4, wx, p1, th, L0]
     · rw [if_neg c0] at hst
       by_cases c : t.len < 3 ∨ 258 < t.len ∨ t.xb < 1 ∨ 32768 < t.xb ∨ (out.length : Int) < t.xb ∨ t.lit ≠ 0
       · rw [if_pos c] at hst; cases hst
       rw [if_neg c] at hst
       obtain rfl := vG hst
       obtain ⟨L, hL⟩ : ∃ x : Nat, t.len = x := UT (by omega)
       obtain ⟨D, hD⟩ : ∃ x : Nat, t.xb = x := UT (by omega)
       have es : xj out t = Ii D L out := by unfold xj; rw [if_neg c0, hL, hD]; rfl
       have cl := DC D L out
       have cb := I6 D L out hb
       obtain ⟨h', v', L0, s1, s2, s3, s4⟩ := Hc hn h0 rd p.length t ht L D hL hD (by omega) (by omega) L 0 out h ov (by omega) (by omega) (by omega) hb hx hf hfn ow
       have L0' : Lp AP.A [0, 4, 5, 6] AP.f55L0 [(0, v), (4, ov), (5, .int .i64 p.length), (6, .int .i64 0)] h = _ := L0
       obtain ⟨e', h2, ov', r1, r2, r3, r4, r5, r6⟩ := DZ hn h0 rd q (p ++ [t]) (Ii D L out) h' v' (by rw [hp]; simp) (by rw [← hm, cl, hL]; simp) (by omega) cb s1 (by omega) s3 s4
       rw [y8, es]
       refine ⟨e', h2, ov', uy ?_ r1, r2, by omega, r4, r5, r6⟩
       rw [n1]
       have c0' : ¬ (L : Int) = 0 := by omega
       rw [hL] at b4
       clear r1 r2 r4 r5 r6 hm hp hx hb hst c c0 L0 s4 cb es a1 a2 a3
       simp (disch := omega) only [go_sem, wy, wz, Nat.reduceEqDiff, reduceIte, Nat.reduceAdd, Nat.reduceMul, Nat.reduceLT, Nat.reduceLeDiff, Int.reduceBEq, Int.reduceBNe, Int.reduceLT, Int.reduceLE, Int.reduceEq, wI, cf.aP, cf.aJ, Int.reduceAdd, Int.reduceSub, Int.reduceMul, Int.reduceNeg, Int.reduceToNat, AP.f55L1, ln, b1, b2, b2', b4, th, L0', c0']
def AZ (ts : List Tok) : Option ByteArray := if xa 0 ts = true then some (bytesOf (y8 ts [])) else none
def OT : Option ByteArray → AV
 | some t => .bU [.str t, .int .i64 0]
 | none => .bU [.str ⟨#[]⟩, .int .i64 500]
theorem KW (h : H) (v : AV) (ts : List Tok) (hn : ts.length < 1000000000) (rd : zE 3 h v ts.length (xu ts)) : aS AP.A 55 [v] h = some (OT (AZ ts), h) ∧ ∀ t, AZ ts = some t → t.size ≤ 8192 := by
 have k1 : ∀ g : H, g = h.ez → aS AP.A 69 [v] g = some (.bool (xa 0 ts), g) := fun g e => by subst e; exact Qh h.ez v ts hn (rd.mono fun i c q => q)
 unfold AZ
 by_cases hm : xa 0 ts = true
 · rw [if_pos hm]
   have Es : zE 3 h.ez v ts.length (xu ts) := rd.mono fun i c q => q
   obtain ⟨e', h', ov', r1, r2, r3, r4, r5, r6⟩ := DZ hn h.ez Es ts [] [] h.ez .aQ rfl hm (by simp) (fun _ h => by simp at h) (Ext.refl _) (by simp) (by simp) wW.nil
   have r1' : Lp AP.A [0, 4, 5] AP.f55L1 [(0, v), (4, .aQ), (5, .int .i64 0)] h.ez = some (.exit 0, e', h') := r1
   have b := GU r4
   have k := k1 _ rfl
   rw [hm] at k
   refine ⟨?_, fun t ht => ?_⟩
   · generalize bytesOf (y8 ts []) = B at *
     refine u7 (fn := AP.f55) (h2 := h') (e := [(2, .str B), (3, .int .i64 0)]) rfl rfl rfl ?_ rfl rfl
     clear r1 r4 r5 r6 Es rd k1
     simp (disch := omega) only [go_sem, wy, wz, Nat.reduceEqDiff, reduceIte, Nat.reduceAdd, Nat.reduceMul, Nat.reduceLT, Nat.reduceLeDiff, Int.reduceBEq, Int.reduceBNe, Int.reduceLT, Int.reduceLE, Int.reduceEq, wI, cf.aP, cf.aJ, Int.reduceAdd, Int.reduceSub, Int.reduceMul, Int.reduceNeg, Int.reduceToNat, AP.f55, k, th, r1', r2, b]
   · obtain rfl := vG ht
     rw [xD]; omega
 · rw [if_neg hm]
   have k := k1 _ rfl
   rw [Bool.eq_false_iff.2 hm] at k
   refine ⟨?_, fun t ht => by cases ht⟩
   refine u7 (fn := AP.f55) (h2 := h.ez) (e := [(2, .str ⟨#[]⟩), (3, .int .i64 500)]) rfl rfl rfl ?_ rfl rfl
   clear rd k1
   simp (disch := omega) only [go_sem, wy, wz, Nat.reduceEqDiff, reduceIte, Nat.reduceAdd, Nat.reduceMul, Nat.reduceLT, Nat.reduceLeDiff, Int.reduceBEq, Int.reduceBNe, Int.reduceLT, Int.reduceLE, Int.reduceEq, wI, cf.aP, cf.aJ, Int.reduceAdd, Int.reduceSub, Int.reduceMul, Int.reduceNeg, Int.reduceToNat, AP.f55, k]
def JZ (ts : List Tok) : Bool := match AZ ts with
 | some t => decide (t.size ≤ 300)
 | none => false
theorem Nt (h : H) (v : AV) (ts : List Tok) (hn : ts.length < 1000000000) (rd : zE 3 h v ts.length (xu ts)) : aS AP.A 27 [v] h = some (.bool (JZ ts), h) := by
 obtain ⟨k, kl⟩ := KW h.ez v ts hn (rd.mono fun i c q => q)
 unfold JZ
 cases he : AZ ts with
 | none =>
   rw [he] at k
   simp only [OT] at k
   refine u7 (fn := AP.f27) (h2 := h.ez) (e := [(2, .bool false)]) rfl rfl rfl ?_ rfl rfl
   clear rd kl
   simp (disch := omega) only [go_sem, wy, wz, Nat.reduceEqDiff, reduceIte, Nat.reduceAdd, Nat.reduceMul, Nat.reduceLT, Nat.reduceLeDiff, Int.reduceBEq, Int.reduceBNe, Int.reduceLT, Int.reduceLE, Int.reduceEq, wI, cf.aP, cf.aJ, Int.reduceAdd, Int.reduceSub, Int.reduceMul, Int.reduceNeg, Int.reduceToNat, AP.f27, k]
 | some t =>
   rw [he] at k
   have := kl t he
   simp only [OT] at k
   refine u7 (fn := AP.f27) (h2 := h.ez) (e := [(2, .bool (decide (t.size ≤ 300)))]) rfl rfl rfl ?_ rfl rfl
   clear rd kl
   by_cases c : t.size ≤ 300
   · simp (disch := omega) only [go_sem, wy, wz, Nat.reduceEqDiff, reduceIte, Nat.reduceAdd, Nat.reduceMul, Nat.reduceLT, Nat.reduceLeDiff, Int.reduceBEq, Int.reduceBNe, Int.reduceLT, Int.reduceLE, Int.reduceEq, wI, cf.aP, cf.aJ, Int.reduceAdd, Int.reduceSub, Int.reduceMul, Int.reduceNeg, Int.reduceToNat, AP.f27, k, UQ c]
   · simp (disch := omega) only [go_sem, wy, wz, Nat.reduceEqDiff, reduceIte, Nat.reduceAdd, Nat.reduceMul, Nat.reduceLT, Nat.reduceLeDiff, Int.reduceBEq, Int.reduceBNe, Int.reduceLT, Int.reduceLE, Int.reduceEq, wI, cf.aP, cf.aJ, Int.reduceAdd, Int.reduceSub, Int.reduceMul, Int.reduceNeg, Int.reduceToNat, AP.f27, k, UN c]
end Ab
