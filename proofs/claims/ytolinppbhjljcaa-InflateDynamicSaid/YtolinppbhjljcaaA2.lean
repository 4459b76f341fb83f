/- Part A2. -/
import Derived.ProofKit
import Derived.SizedLaws
import Derived.Carry
import Derived.ChangeArms
import Derived.Attr
import Derived.Test.YtolinppbhjljcaaA1
set_option linter.unusedSimpArgs false
set_option linter.unusedVariables false
namespace Ab
open Go RowKit
structure Z where
  i : Nat
  x : AOper
  m : Nat
def edges (o : Oper) : List Nat := (o.after.toList.filter (Region.binds .any)).map (·.on)
def lookZ : List Z → Nat → Option Nat
  | [], _ => none
  | z :: r, e => if z.i = e then some z.m else lookZ r e
def maskOf (acc : List Z) : List Nat → Option Nat
  | [] => some 0
  | e :: r => (lookZ acc e).bind fun m => (maskOf acc r).bind fun m' => some ((m ||| 2 ^ e) ||| m')
def mkZ (L : Lk) (nt : Nat) (ops : Array Oper) : List Nat → List Z → Option (List Z)
  | [], _ => some []
  | i :: r, acc => (ops[i]?).bind fun o => (compOper L nt ops o).bind fun x => (maskOf acc (edges o)).bind fun m => (mkZ L nt ops r (⟨i, x, m⟩ :: acc)).bind fun zs => some (⟨i, x, m⟩ :: zs)
def flOf : List (Nat × List Nat) → Nat → List Nat
  | [], _ => []
  | (q, ks) :: r, p => if q = p then ks else flOf r p
def pairOk (fl : List Nat) (z y : Z) : Bool :=
  decide (z.i ≠ y.i) && ((match z.x.dst with | none => true | some d => decide (y.x.dst ≠ some d) && (!(y.x.tm.contains d) || y.m.testBit z.i)) &&
  ((match y.x.dst with | none => true | some d => !(z.x.tm.contains d) || (y.m.testBit z.i && fl.isEmpty)) && (!(z.x.op.loud && y.x.op.loud) || y.m.testBit z.i)))
def stageOk (z : Z) (j : Nat) : Nat → List Z → Bool
  | _, [] => true
  | q, y :: r => if y.x.op.loud = true then ((!(z.m.testBit y.i) || decide (q < j)) && (!(y.m.testBit z.i) || decide (j ≤ q))) && stageOk z j (q + 1) r else stageOk z j q r
def oneOk (zs : List Z) (fl : List Nat) (own n : Nat) (z : Z) : Bool :=
  ((match z.x.dst with | none => !z.x.op.births && fl.isEmpty | some d => !(z.x.tm.contains d) || fl.isEmpty)) &&
  (!(z.x.op.births || z.x.op.reads) || (List.range (n + 1)).all fun j => j == own || !stageOk z j 0 zs || fl.contains j)
def zsOk (all : List Z) (fl : List (Nat × List Nat)) (n : Nat) : Nat → Nat → List Z → Bool
  | _, _, [] => true
  | p, own, z :: r => oneOk all (flOf fl p) own n z && (r.all (pairOk (flOf fl p) z) && zsOk all fl n (p + 1) (if z.x.op.loud = true then own + 1 else own) r)
def compD (L : Lk) (nt : Nat) (ops : Array Oper) (ord : List Nat) (fl : List (Nat × List Nat)) : Option (List AOper) :=
  (mkZ L nt ops ord []).bind fun zs =>
  if ord.length = ops.size ∧ (List.range ops.size).all (ord.contains ·) = true ∧ zsOk zs fl (nl (zs.map (·.x))) 0 0 zs = true then some (zs.map (·.x)) else none
theorem mkZ_spec {L : Lk} {nt : Nat} {ops : Array Oper} : ∀ {ord : List Nat} {acc zs : List Z}, mkZ L nt ops ord acc = some zs → zs.map (·.i) = ord ∧ ∀ z ∈ zs, ∃ o, ops[z.i]? = some o ∧ compOper L nt ops o = some z.x
  | [], _, _, h => by obtain rfl := Option.some.inj h; exact ⟨rfl, fun z hz => by simp at hz⟩
  | i :: r, acc, zs, h => by
    simp only [mkZ, Option.bind_eq_some_iff] at h
    obtain ⟨o, h1, x, h2, m, h3, zs', h4, h5⟩ := h
    obtain rfl := Option.some.inj h5
    obtain ⟨g1, g2⟩ := mkZ_spec h4
    refine ⟨by simp [g1], fun z hz => ?_⟩
    rcases List.mem_cons.1 hz with rfl | hz
    · exact ⟨o, h1, h2⟩
    · exact g2 z hz
theorem lookZ_mem : ∀ {acc : List Z} {e m : Nat}, lookZ acc e = some m → ∃ z ∈ acc, z.i = e ∧ z.m = m
  | [], _, _, h => by cases h
  | z :: r, e, m, h => by
    unfold lookZ at h
    split at h
    · rename_i q; exact ⟨z, by simp, q, Option.some.inj h⟩
    · obtain ⟨y, hy, q⟩ := lookZ_mem h; exact ⟨y, by simp [hy], q⟩
theorem maskOf_spec {acc : List Z} : ∀ {es : List Nat} {m : Nat}, maskOf acc es = some m → (∀ e ∈ es, ∃ z ∈ acc, z.i = e) ∧ ∀ k, m.testBit k = true → ∃ e ∈ es, k = e ∨ ∃ z ∈ acc, z.i = e ∧ z.m.testBit k = true
  | [], m, h => by obtain rfl := Option.some.inj h; exact ⟨fun e he => by simp at he, fun k hk => by simp at hk⟩
  | e :: es, m, h => by
    simp only [maskOf, Option.bind_eq_some_iff] at h
    obtain ⟨m1, h1, m2, h2, h3⟩ := h
    obtain rfl := Option.some.inj h3
    obtain ⟨g1, g2⟩ := maskOf_spec h2
    obtain ⟨z, hz, hz1, hz2⟩ := lookZ_mem h1
    refine ⟨fun e' he => ?_, fun k hk => ?_⟩
    · rcases List.mem_cons.1 he with rfl | he
      · exact ⟨z, hz, hz1⟩
      · exact g1 e' he
    · rw [Nat.testBit_or, Nat.testBit_or, Bool.or_eq_true, Bool.or_eq_true] at hk
      rcases hk with (hk | hk) | hk
      · exact ⟨e, List.mem_cons_self, .inr ⟨z, hz, hz1, hz2.symm ▸ hk⟩⟩
      · rw [Nat.testBit_two_pow] at hk
        exact ⟨e, List.mem_cons_self, .inl (of_decide_eq_true hk).symm⟩
      · obtain ⟨e', he', q⟩ := g2 k hk
        exact ⟨e', by simp [he'], q⟩
def Cl (ops : Array Oper) (done : Nat → Prop) : Prop := ∀ i o, ops[i]? = some o → done i → ∀ e ∈ edges o, done e
theorem mkZ_closed {L : Lk} {nt : Nat} {ops : Array Oper} {done : Nat → Prop} (hcl : Cl ops done) : ∀ {ord : List Nat} {acc zs : List Z}, mkZ L nt ops ord acc = some zs →
    (∀ z ∈ acc, done z.i → ∀ k, z.m.testBit k = true → done k) → ∀ z ∈ zs, done z.i → ∀ k, z.m.testBit k = true → done k
  | [], _, _, h, _ => by obtain rfl := Option.some.inj h; intro z hz; simp at hz
  | i :: r, acc, zs, h, ha => by
    simp only [mkZ, Option.bind_eq_some_iff] at h
    obtain ⟨o, h1, x, h2, m, h3, zs', h4, h5⟩ := h
    obtain rfl := Option.some.inj h5
    have hz : ∀ z ∈ ((⟨i, x, m⟩ : Z) :: acc), done z.i → ∀ k, z.m.testBit k = true → done k := by
      intro z hz hd k hk
      rcases List.mem_cons.1 hz with rfl | hz
      · obtain ⟨e, he, q⟩ := (maskOf_spec h3).2 k hk
        have hde := hcl i o h1 hd e he
        rcases q with rfl | ⟨y, hy, hy1, hy2⟩
        · exact hde
        · exact ha y hy (hy1 ▸ hde) k hy2
      · exact ha z hz hd k hk
    intro z hzm
    rcases List.mem_cons.1 hzm with rfl | hzm
    · exact hz _ (by simp)
    · exact mkZ_closed hcl h4 hz z hzm
theorem mkZ_ready {L : Lk} {nt : Nat} {ops : Array Oper} {done : Nat → Prop} : ∀ {ord : List Nat} {acc zs : List Z}, mkZ L nt ops ord acc = some zs → (∀ z ∈ acc, done z.i) → (∃ z ∈ zs, ¬ done z.i) → ∃ z ∈ zs, ¬ done z.i ∧ ∃ o, ops[z.i]? = some o ∧ ∀ e ∈ edges o, done e
  | [], _, _, h, _, hx => by obtain rfl := Option.some.inj h; obtain ⟨z, hz, _⟩ := hx; simp at hz
  | i :: r, acc, zs, h, ha, hx => by
    simp only [mkZ, Option.bind_eq_some_iff] at h
    obtain ⟨o, h1, x, h2, m, h3, zs', h4, h5⟩ := h
    obtain rfl := Option.some.inj h5
    by_cases hd : done i
    · obtain ⟨z, hz, hnd⟩ := hx
      have hz' : z ∈ zs' := by
        rcases List.mem_cons.1 hz with rfl | hz
        · exact absurd hd hnd
        · exact hz
      obtain ⟨y, hy, q⟩ := mkZ_ready h4 (fun y hy => by
        rcases List.mem_cons.1 hy with rfl | hy
        · exact hd
        · exact ha y hy) ⟨z, hz', hnd⟩
      exact ⟨y, by simp [hy], q⟩
    · refine ⟨⟨i, x, m⟩, by simp, hd, o, h1, fun e he => ?_⟩
      obtain ⟨z, hz, hze⟩ := (maskOf_spec h3).1 e he
      exact hze ▸ ha z hz
theorem zsOk_spec {all : List Z} {fl : List (Nat × List Nat)} {n : Nat} : ∀ {l : List Z} {p0 own : Nat}, zsOk all fl n p0 own l = true →
    (∀ p z, l[p]? = some z → oneOk all (flOf fl (p0 + p)) (own + nl ((l.take p).map (·.x))) n z = true) ∧ ∀ p q z y, p < q → l[p]? = some z → l[q]? = some y → pairOk (flOf fl (p0 + p)) z y = true
  | [], _, _, _ => ⟨fun p z h => by simp at h, fun p q z y _ h => by simp at h⟩
  | z0 :: l, p0, own, h => by
    simp only [zsOk, Bool.and_eq_true, List.all_eq_true] at h
    obtain ⟨h1, h2, h3⟩ := h
    obtain ⟨g1, g2⟩ := zsOk_spec h3
    refine ⟨fun p z hz => ?_, fun p q z y hpq hz hy => ?_⟩
    · cases p with
      | zero => simp at hz; subst hz; simpa [nl] using h1
      | succ p =>
        have := g1 p z (by simpa using hz)
        rw [show p0 + 1 + p = p0 + (p + 1) by omega] at this
        rw [List.take_succ_cons, List.map_cons, nl]
        cases hl : z0.x.op.loud with
        | true => simp only [hl, if_true] at this ⊢; rw [← Nat.add_assoc own 1]; exact this
        | false => simp only [hl, Bool.false_eq_true, if_false] at this ⊢; rw [Nat.zero_add]; exact this
    · cases q with
      | zero => omega
      | succ q =>
        cases p with
        | zero => simp at hz; subst hz; exact h2 y (List.mem_of_getElem? (by simpa using hy))
        | succ p =>
          have := g2 p q z y (by omega) (by simpa using hz) (by simpa using hy)
          rwa [show p0 + 1 + p = p0 + (p + 1) by omega] at this
theorem stageOk_of {z : Z} {j : Nat} : ∀ {l : List Z} {q : Nat}, (∀ p y, l[p]? = some y → y.x.op.loud = true → (z.m.testBit y.i = true → q + nl ((l.take p).map (·.x)) < j) ∧ (y.m.testBit z.i = true → j ≤ q + nl ((l.take p).map (·.x)))) → stageOk z j q l = true
  | [], _, _ => rfl
  | y :: l, q, h => by
    unfold stageOk
    split
    · rename_i hl
      have h0 := h 0 y rfl hl
      simp only [List.take_zero, List.map_nil, nl, Nat.add_zero] at h0
      rw [Bool.and_eq_true, Bool.and_eq_true, Bool.or_eq_true, Bool.or_eq_true]
      refine ⟨⟨?_, ?_⟩, ?_⟩
      · cases hb : z.m.testBit y.i with
        | false => exact .inl rfl
        | true => exact .inr (decide_eq_true (h0.1 hb))
      · cases hb : y.m.testBit z.i with
        | false => exact .inl rfl
        | true => exact .inr (decide_eq_true (h0.2 hb))
      · exact stageOk_of fun p x hx hxl => by
          have := h (p + 1) x (by simpa using hx) hxl
          rw [List.take_succ_cons, List.map_cons, nl, if_pos hl, ← Nat.add_assoc] at this
          exact this
    · rename_i hl
      exact stageOk_of fun p x hx hxl => by
          have := h (p + 1) x (by simpa using hx) hxl
          rw [List.take_succ_cons, List.map_cons, nl, if_neg hl, Nat.zero_add] at this
          exact this
theorem stables_mem {call : CallT} {ops : List AOper} {e : Env} {gs : List H} : ∀ {fl : List (Nat × List Nat)}, stables call ops e gs fl = true → ∀ p k, k ∈ flOf fl p → stable1 call ops e gs p k = true
  | [], _, p, k, hk => by simp [flOf] at hk
  | (q, ks) :: r, h, p, k, hk => by
    simp only [stables, Bool.and_eq_true, List.all_eq_true] at h
    unfold flOf at hk
    split at hk
    · rename_i e; subst e; exact h.1 k hk
    · exact stables_mem h.2 p k hk
theorem look_append (t : Nat) : ∀ (l : List Nat) (e0 E : Env), look (l.map (fun s => (s, look e0 s)) ++ E) t = if t ∈ l then look e0 t else look E t
  | [], _, _ => by simp
  | s :: l, e0, E => by
    simp only [List.map_cons, List.cons_append, look]
    by_cases hs : s = t
    · subst hs; simp
    · rw [if_neg hs, look_append t l e0 E]
      have : t ∈ s :: l ↔ t ∈ l := by simp [Ne.symm hs]
      by_cases ht : t ∈ l
      · rw [if_pos ht, if_pos (this.2 ht)]
      · rw [if_neg ht, if_neg (fun q => ht (this.1 q))]
def und (zs : List Z) (dn : Nat → Bool) : List Nat := zs.filterMap fun z => if dn z.i then none else z.x.dst
def cut (zs : List Z) (dn : Nat → Bool) (e0 E : Env) : Env := (und zs dn).map (fun s => (s, look e0 s)) ++ E
theorem mem_und {zs : List Z} {dn : Nat → Bool} {t : Nat} : t ∈ und zs dn ↔ ∃ z ∈ zs, dn z.i = false ∧ z.x.dst = some t := by
  unfold und
  rw [List.mem_filterMap]
  constructor
  · rintro ⟨z, hz, h⟩
    split at h
    · cases h
    · rename_i q; exact ⟨z, hz, by simpa using q, h⟩
  · rintro ⟨z, hz, h1, h2⟩
    exact ⟨z, hz, by simp [h1, h2]⟩
end Ab
set_option linter.unusedSimpArgs false
set_option linter.unusedVariables false
namespace Ab
open Go RowKit
section
variable {L : Lk} {w0 : World}
theorem R.gw {ι : Io} {M : Mm} {h G : H} {w : World} (r : R L w0 ι M h w) (k : Gw h G) : R L w0 ι M G w := by
  have g : ∀ id cs l, G.get id = some cs → ι id = some l → h.get id = some cs := fun id cs l a b => by rw [k.get id (r.dom id l b)] at a; exact a
  exact ⟨r.below, fun id l q => Nat.lt_of_lt_of_le (r.dom id l q) k.nx, fun id cs l a b => r.blk id cs l (g _ _ _ a b) b, fun id cs l a b => r.own id cs l (g _ _ _ a b) b, fun id cs l a b => r.val id cs l (g _ _ _ a b) b,
    fun i j cs cs' l l' a b c d => r.disj i j cs cs' l l' (g _ _ _ a c) (g _ _ _ b d) c d, r.imm, fun b o v id cs l m a c => r.immd b o v id cs l m (g _ _ _ a c) c⟩
theorem Gr.gw {h h2 G : H} {ι ι' : Io} {M M' : Mm} (a : Gr h ι M h2 ι' M') (k : Gw h2 G) : Gr h ι M G ι' M' := ⟨Nat.le_trans a.nx k.nx, a.io, a.mm, a.old⟩
theorem oper_cases {ι : Io} {M : Mm} {w : World} {call : CallT} {nt : Nat} {ops : Array Oper} {i : Nat} {o : Oper} {x : AOper} (hi : ops[i]? = some o) (hc : compOper L nt ops o = some x)
    {e : Env} {a : Act} (he : EnvR L ι M e a.tmps) {h h' : H} {v : AV} (hev : evOper call x e h = some (v, h')) {K : Act → World → Prop} {Q : Exit → Act → World → Prop}
    (h1 : cOp L o.op = some x.op → evOp call e h x.op = some (v, h') → o.wp L.P a w K Q) (h2 : v = .tup [] → h' = h → K (a.put o.dst undef) w) : wpOp L.P ops Q i K a w := by
  obtain ⟨hop, hdst, _, hg⟩ := compOper_inv hc
  unfold wpOp
  simp only [hi]
  unfold evOper at hev
  rcases hg with ⟨hg1, hg2⟩ | ⟨j, want, t, hg1, ht, hg2⟩
  · rw [hg2] at hev
    have : Region.wanted o (yielded ops a.tmps) = true := by simp [Region.wanted, hg1]
    rw [if_pos this]
    exact .inl (h1 hop hev)
  · rw [hg2] at hev
    simp only at hev
    split at hev
    · rename_i b hb
      have q1 := he t
      rw [hb] at q1
      have q2 := getD_bool q1.bool_inv
      have hy : yielded ops a.tmps j = some b := by simp [yielded, ht, q2]
      split at hev
      · rename_i hbw
        have : Region.wanted o (yielded ops a.tmps) = true := by simp [Region.wanted, hg1, hy, hbw]
        rw [if_pos this]
        exact .inl (h1 hop hev)
      · rename_i hbw
        have : ¬ Region.wanted o (yielded ops a.tmps) = true := by simp [Region.wanted, hg1, hy, hbw]
        rw [if_neg this]
        obtain ⟨q3, q4⟩ := Prod.mk.inj (Option.some.inj hev)
        exact h2 q3.symm q4.symm
    · rename_i hb
      have q1 := he t
      rw [hb] at q1
      have : ¬ Region.wanted o (yielded ops a.tmps) = true := by simp [Region.wanted, hg1, yielded_undef ht q1]
      rw [if_neg this]
      obtain ⟨q3, q4⟩ := Prod.mk.inj (Option.some.inj hev)
      exact h2 q3.symm q4.symm
    · cases hev
theorem evOper_quiet {call : CallT} {e : Env} {h h' : H} {o : AOper} {v : AV} (hl : o.op.loud = false) (hb : o.op.births = false) (hev : evOper call o e h = some (v, h')) : h' = h := by
  unfold evOper at hev
  split at hev
  · exact evOp_quiet hl hb hev
  · split at hev
    · split at hev
      · exact evOp_quiet hl hb hev
      · exact (Prod.mk.inj (Option.some.inj hev)).2.symm
    · exact (Prod.mk.inj (Option.some.inj hev)).2.symm
    · cases hev
structure DH (L : Lk) (nt : Nat) (ops : Array Oper) (call : CallT) (ord : List Nat) (zs : List Z) (fl : List (Nat × List Nat)) (e0 : Env) (h0 : H) (E : Env) (hN : H) (gs : List H) : Prop where
  mz : mkZ L nt ops ord [] = some zs
  len : ord.length = ops.size
  all : ∀ k, k < ops.size → k ∈ ord
  one : ∀ (p : Nat) (z : Z), zs[p]? = some z → oneOk zs (flOf fl p) (nl ((zs.map (·.x)).take p)) (nl (zs.map (·.x))) z = true
  pair : ∀ (p q : Nat) (z y : Z), p < q → zs[p]? = some z → zs[q]? = some y → pairOk (flOf fl p) z y = true
  ev : evOpsD call (zs.map (·.x)) e0 h0 = some (E, hN, gs)
  st : stables call (zs.map (·.x)) E gs fl = true
  nm : NextMono call
variable {nt : Nat} {ops : Array Oper} {call : CallT} {ord : List Nat} {zs : List Z} {fl : List (Nat × List Nat)} {e0 : Env} {h0 : H} {E : Env} {hN : H} {gs : List H}
theorem DH.of {os : List AOper} (hc : compD L nt ops ord fl = some os) (hev : evOpsD call os e0 h0 = some (E, hN, gs)) (hst : stables call os E gs fl = true) (hn : NextMono call) : ∃ zs, os = zs.map (·.x) ∧ DH L nt ops call ord zs fl e0 h0 E hN gs := by
  unfold compD at hc
  simp only [Option.bind_eq_some_iff] at hc
  obtain ⟨zs, h1, h2⟩ := hc
  split at h2
  · rename_i hq
    obtain rfl := Option.some.inj h2
    obtain ⟨q1, q2, q3⟩ := hq
    obtain ⟨g1, g2⟩ := zsOk_spec q3
    refine ⟨zs, rfl, h1, q1, fun k hk => ?_, fun p z hz => ?_, fun p q z y h a b => by simpa using g2 p q z y h a b, hev, hst, hn⟩
    · have := List.all_eq_true.1 q2 k (List.mem_range.2 hk)
      simpa using this
    · have := g1 p z hz
      simpa [List.map_take] using this
  · cases h2
theorem DH.zx (d : DH L nt ops call ord zs fl e0 h0 E hN gs) {p : Nat} {z : Z} (hz : zs[p]? = some z) : (zs.map (·.x))[p]? = some z.x := by simp [hz]
theorem DH.inj (d : DH L nt ops call ord zs fl e0 h0 E hN gs) {p q : Nat} {z y : Z} (hz : zs[p]? = some z) (hy : zs[q]? = some y) (h : z.i = y.i) : p = q := by
  rcases Nat.lt_trichotomy p q with hlt | rfl | hlt
  · have := d.pair p q z y hlt hz hy
    simp [pairOk, h] at this
  · rfl
  · have := d.pair q p y z hlt hy hz
    simp [pairOk, h] at this
theorem DH.dinj (d : DH L nt ops call ord zs fl e0 h0 E hN gs) {p q : Nat} {z y : Z} (hz : zs[p]? = some z) (hy : zs[q]? = some y) {t : Nat} (h1 : z.x.dst = some t) (h2 : y.x.dst = some t) : p = q := by
  rcases Nat.lt_trichotomy p q with hlt | rfl | hlt
  · have := d.pair p q z y hlt hz hy
    simp [pairOk, h1, h2] at this
  · rfl
  · have := d.pair q p y z hlt hy hz
    simp [pairOk, h1, h2] at this
theorem DH.exi (d : DH L nt ops call ord zs fl e0 h0 E hN gs) {i : Nat} (hi : i < ops.size) : ∃ (p : Nat) (z : Z), zs[p]? = some z ∧ z.i = i := by
  have := d.all i hi
  rw [← (mkZ_spec d.mz).1] at this
  obtain ⟨z, hz, rfl⟩ := List.mem_map.1 this
  obtain ⟨p, hp⟩ := List.mem_iff_getElem?.1 hz
  exact ⟨p, z, hp, rfl⟩
theorem DH.take (d : DH L nt ops call ord zs fl e0 h0 E hN gs) {p t : Nat} (h : t ∈ dsts ((zs.map (·.x)).take p)) : ∃ (q : Nat) (y : Z), q < p ∧ zs[q]? = some y ∧ y.x.dst = some t := by
  unfold dsts at h
  obtain ⟨x, hx, hd⟩ := List.mem_filterMap.1 h
  obtain ⟨q, hq⟩ := List.mem_iff_getElem?.1 hx
  rw [List.getElem?_take] at hq
  split at hq
  · rename_i hlt
    rw [List.getElem?_map] at hq
    obtain ⟨y, hy, rfl⟩ := Option.map_eq_some_iff.1 hq
    exact ⟨q, y, hlt, hy, hd⟩
  · cases hq
theorem DH.drop (d : DH L nt ops call ord zs fl e0 h0 E hN gs) {p t : Nat} (h : t ∈ dsts ((zs.map (·.x)).drop p)) : ∃ (q : Nat) (y : Z), p ≤ q ∧ zs[q]? = some y ∧ y.x.dst = some t := by
  unfold dsts at h
  obtain ⟨x, hx, hd⟩ := List.mem_filterMap.1 h
  obtain ⟨q, hq⟩ := List.mem_iff_getElem?.1 hx
  rw [List.getElem?_drop, List.getElem?_map] at hq
  obtain ⟨y, hy, rfl⟩ := Option.map_eq_some_iff.1 hq
  exact ⟨p + q, y, by omega, hy, hd⟩
theorem look_put_ne {d : Option Nat} {v : AV} {e : Env} {t : Nat} (h : d ≠ some t) : look (putEnv d v e) t = look e t := by
  cases d with
  | none => rfl
  | some s => simp only [putEnv, look]; rw [if_neg (fun q => h (by rw [q]))]
theorem look_put_eq {v : AV} {e : Env} {t : Nat} : look (putEnv (some t) v e) t = v := by simp [putEnv, look]
theorem DH.pre_le (d : DH L nt ops call ord zs fl e0 h0 E hN gs) {p q : Nat} (hpq : p ≤ q) {e1 e2 : Env} {h1 h2 : H} (a : evOps call ((zs.map (·.x)).take p) e0 h0 = some (e1, h1)) (b : evOps call ((zs.map (·.x)).take q) e0 h0 = some (e2, h2)) : h1.next ≤ h2.next := by
  have : (zs.map (·.x)).take q = (zs.map (·.x)).take p ++ ((zs.map (·.x)).take q).drop p := by
    have := (List.take_append_drop p ((zs.map (·.x)).take q)).symm
    rwa [List.take_take, Nat.min_eq_left hpq] at this
  rw [this, evOps_append, a] at b
  exact evOps_next d.nm b
theorem DH.pre_succ (d : DH L nt ops call ord zs fl e0 h0 E hN gs) {p : Nat} {z : Z} (hz : zs[p]? = some z) {e1 : Env} {h1 h2 : H} {v : AV} (a : evOps call ((zs.map (·.x)).take p) e0 h0 = some (e1, h1)) (b : evOper call z.x e1 h1 = some (v, h2)) : evOps call ((zs.map (·.x)).take (p + 1)) e0 h0 = some (putEnv z.x.dst v e1, h2) := by
  rw [List.take_add_one, d.zx hz, evOps_append, a]
  simp [evOps, b]
structure Inv (L : Lk) (w0 : World) (ops : Array Oper) (call : CallT) (zs : List Z) (e0 : Env) (h0 : H) (E : Env) (gs : List H) (ι0 : Io) (M0 : Mm) (a0 : Act) (listed : Array Bool) (a : Act) (w : World) (ι : Io) (M : Mm) (G : H) (j : Nat) : Prop where
  sz : listed.size = ops.size
  cl : Cl ops (fun i => listed.getD i false = true)
  hG : gs[j]? = some G
  ld : ∀ (p : Nat) (z : Z), zs[p]? = some z → z.x.op.loud = true → (listed.getD z.i false = true ↔ nl ((zs.map (·.x)).take p) < j)
  le : j ≤ nl (zs.map (·.x))
  gr : Gr h0 ι0 M0 G ι M
  r : R L w0 ι M G w
  env : EnvR L ι M (cut zs (fun i => listed.getD i false) e0 E) a.tmps
  asz : a.tmps.size = a0.tmps.size
  adf : a.defers = a0.defers
  bi : ∀ (q : Nat) (y : Z) (eq : Env) (hq : H) (v : AV) (h' : H) (id : Nat), zs[q]? = some y → y.x.op.births = true → listed.getD y.i false = false → evOps call ((zs.map (·.x)).take q) e0 h0 = some (eq, hq) → evOper call y.x eq hq = some (v, h') → v.id? = some id → ι id = none
theorem getD_set {listed : Array Bool} {i k : Nat} (hi : i < listed.size) : (listed.setIfInBounds i true).getD k false = true ↔ k = i ∨ listed.getD k false = true := by
  by_cases h : k = i
  · subst h; simp [hi]
  · rw [getD_set_ne false (fun q => h q.symm)]; simp [h]
theorem Inv.next (d : DH L nt ops call ord zs fl e0 h0 E hN gs) {ι0 : Io} {M0 : Mm} {a0 : Act} {listed : Array Bool} {a : Act} {w : World} {ι : Io} {M : Mm} {G : H} {j : Nat} (inv : Inv L w0 ops call zs e0 h0 E gs ι0 M0 a0 listed a w ι M G j) (hnt : nt ≤ a0.tmps.size)
    {p : Nat} {z : Z} (hz : zs[p]? = some z) (hnd : listed.getD z.i false = false) {o : Oper} (hio : ops[z.i]? = some o) (hc : compOper L nt ops o = some z.x) (hed : ∀ e ∈ edges o, listed.getD e false = true)
    {e1 : Env} {h2 : H} {v : AV} (t3 : evOps call ((zs.map (·.x)).drop (p + 1)) (putEnv z.x.dst v e1) h2 = some (E, hN))
    {ι' : Io} {M' : Mm} {G' : H} {j' : Nat} {v' : Value} {w' : World} (hG : gs[j']? = some G')
    (hld : ∀ (q : Nat) (y : Z), zs[q]? = some y → y.x.op.loud = true → (y.i = z.i ∨ listed.getD y.i false = true ↔ nl ((zs.map (·.x)).take q) < j')) (hle : j' ≤ nl (zs.map (·.x))) (hle1 : LeI ι ι') (hle2 : LeM M M') (hgr : Gr h0 ι0 M0 G' ι' M') (hr : R L w0 ι' M' G' w') (hv : V L ι' M' v v')
    (hbi : ∀ (q : Nat) (y : Z) (eq : Env) (hq : H) (u : AV) (h' : H) (id : Nat), zs[q]? = some y → y.x.op.births = true → q ≠ p → listed.getD y.i false = false → evOps call ((zs.map (·.x)).take q) e0 h0 = some (eq, hq) → evOper call y.x eq hq = some (u, h') → u.id? = some id → ι' id = none) :
    Inv L w0 ops call zs e0 h0 E gs ι0 M0 a0 (listed.setIfInBounds z.i true) (a.put o.dst v') w' ι' M' G' j' := by
  obtain ⟨_, hdst, hlt, _⟩ := compOper_inv hc
  have hi : z.i < listed.size := by rw [inv.sz]; exact (Array.getElem?_eq_some_iff.1 hio).1
  have hg : ∀ k, ((listed.setIfInBounds z.i true).getD k false = true ↔ k = z.i ∨ listed.getD k false = true) := fun k => getD_set hi
  refine ⟨by simp [inv.sz], ?_, hG, ?_, hle, hgr, hr, ?_, by rw [put_size]; exact inv.asz, by rw [put_defers]; exact inv.adf, ?_⟩
  · intro k o' hk hd e he
    rw [hg] at hd ⊢
    rcases hd with rfl | hd
    · rw [hio] at hk; obtain rfl := Option.some.inj hk
      exact .inr (hed e he)
    · exact .inr (inv.cl k o' hk hd e he)
  · intro q y hy hl
    rw [hg]; exact hld q y hy hl
  · have key : ∀ t, look (cut zs (fun i => (listed.setIfInBounds z.i true).getD i false) e0 E) t = look (putEnv z.x.dst v (cut zs (fun i => listed.getD i false) e0 E)) t := by
      intro t
      by_cases ht : z.x.dst = some t
      · rw [ht, look_put_eq, cut, look_append]
        rw [if_neg]
        · rw [evOps_look t3 t (fun q => by
            obtain ⟨s, y, hs, hy, hyd⟩ := d.drop q
            have := d.dinj hz hy ht hyd; omega), ht, look_put_eq]
        · intro q
          obtain ⟨y, hy, hyu, hyd⟩ := mem_und.1 q
          obtain ⟨s, hs⟩ := List.mem_iff_getElem?.1 hy
          obtain rfl := d.dinj hz hs ht hyd
          rw [hz] at hs; obtain rfl := Option.some.inj hs
          rw [(hg z.i).2 (.inl rfl)] at hyu; cases hyu
      · rw [look_put_ne ht, cut, cut, look_append, look_append]
        have : t ∈ und zs (fun i => (listed.setIfInBounds z.i true).getD i false) ↔ t ∈ und zs (fun i => listed.getD i false) := by
          rw [mem_und, mem_und]
          constructor
          · rintro ⟨y, hy, hyu, hyd⟩
            refine ⟨y, hy, ?_, hyd⟩
            cases hb : listed.getD y.i false with
            | false => rfl
            | true => rw [(hg y.i).2 (.inr hb)] at hyu; cases hyu
          · rintro ⟨y, hy, hyu, hyd⟩
            refine ⟨y, hy, ?_, hyd⟩
            cases hb : (listed.setIfInBounds z.i true).getD y.i false with
            | false => rfl
            | true =>
              rcases (hg y.i).1 hb with q | q
              · obtain ⟨s, hs⟩ := List.mem_iff_getElem?.1 hy
                obtain rfl := d.inj hs hz q
                rw [hz] at hs; obtain rfl := Option.some.inj hs
                exact absurd hyd ht
              · rw [hyu] at q; cases q
        by_cases hu : t ∈ und zs (fun i => listed.getD i false)
        · rw [if_pos hu, if_pos (this.2 hu)]
        · rw [if_neg hu, if_neg (fun q => hu (this.1 q))]
    intro t
    rw [key t]
    have := (inv.env.mono hle1 hle2).put (a := a) (d := z.x.dst) (v := v) hv (fun s hs => by
      rw [inv.asz]; exact Nat.lt_of_lt_of_le (hlt s (by rw [← hdst]; exact hs)) hnt)
    rw [hdst] at this ⊢
    exact this t
  · intro q y eq hq u h' id hy hb hu hp hev hid
    have hne : q ≠ p := fun e => by
      subst e
      rw [hz] at hy; obtain rfl := Option.some.inj hy
      rw [(hg z.i).2 (.inl rfl)] at hu; cases hu
    refine hbi q y eq hq u h' id hy hb hne ?_ hp hev hid
    cases hb : listed.getD y.i false with
    | false => rfl
    | true => rw [(hg y.i).2 (.inr hb)] at hu; cases hu
end
end Ab
set_option linter.unusedSimpArgs false
set_option linter.unusedVariables false
namespace Ab
open Go RowKit
section
variable {L : Lk} {w0 : World}
variable {nt : Nat} {ops : Array Oper} {call : CallT} {ord : List Nat} {zs : List Z} {fl : List (Nat × List Nat)} {e0 : Env} {h0 : H} {E : Env} {hN : H} {gs : List H}
theorem DH.masks (d : DH L nt ops call ord zs fl e0 h0 E hN gs) {done : Nat → Prop} (hcl : Cl ops done) {p : Nat} {z : Z} (hz : zs[p]? = some z) (hd : done z.i) {k : Nat} (hk : z.m.testBit k = true) : done k :=
  mkZ_closed hcl d.mz (fun z hz => by simp at hz) z (List.mem_of_getElem? hz) hd k hk
theorem pair_loud {f : List Nat} {z y : Z} (h : pairOk f z y = true) (h1 : z.x.op.loud = true) (h2 : y.x.op.loud = true) : y.m.testBit z.i = true := by
  simp only [pairOk, Bool.and_eq_true, h1, h2, Bool.not_true, Bool.false_or, Bool.true_and] at h
  exact h.2.2.2
theorem pair_fwd {f : List Nat} {z y : Z} (h : pairOk f z y = true) {t : Nat} (h1 : z.x.dst = some t) (h2 : t ∈ y.x.tm) : y.m.testBit z.i = true := by
  simp only [pairOk, Bool.and_eq_true, h1, Bool.or_eq_true, Bool.not_eq_true'] at h
  rcases h.2.1.2 with q | q
  · rw [List.contains_iff_mem.2 h2] at q; cases q
  · exact q
theorem pair_bwd {f : List Nat} {z y : Z} (h : pairOk f z y = true) {t : Nat} (h1 : y.x.dst = some t) (h2 : t ∈ z.x.tm) : y.m.testBit z.i = true ∧ f = [] := by
  simp only [pairOk, Bool.and_eq_true, h1, Bool.or_eq_true, Bool.not_eq_true'] at h
  rcases h.2.2.1 with q | q
  · rw [List.contains_iff_mem.2 h2] at q; cases q
  · exact ⟨q.1, by simpa using q.2⟩
theorem one_self {l : List Z} {f : List Nat} {own n : Nat} {z : Z} (h : oneOk l f own n z = true) {t : Nat} (h1 : z.x.dst = some t) (h2 : t ∈ z.x.tm) : f = [] := by
  simp only [oneOk, Bool.and_eq_true, h1, Bool.or_eq_true, Bool.not_eq_true'] at h
  rcases h.1 with q | q
  · rw [List.contains_iff_mem.2 h2] at q; cases q
  · simpa using q
theorem one_dst {l : List Z} {f : List Nat} {own n : Nat} {z : Z} (h : oneOk l f own n z = true) (hf : f ≠ []) : ∃ t, z.x.dst = some t := by
  simp only [oneOk, Bool.and_eq_true] at h
  cases hd : z.x.dst with
  | some t => exact ⟨t, rfl⟩
  | none => rw [hd] at h; simp at h; exact absurd h.1.2 hf
theorem one_stage {l : List Z} {f : List Nat} {own n : Nat} {z : Z} (h : oneOk l f own n z = true) (hb : z.x.op.births = true ∨ z.x.op.reads = true) {j : Nat} (hj : j ≤ n) (hs : stageOk z j 0 l = true) : j = own ∨ j ∈ f := by
  simp only [oneOk, Bool.and_eq_true, Bool.or_eq_true, Bool.not_eq_true', List.all_eq_true, List.mem_range] at h
  have h2 := h.2.resolve_left (by rcases hb with q | q <;> simp [q])
  rcases h2 j (by omega) with (q | q) | q
  · exact .inl (by simpa using q)
  · rw [hs] at q; cases q
  · exact .inr (by simpa using q)
theorem DH.sees (d : DH L nt ops call ord zs fl e0 h0 E hN gs) {dn : Nat → Bool} {p : Nat} {z : Z} (hz : zs[p]? = some z) (hnd : dn z.i = false)
    (anc : ∀ (q : Nat) (y : Z), zs[q]? = some y → z.m.testBit y.i = true → y.i ≠ z.i → dn y.i = true) (desc : ∀ (q : Nat) (y : Z), zs[q]? = some y → y.m.testBit z.i = true → dn y.i = false)
    {e1 : Env} {h1 h2 : H} {v : AV} (t1 : evOps call ((zs.map (·.x)).take p) e0 h0 = some (e1, h1)) (t3 : evOps call ((zs.map (·.x)).drop (p + 1)) (putEnv z.x.dst v e1) h2 = some (E, hN)) :
    Agree e1 (cut zs dn e0 E) z.x.tm ∧ (flOf fl p ≠ [] → Agree e1 E z.x.tm) := by
  have main : ∀ t ∈ z.x.tm, look e1 t = look (cut zs dn e0 E) t ∧ (flOf fl p ≠ [] → look e1 t = look E t) := by
    intro t ht
    rw [cut, look_append]
    by_cases hu : ∃ (q : Nat) (y : Z), zs[q]? = some y ∧ y.x.dst = some t
    · obtain ⟨q, y, hy, hyd⟩ := hu
      have uniq : ∀ (s : Nat) (u : Z), zs[s]? = some u → u.x.dst = some t → s = q := fun s u hs hd => d.dinj hs hy hd hyd
      rcases Nat.lt_trichotomy q p with hlt | rfl | hlt
      · have hm := pair_fwd (d.pair q p y z hlt hy hz) hyd ht
        have hne : y.i ≠ z.i := fun e => by have := d.inj hy hz e; omega
        have hdy := anc q y hy hm hne
        have hE : look E t = look e1 t := by
          rw [evOps_look t3 t (fun m => by obtain ⟨s, u, a, b, c⟩ := d.drop m; have := uniq s u b c; omega)]
          exact look_put_ne fun e => by have := uniq p z hz e; omega
        rw [if_neg]
        · exact ⟨hE.symm, fun _ => hE.symm⟩
        · intro m
          obtain ⟨u, hu1, hu2, hu3⟩ := mem_und.1 m
          obtain ⟨s, hs⟩ := List.mem_iff_getElem?.1 hu1
          have := uniq s u hs hu3; subst this
          rw [hy] at hs; obtain rfl := Option.some.inj hs
          rw [hdy] at hu2; cases hu2
      · rw [hz] at hy; obtain rfl := Option.some.inj hy
        have hf := one_self (d.one q z hz) hyd ht
        rw [if_pos (mem_und.2 ⟨z, List.mem_of_getElem? hz, hnd, hyd⟩)]
        exact ⟨evOps_look t1 t fun m => by obtain ⟨s, u, a, b, c⟩ := d.take m; have := uniq s u b c; omega, fun q => absurd hf q⟩
      · obtain ⟨hm, hf⟩ := pair_bwd (d.pair p q z y hlt hz hy) hyd ht
        have hdy := desc q y hy hm
        rw [if_pos (mem_und.2 ⟨y, List.mem_of_getElem? hy, hdy, hyd⟩)]
        exact ⟨evOps_look t1 t fun m => by obtain ⟨s, u, a, b, c⟩ := d.take m; have := uniq s u b c; omega, fun q => absurd hf q⟩
    · have hE : look E t = look e1 t := by
        rw [evOps_look t3 t (fun m => by obtain ⟨s, u, a, b, c⟩ := d.drop m; exact hu ⟨s, u, b, c⟩)]
        exact look_put_ne fun e => hu ⟨p, z, hz, e⟩
      rw [if_neg]
      · exact ⟨hE.symm, fun _ => hE.symm⟩
      · intro m
        obtain ⟨u, hu1, hu2, hu3⟩ := mem_und.1 m
        obtain ⟨s, hs⟩ := List.mem_iff_getElem?.1 hu1
        exact hu ⟨s, u, hs, hu3⟩
  exact ⟨fun t ht => (main t ht).1, fun hf t ht => (main t ht).2 hf⟩
set_option maxHeartbeats 1000000 in
theorem Inv.step (hcal : Callee L w0 call) (hbod : Bodies L) (d : DH L nt ops call ord zs fl e0 h0 E hN gs) {ι0 : Io} {M0 : Mm} {a0 : Act} {listed : Array Bool} {a : Act} {w : World} {ι : Io} {M : Mm} {G : H} {j : Nat}
    (inv : Inv L w0 ops call zs e0 h0 E gs ι0 M0 a0 listed a w ι M G j) (hnt : nt ≤ a0.tmps.size) {i : Nat} (hi : i ∈ Region.ready .any ops listed) {Q : Exit → Act → World → Prop} {K : Act → World → Prop}
    (hK : ∀ a' w' ι' M' G' j', Inv L w0 ops call zs e0 h0 E gs ι0 M0 a0 (listed.setIfInBounds i true) a' w' ι' M' G' j' → K a' w') : wpOp L.P ops Q i K a w := by
  obtain ⟨hun, o, hio, hed'⟩ := mem_ready.1 hi
  have hin : i < ops.size := (Array.getElem?_eq_some_iff.1 hio).1
  have hnd : listed.getD i false = false := by
    rw [Array.getD_eq_getD_getElem?] at hun ⊢
    rw [Array.getElem?_eq_getElem (by rw [inv.sz]; exact hin)] at hun ⊢
    exact hun
  have hed : ∀ e ∈ edges o, listed.getD e false = true := by
    intro e he
    unfold edges at he
    obtain ⟨x, hx, rfl⟩ := List.mem_map.1 he
    obtain ⟨hx1, hx2⟩ := List.mem_filter.1 hx
    exact hed' x (by simpa using hx1) hx2
  obtain ⟨p, z, hz, rfl⟩ := d.exi hin
  obtain ⟨o', ho', hc⟩ := (mkZ_spec d.mz).2 z (List.mem_of_getElem? hz)
  rw [hio] at ho'; obtain rfl := Option.some.inj ho'
  obtain ⟨e1, h1, v, h2, G1, t1, t2, t3, t4, t5, t6⟩ := evOpsD_at d.ev (d.zx hz)
  have hcl' : Cl ops (fun k => k = z.i ∨ listed.getD k false = true) := by
    intro k o2 hk hd e he
    rcases hd with rfl | hd
    · rw [hio] at hk; obtain rfl := Option.some.inj hk; exact .inr (hed e he)
    · exact .inr (inv.cl k o2 hk hd e he)
  have anc : ∀ (q : Nat) (y : Z), zs[q]? = some y → z.m.testBit y.i = true → y.i ≠ z.i → listed.getD y.i false = true := fun q y hy hm hne =>
    (d.masks hcl' hz (.inl rfl) hm).resolve_left hne
  have desc : ∀ (q : Nat) (y : Z), zs[q]? = some y → y.m.testBit z.i = true → listed.getD y.i false = false := fun q y hy hm => by
    cases hb : listed.getD y.i false with
    | false => rfl
    | true => have : listed.getD z.i false = true := d.masks inv.cl hy hb hm; rw [hnd] at this; cases this
  obtain ⟨ag, agE⟩ := d.sees (dn := fun k => listed.getD k false) hz hnd anc desc t1 t3
  have hev : evOper call z.x (cut zs (fun i => listed.getD i false) e0 E) h1 = some (v, h2) := by rw [← evOper_agree ag]; exact t2
  have hlt1 : ∀ (q : Nat) (y : Z), zs[q]? = some y → y.x.op.loud = true → q < p → z.x.op.loud = true → nl ((zs.map (·.x)).take q) < nl ((zs.map (·.x)).take p) := fun q y hy hl hq _ => by
    have := nl_take_succ (d.zx hy); rw [if_pos hl] at this
    have := nl_take_le (os := zs.map (·.x)) (Nat.succ_le_of_lt hq)
    simp only [Nat.succ_eq_add_one] at this; omega
  have hbi0 : ∀ (ι' : Io), (∀ id l, id < G.next → ι' id = some l → ι id = some l) → (∀ id l, ι' id = some l → id < G.next) →
      ∀ (q : Nat) (y : Z) (eq : Env) (hq : H) (u : AV) (h' : H) (id : Nat), zs[q]? = some y → y.x.op.births = true → q ≠ p → listed.getD y.i false = false → evOps call ((zs.map (·.x)).take q) e0 h0 = some (eq, hq) → evOper call y.x eq hq = some (u, h') → u.id? = some id → ι' id = none := by
    intro ι' hold hdom q y eq hq u h' id hy hb hne hu hp hev' hid
    cases hc : ι' id with
    | none => rfl
    | some l =>
      have := hold id l (hdom id l hc) hc
      rw [inv.bi q y eq hq u h' id hy hb hu hp hev' hid] at this; cases this
  have hld0 : z.x.op.loud = false → ∀ (q : Nat) (y : Z), zs[q]? = some y → y.x.op.loud = true → (y.i = z.i ∨ listed.getD y.i false = true ↔ nl ((zs.map (·.x)).take q) < j) := by
    intro hzl q y hy hl
    rw [← inv.ld q y hy hl]
    constructor
    · rintro (e | e)
      · have := d.inj hy hz e; subst this
        rw [hz] at hy; obtain rfl := Option.some.inj hy
        rw [hzl] at hl; cases hl
      · exact e
    · exact .inr
  have quiet : z.x.op.loud = false → evOper call z.x (cut zs (fun i => listed.getD i false) e0 E) G = some (v, G) → wpOp L.P ops Q z.i K a w := by
    intro hzl hq
    refine oper_step hcal hbod hio hc inv.env inv.r hq fun v' w' hout => ?_
    obtain ⟨ι', M', a1, a2, a3, r', hv'⟩ := hout
    exact hK _ _ _ _ _ _ (inv.next d hnt hz hnd hio hc hed t3 inv.hG (hld0 hzl) inv.le a1 a2 (inv.gr.trans ⟨Nat.le_refl _, a1, a2, a3⟩) r' hv' (hbi0 ι' a3 r'.dom))
  by_cases hzl : z.x.op.loud = true
  ·
    have hjp : nl ((zs.map (·.x)).take p) = j := by
      have g1 : j ≤ nl ((zs.map (·.x)).take p) := by
        have := inv.ld p z hz hzl
        rcases Nat.lt_or_ge (nl ((zs.map (·.x)).take p)) j with q | q
        · rw [this.2 q] at hnd; cases hnd
        · exact q
      rcases Nat.lt_or_ge j (nl ((zs.map (·.x)).take p)) with q | q
      · obtain ⟨s, x, hs, hx, hxl, hxn⟩ := nl_exists _ _ _ q
        rw [List.getElem?_map] at hx
        obtain ⟨y, hy, rfl⟩ := Option.map_eq_some_iff.1 hx
        have hm := pair_loud (d.pair s p y z hs hy hz) hxl hzl
        have hne : y.i ≠ z.i := fun e => by have := d.inj hy hz e; omega
        have := (inv.ld s y hy hxl).1 (anc s y hy hm hne)
        omega
      · omega
    have hGe : G = h1 := by have := t6 hzl; rw [hjp, inv.hG] at this; exact Option.some.inj this
    subst hGe
    rw [if_pos hzl, hjp] at t4
    refine oper_step hcal hbod hio hc inv.env inv.r hev fun v' w' hout => ?_
    obtain ⟨ι', M', a1, a2, a3, r', hv'⟩ := hout
    have hgr : Gr G ι M h2 ι' M' := ⟨evOper_next d.nm t2, a1, a2, a3⟩
    refine hK _ _ _ _ _ _ (inv.next d hnt hz hnd hio hc hed t3 t4 ?_ ?_ a1 a2 (inv.gr.trans (hgr.gw t5)) (r'.gw t5) hv' ?_)
    · intro q y hy hl
      rcases Nat.lt_trichotomy q p with hlt | rfl | hlt
      · have h3 := hlt1 q y hy hl hlt hzl
        have h4 := (inv.ld q y hy hl).2 (by omega)
        exact ⟨fun _ => by omega, fun _ => .inr h4⟩
      · rw [hz] at hy; obtain rfl := Option.some.inj hy
        exact ⟨fun _ => by omega, fun _ => .inl rfl⟩
      · have h3 := nl_take_succ (d.zx hz); rw [if_pos hzl] at h3
        have h4 := nl_take_le (os := zs.map (·.x)) (Nat.succ_le_of_lt hlt)
        simp only [Nat.succ_eq_add_one] at h4
        constructor
        · rintro (e | e)
          · have := d.inj hy hz e; omega
          · have := (inv.ld q y hy hl).1 e; omega
        · intro h5; omega
    · have h3 := nl_take_succ (d.zx hz); rw [if_pos hzl] at h3
      have := nl_take_all (zs.map (·.x)) (p + 1); omega
    · intro q y eq hq u h' id hy hb hne hu hp hev' hid
      cases hcc : ι' id with
      | none => rfl
      | some l =>
        rcases evOper_birth hb hev' with ⟨rfl, _, _⟩ | ⟨b, _, _, rfl, hid', _⟩
        · cases hid
        · rw [hid] at hid'; obtain rfl := Option.some.inj hid'
          rcases Nat.lt_or_gt_of_ne hne with hlt | hlt
          · have h3 := d.pre_le (Nat.succ_le_of_lt hlt) (d.pre_succ hy hp hev') t1
            simp only [alloc_next] at h3
            have := a3 _ l (by omega) hcc
            rw [inv.bi q y eq hq u _ _ hy hb hu hp hev' hid] at this; cases this
          · have h3 := d.pre_le (Nat.succ_le_of_lt hlt) (d.pre_succ hz t1 t2) hp
            have := r'.dom _ l hcc
            omega
  · have hzl' : z.x.op.loud = false := by simpa using hzl
    rw [if_neg hzl, Nat.add_zero] at t4
    have stage : z.x.op.births = true ∨ z.x.op.reads = true → j = nl ((zs.map (·.x)).take p) ∨ j ∈ flOf fl p := by
      intro hbr
      refine one_stage (d.one p z hz) hbr inv.le (stageOk_of fun q y hy hl => ?_)
      have hne : y.i ≠ z.i := fun e => by
        have := d.inj hy hz e; subst this
        rw [hz] at hy; obtain rfl := Option.some.inj hy
        rw [hzl'] at hl; cases hl
      rw [Nat.zero_add, List.map_take]
      refine ⟨fun hm => (inv.ld q y hy hl).1 (anc q y hy hm hne), fun hm => ?_⟩
      rcases Nat.lt_or_ge (nl ((zs.map (·.x)).take q)) j with h3 | h3
      · have := (inv.ld q y hy hl).2 h3; rw [desc q y hy hm] at this; cases this
      · exact h3
    have stable : j ∈ flOf fl p → ∃ t, z.x.dst = some t ∧ look E t = v ∧ stable1 call (zs.map (·.x)) E gs p j = true := by
      intro hj
      obtain ⟨t, ht⟩ := one_dst (d.one p z hz) (fun q => by rw [q] at hj; simp at hj)
      refine ⟨t, ht, ?_, stables_mem d.st p j hj⟩
      rw [evOps_look t3 t (fun m => by obtain ⟨s, u, a, b, c⟩ := d.drop m; have := d.dinj hz b ht c; omega), ht, look_put_eq]
    cases hzb : z.x.op.births with
    | false =>
      refine quiet hzl' ?_
      cases hzr : z.x.op.reads with
      | false => exact evOper_any hzl' hzb hzr hev G
      | true =>
        rcases stage (.inr hzr) with hj | hj
        · rw [← hj, inv.hG] at t4; obtain rfl := Option.some.inj t4
          obtain rfl := evOper_quiet hzl' hzb t2
          exact evOper_own hzl' hzb hev t5
        · obtain ⟨t, ht, hE, hst⟩ := stable hj
          have hagE := agE (fun q => by rw [q] at hj; simp at hj)
          simp only [stable1, d.zx hz, inv.hG, hzb, Bool.false_eq_true, if_false, ht, Option.map_some, hE] at hst
          split at hst
          · rename_i u g' hu
            have := beq_eq hst; subst this
            obtain rfl := evOper_quiet hzl' hzb hu
            rw [← evOper_agree ag, evOper_agree hagE]; exact hu
          · cases hst
    | true =>
      rcases evOper_birth hzb hev with ⟨rfl, rfl, hskip⟩ | ⟨b, hb1, rfl, rfl, hid, _⟩
      · exact quiet hzl' (hskip G)
      · have hget : G.get h1.next = some b.1 := by
          rcases stage (.inl hzb) with hj | hj
          · rw [← hj, inv.hG] at t4; obtain rfl := Option.some.inj t4
            exact t5.some (by simp [H.get_alloc])
          · obtain ⟨t, ht, hE, hst⟩ := stable hj
            have hagE := agE (fun q => by rw [q] at hj; simp at hj)
            have hbE : birth E z.x.op = some b := by
              rw [← hb1, ← birth_agree (e := e1) fun t ht => hagE t (List.mem_append_right _ ht), birth_agree fun t ht => ag t (List.mem_append_right _ ht)]
            simp only [stable1, d.zx hz, inv.hG, hzb, if_true, ht, Option.map_some, hE, hbE, hid] at hst
            split at hst
            · rename_i q; have := Option.some.inj q; rw [this] at hid; cases hid
            · rename_i q; obtain rfl := Option.some.inj q
              simp only [hid] at hst
              split at hst
              · rename_i cs hcs; rw [hcs, beqs_eq hst]
              · cases hst
            · cases hst
        have hnone : ι h1.next = none := inv.bi p z e1 h1 _ _ _ hz hzb hnd t1 t2 hid
        refine oper_cases hio hc inv.env hev (fun hop _ => ?_) (fun q _ => by rw [q] at hid; cases hid)
        obtain ⟨v', w', g1, hm⟩ := birth_sound inv.env hop (cs := b.1) (mk := b.2) hb1
        refine oper_value g1 ?_
        obtain ⟨dr, arr, ty, fz, rfl, hfz, hlen, hval, hv⟩ := hm.ex
        have rn := (inv.r.drew dr).newf (id := h1.next) hnone (cs := b.1) (arr := arr) (t := ty) (fz := fz) (h' := G) hfz (Nat.le_refl _) (G.lt _ _ hget)
          (fun i c q => by
            by_cases e : i = h1.next
            · subst e; rw [hget] at q; exact .inl ⟨rfl, (Option.some.inj q).symm⟩
            · exact .inr ⟨e, q⟩) hlen hval
        refine hK _ _ _ _ _ _ (inv.next d hnt hz hnd hio hc hed t3 inv.hG (hld0 hzl') inv.le (Io.le_put _ hnone) (fun _ _ _ q => q) ⟨inv.gr.nx, fun _ _ q => Io.le_put _ hnone _ _ (inv.gr.io _ _ q), inv.gr.mm, ?_⟩ rn (hv _ _ (by simp [Io.put])) ?_)
        · intro id l hid' q
          refine inv.gr.old id l hid' ?_
          have := d.pre_le (Nat.zero_le p) (e1 := e0) (h1 := h0) rfl t1
          simp only [Io.put] at q
          rwa [if_neg (by omega)] at q
        · intro q y eq hq u h' id hy hb hne hu hp hev' hid2
          have h3 := inv.bi q y eq hq u h' id hy hb hu hp hev' hid2
          simp only [Io.put]
          rw [if_neg]
          · exact h3
          · rintro rfl
            rcases evOper_birth hb hev' with ⟨rfl, _, _⟩ | ⟨b', _, _, rfl, hid', _⟩
            · cases hid2
            · rw [hid2] at hid'
              have hid' := Option.some.inj hid'
              rcases Nat.lt_or_gt_of_ne hne with hlt | hlt
              · have h4 := d.pre_le (Nat.succ_le_of_lt hlt) (d.pre_succ hy hp hev') t1
                simp only [alloc_next] at h4; omega
              · have h4 := d.pre_le (Nat.succ_le_of_lt hlt) (d.pre_succ hz t1 t2) hp
                simp only [alloc_next] at h4; omega
end
end Ab
set_option linter.unusedSimpArgs false
set_option linter.unusedVariables false
namespace Ab
open Go RowKit
theorem countP_lt {α : Type} {p q : α → Bool} : ∀ {l : List α}, (∀ x ∈ l, q x = true → p x = true) → ∀ {x : α}, x ∈ l → p x = true → q x = false → l.countP q < l.countP p
  | [], _, x, hx, _, _ => by simp at hx
  | y :: l, h, x, hx, hp, hq => by
    have hle : l.countP q ≤ l.countP p := List.countP_mono_left fun z hz => h z (by simp [hz])
    rw [List.countP_cons, List.countP_cons]
    rcases List.mem_cons.1 hx with rfl | hx
    · rw [hp, hq]; simp; omega
    · have := countP_lt (fun z hz => h z (by simp [hz])) hx hp hq
      have h2 := h y (by simp)
      cases hqy : q y with
      | false => simp; omega
      | true => rw [h2 hqy]; simp; omega
section
variable {L : Lk} {w0 : World}
variable {nt : Nat} {ops : Array Oper} {call : CallT} {ord : List Nat} {zs : List Z} {fl : List (Nat × List Nat)} {e0 : Env} {h0 : H} {E : Env} {hN : H} {gs : List H}
theorem Inv.fin (d : DH L nt ops call ord zs fl e0 h0 E hN gs) {ι0 : Io} {M0 : Mm} {a0 : Act} {listed : Array Bool} {a : Act} {w : World} {ι : Io} {M : Mm} {G : H} {j : Nat}
    (inv : Inv L w0 ops call zs e0 h0 E gs ι0 M0 a0 listed a w ι M G j) (hall : ∀ z ∈ zs, listed.getD z.i false = true) : G = hN ∧ EnvR L ι M E a.tmps := by
  have hj : j = nl (zs.map (·.x)) := by
    rcases Nat.lt_or_ge j (nl (zs.map (·.x))) with h | h
    · obtain ⟨q, x, _, hx, hl, hn⟩ := nl_exists (zs.map (·.x)) (zs.map (·.x)).length j (by rw [List.take_length]; exact h)
      rw [List.getElem?_map] at hx
      obtain ⟨y, hy, rfl⟩ := Option.map_eq_some_iff.1 hx
      have := (inv.ld q y hy hl).1 (hall y (List.mem_of_getElem? hy))
      omega
    · have := inv.le; omega
  have hG := inv.hG
  rw [hj, evOpsD_last d.ev] at hG
  refine ⟨(Option.some.inj hG).symm, fun t => ?_⟩
  have := inv.env t
  rw [cut, look_append, if_neg] at this
  · exact this
  · intro m
    obtain ⟨z, hz, hu, _⟩ := mem_und.1 m
    simp only [hall z hz] at hu; cases hu
theorem Inv.any (hcal : Callee L w0 call) (hbod : Bodies L) (d : DH L nt ops call ord zs fl e0 h0 E hN gs) {ι0 : Io} {M0 : Mm} {a0 : Act} (hnt : nt ≤ a0.tmps.size) {Q : Exit → Act → World → Prop}
    (hQ : ∀ ι' M' a' w', Gr h0 ι0 M0 hN ι' M' → R L w0 ι' M' hN w' → EnvR L ι' M' E a'.tmps → a'.tmps.size = a0.tmps.size → a'.defers = a0.defers → Q .normal a' w') :
    ∀ (fuel : Nat) {listed : Array Bool} {a : Act} {w : World} {ι : Io} {M : Mm} {G : H} {j : Nat}, Inv L w0 ops call zs e0 h0 E gs ι0 M0 a0 listed a w ι M G j → (zs.countP fun z => !listed.getD z.i false) ≤ fuel → wpAny L.P .any ops Q fuel listed a w := by
  intro fuel
  have fin : ∀ {listed : Array Bool} {a : Act} {w : World} {ι : Io} {M : Mm} {G : H} {j : Nat}, Inv L w0 ops call zs e0 h0 E gs ι0 M0 a0 listed a w ι M G j → (∀ z ∈ zs, listed.getD z.i false = true) → Q .normal a w := by
    intro listed a w ι M G j inv hall
    obtain ⟨rfl, he⟩ := inv.fin d hall
    exact hQ _ _ _ _ inv.gr inv.r he inv.asz inv.adf
  have mem : ∀ {listed : Array Bool}, ∀ i ∈ Region.ready .any ops listed, ∃ z ∈ zs, z.i = i ∧ listed.getD z.i true = false := by
    intro listed i hi
    obtain ⟨hu, o, ho, _⟩ := mem_ready.1 hi
    obtain ⟨p, z, hz, rfl⟩ := d.exi (Array.getElem?_eq_some_iff.1 ho).1
    exact ⟨z, List.mem_of_getElem? hz, rfl, hu⟩
  have tf : ∀ {listed : Array Bool} {i : Nat}, listed.getD i true = false → listed.getD i false = false := by
    intro listed i h
    rw [Array.getD_eq_getD_getElem?] at h ⊢
    cases hg : listed[i]? with
    | none => rfl
    | some b => rw [hg] at h; exact h
  induction fuel with
  | zero =>
    intro listed a w ι M G j inv hc
    have hall : ∀ z ∈ zs, listed.getD z.i false = true := by
      intro z hz
      have := List.countP_eq_zero.1 (Nat.le_zero.1 hc) z hz
      simpa using this
    refine ⟨?_, fin inv hall⟩
    cases hr : Region.ready .any ops listed with
    | nil => rfl
    | cons i l =>
      obtain ⟨z, hz, rfl, hu⟩ := mem i (by rw [hr]; simp)
      have := tf hu; rw [hall z hz] at this; cases this
  | succ fuel ih =>
    intro listed a w ι M G j inv hc
    refine ⟨fun hr => ?_, fun i hi => ?_⟩
    · by_cases hall : ∀ z ∈ zs, listed.getD z.i false = true
      · exact fin inv hall
      · have : ∃ z ∈ zs, ¬ listed.getD z.i false = true := by
          by_cases hx : ∃ z ∈ zs, ¬ listed.getD z.i false = true
          · exact hx
          · exact absurd (fun z hz => by
              cases hb : listed.getD z.i false with
              | true => rfl
              | false => exact absurd ⟨z, hz, by simp [hb]⟩ hx) hall
        obtain ⟨z, hz, hnd, o, ho, hed⟩ := mkZ_ready (done := fun i => listed.getD i false = true) d.mz (fun z hz => by simp at hz) this
        have : z.i ∈ Region.ready .any ops listed := by
          refine mem_ready.2 ⟨?_, o, ho, fun e he hb => hed e.on (List.mem_map.2 ⟨e, List.mem_filter.2 ⟨by simpa using he, hb⟩, rfl⟩)⟩
          have hlt : z.i < listed.size := by rw [inv.sz]; exact (Array.getElem?_eq_some_iff.1 ho).1
          simp only [Bool.not_eq_true] at hnd
          rw [Array.getD_eq_getD_getElem?, Array.getElem?_eq_getElem hlt] at hnd ⊢
          exact hnd
        rw [hr] at this; cases this
    · refine inv.step hcal hbod d hnt hi fun a' w' ι' M' G' j' inv' => ih inv' ?_
      obtain ⟨z, hz, rfl, hu⟩ := mem i hi
      have hlt : z.i < listed.size := by
        obtain ⟨_, o, ho, _⟩ := mem_ready.1 hi
        rw [inv.sz]; exact (Array.getElem?_eq_some_iff.1 ho).1
      have := countP_lt (l := zs) (p := fun z => !listed.getD z.i false) (q := fun y => !(listed.setIfInBounds z.i true).getD y.i false) (fun y hy hq => by
        cases hb : listed.getD y.i false with
        | false => rfl
        | true => rw [(getD_set hlt).2 (.inr hb)] at hq; cases hq) hz (by simp only [tf hu]; rfl) (by simp only [(getD_set hlt).2 (.inl rfl)]; rfl)
      omega
theorem dregion_wp (hm : L.P.follows .mixedOrders = true) (hcal : Callee L w0 call) (hbod : Bodies L) (hn : NextMono call) {os : List AOper} (hc : compD L nt ops ord fl = some os) {ι : Io} {M : Mm} {w : World} {a : Act} {id : Nat}
    (he : EnvR L ι M e0 a.tmps) (hnt : nt ≤ a.tmps.size) (r : R L w0 ι M h0 w) (hev : evOpsD call os e0 h0 = some (E, hN, gs)) (hst : stables call os E gs fl = true) {Q : Exit → Act → World → Prop}
    (hQ : ∀ ι' M' a' w', Gr h0 ι M hN ι' M' → R L w0 ι' M' hN w' → EnvR L ι' M' E a'.tmps → a'.tmps.size = a.tmps.size → a'.defers = a.defers → Q .normal a' w') : (Code.region id ops true).wp L.P Q a w := by
  obtain ⟨zs, rfl, d⟩ := DH.of hc hev hst hn
  refine wp_region_any hm ?_
  obtain ⟨G, hG, hg⟩ := evOpsD_head hev
  have hf : ∀ i, (Array.replicate ops.size false).getD i false = false := fun i => by
    rw [Array.getD_eq_getD_getElem?]
    cases h : (Array.replicate ops.size false)[i]? with
    | none => rfl
    | some b => obtain ⟨hlt, hb⟩ := Array.getElem?_eq_some_iff.1 h; simp at hb; simp [← hb]
  have inv : Inv L w0 ops call zs e0 h0 E gs ι M a (Array.replicate ops.size false) a { w with drawn := w.drawn + 1 } ι M G 0 := by
    refine ⟨by simp, fun i o _ h => (by have h2 : (Array.replicate ops.size false).getD i false = true := h; rw [hf] at h2; cases h2), hG, fun p z _ _ => ⟨fun h => (by rw [hf] at h; cases h), fun h => (by omega)⟩, Nat.zero_le _, ⟨hg.nx, fun _ _ q => q, fun _ _ _ q => q, fun _ _ _ q => q⟩, (r.drew _).gw hg, fun t => ?_, rfl, rfl, ?_⟩
    · have hlk : look (cut zs (fun i => (Array.replicate ops.size false).getD i false) e0 E) t = look e0 t := by
        rw [cut, look_append]
        by_cases hu : t ∈ und zs fun i => (Array.replicate ops.size false).getD i false
        · rw [if_pos hu]
        · rw [if_neg hu]
          refine evOps_look (evOpsD_ops d.ev) t fun m => hu ?_
          have : t ∈ dsts ((zs.map (·.x)).drop 0) := m
          obtain ⟨q, y, _, hy, hd⟩ := d.drop this
          exact mem_und.2 ⟨y, List.mem_of_getElem? hy, hf _, hd⟩
      rw [hlk]; exact he t
    · intro q y eq hq v h' id hy hb _ hp hev' hid
      cases hι : ι id with
      | none => rfl
      | some l =>
        rcases evOper_birth hb hev' with ⟨rfl, _, _⟩ | ⟨b, _, _, rfl, hid', _⟩
        · cases hid
        · rw [hid] at hid'; obtain rfl := Option.some.inj hid'
          have h1 := r.dom _ l hι
          have h2 := d.pre_le (Nat.zero_le q) (e1 := e0) (h1 := h0) rfl hp
          omega
  refine inv.any hcal hbod d hnt hQ ops.size ?_
  refine Nat.le_trans List.countP_le_length ?_
  rw [← d.len, ← (mkZ_spec d.mz).1]; simp
def comp (L : Lk) (nt : Nat) : Code → ACode → Option ACode
  | .skip, .skip => some .skip
  | .region _ ops false, .reg _ keep => (compOps L nt ops ops.toList).bind fun os => some (.reg os keep)
  | .region _ ops true, .dreg ord _ fl keep => (compD L nt ops ord fl).bind fun os => some (.dreg ord os fl keep)
  | .seq a b, .seq x y => (comp L nt a x).bind fun x' => (comp L nt b y).bind fun y' => some (.seq x' y')
  | .cond c a b, .cond _ x y keep => (cX L c).bind fun c' => (comp L nt a x).bind fun x' => (comp L nt b y).bind fun y' => some (.cond c' x' y' keep)
  | .block id c, .block _ x keep => (comp L nt c x).bind fun x' => some (.block id x' keep)
  | .loop c, .loop keep x => (comp L nt c x).bind fun x' => some (.loop keep x')
  | .exit id, .exit _ => some (.exit id)
  | .ret, .ret => some .ret
  | _, _ => none
def exOf : Ex → Exit
  | .normal => .normal
  | .exit id => .exit id
  | .ret => .ret
theorem code_wp (hm : L.P.follows .mixedOrders = true) (hcal : Callee L w0 call) (hbod : Bodies L) (hn : NextMono call) (k : Nat) : ∀ (c : Code) (x0 x : ACode), comp L nt c x0 = some x → ∀ {e : Env} {a : Act} {ι : Io} {M : Mm} {h : H} {w : World} {ex : Ex} {e' : Env} {h' : H} {Q : Exit → Act → World → Prop},
    EnvR L ι M e a.tmps → nt ≤ a.tmps.size → R L w0 ι M h w → evC call (loopN k) x e h = some (ex, e', h') →
    (∀ ι' M' a' w', Gr h ι M h' ι' M' → R L w0 ι' M' h' w' → EnvR L ι' M' e' a'.tmps → a'.tmps.size = a.tmps.size → a'.defers = a.defers → Q (exOf ex) a' w') → c.wp L.P Q a w := by
  intro c
  induction c with
  | skip =>
    intro x0 x hx e a ι M h w ex e' h' Q he hnt r hev hQ
    cases x0 <;> simp only [comp, reduceCtorEq] at hx
    obtain rfl := Option.some.inj hx
    cases hev
    exact wp_skip (hQ _ _ _ _ (.refl _ _ _) r he rfl rfl)
  | region id ops dr =>
    intro x0 x hx e a ι M h w ex e' h' Q he hnt r hev hQ
    cases dr with
    | false =>
      cases x0 <;> simp only [comp, reduceCtorEq] at hx
      simp only [Option.bind_eq_some_iff] at hx
      obtain ⟨os, h1, hx⟩ := hx
      obtain rfl := Option.some.inj hx
      simp only [evC, Option.bind_eq_some_iff] at hev
      obtain ⟨⟨e1, h2⟩, hv, hev⟩ := hev
      cases hev
      refine wp_region ?_
      have := ops_wp hcal hbod hn ops.toList 0 (Q := Q) (fun j => by simp) h1 he hnt r hv (fun ι' M' a' w' g r' he' hs hd => hQ _ _ _ _ g r' (he'.restr _) hs hd)
      rwa [← List.range_eq_range', Array.length_toList] at this
    | true =>
      cases x0 <;> simp only [comp, reduceCtorEq] at hx
      simp only [Option.bind_eq_some_iff] at hx
      obtain ⟨os, h1, hx⟩ := hx
      obtain rfl := Option.some.inj hx
      simp only [evC, Option.bind_eq_some_iff] at hev
      obtain ⟨⟨e1, h2, gs⟩, hv, hev⟩ := hev
      split at hev
      · rename_i hst
        cases hev
        exact dregion_wp hm hcal hbod hn h1 he hnt r hv hst (fun ι' M' a' w' g r' he' hs hd => hQ _ _ _ _ g r' (he'.restr _) hs hd)
      · cases hev
  | seq c1 c2 i1 i2 =>
    intro x0 x hx e a ι M h w ex e' h' Q he hnt r hev hQ
    cases x0 <;> simp only [comp, reduceCtorEq] at hx
    simp only [Option.bind_eq_some_iff] at hx
    obtain ⟨y1, g1, y2, g2, hx⟩ := hx
    obtain rfl := Option.some.inj hx
    simp only [evC, Option.bind_eq_some_iff] at hev
    obtain ⟨⟨ex1, e1, h1⟩, hv, hev⟩ := hev
    refine wp_seq (i1 _ _ g1 he hnt r hv fun ι' M' a' w' g r' he' hs hd => ?_)
    split at hev
    · rename_i q; cases q
      exact i2 _ _ g2 he' (by rw [hs]; exact hnt) r' hev fun ι2 M2 a2 w2 gg r2 he2 hs2 hd2 => hQ _ _ _ _ (g.trans gg) r2 he2 (by rw [hs2, hs]) (by rw [hd2, hd])
    · rename_i hne
      cases hev
      have : Q (exOf ex) a' w' := hQ _ _ _ _ g r' he' hs hd
      cases ex with
      | normal => exact absurd rfl (hne _ _)
      | exit id => exact this
      | ret => exact this
  | cond cnd c1 c2 i1 i2 =>
    intro x0 x hx e a ι M h w ex e' h' Q he hnt r hev hQ
    cases x0 <;> simp only [comp, reduceCtorEq] at hx
    simp only [Option.bind_eq_some_iff] at hx
    obtain ⟨c', g0, y1, g1, y2, g2, hx⟩ := hx
    obtain rfl := Option.some.inj hx
    simp only [evC] at hev
    split at hev
    · rename_i t ht
      have hc := X_sound he g0
      rw [ht] at hc
      refine wp_cond (t := t) hc.bool_inv ?_
      simp only [Option.bind_eq_some_iff] at hev
      obtain ⟨⟨ex1, e1, h1⟩, hv, hev⟩ := hev
      have hout : ex1 = ex ∧ h1 = h' ∧ ∀ ι' M' (tm : Array Value), EnvR L ι' M' e1 tm → EnvR L ι' M' e' tm := by
        split at hev
        · rename_i q; cases q; cases hev; exact ⟨rfl, rfl, fun _ _ _ he => he.restr _⟩
        · cases hev; exact ⟨rfl, rfl, fun _ _ _ he => he⟩
      obtain ⟨rfl, rfl, hr⟩ := hout
      cases t with
      | true => exact i1 _ _ g1 he hnt r hv fun ι' M' a' w' g r' he' hs hd => hQ _ _ _ _ g r' (hr _ _ _ he') hs hd
      | false => exact i2 _ _ g2 he hnt r hv fun ι' M' a' w' g r' he' hs hd => hQ _ _ _ _ g r' (hr _ _ _ he') hs hd
    · cases hev
  | block id c1 i1 =>
    intro x0 x hx e a ι M h w ex e' h' Q he hnt r hev hQ
    cases x0 <;> simp only [comp, reduceCtorEq] at hx
    simp only [Option.bind_eq_some_iff] at hx
    obtain ⟨y1, g1, hx⟩ := hx
    obtain rfl := Option.some.inj hx
    simp only [evC, Option.bind_eq_some_iff] at hev
    obtain ⟨⟨ex1, e1, h1⟩, hv, hev⟩ := hev
    refine wp_block (i1 _ _ g1 he hnt r hv fun ι' M' a' w' g r' he' hs hd => ?_)
    split at hev
    · rename_i q; cases q; cases hev; exact hQ _ _ _ _ g r' (he'.restr _) hs hd
    · rename_i j _ _ q; cases q
      simp only [exOf, Exit.inBlock]
      split at hev
      · rename_i hj; cases hev; rw [if_pos hj]; exact hQ _ _ _ _ g r' (he'.restr _) hs hd
      · rename_i hj; cases hev; rw [if_neg hj]; exact hQ _ _ _ _ g r' he' hs hd
    · rename_i q; cases q; cases hev; exact hQ _ _ _ _ g r' he' hs hd
  | loop c1 i1 =>
    intro x0 x hx e a ι M h w ex e' h' Q he hnt r hev hQ
    cases x0 <;> simp only [comp, reduceCtorEq] at hx
    rename_i keep y
    simp only [Option.bind_eq_some_iff] at hx
    obtain ⟨y1, g1, hx⟩ := hx
    obtain rfl := Option.some.inj hx
    simp only [evC] at hev
    have key : ∀ (n : Nat) {e : Env} {a : Act} {ι : Io} {M : Mm} {h : H} {w : World}, EnvR L ι M e a.tmps → nt ≤ a.tmps.size → R L w0 ι M h w → loopN n (fun e h => evC call (loopN k) y1 (restr e keep) h) e h = some (ex, e', h') →
        (∀ ι' M' a' w', Gr h ι M h' ι' M' → R L w0 ι' M' h' w' → EnvR L ι' M' e' a'.tmps → a'.tmps.size = a.tmps.size → a'.defers = a.defers → Q (exOf ex) a' w') → Code.rounds L.P c1 Q n a w := by
      intro n
      induction n with
      | zero => intro e a ι M h w _ _ _ hev; cases hev
      | succ n ih =>
        intro e a ι M h w he hnt r hev hQ
        simp only [loopN, Option.bind_eq_some_iff] at hev
        obtain ⟨⟨ex1, e1, h1⟩, hv, hev⟩ := hev
        refine i1 _ _ g1 (he.restr _) hnt r hv fun ι' M' a' w' g r' he' hs hd => ?_
        split at hev
        · rename_i q; cases q
          exact ih he' (by rw [hs]; exact hnt) r' hev fun ι2 M2 a2 w2 gg r2 he2 hs2 hd2 => hQ _ _ _ _ (g.trans gg) r2 he2 (by rw [hs2, hs]) (by rw [hd2, hd])
        · rename_i hne
          cases hev
          have : Q (exOf ex) a' w' := hQ _ _ _ _ g r' he' hs hd
          cases ex with
          | normal => exact absurd rfl (hne _ _)
          | exit id => exact this
          | ret => exact this
    exact wp_loop_rounds k (key k he hnt r hev hQ)
  | exit id =>
    intro x0 x hx e a ι M h w ex e' h' Q he hnt r hev hQ
    cases x0 <;> simp only [comp, reduceCtorEq] at hx
    obtain rfl := Option.some.inj hx
    cases hev
    exact wp_exit (hQ _ _ _ _ (.refl _ _ _) r he rfl rfl)
  | ret =>
    intro x0 x hx e a ι M h w ex e' h' Q he hnt r hev hQ
    cases x0 <;> simp only [comp, reduceCtorEq] at hx
    obtain rfl := Option.some.inj hx
    cases hev
    exact wp_ret (hQ _ _ _ _ (.refl _ _ _) r he rfl rfl)
  | _ =>
    intro x0 x hx
    cases x0 <;> simp only [comp, reduceCtorEq] at hx
end
end Ab
set_option linter.unusedSimpArgs false
set_option linter.unusedVariables false
namespace Ab
open Go RowKit
structure Kp (h h' : H) : Prop where
  fl : h'.floor = h.floor
  get : ∀ id, id < h.floor → h'.get id = h.get id
theorem Kp.refl (h : H) : Kp h h := ⟨rfl, fun _ _ => rfl⟩
theorem Kp.trans {a b c : H} (h : Kp a b) (k : Kp b c) : Kp a c := ⟨k.fl.trans h.fl, fun id hi => by rw [k.get id (by rw [h.fl]; exact hi), h.get id hi]⟩
theorem Kp.alloc {h : H} (hf : h.floor ≤ h.next) (cs : List AV) : Kp h (h.alloc cs) := ⟨H.floor_alloc h cs, fun id hi => by rw [H.get_alloc]; rw [if_neg (by omega)]⟩
theorem Kp.set {h : H} {id : Nat} (hf : h.floor ≤ id) (cs : List AV) : Kp h (h.set id cs) := ⟨H.floor_set h id cs, fun i hi => by rw [H.get_set]; rw [if_neg (by omega)]⟩
theorem Kp.del {h : H} {id : Nat} (hf : h.floor ≤ id) : Kp h (h.del id) := ⟨rfl, fun i hi => by rw [H.get_del]; rw [if_neg (by omega)]⟩
def KpC (call : CallT) : Prop := ∀ f a h v h', h.floor ≤ h.next → call f a h = some (v, h') → Kp h h'
theorem aappc_kp {h h' : H} {sz by_ : Nat} {a : AV} {n : Nat} {bs : List AV} {v : AV} (hf : h.floor ≤ h.next) (hh : aappc h sz by_ a n bs = some (v, h')) : Kp h h' := by
  unfold aappc at hh
  repeat' split at hh
  all_goals first
    | (cases hh; done)
    | (obtain ⟨_, rfl⟩ := Prod.mk.inj (Option.some.inj hh); exact .alloc hf _)
    | (obtain ⟨_, rfl⟩ := Prod.mk.inj (Option.some.inj hh); exact .refl _)
    | skip
  rename_i hsf
  simp only [Option.bind_eq_some_iff] at hh
  obtain ⟨cs, _, hh⟩ := hh
  repeat' split at hh
  all_goals first
    | (cases hh; done)
    | (obtain ⟨_, rfl⟩ := Prod.mk.inj (Option.some.inj hh); exact .set hsf.2 _)
    | (obtain ⟨_, rfl⟩ := Prod.mk.inj (Option.some.inj hh); exact (Kp.del hsf.2).trans (Kp.alloc (show (h.del _).floor ≤ (h.del _).next from hf) _))
theorem evOp_kp {call : CallT} (hc : KpC call) {e : Env} {h h' : H} {o : AOp} {v : AV} (hf : h.floor ≤ h.next) (hev : evOp call e h o = some (v, h')) : Kp h h' := by
  by_cases hb : o.births = true
  · obtain ⟨b, _, _, rfl⟩ := evOp_birth hb hev
    exact .alloc hf _
  by_cases hl : o.loud = true
  · cases o <;> simp only [AOp.loud, Bool.false_eq_true] at hl <;> simp only [evOp] at hev
    case store n p x =>
      simp only [Option.bind_eq_some_iff, Option.some.injEq, Prod.mk.injEq] at hev
      obtain ⟨h1, hs, _, rfl⟩ := hev
      unfold astore at hs
      split at hs
      · simp only [Option.bind_eq_some_iff] at hs
        obtain ⟨cs, _, hs⟩ := hs
        split at hs
        · rename_i q; obtain rfl := Option.some.inj hs; exact .set q.1 _
        · cases hs
      · cases hs
    case call f args =>
      split at hev
      · exact hc _ _ _ _ _ hf hev
      · cases hev
    case inv2 => cases hev
    case app =>
      unfold aapp at hev
      simp only [Option.bind_eq_some_iff] at hev
      obtain ⟨r, _, hev⟩ := hev
      exact aappc_kp hf hev
    case appz =>
      unfold aappz at hev
      repeat' split at hev
      all_goals first
        | (cases hev; done)
        | (obtain ⟨_, rfl⟩ := Prod.mk.inj (Option.some.inj hev); exact .alloc hf _)
    case copy =>
      unfold acopy at hev
      simp only [Option.bind_eq_some_iff] at hev
      obtain ⟨r, _, hev⟩ := hev
      split at hev
      · obtain ⟨_, rfl⟩ := Prod.mk.inj (Option.some.inj hev); exact .refl _
      · split at hev
        · rename_i q
          simp only [Option.bind_eq_some_iff] at hev
          obtain ⟨r, _, hev⟩ := hev
          split at hev
          · obtain ⟨_, rfl⟩ := Prod.mk.inj (Option.some.inj hev); exact .set q.2.1 _
          · cases hev
        · cases hev
      · cases hev
    case clear =>
      simp only [Option.bind_eq_some_iff, Option.some.injEq, Prod.mk.injEq] at hev
      obtain ⟨h1, hev, _, rfl⟩ := hev
      unfold aclear at hev
      repeat' split at hev
      all_goals first
        | (cases hev; done)
        | (obtain rfl := Option.some.inj hev; exact .refl _)
        | skip
      rename_i q
      simp only [Option.bind_eq_some_iff] at hev
      obtain ⟨r, _, hev⟩ := hev
      split at hev
      · obtain rfl := Option.some.inj hev; exact .set q.2.1 _
      · cases hev
  · rw [evOp_quiet (by simpa using hl) (by simpa using hb) hev]; exact .refl _
theorem evOper_kp {call : CallT} (hc : KpC call) {e : Env} {h h' : H} {o : AOper} {v : AV} (hf : h.floor ≤ h.next) (hev : evOper call o e h = some (v, h')) : Kp h h' := by
  unfold evOper at hev
  repeat' split at hev
  all_goals first
    | exact evOp_kp hc hf hev
    | (obtain ⟨_, rfl⟩ := Prod.mk.inj (Option.some.inj hev); exact .refl _)
    | (cases hev; done)
theorem Kp.fn {h h' : H} (k : Kp h h') (hn : h.next ≤ h'.next) (hf : h.floor ≤ h.next) : h'.floor ≤ h'.next := by rw [k.fl]; omega
theorem evOps_kp {call : CallT} (hn : NextMono call) (hc : KpC call) : ∀ {os : List AOper} {e e' : Env} {h h' : H}, h.floor ≤ h.next → evOps call os e h = some (e', h') → Kp h h'
  | [], _, _, _, _, _, hev => by obtain ⟨_, rfl⟩ := Prod.mk.inj (Option.some.inj hev); exact .refl _
  | o :: os, _, _, _, _, hf, hev => by
    simp only [evOps, Option.bind_eq_some_iff] at hev
    obtain ⟨r, h1, h2⟩ := hev
    have k := evOper_kp hc hf h1
    exact k.trans (evOps_kp hn hc (k.fn (evOper_next hn h1) hf) h2)
def KpF (F : Env → H → Res) : Prop := ∀ e h x e' h', h.floor ≤ h.next → F e h = some (x, e', h') → Kp h h'
theorem kp_loopN {F : Env → H → Res} (hN : NextF F) (hF : KpF F) : ∀ n, KpF (loopN n F)
  | 0, _, _, _, _, _, _, h => by cases h
  | n + 1, e, h, x, e', h', hf, hev => by
    simp only [loopN, Option.bind_eq_some_iff] at hev
    obtain ⟨⟨y, e1, h1⟩, ha, hb⟩ := hev
    have k := hF _ _ _ _ _ hf ha
    split at hb
    · rename_i q; cases q
      exact k.trans (kp_loopN hN hF n _ _ _ _ _ (k.fn (hN _ _ _ _ _ ha) hf) hb)
    · cases hb; exact k
theorem evC_kp {call : CallT} (hn : NextMono call) (hc : KpC call) (d : Nat) : ∀ (x : ACode), KpF (evC call (loopN d) x)
  | .skip, _, _, _, _, _, _, hev => by cases hev; exact .refl _
  | .exit _, _, _, _, _, _, _, hev => by cases hev; exact .refl _
  | .ret, _, _, _, _, _, _, hev => by cases hev; exact .refl _
  | .reg ops keep, _, _, _, _, _, hf, hev => by
    simp only [evC, Option.bind_eq_some_iff] at hev
    obtain ⟨r, h1, h2⟩ := hev
    cases h2; exact evOps_kp hn hc hf h1
  | .dreg ord ops fl keep, _, _, _, _, _, hf, hev => by
    simp only [evC, Option.bind_eq_some_iff] at hev
    obtain ⟨r, h1, h2⟩ := hev
    split at h2
    · cases h2; exact evOps_kp hn hc hf (evOpsD_ops h1)
    · cases h2
  | .seq a b, _, _, _, _, _, hf, hev => by
    simp only [evC, Option.bind_eq_some_iff] at hev
    obtain ⟨⟨y, e1, h1⟩, ha, hb⟩ := hev
    have k := evC_kp hn hc d a _ _ _ _ _ hf ha
    split at hb
    · rename_i q
      cases q
      exact k.trans (evC_kp hn hc d b _ _ _ _ _ (k.fn (evC_next hn (nextL_loopN d) a _ _ _ _ _ ha) hf) hb)
    · cases hb; exact k
  | .cond x a b keep, _, h0, _, _, _, hf, hev => by
    simp only [evC] at hev
    split at hev
    · simp only [Option.bind_eq_some_iff] at hev
      obtain ⟨⟨y, e1, h1⟩, ha, hb⟩ := hev
      have : Kp h0 h1 := by
        split at ha
        · exact evC_kp hn hc d a _ _ _ _ _ hf ha
        · exact evC_kp hn hc d b _ _ _ _ _ hf ha
      split at hb
      · rename_i q; cases q; cases hb; exact this
      · cases hb; exact this
    · cases hev
  | .block id c keep, _, _, _, _, _, hf, hev => by
    simp only [evC, Option.bind_eq_some_iff] at hev
    obtain ⟨⟨y, e1, h1⟩, ha, hb⟩ := hev
    have := evC_kp hn hc d c _ _ _ _ _ hf ha
    split at hb
    · rename_i q; cases q; cases hb; exact this
    · rename_i q; cases q
      split at hb <;> (cases hb; exact this)
    · rename_i q; cases q; cases hb; exact this
  | .loop keep c, _, _, _, _, _, hf, hev => kp_loopN (fun _ _ _ _ _ h => evC_next hn (nextL_loopN d) c _ _ _ _ _ h) (fun _ _ _ _ _ hf h => evC_kp hn hc d c _ _ _ _ _ hf h) d _ _ _ _ _ hf hev
theorem kp_callN (A : AProg) : ∀ d, KpC (callN A d)
  | 0, _, _, _, _, _, _, h => by cases h
  | d + 1, f, args, h, v, h', hf, hev => by
    simp only [callN, Option.bind_eq_some_iff] at hev
    obtain ⟨fn, _, hr⟩ := hev
    unfold runF at hr
    split at hr
    · simp only [Option.bind_eq_some_iff] at hr
      obtain ⟨⟨y, e1, h1⟩, ha, hb⟩ := hr
      unfold fin at hb
      split at hb
      · cases hb
      · rename_i q; cases q
        simp only [Option.bind_eq_some_iff] at hb
        obtain ⟨vs, _, hb⟩ := hb
        split at hb
        · simp only [Option.bind_eq_some_iff] at hb
          obtain ⟨_, _, hb⟩ := hb
          cases hb; exact .refl _
        · rename_i hp; cases hb
          rw [if_neg hp] at ha
          exact evC_kp (next_callN A d) (kp_callN A d) d _ _ _ _ _ _ hf ha
    · cases hr
end Ab
set_option linter.unusedSimpArgs false
set_option linter.unusedVariables false
namespace Ab
open Go RowKit
section
variable {L : Lk} {w0 : World} {ι ι1 : Io} {M M1 : Mm} {h h1 : H} {w w1 : World}
open Classical in
noncomputable def keepM (M1 : Mm) (ι1 : Io) (h1 : H) (fl : Nat) (w1 : World) : Mm := fun b o =>
  match M1 b o with
  | some v => some v
  | none => if ∃ id cs l, fl ≤ id ∧ h1.get id = some cs ∧ ι1 id = some l ∧ l.block = b ∧ l.base ≤ o ∧ o < l.base + cs.length then w1.cell? (at' b o) else none
theorem keepM_le (fl : Nat) : LeM M1 (keepM M1 ι1 h1 fl w1) := fun b o v q => by simp only [keepM, q]
theorem keepM_cell (r : R L w0 ι1 M1 h1 w1) {fl id : Nat} (hid : fl ≤ id) {cs : List AV} (hg : h1.get id = some cs) {l : Loc} (hl : ι1 id = some l) {i : Nat} (hi : i < cs.length) {v : Value} (hv : w1.cell? (at' l.block (l.base + i)) = some v) : keepM M1 ι1 h1 fl w1 l.block (l.base + i) = some v := by
  simp only [keepM]
  split
  · rename_i u hu; rw [r.imm _ _ _ hu] at hv; exact hv
  · rw [if_pos ⟨id, cs, l, hid, hg, hl, rfl, by omega, by omega⟩]; exact hv
theorem keepM_spec {fl b o : Nat} {v : Value} (hv : keepM M1 ι1 h1 fl w1 b o = some v) : M1 b o = some v ∨ (w1.cell? (at' b o) = some v ∧ ∃ id cs l, fl ≤ id ∧ h1.get id = some cs ∧ ι1 id = some l ∧ l.block = b ∧ l.base ≤ o ∧ o < l.base + cs.length) := by
  simp only [keepM] at hv
  split at hv
  · rename_i u hu; obtain rfl := Option.some.inj hv; exact .inl hu
  · split at hv
    · rename_i q; exact .inr ⟨hv, q⟩
    · cases hv
theorem R.back (r : R L w0 ι M h w) (r1 : R L w0 ι1 M1 h1 w1) (hg : ∀ id, id < h.next → h1.get id = h.get id) (hι : LeI ι ι1) (hM : LeM M M1) : R L w0 ι (keepM M1 ι1 h1 h.next w1) h w1 := by
  have g : ∀ id cs l, h.get id = some cs → ι id = some l → h1.get id = some cs ∧ ι1 id = some l := fun id cs l a b => ⟨by rw [hg id (r.dom id l b)]; exact a, hι _ _ b⟩
  refine ⟨r1.below, r.dom, fun id cs l a b => r1.blk id cs l (g _ _ _ a b).1 (g _ _ _ a b).2, fun id cs l a b => r1.own id cs l (g _ _ _ a b).1 (g _ _ _ a b).2, fun id cs l a b i x hx => ?_, r.disj, fun b o v hv => ?_, fun b o v id cs l hv a c => ?_⟩
  · obtain ⟨v, q1, q2⟩ := r1.val id cs l (g _ _ _ a b).1 (g _ _ _ a b).2 i x hx
    obtain ⟨v0, _, q3⟩ := r.val id cs l a b i x hx
    exact ⟨v, q1, (q2.shrink hι q3).mono (fun _ _ q => q) (keepM_le _)⟩
  · rcases keepM_spec hv with q | ⟨q, _⟩
    · exact r1.imm b o v q
    · exact q
  · obtain ⟨a1, c1⟩ := g _ _ _ a c
    rcases keepM_spec hv with q | ⟨_, id', cs', l', q1, q2, q3, q4, q5, q6⟩
    · exact r1.immd b o v id cs l q a1 c1
    · intro hb
      have hne : id ≠ id' := fun e => by have := r.dom id l c; omega
      have hlen := (r1.blk id' cs' l' q2 q3)
      rcases r1.disj id id' cs cs' l l' a1 q2 c1 q3 hne (by omega) with hd | hd <;> omega
theorem mapO_spec {f : AV → Option AV} : ∀ {l l' : List AV}, mapO f l = some l' → l'.length = l.length ∧ ∀ (i : Nat) (a' : AV), l'[i]? = some a' → ∃ a, l[i]? = some a ∧ f a = some a'
  | [], l', h => by obtain rfl := Option.some.inj h; exact ⟨rfl, fun i a q => by simp at q⟩
  | v :: r, l', h => by
    simp only [mapO, Option.bind_eq_some_iff] at h
    obtain ⟨v', h1, r', h2, h3⟩ := h
    obtain rfl := Option.some.inj h3
    obtain ⟨g1, g2⟩ := mapO_spec h2
    refine ⟨by simp [g1], fun i a q => ?_⟩
    cases i with
    | zero => simp at q; subst q; exact ⟨v, rfl, h1⟩
    | succ i => simpa using g2 i a (by simpa using q)
theorem snap_sound (r1 : R L w0 ι1 M1 h1 w1) {fl : Nat} (hold : ∀ id l, id < fl → ι1 id = some l → ι id = some l) : ∀ (n : Nat) (top : Bool) (a a' : AV) (v : Value), V L ι1 M1 a v → snap h1.get fl n top a = some a' →
    (top = true → V L ι (keepM M1 ι1 h1 fl w1) a' v) ∧ (top = false → VI L (keepM M1 ι1 h1 fl w1) a' v) := by
  intro n
  induction n with
  | zero => intro top a a' v _ hs; cases hs
  | succ n ih =>
    intro top a a' v hV hs
    have imm : ∀ {x : AV}, VI L M1 x v → a' = x → (top = true → V L ι (keepM M1 ι1 h1 fl w1) a' v) ∧ (top = false → VI L (keepM M1 ι1 h1 fl w1) a' v) := by
      intro x hx e
      subst e
      exact ⟨fun _ => .imm (hx.mono (keepM_le _)), fun _ => hx.mono (keepM_le _)⟩
    have row : ∀ {t : Bool} {xs ys : List AV} {vs : List Value}, mapO (snap h1.get fl n t) xs = some ys → (∀ (i : Nat) (a : AV) (v : Value), xs[i]? = some a → vs[i]? = some v → V L ι1 M1 a v) →
        (t = true → ∀ (i : Nat) (a : AV) (v : Value), ys[i]? = some a → vs[i]? = some v → V L ι (keepM M1 ι1 h1 fl w1) a v) ∧ (t = false → ∀ (i : Nat) (a : AV) (v : Value), ys[i]? = some a → vs[i]? = some v → VI L (keepM M1 ι1 h1 fl w1) a v) := by
      intro t xs ys vs hm hx
      obtain ⟨_, g2⟩ := mapO_spec hm
      refine ⟨fun ht i a v ha hv => ?_, fun ht i a v ha hv => ?_⟩
      · obtain ⟨b, hb, hsb⟩ := g2 i a ha
        exact (ih t b a v (hx i b v hb hv) hsb).1 ht
      · obtain ⟨b, hb, hsb⟩ := g2 i a ha
        exact (ih t b a v (hx i b v hb hv) hsb).2 ht
    have cells : ∀ {id : Nat} {cs : List AV} {l : Loc} {off m : Nat} {ys : List AV}, ¬ id < fl → h1.get id = some cs → ι1 id = some l → mapO (snap h1.get fl n false) ((cs.drop off).take m) = some ys →
        ∃ vs : Nat → Value, (∀ (i : Nat) (c : AV), ys[i]? = some c → keepM M1 ι1 h1 fl w1 l.block (l.base + off + i) = some (vs i)) ∧ ∀ (i : Nat) (c : AV), ys[i]? = some c → VI L (keepM M1 ι1 h1 fl w1) c (vs i) := by
      intro id cs l off m ys hid hg hl hm
      obtain ⟨_, g2⟩ := mapO_spec hm
      refine ⟨fun i => (w1.cell? (at' l.block (l.base + off + i))).getD undef, ?_⟩
      have key : ∀ (i : Nat) (c : AV), ys[i]? = some c → ∃ v, w1.cell? (at' l.block (l.base + off + i)) = some v ∧ off + i < cs.length ∧ VI L (keepM M1 ι1 h1 fl w1) c v := by
        intro i c hc
        obtain ⟨b, hb, hsb⟩ := g2 i c hc
        have hb' : cs[off + i]? = some b := by
          rw [List.getElem?_take] at hb
          split at hb
          · rwa [List.getElem?_drop] at hb
          · cases hb
        obtain ⟨v, q1, q2⟩ := r1.val id cs l hg hl (off + i) b hb'
        rw [← Nat.add_assoc] at q1
        exact ⟨v, q1, (List.getElem?_eq_some_iff.1 hb').1, (ih false b c v q2 hsb).2 rfl⟩
      refine ⟨fun i c hc => ?_, fun i c hc => ?_⟩
      · obtain ⟨v, q1, q2, _⟩ := key i c hc
        simp only [q1, Option.getD_some]
        rw [Nat.add_assoc]
        exact keepM_cell r1 (by omega) hg hl q2 (by rw [← Nat.add_assoc]; exact q1)
      · obtain ⟨v, q1, _, q3⟩ := key i c hc
        simp only [q1, Option.getD_some]; exact q3
    cases a with
    | bot => cases hV with | imm hx => exact imm hx (Option.some.inj hs).symm
    | bool b => cases hV with | imm hx => exact imm hx (Option.some.inj hs).symm
    | int k m => cases hV with | imm hx => exact imm hx (Option.some.inj hs).symm
    | str s => cases hV with | imm hx => exact imm hx (Option.some.inj hs).symm
    | nilp => cases hV with | imm hx => exact imm hx (Option.some.inj hs).symm
    | pimm c o => cases hV with | imm hx => exact imm hx (Option.some.inj hs).symm
    | nils => cases hV with | imm hx => exact imm hx (Option.some.inj hs).symm
    | simm t c o l s => cases hV with | imm hx => exact imm hx (Option.some.inj hs).symm
    | nilf => cases hV with | imm hx => exact imm hx (Option.some.inj hs).symm
    | nili => cases hV with | imm hx => exact imm hx (Option.some.inj hs).symm
    | pobj id off =>
      obtain ⟨l, hl, rfl⟩ := hV.pobj_inv
      simp only [snap] at hs
      split at hs
      · rename_i hid
        cases top with
        | false => cases hs
        | true => obtain rfl := Option.some.inj hs; exact ⟨fun _ => .pobj (hold id l hid hl), nofun⟩
      · rename_i hid
        simp only [Option.bind_eq_some_iff] at hs
        obtain ⟨cs, hg, ys, hm, hs⟩ := hs
        obtain rfl := Option.some.inj hs
        have hm' : mapO (snap h1.get fl n false) ((cs.drop 0).take cs.length) = some ys := by simpa using hm
        obtain ⟨vs, k1, k2⟩ := cells hid hg hl hm'
        have : VI L (keepM M1 ι1 h1 fl w1) (.pimm ys off) (.pointer (some (at' l.block (l.base + off)))) := .pimm vs (fun i c hc => k1 i c hc) k2
        exact ⟨fun _ => .imm this, fun _ => this⟩
    | sobj id off len sz =>
      obtain ⟨l, cap, ad, hl, rfl, c1, c2, c3, c4⟩ := hV.sobj_inv
      simp only [snap] at hs
      split at hs
      · rename_i hid
        cases top with
        | false => cases hs
        | true => obtain rfl := Option.some.inj hs; exact ⟨fun _ => .sobj (hold id l hid hl) c1 c2 c3 c4, nofun⟩
      · rename_i hid
        simp only [Option.bind_eq_some_iff] at hs
        obtain ⟨cs, hg, hs⟩ := hs
        split at hs
        · rename_i hle
          simp only [Option.bind_eq_some_iff] at hs
          obtain ⟨ys, hm, hs⟩ := hs
          obtain rfl := Option.some.inj hs
          obtain ⟨vs, k1, k2⟩ := cells hid hg hl hm
          have hlen := (mapO_spec hm).1
          have hmul : len * sz ≤ cap * sz := Nat.mul_le_mul_right sz c1
          have : VI L (keepM M1 ι1 h1 fl w1) (.simm false ys 0 len sz) (.slice (some ad) len cap) :=
            .simm (b := l.block) (base := l.base + off) vs k1 k2 c1 (fun q => by rw [c2 q]; rfl) (by rw [hlen]; simp only [List.length_take, List.length_drop]; omega) nofun
          exact ⟨fun _ => .imm this, fun _ => this⟩
        · cases hs
    | agg cs =>
      simp only [snap, Option.bind_eq_some_iff] at hs
      obtain ⟨ys, hm, hs⟩ := hs
      obtain rfl := Option.some.inj hs
      obtain ⟨vs, rfl, q1, q2⟩ := hV.agg_inv
      have hl := (mapO_spec hm).1
      obtain ⟨k1, k2⟩ := row hm q2
      exact ⟨fun ht => .agg (by omega) (k1 ht), fun ht => .agg (by omega) (k2 ht)⟩
    | tup cs =>
      simp only [snap, Option.bind_eq_some_iff] at hs
      obtain ⟨ys, hm, hs⟩ := hs
      obtain rfl := Option.some.inj hs
      obtain ⟨vs, rfl, q1, q2⟩ := hV.tup_inv
      have hl := (mapO_spec hm).1
      obtain ⟨k1, k2⟩ := row hm q2
      exact ⟨fun ht => .tup (by omega) (k1 ht), fun ht => .tup (by omega) (k2 ht)⟩
    | fn f as cs =>
      simp only [snap, Option.bind_eq_some_iff] at hs
      obtain ⟨ys, hm, zs, hm2, hs⟩ := hs
      obtain rfl := Option.some.inj hs
      obtain ⟨fid, va, vc, rfl, q0, q1, q2, q3, q4⟩ := hV.fn_inv
      have hl := (mapO_spec hm).1
      have hl2 := (mapO_spec hm2).1
      obtain ⟨k1, k2⟩ := row hm q3
      obtain ⟨k3, k4⟩ := row hm2 q4
      exact ⟨fun ht => .fn q0 (by omega) (by omega) (k1 ht) (k3 ht), fun ht => .fn q0 (by omega) (by omega) (k2 ht) (k4 ht)⟩
    | iface t x =>
      simp only [snap, Option.bind_eq_some_iff] at hs
      obtain ⟨y, hy, hs⟩ := hs
      obtain rfl := Option.some.inj hs
      obtain ⟨tid, u, rfl, q1, q2⟩ := hV.iface_inv
      obtain ⟨k1, k2⟩ := ih top x y u q2 hy
      exact ⟨fun ht => .iface q1 (k1 ht), fun ht => .iface q1 (k2 ht)⟩
def compRes (L : Lk) : List ResultVar → Option (List RV)
  | [] => some []
  | .tmp t :: r => (compRes L r).bind fun rs => some (.tmp t :: rs)
  | .cell t ty :: r => (tagg L.P ty).bind fun a => (tsz L.P ty).bind fun n => (compRes L r).bind fun rs => some (.cell t a n :: rs)
theorem res_sound (r : R L w0 ι M h w) {e : Env} {tmps : Array Value} (he : EnvR L ι M e tmps) : ∀ {l : List ResultVar} {rs : List RV} {vs : List AV}, compRes L l = some rs → resAll e h rs = some vs →
    ∃ vals : List Value, ((l.mapM fun
      | .tmp t => pure (tmps.getD t undef)
      | .cell a t => do loadVar t (← asAddr (tmps.getD a undef)) : Sem (List Value)).run L.P w) = .ok vals w ∧ RowA L ι M vs vals
  | [], rs, vs, hc, hr => by
    obtain rfl := Option.some.inj hc
    obtain rfl := Option.some.inj hr
    exact ⟨[], rfl, rfl, fun i a v q => by simp at q⟩
  | .tmp t :: l, rs, vs, hc, hr => by
    simp only [compRes, Option.bind_eq_some_iff] at hc
    obtain ⟨rs', hc, q⟩ := hc
    obtain rfl := Option.some.inj q
    simp only [resAll, resOf, Option.bind_eq_some_iff] at hr
    obtain ⟨v, hv, vs', hr, q⟩ := hr
    obtain rfl := Option.some.inj hv
    obtain rfl := Option.some.inj q
    obtain ⟨vals, g1, g2⟩ := res_sound r he hc hr
    refine ⟨tmps.getD t undef :: vals, ?_, by simp [g2.1], fun i a v ha hv => ?_⟩
    · simp only [List.mapM_cons, Sem.run_bind, Sem.run_pure, Result.andThen_ok, g1]
    · cases i with
      | zero => simp at ha hv; subst ha; subst hv; rw [← Array.getD_eq_getD_getElem?]; exact he t
      | succ i => exact g2.2 i a v (by simpa using ha) (by simpa using hv)
  | .cell t ty :: l, rs, vs, hc, hr => by
    simp only [compRes, Option.bind_eq_some_iff] at hc
    obtain ⟨ag, ha, n, hn, rs', hc, q⟩ := hc
    obtain rfl := Option.some.inj q
    simp only [resAll, resOf, Option.bind_eq_some_iff] at hr
    obtain ⟨v, hv, vs', hr, q⟩ := hr
    obtain rfl := Option.some.inj q
    obtain ⟨vals, g1, g2⟩ := res_sound r he hc hr
    have ht := he t
    have hload : ∃ u, ((do loadVar ty (← asAddr (tmps.getD t undef)) : Sem Value).run L.P w) = .ok u w ∧ V L ι M v u := by
      unfold aload at hv
      split at hv
      · rename_i id off q
        rw [q] at ht
        obtain ⟨lo, hlo, hp⟩ := ht.pobj_inv
        simp only [Option.bind_eq_some_iff] at hv
        obtain ⟨cs, hg, hv⟩ := hv
        obtain ⟨u, k1, k2⟩ := rdc_sound ha hn (r.row hg hlo) hv
        exact ⟨u, by rw [hp]; simpa [asAddr] using k1, k2⟩
      · rename_i cs off q
        rw [q] at ht
        obtain ⟨b, base, hp, hrow⟩ := V.pimm_inv r ht
        obtain ⟨u, k1, k2⟩ := rdc_sound ha hn hrow hv
        exact ⟨u, by rw [hp]; simpa [asAddr] using k1, k2⟩
      · cases hv
    obtain ⟨u, k1, k2⟩ := hload
    refine ⟨u :: vals, ?_, by simp [g2.1], fun i a x hx hy => ?_⟩
    · simp only [List.mapM_cons, Sem.run_bind, Sem.run_pure, Result.andThen_ok, g1] at k1 ⊢
      rw [k1]; simp only [Result.andThen_ok, g1]
    · cases i with
      | zero => simp at hx hy; subst hx; subst hy; exact k2
      | succ i => exact g2.2 i a x (by simpa using hx) (by simpa using hy)
theorem results_sound (r : R L w0 ι M h w) {e : Env} {fn : Func} {tmps : Array Value} (he : EnvR L ι M e tmps) {rs : List RV} {vs : List AV} (hc : compRes L fn.results.toList = some rs) (hr : resAll e h rs = some vs) :
    ∃ v, (results fn tmps).run L.P w = .ok v w ∧ V L ι M (tupOf vs) v := by
  obtain ⟨vals, g1, g2⟩ := res_sound r he hc hr
  unfold results
  rw [Array.mapM_eq_mapM_toList]
  have : (if hx : vals.toArray.size = 1 then vals.toArray[0] else .tuple vals.toArray) = (if hx : vals.toArray.size = 1 then vals.toArray[0] else .tuple vals.toArray) := rfl
  refine ⟨if hx : vals.toArray.size = 1 then vals.toArray[0] else .tuple vals.toArray, ?_, ?_⟩
  · simp only [Sem.run_bind, Sem.run_map, Sem.run_pure]
    erw [g1]
    rfl
  · match vs, vals, g2 with
    | [v], [u], g2 => simpa [tupOf] using g2.2 0 v u rfl rfl
    | [], [], g2 => simp only [tupOf]; exact .tup g2.1 g2.2
    | a :: b :: vs, x :: y :: vals, g2 =>
      have : ¬ (x :: y :: vals).toArray.size = 1 := by simp
      rw [dif_neg this]
      exact .tup g2.1 g2.2
    | [], _ :: _, g2 => cases g2.1
    | _ :: _, [], g2 => cases g2.1
    | [_], _ :: _ :: _, g2 => cases g2.1
    | _ :: _ :: _, [_], g2 => cases g2.1
end
end Ab
set_option linter.unusedSimpArgs false
set_option linter.unusedVariables false
namespace Ab
open Go RowKit
structure LinkOk (L : Lk) (A : AProg) : Prop where
  hm : L.P.follows .mixedOrders = true
  fns : ∀ (fid : FuncId) (f : Nat), L.mf fid = some f → ∃ fn c, L.P.funcs[fid]? = some fn ∧ fn.body = some c ∧ (fn.name == "runtime.NumGoroutine") = false ∧
    ∀ af, A f = some af → (∃ x0, comp L fn.ntmps c x0 = some af.body) ∧ compRes L fn.results.toList = some af.res
theorem LinkOk.bodies {L : Lk} {A : AProg} (lk : LinkOk L A) : Bodies L := fun fid f h => let ⟨fn, c, a, b, d, _⟩ := lk.fns fid f h; ⟨fn, c, a, b, d⟩
theorem look_params : ∀ (args : List AV) (k t : Nat), look (params k args) t = if k ≤ t then (args[t - k]?).getD .bot else .bot
  | [], k, t => by simp [params, look]
  | v :: r, k, t => by
    simp only [params, look, look_params r (k + 1) t]
    by_cases h : k = t
    · subst h; simp
    · rw [if_neg h]
      by_cases hk : k ≤ t
      · have e : t - k = (t - (k + 1)) + 1 := by omega
        rw [if_pos hk, if_pos (by omega), e, List.getElem?_cons_succ]
      · rw [if_neg hk, if_neg (by omega)]
section
variable {L : Lk} {w0 : World} {ι : Io} {M : Mm} {h : H} {w : World}
theorem EnvR.params {args : List AV} {vals : List Value} (hr : RowA L ι M args vals) (n : Nat) : EnvR L ι M (params 0 args) (vals.toArray ++ Array.replicate n undef) := by
  intro t
  rw [look_params, if_pos (Nat.zero_le _), Nat.sub_zero]
  cases ha : args[t]? with
  | none => exact .imm (.bot _)
  | some a =>
    obtain ⟨hlt, _⟩ := List.getElem?_eq_some_iff.1 ha
    have hlt' : t < vals.length := by rw [← hr.1]; exact hlt
    have hv : vals[t]? = some vals[t] := List.getElem?_eq_getElem hlt'
    have := hr.2 t a _ ha hv
    rw [Array.getD_eq_getD_getElem?, Array.getElem?_append_left (by simpa using hlt')]
    simpa [hv] using this
theorem R.fence (r : R L w0 ι M h w) : R L w0 ι M h.fence w := ⟨r.below, r.dom, r.blk, r.own, r.val, r.disj, r.imm, r.immd⟩
theorem callee {A : AProg} (lk : LinkOk L A) : ∀ d, Callee L w0 (callN A d)
  | 0, _, _, _, _, _, _, _, _, _, _, _, hev, _, _ => by cases hev
  | d + 1, f, fid, args, vals, ι, M, h, h', w, v, hmf, hev, r, hrow => by
    have ih := callee lk d
    obtain ⟨fn, c, hf, hb, _, hA⟩ := lk.fns fid f hmf
    simp only [callN, Option.bind_eq_some_iff] at hev
    obtain ⟨af, haf, hev⟩ := hev
    obtain ⟨⟨x0, hx⟩, hres⟩ := hA af haf
    unfold runF at hev
    split at hev
    · rename_i hnp
      simp only [Option.bind_eq_some_iff] at hev
      obtain ⟨⟨ex, e1, h1⟩, hv, hfin⟩ := hev
      have hsz : fn.ntmps ≤ (vals.toArray ++ Array.replicate (fn.ntmps - vals.toArray.size) undef).size := by simp; omega
      refine calls_of_wp hf hb ?_
      have hr' : R L w0 ι M (if af.pure = true then h.fence else h) w := by
        split
        · exact r.fence
        · exact r
      refine code_wp lk.hm ih lk.bodies (next_callN A d) d c x0 af.body hx (a := { tmps := vals.toArray ++ Array.replicate (fn.ntmps - vals.toArray.size) undef, defers := [] }) (EnvR.params hrow _) hsz hr' hv ?_
      intro ι1 M1 a1 w1 g r1 he1 _ hd1
      have post : ∀ (P : Value → World → Prop) (vs : List AV), resAll e1 h1 af.res = some vs → (∀ u, V L ι1 M1 (tupOf vs) u → P u w1) → bodyPost L.P fn (fun e w' => ∃ v', e = .returned v' ∧ P v' w') .normal a1 w1 := by
        intro P vs hvs hP
        obtain ⟨u, k1, k2⟩ := results_sound r1 (fn := fn) he1 hres hvs
        exact ⟨hd1, u, k1, u, rfl, hP u k2⟩
      have main : ∀ vs, resAll e1 h1 af.res = some vs → (if af.pure = true then (snap h1.get h.next snapFuel true (tupOf vs)).bind fun v => some (v, h) else some (tupOf vs, h1)) = some (v, h') →
          bodyPost L.P fn (fun e w' => ∃ v', e = .returned v' ∧ Out L w0 ι M h h' v v' w') .normal a1 w1 := by
        intro vs hvs hfin
        split at hfin
        · rename_i hp
          simp only [Option.bind_eq_some_iff] at hfin
          obtain ⟨v2, hsn, hfin⟩ := hfin
          obtain ⟨rfl, rfl⟩ := Prod.mk.inj (Option.some.inj hfin)
          simp only [hp, if_true] at g hv
          have kp := evC_kp (next_callN A d) (kp_callN A d) d _ _ _ _ _ _ (Nat.le_refl _) hv
          refine post (fun u w' => Out L w0 ι M h h v2 u w') vs hvs fun u hu => ?_
          have hold : ∀ id l, id < h.next → ι1 id = some l → ι id = some l := fun id l a b => g.old id l a b
          exact ⟨ι, keepM M1 ι1 h1 h.next w1, fun _ _ q => q, fun b o x q => keepM_le _ b o x (g.mm _ _ _ q), fun _ _ _ q => q, r.back r1 (fun id hid => kp.get id hid) g.io g.mm, (snap_sound r1 hold _ true _ _ _ hu hsn).1 rfl⟩
        · rename_i hp
          obtain ⟨rfl, rfl⟩ := Prod.mk.inj (Option.some.inj hfin)
          rw [if_neg hp] at g
          exact post (fun u w' => Out L w0 ι M h h1 (tupOf vs) u w') vs hvs fun u hu => ⟨ι1, M1, g.io, g.mm, g.old, r1, hu⟩
      unfold fin at hfin
      split at hfin
      · cases hfin
      · rename_i hne q
        cases q
        simp only [Option.bind_eq_some_iff] at hfin
        obtain ⟨vs, hvs, hfin⟩ := hfin
        have := main vs hvs hfin
        cases ex with
        | normal => exact this
        | ret => exact this
        | exit id => exact (hne _ rfl).elim
    · cases hev
theorem callW_sound {A : AProg} (lk : LinkOk L A) : Callee L w0 (callW A) := by
  intro f fid args vals ι M h h' w v hmf hev r hrow
  obtain ⟨n, hn⟩ := callW_inv hev
  exact callee lk n f fid args vals ι M h h' w v hmf hn r hrow
end
end Ab
set_option linter.unusedVariables false
namespace Ab
open Go RowKit ChangeShapes WideShapes
def noI : Io := fun _ => none
def noM : Mm := fun _ _ => none
theorem R.start (L : Lk) (W : World) {M : Mm} (hM : ∀ b o v, M b o = some v → W.cell? (at' b o) = some v) : R L W noI M H.empty W :=
  ⟨Below.refl _ _, fun _ _ h => (by cases h), fun _ _ _ _ h => (by cases h), fun _ _ _ _ h => (by cases h), fun _ _ _ _ h => (by cases h), fun _ _ _ _ _ _ _ _ h => (by cases h), hM, fun _ _ _ _ _ _ _ _ h => (by cases h)⟩
theorem says_true {L : Lk} {A : AProg} (lk : LinkOk L A) {f : Nat} {fid : FuncId} {args : List AV} {vals : List Value} {M : Mm} {W : World} {h' : H} (hm : L.mf fid = some f) (hM : ∀ b o v, M b o = some v → W.cell? (at' b o) = some v)
    (hc : callW A f args H.empty = some (.bool true, h')) (hr : RowA L noI M args vals) : Calls L.P fid vals.toArray W fun e W' => e = .returned (.bool true) ∧ Below W.heap.size W W' := by
  refine (callW_sound lk f fid args vals noI M H.empty h' W _ hm hc (R.start L W hM) hr).mono fun e W' ⟨v', he, ι', M', _, _, _, r', hv⟩ => ?_
  have := hv.bool_inv
  subst this
  exact ⟨he, r'.below⟩
theorem int_rng {a : Int} (w : (Lit.int .i64 a).wf = true) : -9223372036854775808 ≤ a ∧ a < 9223372036854775808 := by
  simp only [Lit.wf, Bool.and_eq_true, decide_eq_true_eq] at w
  have h1 : IntKind.min .i64 = -9223372036854775808 := by decide
  have h2 : IntKind.max .i64 = 9223372036854775807 := by decide
  rw [h1, h2] at w
  omega
theorem str_sz {s : ByteArray} (w : s.size ≤ reachBytes) : s.size < 140737488355328 := by
  unfold reachBytes at w; omega
theorem post_true {H : Type} {enc : TypeId × Value → H} {P : Program} {f : Func} {s : ChangeSpec} {apart fresh handsOn : Bool} {W W' : World} {args : Array Value} {ds gs : List (DataW H)} {before pa pv : List MemPlace} {t : TypeId}
    (hW : DataW.Whole enc P f.params.toList s.vars apart W args.toList ds gs before) (hb : Below W.heap.size W W')
    (hrt : f.resultTypes = #[t]) (hres : ∀ (b : Nat) (sp : Nat → Bool) (hd : Bool), DataW.Trod enc P W' b sp hd t (.bool true) (.lit (.bool true)) []) (hsr : (s.fn H (ds ++ gs)).results = [.lit (.bool true)])
    (hargs : DataW.TrodAll enc P W' 0 (fun b => decide (b < W.heap.size)) true f.params.toList args.toList (s.fn H (ds ++ gs)).args pa)
    (hvars : DataW.TrodVars enc P W' (fun b => decide (b < W.heap.size)) s.vars (s.fn H (ds ++ gs)).vars pv) :
    s.post enc P f apart fresh handsOn false W args (.bool true) W' := by
  refine ⟨ds, gs, before, [], pa, pv, hW, ?_, hargs, hvars, hb.frame _, fun h => by cases h⟩
  rw [hrt, hsr]
  exact trodAll_mk1 (hres _ _ _)
end Ab
set_option linter.unusedVariables false
namespace Ab
open Go RowKit ChangeShapes WideShapes
inductive Ty where
  | bool
  | int (k : IntKind)
  | str
  | sl (e : Ty) (z b : Nat)
  | st (fs : List Ty)
mutual
inductive Sh (B : Nat) : Ty → List AV → Prop where
  | bool (b : Bool) : Sh B .bool [.bool b]
  | int {k : IntKind} {n : Int} (h : (Lit.int k n).wf = true) : Sh B (.int k) [.int k n]
  | str {s : ByteArray} (h : s.size ≤ B) : Sh B .str [.str s]
  | nils {e : Ty} {z b : Nat} : Sh B (.sl e z b) [.nils]
  | simm {e : Ty} {z b : Nat} (ess : List (List AV)) (h : ∀ es, es ∈ ess → Sh B e es) (hz : ∀ es, es ∈ ess → es.length = z) (hb : ess.length * b ≤ B) : Sh B (.sl e z b) [.simm false ess.flatten 0 ess.length z]
  | st {fs : List Ty} {as : List AV} (h : ShAll B fs as) : Sh B (.st fs) as
inductive ShAll (B : Nat) : List Ty → List AV → Prop where
  | nil : ShAll B [] []
  | cons {f : Ty} {fs : List Ty} {a r : List AV} (h : Sh B f a) (hr : ShAll B fs r) : ShAll B (f :: fs) (a ++ r)
end
def tysOf (P : Program) (r : TypeId → Option (Ty × Nat)) : Nat → List Field → Option (List Ty × Nat)
  | o, [] => some ([], o)
  | o, f :: l => if f.offset = o then (r f.type).bind fun y => if P.cellsOf f.type = y.2 then (tysOf P r (o + y.2) l).map fun x => (y.1 :: x.1, x.2) else none else none
def tyOf (P : Program) : Nat → TypeId → Option (Ty × Nat)
  | 0, _ => none
  | n + 1, t => match P.underlying t with
    | some .bool => some (.bool, 1)
    | some (.int k) => some (.int k, 1)
    | some .string => some (.str, 1)
    | some (.slice e) => (tyOf P n e).bind fun y => if 0 < y.2 ∧ P.cellsOf e = y.2 then some (.sl y.1 y.2 (P.bytesOf e), 1) else none
    | some (.struct fs) => (tysOf P (tyOf P n) 0 fs.toList).bind fun x => if P.cellsOf t = x.2 then some (.st x.1, x.2) else none
    | _ => none
theorem listOf {α : Type} {Q : Nat → α → Prop} : ∀ n : Nat, (∀ i, i < n → ∃ x, Q i x) → ∃ l : List α, l.length = n ∧ ∀ i x, l[i]? = some x → Q i x
  | 0, _ => ⟨[], rfl, fun i x h => by simp at h⟩
  | n + 1, h => by
    obtain ⟨l, hl, hq⟩ := listOf n fun i hi => h i (by omega)
    obtain ⟨x, hx⟩ := h n (by omega)
    refine ⟨l ++ [x], by simp [hl], fun i y hy => ?_⟩
    by_cases c : i < l.length
    · rw [List.getElem?_append_left c] at hy; exact hq i y hy
    · rw [List.getElem?_append_right (by omega)] at hy
      have hi : i = n := by
        rcases Nat.lt_or_ge n i with q | q
        · rw [List.getElem?_eq_none (by simp; omega)] at hy; cases hy
        · omega
      subst hi
      rw [hl, Nat.sub_self] at hy
      obtain rfl := Option.some.inj hy
      exact hx
theorem flatten_get {α : Type} {z : Nat} (hz : 0 < z) : ∀ (l : List (List α)) (_ : ∀ x ∈ l, x.length = z) (i : Nat), l.flatten[i]? = (l[i / z]?).bind (·[i % z]?)
  | [], _, i => by simp
  | x :: l, h, i => by
    have hx := h x (by simp)
    rw [List.flatten_cons]
    by_cases c : i < z
    · rw [List.getElem?_append_left (by omega), Nat.div_eq_of_lt c, Nat.mod_eq_of_lt c]; rfl
    · rw [List.getElem?_append_right (by omega), flatten_get hz l (fun y hy => h y (by simp [hy])), hx]
      have e1 : i / z = (i - z) / z + 1 := by rw [Nat.div_eq i z, if_pos ⟨hz, by omega⟩]
      have e2 : i % z = (i - z) % z := Nat.mod_eq_sub_mod (by omega)
      rw [e1, e2]; rfl
theorem flatten_len {α : Type} {z : Nat} : ∀ (l : List (List α)) (_ : ∀ x ∈ l, x.length = z), l.flatten.length = l.length * z
  | [], _ => by simp
  | x :: l, h => by
    rw [List.flatten_cons, List.length_append, flatten_len l (fun y hy => h y (by simp [hy])), h x (by simp), List.length_cons, Nat.succ_mul, Nat.add_comm]
def memM (W : World) : Mm := fun b o => W.cell? (at' b o)
def Rel (L : Lk) (W : World) (as : List AV) (cs : List Value) : Prop := as.length = cs.length ∧ ∀ (i : Nat) (a : AV) (v : Value), as[i]? = some a → cs[i]? = some v → VI L (memM W) a v
section
variable {H : Type} {enc : TypeId × Value → H} {P : Program} {W : World} {L : Lk} {B : Nat}
theorem weightsAll_mem {e : TypeId} : ∀ {l : List (DataW H)} {d : DataW H}, d ∈ l → ∀ n ∈ d.weights P e, n ∈ DataW.weightsAll P e l
  | x :: l, d, hd, n, hn => by
    rw [DataW.weightsAll, List.mem_append]
    rcases List.mem_cons.1 hd with rfl | hd
    · exact .inl hn
    · exact .inr (weightsAll_mem hd n hn)
theorem fields_sh {n : Nat} {r : TypeId → Option (Ty × Nat)} {cs : List Value}
    (ih : ∀ (t : TypeId) (y : Ty × Nat), r t = some y → ∀ (cs : List Value) (x : DataW H × List MemPlace), DataW.trod enc P W 0 (fun _ => true) true n t cs = some x → (∀ k ∈ x.1.weights P t, k ≤ B) → ∃ as, Sh B y.1 as ∧ as.length = y.2 ∧ Rel L W as cs) :
    ∀ (fs : List Field) (o : Nat) (xs : List (DataW H × List MemPlace)) (y : List Ty × Nat), tysOf P r o fs = some y → xs.length = fs.length →
      (∀ (i : Nat) (f : Field), fs[i]? = some f → DataW.trod enc P W 0 (fun _ => true) true n f.type ((cs.drop f.offset).take (P.cellsOf f.type)) = xs[i]?) →
      (∀ k ∈ DataW.weightsEach P (fs.map (·.type)) (xs.map (·.1)), k ≤ B) →
      ∃ as, ShAll B y.1 as ∧ o + as.length = y.2 ∧ ∀ (i : Nat) (a : AV) (v : Value), as[i]? = some a → cs[o + i]? = some v → VI L (memM W) a v
  | [], o, xs, y, hy, hl, ht, hw => by
    obtain rfl := Option.some.inj hy
    exact ⟨[], .nil, rfl, fun i a v h => by simp at h⟩
  | f :: fs, o, [], y, hy, hl, ht, hw => by simp at hl
  | f :: fs, o, x :: xs, y, hy, hl, ht, hw => by
    unfold tysOf at hy
    split at hy
    · rename_i ho
      obtain ⟨y1, h1, hy⟩ := Option.bind_eq_some_iff.1 hy
      split at hy
      · rename_i hc
        obtain ⟨y2, h2, rfl⟩ := Option.map_eq_some_iff.1 hy
        simp only [List.map_cons, DataW.weightsEach, List.mem_append] at hw
        obtain ⟨as, s1, l1, r1, r2⟩ := ih f.type y1 h1 _ x (ht 0 f rfl) (fun k hk => hw k (.inl hk))
        obtain ⟨bs, s2, l2, q2⟩ := fields_sh ih fs (o + y1.2) xs y2 h2 (by simpa using hl) (fun i g hg => ht (i + 1) g hg) (fun k hk => hw k (.inr hk))
        refine ⟨as ++ bs, .cons s1 s2, by rw [List.length_append]; omega, fun i a v ha hv => ?_⟩
        by_cases c : i < as.length
        · rw [List.getElem?_append_left c] at ha
          refine r2 i a v ha ?_
          rw [List.getElem?_take, if_pos (by omega), List.getElem?_drop, ho]; exact hv
        · rw [List.getElem?_append_right (by omega)] at ha
          refine q2 _ a v ha ?_
          rw [show o + y1.2 + (i - as.length) = o + i by omega]; exact hv
      · cases hy
    · cases hy
theorem add_at (b o n : Nat) : (at' b o).add n = at' b (o + n) := by
  unfold Addr.add at'
  split
  · rename_i h; rw [h]; rfl
  · rfl
theorem spot_none {a : Addr} {v : Value} (h : W.cell? a = some v) : a = at' a.block a.off := by
  unfold World.cell? at h
  cases hs : a.spot with
  | none => cases a; simp at hs; subst hs; rfl
  | some k =>
    rw [hs] at h
    split at h
    · simp at h
    · cases h
theorem sh_of : ∀ (m : Nat) (t : TypeId) (y : Ty × Nat), tyOf P m t = some y → ∀ (n : Nat) (cs : List Value) (x : DataW H × List MemPlace), DataW.trod enc P W 0 (fun _ => true) true n t cs = some x →
    (∀ k ∈ x.1.weights P t, k ≤ B) → ∃ as, Sh B y.1 as ∧ as.length = y.2 ∧ Rel L W as cs
  | 0, t, y, hy, n, cs, x, hx, hw => by cases hy
  | m + 1, t, y, hy, n, cs, x, hx, hw => by
    unfold tyOf at hy
    split at hy
    · rename_i hu
      obtain rfl := Option.some.inj hy
      obtain ⟨b, rfl, rfl⟩ := DataW.trod_bool hu hx
      exact ⟨_, .bool b, rfl, rfl, fun i a v ha hv => by
        match i, ha, hv with
        | 0, ha, hv => simp at ha hv; subst ha; subst hv; exact .bool b⟩
    · rename_i k hu
      obtain rfl := Option.some.inj hy
      obtain ⟨z, rfl, rfl, hz⟩ := DataW.trod_int hu hx
      exact ⟨_, .int hz, rfl, rfl, fun i a v ha hv => by
        match i, ha, hv with
        | 0, ha, hv => simp at ha hv; subst ha; subst hv; exact .int _ _⟩
    · rename_i hu
      obtain rfl := Option.some.inj hy
      obtain ⟨s, rfl, rfl, hz⟩ := DataW.trod_string hu hx
      refine ⟨_, .str (s := s) (hw _ ?_), rfl, rfl, fun i a v ha hv => by
        match i, ha, hv with
        | 0, ha, hv => simp at ha hv; subst ha; subst hv; exact .str _⟩
      simp [DataW.weights]
    · rename_i e hu
      obtain ⟨y1, h1, hy⟩ := Option.bind_eq_some_iff.1 hy
      split at hy
      · rename_i hc
        obtain ⟨hz, hc⟩ := hc
        obtain rfl := Option.some.inj hy
        rcases DataW.trod_slice hu hx with ⟨rfl, rfl⟩ | ⟨a, len, cap, elems, rest, n', rfl, rfl, rfl, -, hl, hm, hlen, hel, hsp, -⟩
        · exact ⟨_, .nils, rfl, rfl, fun i a v ha hv => by
            match i, ha, hv with
            | 0, ha, hv => simp at ha hv; subst ha; subst hv; exact .nils⟩
        · obtain ⟨hrl, hr⟩ := hsp rfl
          simp only [DataW.weights, hu, List.length_map, List.mem_cons, List.mem_append] at hw
          have ha : cap ≠ 0 → a = at' a.block a.off := by
            intro h0
            have : ∃ cs, W.cells? 0 (a.add (0 * P.cellsOf e)) (P.cellsOf e) = some cs := by
              by_cases c : 0 < len
              · have := hel 0 c
                obtain ⟨q, hq⟩ : ∃ q, elems[0]? = some q := ⟨elems[0], by simp [hlen, c]⟩
                rw [hq] at this
                obtain ⟨c1, c2, _⟩ := Option.bind_eq_some_iff.1 this
                exact ⟨c1, c2⟩
              · have := hr 0 (by omega)
                obtain ⟨q, hq⟩ : ∃ q, rest[0]? = some q := ⟨rest[0]'(by omega), by simp⟩
                rw [hq] at this
                obtain ⟨c1, c2, _⟩ := Option.bind_eq_some_iff.1 this
                exact ⟨c1, by rw [show len + 0 = 0 by omega] at c2; exact c2⟩
            obtain ⟨c1, c2⟩ := this
            obtain ⟨-, k1, k2⟩ := World.cells?_some c2
            have k3 := k2 0 (by omega)
            have : (a.add (0 * P.cellsOf e)).add 0 = a := by simp [Addr.add]
            rw [this] at k3
            obtain ⟨v, hv⟩ : ∃ v, c1[0]? = some v := ⟨c1[0]'(by omega), by simp⟩
            rw [hv] at k3
            exact spot_none k3
          have each : ∀ i, i < len → ∃ as, (Sh B y1.1 as ∧ as.length = y1.2) ∧ ∀ j, j < y1.2 → ∃ v, W.cell? (at' a.block (a.off + (i * y1.2 + j))) = some v ∧ ∀ c, as[j]? = some c → VI L (memM W) c v := by
            intro i hi
            obtain ⟨q, hq⟩ : ∃ q, elems[i]? = some q := ⟨elems[i]'(by omega), by simp⟩
            have h2 := hel i hi
            rw [hq] at h2
            obtain ⟨c1, c2, c3⟩ := Option.bind_eq_some_iff.1 h2
            obtain ⟨as, s1, l1, r1, r2⟩ := sh_of m e y1 h1 n' c1 q c3 (fun k hk => hw k (.inr (.inl (weightsAll_mem (List.mem_map.2 ⟨q, List.mem_of_getElem? hq, rfl⟩) k hk))))
            obtain ⟨-, k1, k2⟩ := World.cells?_some c2
            refine ⟨as, ⟨s1, l1⟩, fun j hj => ?_⟩
            have k3 := k2 j (by omega)
            have ea := ha (by omega)
            generalize a.block = ab at *
            generalize a.off = ao at *
            subst ea
            rw [add_at, add_at, hc] at k3
            obtain ⟨v, hv⟩ : ∃ v, c1[j]? = some v := ⟨c1[j]'(by omega), by simp⟩
            rw [hv] at k3
            exact ⟨v, by rw [← Nat.add_assoc]; exact k3, fun c hcc => r2 j c v hcc hv⟩
          obtain ⟨ess, le, he⟩ := listOf len each
          have hzz : ∀ es ∈ ess, es.length = y1.2 := fun es hes => by
            obtain ⟨i, hi⟩ := List.getElem?_of_mem hes
            exact (he i es hi).1.2
          refine ⟨_, .simm (b := P.bytesOf e) ess (fun es hes => by
            obtain ⟨i, hi⟩ := List.getElem?_of_mem hes
            exact (he i es hi).1.1) hzz (Nat.le_trans (Nat.mul_le_mul_right _ (by omega)) (hw _ (.inl rfl))), rfl, rfl, fun i c v hc' hv => ?_⟩
          match i, hc', hv with
          | 0, hc', hv =>
            simp only [List.getElem?_cons_zero, Option.some.injEq] at hc' hv
            subst hc'; subst hv
            have cell : ∀ (i : Nat) (c : AV), ess.flatten[i]? = some c → ∃ v, W.cell? (at' a.block (a.off + i)) = some v ∧ VI L (memM W) c v := by
              intro i c hi
              rw [flatten_get hz ess hzz] at hi
              obtain ⟨es, h3, h4⟩ := Option.bind_eq_some_iff.1 hi
              obtain ⟨v, h5, h6⟩ := (he _ es h3).2 (i % y1.2) (Nat.mod_lt _ hz)
              refine ⟨v, ?_, h6 c h4⟩
              rw [Nat.mul_comm (i / y1.2), Nat.div_add_mod] at h5; exact h5
            rw [le]
            refine .simm (b := a.block) (base := a.off) (fun i => (W.cell? (at' a.block (a.off + i))).getD default) (fun i c hi => ?_) (fun i c hi => ?_) hl (fun q => ha q) ?_ (fun q => by cases q)
            · obtain ⟨v, h5, _⟩ := cell i c hi
              show W.cell? _ = _
              rw [h5]; rfl
            · obtain ⟨v, h5, h6⟩ := cell i c hi
              rw [h5]; exact h6
            · rw [flatten_len ess hzz, le, Nat.zero_add]; exact Nat.mul_le_mul_right _ hl
      · cases hy
    · rename_i fs hu
      obtain ⟨y1, h1, hy⟩ := Option.bind_eq_some_iff.1 hy
      split at hy
      · rename_i hc
        obtain rfl := Option.some.inj hy
        obtain ⟨xs, n', rfl, rfl, hl, hxl, hf⟩ := DataW.trod_struct hu hx
        simp only [DataW.weights, hu] at hw
        obtain ⟨as, s1, l1, q1⟩ := fields_sh (cs := cs) (fun t y h cs x hx hw => sh_of m t y h n' cs x hx hw) fs.toList 0 xs y1 h1 (by simpa using hxl) (fun i f h => hf i f (by simpa using h)) hw
        refine ⟨as, .st s1, by show as.length = y1.2; omega, by omega, fun i a v ha hv => q1 i a v ha (by rw [Nat.zero_add]; exact hv)⟩
      · cases hy
    · cases hy
def avOf : Ty × List AV → AV
  | (.st _, as) => .agg as
  | (_, as) => as.headD .bot
inductive ArgsSh (L : Lk) (W : World) (B : Nat) : List Value → List (Ty × List AV) → Prop where
  | nil : ArgsSh L W B [] []
  | cons {v : Value} {vs : List Value} {x : Ty × List AV} {r : List (Ty × List AV)} (h1 : Sh B x.1 x.2) (h2 : V L (fun _ => none) (memM W) (avOf x) v) (hr : ArgsSh L W B vs r) : ArgsSh L W B (v :: vs) (x :: r)
def tysAll (P : Program) (m : Nat) : List TypeId → Option (List Ty)
  | [] => some []
  | t :: ts => (tyOf P m t).bind fun y => (tysAll P m ts).map fun r => y.1 :: r
theorem rel_one {y : Ty} {as : List AV} {v : Value} (hy : ∀ fs, y ≠ .st fs) (h1 : as.length = 1) (hv : v.cells.toList = [v]) (h2 : Rel L W as v.cells.toList) : VI L (memM W) (avOf (y, as)) v := by
  match as, h1 with
  | [a], _ =>
    have := h2.2 0 a v rfl (by rw [hv]; rfl)
    cases y <;> first | exact this | exact absurd rfl (hy _)
theorem rel_st {fs : List Ty} {as : List AV} {cs : Array Value} (h2 : Rel L W as (Value.agg cs).cells.toList) : VI L (memM W) (avOf (.st fs, as)) (.agg cs) := by
  have e : (Value.agg cs).cells.toList = cs.toList := rfl
  rw [e] at h2
  have : Value.agg cs = .agg cs.toList.toArray := by simp
  rw [this]
  exact .agg h2.1 h2.2
theorem arg_v {m : Nat} {t : TypeId} {y : Ty × Nat} {as : List AV} {v : Value} {base : Nat} (hy : tyOf P m t = some y) (hl : as.length = y.2) (hv : Value.okWide P W .any base t v) (h2 : Rel L W as v.cells.toList) : VI L (memM W) (avOf (y.1, as)) v := by
  cases m with
  | zero => cases hy
  | succ m =>
    unfold tyOf at hy
    unfold Value.okWide at hv
    split at hy
    · rename_i hu
      obtain rfl := Option.some.inj hy
      rw [hu] at hv
      unfold Cell.okWide Cell.ok at hv
      rw [hu] at hv
      cases v <;> first | exact hv.elim | exact rel_one (by intro fs e; cases e) hl rfl h2
    · rename_i k hu
      obtain rfl := Option.some.inj hy
      rw [hu] at hv
      unfold Cell.okWide Cell.ok at hv
      rw [hu] at hv
      cases v <;> first | exact hv.elim | exact rel_one (by intro fs e; cases e) hl rfl h2
    · rename_i hu
      obtain rfl := Option.some.inj hy
      rw [hu] at hv
      unfold Cell.okWide Cell.ok at hv
      rw [hu] at hv
      cases v <;> first | exact hv.elim | exact rel_one (by intro fs e; cases e) hl rfl h2
    · rename_i e hu
      obtain ⟨y1, h1, hy⟩ := Option.bind_eq_some_iff.1 hy
      split at hy
      · obtain rfl := Option.some.inj hy
        rw [hu] at hv
        unfold Cell.okWide Cell.ok at hv
        rw [hu] at hv
        cases v <;> first | exact hv.elim | exact rel_one (by intro fs e; cases e) hl rfl h2
      · cases hy
    · rename_i fs hu
      obtain ⟨y1, h1, hy⟩ := Option.bind_eq_some_iff.1 hy
      split at hy
      · obtain rfl := Option.some.inj hy
        rw [hu] at hv
        obtain ⟨cs, rfl, _⟩ := hv
        exact rel_st h2
      · cases hy
    · cases hy
theorem args_sh {m base : Nat} : ∀ {ts : List TypeId} {vs : List Value} {ds : List (DataW H)} {ps : List MemPlace} {ys : List Ty}, tysAll P m ts = some ys → DataW.TrodAll enc P W 0 (fun _ => true) true ts vs ds ps →
    (∀ (j : Nat) t v, ts[j]? = some t → vs[j]? = some v → Value.okWide P W .any base t v) → (∀ k ∈ DataW.weightsEach P ts ds, k ≤ B) → ∃ r : List (Ty × List AV), r.map (·.1) = ys ∧ ArgsSh L W B vs r
  | [], [], [], ps, ys, hy, _, _, _ => by obtain rfl := Option.some.inj hy; exact ⟨[], rfl, .nil⟩
  | t :: ts, v :: vs, d :: ds, ps, ys, hy, ⟨p, q, ⟨n, h1⟩, h2, _⟩, hv, hw => by
    unfold tysAll at hy
    obtain ⟨y, g1, hy⟩ := Option.bind_eq_some_iff.1 hy
    obtain ⟨r, g2, rfl⟩ := Option.map_eq_some_iff.1 hy
    simp only [DataW.weightsEach, List.mem_append] at hw
    obtain ⟨as, s1, l1, r1⟩ := sh_of (L := L) m t y g1 n _ (d, p) h1 (fun k hk => hw k (.inl hk))
    obtain ⟨r', e, g3⟩ := args_sh g2 h2 (fun j t v a b => hv (j + 1) t v a b) (fun k hk => hw k (.inr hk))
    exact ⟨(y.1, as) :: r', by rw [List.map_cons, e], .cons s1 (.imm (arg_v g1 l1 (hv 0 t v rfl rfl) r1)) g3⟩
  | [], _ :: _, _, _, _, _, h, _, _ => h.elim
  | [], [], _ :: _, _, _, _, h, _, _ => h.elim
  | _ :: _, [], _, _, _, _, h, _, _ => h.elim
  | _ :: _, _ :: _, [], _, _, _, h, _, _ => h.elim
theorem args_row : ∀ {vs : List Value} {r : List (Ty × List AV)}, ArgsSh L W B vs r → RowA L noI (memM W) (r.map avOf) vs ∧ ∀ x ∈ r, Sh B x.1 x.2
  | [], [], .nil => ⟨.nil, fun x h => by cases h⟩
  | v :: vs, x :: r, .cons h1 h2 hr => by
    obtain ⟨q1, q2⟩ := args_row hr
    exact ⟨.cons h2 q1, fun y hy => by
      rcases List.mem_cons.1 hy with rfl | hy
      · exact h1
      · exact q2 y hy⟩
theorem all_stay {W' : World} (hl : laidOutB P = true) (hb : Below W.heap.size W W') : ∀ {ts : List TypeId} {vs : List Value} {ds : List (DataW H)} {ps : List MemPlace},
    ts.all (fun t => P.readableRec t && decide (t < P.types.size)) = true → DataW.TrodAll enc P W 0 (fun _ => true) true ts vs ds ps → (∀ x ∈ ps, x.block < W.heap.size) → DataW.TrodAll enc P W' 0 (fun b => decide (b < W.heap.size)) true ts vs ds ps
  | [], [], [], _, _, h, _ => h
  | t :: ts, v :: vs, d :: ds, ps, ht, ⟨p, q, h1, h2, hp⟩, hlt => by
    subst hp
    simp only [List.all_cons, Bool.and_eq_true, decide_eq_true_eq] at ht
    exact ⟨p, q, Below.trod hl ht.1.1 ht.1.2 h1 hb (fun x hx => hlt x (List.mem_append_left _ hx)), all_stay hl hb ht.2 h2 (fun x hx => hlt x (List.mem_append_right _ hx)), rfl⟩
  | [], _ :: _, _, _, _, h, _ => h.elim
  | [], [], _ :: _, _, _, h, _ => h.elim
  | _ :: _, [], _, _, _, h, _ => h.elim
  | _ :: _, _ :: _, [], _, _, h, _ => h.elim
end
theorem law_row {C : Checked} {L : Lk} {A : AProg} (lk : LinkOk L A) (hP : L.P = C.prog) {f : FuncId} {fn : Func} {key : Nat} (hm : L.mf f = some key) {tys : List Ty} {m : Nat} (hty : tysAll C.prog m fn.params.toList = some tys)
    (hl : laidOutB C.prog = true) (hread : fn.params.toList.all (fun t => C.prog.readableRec t && decide (t < C.prog.types.size)) = true) {tb : TypeId} (hrt : fn.resultTypes = #[tb]) (hb : C.prog.underlying tb = some .bool)
    {s : ChangeSpec} (hvars : s.vars = []) (hspec : ∀ (H : Type) (ds : List (DataW H)), ds.length = tys.length → s.fn H ds = { results := [.lit (.bool true)], args := ds })
    (law : ∀ r : List (Ty × List AV), r.map (·.1) = tys → (∀ x ∈ r, Sh reachBytes x.1 x.2) → callW A key (r.map avOf) H.empty = some (.bool true, H.empty))
    {H : Type} {enc : TypeId × Value → H} {W : World} {base : Nat} {args : Array Value} {ds gs : List (DataW H)} {before : List MemPlace}
    (hval : ∀ (j : Nat) t v, fn.params[j]? = some t → args[j]? = some v → Value.okWide C.prog W .any base t v)
    (hW : DataW.Whole enc C.prog fn.params.toList s.vars false W args.toList ds gs before)
    (hsz : (DataW.weightsEach C.prog (fn.params.toList ++ s.plain.varTypes C.prog) (ds ++ gs)).all (· ≤ reachBytes) = true) :
    Calls C.prog f args W fun e W' => ∃ v, e = .returned v ∧ s.post enc C.prog fn false true false false W args v W' := by
  have hW' := hW
  obtain ⟨p, q, hA, hV, rfl, hfz, hnd⟩ := hW
  rw [hvars] at hV
  obtain ⟨rfl, rfl⟩ := trodVars_none hV
  have hw : ∀ k ∈ DataW.weightsEach C.prog fn.params.toList ds, k ≤ reachBytes := by
    intro k hk
    have hv0 : s.plain.varTypes C.prog = [] := by
      have : s.plain.vars = [] := hvars
      unfold DataSpec.varTypes; rw [this]; rfl
    rw [hv0, List.append_nil, List.append_nil] at hsz
    simpa using List.all_eq_true.1 hsz k hk
  obtain ⟨r, hr, hs⟩ := args_sh (L := L) (base := base) hty hA (fun j t v a b => hval j t v (by simpa using a) (by simpa using b)) hw
  obtain ⟨hrow, hsh⟩ := args_row hs
  have hlen : ds.length = tys.length := by
    have a1 : ∀ {ts : List TypeId} {vs : List Value} {ds : List (DataW H)} {ps : List MemPlace}, DataW.TrodAll enc C.prog W 0 (fun _ => true) true ts vs ds ps → ds.length = ts.length := by
      intro ts
      induction ts with
      | nil => intro vs ds ps h; cases vs <;> cases ds <;> first | rfl | exact h.elim
      | cons t ts ih => intro vs ds ps h; cases vs <;> cases ds <;> first | exact h.elim | (obtain ⟨_, _, _, h2, _⟩ := h; simp [ih h2])
    have a2 : ∀ {ts : List TypeId} {ys : List Ty}, tysAll C.prog m ts = some ys → ys.length = ts.length := by
      intro ts
      induction ts with
      | nil => intro ys h; obtain rfl := Option.some.inj h; rfl
      | cons t ts ih =>
        intro ys h
        unfold tysAll at h
        obtain ⟨y, _, h⟩ := Option.bind_eq_some_iff.1 h
        obtain ⟨z, g2, rfl⟩ := Option.map_eq_some_iff.1 h
        simp [ih g2]
    rw [a1 hA, a2 hty]
  have key := says_true lk (f := key) (fid := f) (args := r.map avOf) (vals := args.toList) (M := memM W) (W := W) hm (fun _ _ _ h => h) (law r hr hsh) hrow
  rw [hP] at key
  have ea : args.toList.toArray = args := by simp
  rw [ea] at key
  simp only [List.append_nil] at hW'
  refine key.mono fun e W' ⟨he, hb'⟩ => ?_
  subst he
  have e1 := hspec H (ds ++ []) (by simpa using hlen)
  refine ⟨_, rfl, post_true (pa := p) (pv := []) hW' hb' hrt (fun _ _ _ => shut_bool hb true) (by rw [e1]) (by rw [e1]; simpa using all_stay hl hb' hread hA (fun x hx => by simpa using hW'.lt x hx)) ?_⟩
  rw [e1, hvars]; rfl
end Ab
set_option linter.unusedSimpArgs false
set_option linter.unusedVariables false
namespace Ab
open Go
theorem bind_cl {α β : Type} {x y : Option α} (f : α → Option β) (h : x = y) : x.bind f = y.bind f := by rw [h]
@[simp] theorem look_nil (t : Nat) : look [] t = .bot := rfl
@[simp] theorem look_cons (s t : Nat) (v : AV) (r : Env) : look ((s, v) :: r) t = if s = t then v else look r t := rfl
@[simp] theorem restr_nil (e : Env) : restr e [] = [] := rfl
@[simp] theorem restr_cons (e : Env) (t : Nat) (r : List Nat) : restr e (t :: r) = (t, look e t) :: restr e r := rfl
@[simp] theorem ev_t (e : Env) (n : Nat) : (X.t n).ev e = look e n := rfl
@[simp] theorem ev_c (e : Env) (v : AV) : (X.c v).ev e = v := rfl
@[simp] theorem aload_pobj (agg : Bool) (n id off : Nat) (h : H) : aload agg n (.pobj id off) h = (h.get id).bind fun cs => rdc agg n cs off := rfl
@[simp] theorem aload_pimm (agg : Bool) (n off : Nat) (cs : List AV) (h : H) : aload agg n (.pimm cs off) h = rdc agg n cs off := rfl
@[simp] theorem astore_pobj (n id off : Nat) (v : AV) (h : H) : astore n (.pobj id off) v h = (h.get id).bind fun cs =>
    if h.floor ≤ id ∧ v.cells.length = n ∧ off + n ≤ cs.length ∧ AV.allsc v.cells = true then some (h.set id (setFrom cs off v.cells)) else none := rfl
@[simp] theorem rdc_f (n : Nat) (cs : List AV) (off : Nat) : rdc false n cs off = cs[off]? := rfl
section
variable (k : IntKind) (a b : Int)
@[simp] theorem abin_add : abin .add (.int k a) (.int k b) = some (.int k (k.wrap (a + b))) := by simp [abin, binInt]
@[simp] theorem abin_sub : abin .sub (.int k a) (.int k b) = some (.int k (k.wrap (a - b))) := by simp [abin, binInt]
@[simp] theorem abin_mul : abin .mul (.int k a) (.int k b) = some (.int k (k.wrap (a * b))) := by simp [abin, binInt]
@[simp] theorem abin_lss : abin .lss (.int k a) (.int k b) = some (.bool (decide (a < b))) := by simp [abin, binInt]
@[simp] theorem abin_leq : abin .leq (.int k a) (.int k b) = some (.bool (decide (a ≤ b))) := by simp [abin, binInt]
@[simp] theorem abin_gtr : abin .gtr (.int k a) (.int k b) = some (.bool (decide (a > b))) := by simp [abin, binInt]
@[simp] theorem abin_geq : abin .geq (.int k a) (.int k b) = some (.bool (decide (a ≥ b))) := by simp [abin, binInt]
@[simp] theorem abin_eql : abin .eql (.int k a) (.int k b) = some (.bool (a == b)) := by simp [abin, binInt]
@[simp] theorem abin_neq : abin .neq (.int k a) (.int k b) = some (.bool (a != b)) := by simp [abin, binInt]
@[simp] theorem abin_and : abin .and (.int k a) (.int k b) = some (.int k (bits .and k a b)) := by simp [abin, binInt]
@[simp] theorem abin_or : abin .or (.int k a) (.int k b) = some (.int k (bits .or k a b)) := by simp [abin, binInt]
@[simp] theorem abin_xor : abin .xor (.int k a) (.int k b) = some (.int k (bits .xor k a b)) := by simp [abin, binInt]
theorem abin_quo (h : b ≠ 0) : abin .quo (.int k a) (.int k b) = some (.int k (k.wrap (a.tdiv b))) := by simp [abin, binInt, h]
theorem abin_rem (h : b ≠ 0) : abin .rem (.int k a) (.int k b) = some (.int k (a.tmod b)) := by simp [abin, binInt, h]
end
@[simp] theorem cells_int (k : IntKind) (n : Int) : (AV.int k n).cells = [.int k n] := rfl
@[simp] theorem cells_bool (b : Bool) : (AV.bool b).cells = [.bool b] := rfl
@[simp] theorem cells_str (b : ByteArray) : (AV.str b).cells = [.str b] := rfl
@[simp] theorem cells_pobj (i o : Nat) : (AV.pobj i o).cells = [.pobj i o] := rfl
@[simp] theorem cells_sobj (i o l z : Nat) : (AV.sobj i o l z).cells = [.sobj i o l z] := rfl
@[simp] theorem cells_nils : AV.nils.cells = [.nils] := rfl
@[simp] theorem cells_nilp : AV.nilp.cells = [.nilp] := rfl
@[simp] theorem cells_agg (c : List AV) : (AV.agg c).cells = c := rfl
@[simp] theorem allsc_nil : AV.allsc [] = true := rfl
@[simp] theorem allsc_cons (v : AV) (r : List AV) : AV.allsc (v :: r) = (v.sc && AV.allsc r) := rfl
@[simp] theorem setFrom_nil (cs : List AV) (off : Nat) : setFrom cs off [] = cs := rfl
@[simp] theorem setFrom_cons (cs : List AV) (off : Nat) (v : AV) (r : List AV) : setFrom cs off (v :: r) = setFrom (cs.set off v) (off + 1) r := rfl
@[simp] theorem sc_int (k : IntKind) (n : Int) : (AV.int k n).sc = true := rfl
@[simp] theorem sc_bool (b : Bool) : (AV.bool b).sc = true := rfl
@[simp] theorem sc_str (b : ByteArray) : (AV.str b).sc = true := rfl
@[simp] theorem sc_pobj (i o : Nat) : (AV.pobj i o).sc = true := rfl
@[simp] theorem sc_sobj (i o l z : Nat) : (AV.sobj i o l z).sc = true := rfl
@[simp] theorem sc_nils : AV.nils.sc = true := rfl
@[simp] theorem sc_nilp : AV.nilp.sc = true := rfl
@[simp] theorem putEnv_some (d : Nat) (v : AV) (e : Env) : putEnv (some d) v e = (d, v) :: e := rfl
@[simp] theorem putEnv_none (v : AV) (e : Env) : putEnv none v e = e := rfl
@[simp] theorem stables_nil (call : CallT) (ops : List AOper) (e : Env) (gs : List H) : stables call ops e gs [] = true := rfl
@[simp] theorem afadr_pobj (off id o : Nat) : afadr off (.pobj id o) = some (.pobj id (o + off)) := rfl
@[simp] theorem afadr_pimm (off o : Nat) (c : List AV) : afadr off (.pimm c o) = some (.pimm c (o + off)) := rfl
@[simp] theorem aiadra_pobj (n sz id off : Nat) (i : AV) : aiadra n sz (.pobj id off) i = (aidx i n).bind fun j => some (.pobj id (off + j * sz)) := rfl
@[simp] theorem aiadra_pimm (n sz off : Nat) (c : List AV) (i : AV) : aiadra n sz (.pimm c off) i = (aidx i n).bind fun j => some (.pimm c (off + j * sz)) := rfl
noncomputable def Lp (A : AProg) (keep : List Nat) (c : ACode) (e : Env) (h : H) : Res := loopW (fun e h => evC (callW A) loopW c (restr e keep) h) e h
theorem evC_loop (A : AProg) (keep : List Nat) (c : ACode) (e : Env) (h : H) : evC (callW A) loopW (.loop keep c) e h = Lp A keep c e h := rfl
theorem Lp_next {A : AProg} {keep : List Nat} {c : ACode} {e e' : Env} {h h' : H} {r} (h1 : evC (callW A) loopW c (restr e keep) h = some (.normal, e', h')) (h2 : Lp A keep c e' h' = some r) : Lp A keep c e h = some r := loopW_round h1 h2
theorem Lp_exit {A : AProg} {keep : List Nat} {c : ACode} {e e' : Env} {h h' : H} {i : Nat} (h1 : evC (callW A) loopW c (restr e keep) h = some (.exit i, e', h')) : Lp A keep c e h = some (.exit i, e', h') := loopW_exit h1
theorem Lp_ret {A : AProg} {keep : List Nat} {c : ACode} {e e' : Env} {h h' : H} (h1 : evC (callW A) loopW c (restr e keep) h = some (.ret, e', h')) : Lp A keep c e h = some (.ret, e', h') := loopW_ret h1
theorem seq_n {c : CallT} {l : LoopT} {a b : ACode} {e e1 : Env} {h h1 : H} {r} (h1' : evC c l a e h = some (.normal, e1, h1)) (h2 : evC c l b e1 h1 = some r) : evC c l (.seq a b) e h = some r := by
  simp only [evC, h1', Option.bind_some]; exact h2
theorem seq_x {c : CallT} {l : LoopT} {a b : ACode} {e e1 : Env} {h h1 : H} {i : Nat} (h1' : evC c l a e h = some (.exit i, e1, h1)) : evC c l (.seq a b) e h = some (.exit i, e1, h1) := by
  simp only [evC, h1', Option.bind_some]
theorem seq_r {c : CallT} {l : LoopT} {a b : ACode} {e e1 : Env} {h h1 : H} (h1' : evC c l a e h = some (.ret, e1, h1)) : evC c l (.seq a b) e h = some (.ret, e1, h1) := by
  simp only [evC, h1', Option.bind_some]
theorem block_loop {A : AProg} {id : Nat} {k keep : List Nat} {c : ACode} {e e1 : Env} {h h1 : H} (hl : Lp A keep c e h = some (.exit id, e1, h1)) : evC (callW A) loopW (.block id (.loop keep c) k) e h = some (.normal, restr e1 k, h1) := by
  simp only [evC, Option.bind_eq_some_iff]
  exact ⟨_, hl, by simp⟩
theorem pure_c {A : AProg} {f : Nat} {fn : AFunc} {args : List AV} {h h2 : H} {e : Env} {vs : List AV} {v : AV} (hf : A f = some fn) (hnp : args.length = fn.np) (hp : fn.pure = true)
    (hx : evC (callW A) loopW fn.body (params 0 args) h.fence = some (.ret, e, h2)) (hres : resAll e h2 fn.res = some vs) (hs : snap h2.get h.next 16 true (tupOf vs) = some v) : callW A f args h = some (v, h) := by
  refine call_of hf ?_
  unfold runF
  rw [if_pos hnp]
  simp only [hp, if_true, hx, Option.bind_some, fin, hres, snapFuel, hs]
theorem plain_c {A : AProg} {f : Nat} {fn : AFunc} {args : List AV} {h h2 : H} {e : Env} {vs : List AV} (hf : A f = some fn) (hnp : args.length = fn.np) (hp : fn.pure = false)
    (hx : evC (callW A) loopW fn.body (params 0 args) h = some (.ret, e, h2)) (hres : resAll e h2 fn.res = some vs) : callW A f args h = some (tupOf vs, h2) := by
  refine call_of hf ?_
  unfold runF
  rw [if_pos hnp]
  simp [hp, hx, fin, hres]
theorem evOps_of_D {c : CallT} : ∀ (os : List AOper) (e : Env) (h : H), evOps c os e h = (evOpsD c os e h).bind fun r => some (r.1, r.2.1)
  | [], _, _ => rfl
  | o :: os, e, h => by
    simp only [evOps, evOpsD]
    cases hv : evOper c o e h with
    | none => rfl
    | some r =>
      simp only [Option.bind_some]
      rw [evOps_of_D os]
      cases evOpsD c os (putEnv o.dst r.1 e) r.2 <;> rfl
section
variable (c : CallT) (l : LoopT) (e : Env) (h : H)
theorem evC_reg (ops : List AOper) (keep : List Nat) : evC c l (.reg ops keep) e h = (evOps c ops e h).bind fun r => some (.normal, restr r.1 keep, r.2) := by rw [evC]
theorem evC_dreg0 (ord : List Nat) (ops : List AOper) (keep : List Nat) : evC c l (.dreg ord ops [] keep) e h = (evOps c ops e h).bind fun r => some (.normal, restr r.1 keep, r.2) := by
  rw [evOps_of_D]
  simp only [evC]
  cases evOpsD c ops e h <;> simp
theorem evC_seq (a b : ACode) : evC c l (.seq a b) e h = (evC c l a e h).bind fun r => match r with | (.normal, e', h') => evC c l b e' h' | r => some r := by rw [evC]; rfl
theorem evC_cond (x : X) (a b : ACode) (keep : List Nat) : evC c l (.cond x a b keep) e h = match x.ev e with
    | .bool t => (if t then evC c l a e h else evC c l b e h).bind fun r => match r with | (.normal, e', h') => some (.normal, restr e' keep, h') | r => some r
    | _ => none := by rw [evC]; rfl
theorem evC_block (id : Nat) (x : ACode) (keep : List Nat) : evC c l (.block id x keep) e h = (evC c l x e h).bind fun r => match r with
    | (.normal, e', h') => some (.normal, restr e' keep, h')
    | (.exit j, e', h') => if j = id then some (.normal, restr e' keep, h') else some (.exit j, e', h')
    | (.ret, e', h') => some (.ret, e', h') := by rw [evC]; rfl
theorem evC_skip : evC c l .skip e h = some (.normal, e, h) := by rw [evC]
theorem evC_ret : evC c l .ret e h = some (.ret, e, h) := by rw [evC]
theorem evC_exit (i : Nat) : evC c l (.exit i) e h = some (.exit i, e, h) := by rw [evC]
end
def I (n : Int) : AV := .int .i64 n
theorem wrap_in {n : Int} (h1 : -9223372036854775808 ≤ n) (h2 : n < 9223372036854775808) : IntKind.wrap .i64 n = n := by
  have e : IntKind.wrap .i64 n = if n % 18446744073709551616 ≥ 9223372036854775808 then n % 18446744073709551616 - 18446744073709551616 else n % 18446744073709551616 := by
    simp [IntKind.wrap, IntKind.bits, IntKind.signed]
  rw [e]; split <;> omega
def tab (n : Nat) (C : Nat → AV) : List AV := (List.range n).map C
def upd (C : Nat → AV) (i : Nat) (v : AV) : Nat → AV := fun j => if j = i then v else C j
@[simp] theorem tab_length (n : Nat) (C : Nat → AV) : (tab n C).length = n := by simp [tab]
theorem tab_get {n : Nat} {C : Nat → AV} {i : Nat} (h : i < n) : (tab n C)[i]? = some (C i) := by simp [tab, h]
@[simp] theorem tab_getElem {n : Nat} {C : Nat → AV} {i : Nat} (h : i < (tab n C).length) : (tab n C)[i] = C i := by simp [tab]
theorem tab_set {n : Nat} {C : Nat → AV} {i : Nat} (h : i < n) (v : AV) : (tab n C).set i v = tab n (upd C i v) := by
  apply List.ext_getElem?
  intro j
  by_cases hj : j < n
  · by_cases e : j = i
    · subst e; rw [List.getElem?_set_self (by simpa using hj), tab_get hj]; simp [upd]
    · rw [List.getElem?_set_ne (by omega), tab_get hj, tab_get hj]; simp [upd, e]
  · rw [List.getElem?_eq_none (by simp; omega), List.getElem?_eq_none (by simp; omega)]
theorem rdc_tab {n : Nat} {C : Nat → AV} {i k : Nat} (h : i < n) : rdc false k (tab n C) i = some (C i) := tab_get h
def ints (l : List Int) : List AV := l.map I
@[simp] theorem ints_length (l : List Int) : (ints l).length = l.length := by simp [ints]
theorem ints_get {l : List Int} {i : Nat} {x : Int} (h : l[i]? = some x) : (ints l)[i]? = some (I x) := by simp [ints, h]
theorem allsc_ints : ∀ l : List Int, AV.allsc (ints l) = true
  | [] => rfl
  | x :: l => by simp [ints, AV.allsc, I, AV.sc]; exact allsc_ints l
theorem ints_append (a b : List Int) : ints (a ++ b) = ints a ++ ints b := by simp [ints]
def Rd (h : H) (v : AV) (cs : List AV) : Prop := srcCells h 1 v = some (cs.length, cs) ∧ ∀ s, v ≠ .str s
theorem Rd.len {h : H} {v : AV} {cs : List AV} (r : Rd h v cs) : alen false v = some (I cs.length) := by
  obtain ⟨r, hs⟩ := r
  unfold srcCells at r
  split at r
  · obtain ⟨h1, h2⟩ := Prod.mk.inj (Option.some.inj r); subst h2; rfl
  · exact absurd rfl (hs _)
  · split at r
    · simp only [Option.bind_eq_some_iff] at r
      obtain ⟨c, _, r⟩ := r
      split at r
      · obtain ⟨h1, h2⟩ := Prod.mk.inj (Option.some.inj r); simp [alen, I, h1]
      · cases r
    · cases r
  · split at r
    · split at r
      · obtain ⟨h1, h2⟩ := Prod.mk.inj (Option.some.inj r); simp [alen, I, h1]
      · cases r
    · cases r
  · cases r
theorem Rd.mono {h g : H} {v : AV} {cs : List AV} (r : Rd h v cs) (hg : ∀ id c, h.get id = some c → g.get id = some c) : Rd g v cs := by
  obtain ⟨r, hs⟩ := r
  refine ⟨?_, hs⟩
  unfold srcCells at r ⊢
  split at r
  · exact r
  · exact r
  · split at r
    · rename_i q; simp only [if_pos q, Option.bind_eq_some_iff] at r ⊢
      obtain ⟨c, h1, r⟩ := r
      exact ⟨c, hg _ _ h1, r⟩
    · cases r
  · exact r
  · cases r
theorem aidx_of {i n : Nat} (h : i < n) : aidx (I i) n = some i := by
  simp [aidx, asI, I]; omega
theorem Rd.elem {h : H} {v : AV} {cs : List AV} (r : Rd h v cs) {i : Nat} {c : AV} (hc : cs[i]? = some c) : ∃ p, aiadr 1 v (I i) = some p ∧ ∀ g : H, (∀ id c, h.get id = some c → g.get id = some c) → aload false 1 p g = some c := by
  obtain ⟨r, hs⟩ := r
  have hi : i < cs.length := (List.getElem?_eq_some_iff.1 hc).1
  unfold srcCells at r
  split at r
  · obtain ⟨h1, h2⟩ := Prod.mk.inj (Option.some.inj r); subst h2; simp at hi
  · exact absurd rfl (hs _)
  · rename_i id off len s
    split at r
    · rename_i q
      subst q
      simp only [Option.bind_eq_some_iff] at r
      obtain ⟨d, hd, r⟩ := r
      split at r
      · obtain ⟨h1, h2⟩ := Prod.mk.inj (Option.some.inj r)
        refine ⟨.pobj id (off + i), by simp [aiadr, aidx_of (h1 ▸ hi)], fun g hg => ?_⟩
        simp only [aload, hg _ _ hd, Option.bind_some, rdc, Bool.false_eq_true, if_false]
        rw [← h2, List.getElem?_take] at hc
        split at hc
        · rwa [List.getElem?_drop] at hc
        · cases hc
      · cases r
    · cases r
  · rename_i t cells off len s
    split at r
    · rename_i q
      subst q
      split at r
      · obtain ⟨h1, h2⟩ := Prod.mk.inj (Option.some.inj r)
        refine ⟨.pimm cells (off + i), by simp [aiadr, aidx_of (h1 ▸ hi)], fun g hg => ?_⟩
        simp only [aload, rdc, Bool.false_eq_true, if_false]
        rw [← h2, List.getElem?_take] at hc
        split at hc
        · rwa [List.getElem?_drop] at hc
        · cases hc
      · cases r
    · cases r
  · cases r
def Own (h : H) (v : AV) (cs : List AV) : Prop := (v = .nils ∧ cs = []) ∨ ∃ id, v = .sobj id 0 cs.length 1 ∧ h.get id = some cs ∧ h.floor ≤ id ∧ cs ≠ []
theorem Own.mono {h g : H} {v : AV} {cs : List AV} (o : Own h v cs) (hf : g.floor = h.floor) (hg : ∀ i, v.id? = some i → g.get i = h.get i) : Own g v cs := by
  rcases o with o | ⟨id, rfl, h1, h2, h3⟩
  · exact .inl o
  · exact .inr ⟨id, rfl, by rw [hg id rfl]; exact h1, by rw [hf]; exact h2, h3⟩
theorem Own.sc {h : H} {v : AV} {cs : List AV} (o : Own h v cs) : v.sc = true := by
  rcases o with ⟨rfl, _⟩ | ⟨id, rfl, _⟩ <;> rfl
theorem Own.lt {h : H} {v : AV} {cs : List AV} (o : Own h v cs) {i : Nat} (hi : v.id? = some i) : i < h.next := by
  rcases o with ⟨rfl, _⟩ | ⟨id, rfl, h1, _⟩
  · cases hi
  · obtain rfl := Option.some.inj hi; exact h.lt _ _ h1
theorem Own.app {h : H} {v : AV} {cs : List AV} (o : Own h v cs) (hfn : h.floor ≤ h.next) {z : Nat} (c : AV) (hc : c.sc = true) (hr : roomy z (cs.length + 1) = true) :
    ∃ v' h', aappc h 1 z v 1 [c] = some (v', h') ∧ Own h' v' (cs ++ [c]) ∧ h'.floor = h.floor ∧ h.next ≤ h'.next ∧ (∀ i, v.id? ≠ some i → i ≠ h.next → h'.get i = h.get i) ∧ v'.id? = some h.next := by
  have ha : AV.allsc [c] = true := by simp [AV.allsc, hc]
  rcases o with ⟨rfl, rfl⟩ | ⟨id, rfl, hg, hf, hne⟩
  · refine ⟨.sobj h.next 0 1 1, h.alloc [c], ?_, .inr ⟨h.next, rfl, by simp [H.get_alloc], ?_, by simp⟩, by simp, by simp, fun i _ hi => by rw [H.get_alloc, if_neg hi], rfl⟩
    · unfold aappc
      rw [if_neg (by omega), if_neg (by simp [ha])]
      simp only [List.length_nil, Nat.zero_add] at hr
      simp only [hr, if_true]
    · simp; omega
  · refine ⟨.sobj h.next 0 (cs.length + 1) 1, (h.del id).alloc (cs ++ [c]), ?_, .inr ⟨h.next, by simp, by simp [H.get_alloc], ?_, by simp⟩, by simp, by simp, fun i h1 h2 => ?_, rfl⟩
    · unfold aappc
      rw [if_neg (by omega), if_neg (by simp [ha])]
      simp only [hf, and_self, if_true, hg, Option.bind_some]
      rw [if_neg (by omega), if_pos ⟨by omega, hr⟩]
      simp
    · have := h.lt id cs hg; simp; omega
    · rw [H.get_alloc, H.next_del, if_neg h2, H.get_del, if_neg]
      intro e; subst e; exact h1 rfl
end Ab
set_option linter.unusedSimpArgs false
set_option linter.unusedVariables false
namespace Ab
open Go
def ret1 (h : H) (p : Option AV) : Option (AV × H) := p.bind fun v => some (v, h)
theorem ret1_s (h : H) (v : AV) : ret1 h (some v) = some (v, h) := Eq.trans rfl rfl
def retB (h : H) (neg : Bool) (p : Option Bool) : Option (AV × H) := p.bind fun b => some (unb neg b, h)
theorem retB_s (h : H) (neg b : Bool) : retB h neg (some b) = some (unb neg b, h) := Eq.trans rfl rfl
theorem unb_f (b : Bool) : unb false b = .bool b := Eq.trans rfl rfl
theorem unb_t (b : Bool) : unb true b = .bool (!b) := Eq.trans rfl rfl
def retH (p : Option H) : Option (AV × H) := p.bind fun h => some (.bot, h)
theorem retH_s (h : H) : retH (some h) = some (.bot, h) := Eq.trans rfl rfl
def pickB (h : H) (a b : AV) (c : AV) : Option (AV × H) := match c with | .bool t => some (if t then a else b, h) | _ => none
theorem pickB_t (h : H) (a b : AV) : pickB h a b (.bool true) = some (a, h) := Eq.trans rfl rfl
theorem pickB_f (h : H) (a b : AV) : pickB h a b (.bool false) = some (b, h) := Eq.trans rfl rfl
def nilcB (h : H) (c : AV) : Option (AV × H) := match c with | .pobj i o => some (.pobj i o, h) | .pimm c o => some (.pimm c o, h) | .fn f a b => some (.fn f a b, h) | .iface t v => some (.iface t v, h) | _ => none
theorem nilcB_o (h : H) (i o : Nat) : nilcB h (.pobj i o) = some (.pobj i o, h) := Eq.trans rfl rfl
theorem nilcB_i (h : H) (c : List AV) (o : Nat) : nilcB h (.pimm c o) = some (.pimm c o, h) := Eq.trans rfl rfl
theorem nilcB_f (h : H) (f : Nat) (a b : List AV) : nilcB h (.fn f a b) = some (.fn f a b, h) := Eq.trans rfl rfl
theorem nilcB_n (h : H) (t : Nat) (v : AV) : nilcB h (.iface t v) = some (.iface t v, h) := Eq.trans rfl rfl
def notB (h : H) (c : AV) : Option (AV × H) := match c with | .bool b => some (.bool (!b), h) | _ => none
theorem notB_s (h : H) (b : Bool) : notB h (.bool b) = some (.bool (!b), h) := Eq.trans rfl rfl
def negI (h : H) (c : AV) : Option (AV × H) := match c with | .int k n => some (.int k (k.wrap (0 - n)), h) | _ => none
theorem negI_s (h : H) (k : IntKind) (n : Int) : negI h (.int k n) = some (.int k (k.wrap (0 - n)), h) := Eq.trans rfl rfl
def invI (h : H) (c : AV) : Option (AV × H) := match c with | .int k n => some (.int k (bits .xor k (if k.signed then -1 else k.max) n), h) | _ => none
theorem invI_s (h : H) (k : IntKind) (n : Int) : invI h (.int k n) = some (.int k (bits .xor k (if k.signed then -1 else k.max) n), h) := Eq.trans rfl rfl
def convI (h : H) (k : IntKind) (c : AV) : Option (AV × H) := match c with | .int _ n => some (.int k (k.wrap n), h) | _ => none
theorem convI_s (h : H) (j k : IntKind) (n : Int) : convI h k (.int j n) = some (.int k (k.wrap n), h) := Eq.trans rfl rfl
def sameS (h : H) (c : AV) : Option (AV × H) := match c with | .str s => some (.str s, h) | _ => none
theorem sameS_s (h : H) (s : ByteArray) : sameS h (.str s) = some (.str s, h) := Eq.trans rfl rfl
def eqbB (h : H) (neg : Bool) (a b : AV) : Option (AV × H) := match a, b with | .bool a, .bool b => some (unb neg (a == b), h) | _, _ => none
theorem eqbB_s (h : H) (neg a b : Bool) : eqbB h neg (.bool a) (.bool b) = some (unb neg (a == b), h) := Eq.trans rfl rfl
def extrT (h : H) (i : Nat) (v : AV) : Option (AV × H) := match v with | .tup vs => ret1 h (vs[i]?) | _ => none
theorem extrT_s (h : H) (i : Nat) (vs : List AV) : extrT h i (.tup vs) = ret1 h (vs[i]?) := Eq.trans rfl rfl
def fldA (h : H) (agg : Bool) (off n : Nat) (v : AV) : Option (AV × H) := match v with | .agg cs => ret1 h (rdc agg n cs off) | _ => none
theorem fldA_s (h : H) (agg : Bool) (off n : Nat) (cs : List AV) : fldA h agg off n (.agg cs) = ret1 h (rdc agg n cs off) := Eq.trans rfl rfl
def tassI (h : H) (t : Nat) (v : AV) : Option (AV × H) := match v with | .iface u v => if u = t then some (v, h) else none | _ => none
theorem tassI_s (h : H) (t : Nat) (v : AV) : tassI h t (.iface t v) = some (v, h) := by simp [tassI]
def callF (c : CallT) (args : List AV) (h : H) (f : AV) : Option (AV × H) := match f with | .fn k first captured => c k (first ++ args ++ captured) h | _ => none
theorem callF_s (c : CallT) (args : List AV) (h : H) (k : Nat) : callF c args h (.fn k [] []) = c k args h := by simp [callF]
theorem callF_fc (c : CallT) (args : List AV) (h : H) (k : Nat) (f g : List AV) : callF c args h (.fn k f g) = c k (f ++ args ++ g) h := Eq.trans rfl rfl
def birthH (h : H) (p : Option (List AV × (Nat → AV))) : Option (AV × H) := p.bind fun b => some (b.2 h.next, h.alloc b.1)
theorem birthH_s (h : H) (cs : List AV) (f : Nat → AV) : birthH h (some (cs, f)) = some (f h.next, h.alloc cs) := Eq.trans rfl rfl
def aggO (h : H) (p : Option (List AV)) : Option (AV × H) := p.bind fun cs => some (.agg cs, h)
theorem aggO_s (h : H) (cs : List AV) : aggO h (some cs) = some (.agg cs, h) := Eq.trans rfl rfl
def b2sB (h : H) (x : AV) (p : Option (Nat × List AV)) : Option (AV × H) := p.bind fun q => (b2s q.2).bind fun l => match x with | .str _ => none | _ => some (.str ⟨l.toArray⟩, h)
section
variable (c : CallT) (e : Env) (h : H)
theorem op_mv (x : X) : evOp c e h (.mv x) = some (x.ev e, h) := Eq.trans rfl rfl
theorem op_pick (x a b : X) : evOp c e h (.pick x a b) = pickB h (a.ev e) (b.ev e) (x.ev e) := Eq.trans rfl rfl
theorem op_birth_alloc (z : List AV) : evOp c e h (.alloc z) = birthH h (birth e (.alloc z)) := Eq.trans rfl rfl
theorem op_birth_box (n : Nat) (x : X) : evOp c e h (.box n x) = birthH h (birth e (.box n x)) := Eq.trans rfl rfl
theorem op_birth_bslice (a b : Nat) (z : List AV) (ps) : evOp c e h (.bslice a b z ps) = birthH h (birth e (.bslice a b z ps)) := Eq.trans rfl rfl
theorem op_birth_mksl (a b : Nat) (z : List AV) (x y : X) : evOp c e h (.mksl a b z x y) = birthH h (birth e (.mksl a b z x y)) := Eq.trans rfl rfl
theorem op_birth_s2b (x : X) : evOp c e h (.s2b x) = birthH h (birth e (.s2b x)) := Eq.trans rfl rfl
theorem op_build (z : List AV) (ps : List (Nat × Nat × X)) : evOp c e h (.build z ps) = aggO h (fillA z (ps.map fun p => (p.1, p.2.1, p.2.2.ev e))) := Eq.trans rfl rfl
theorem op_load (agg : Bool) (n : Nat) (p : X) : evOp c e h (.load agg n p) = ret1 h (aload agg n (p.ev e) h) := Eq.trans rfl rfl
theorem op_store (n : Nat) (p v : X) : evOp c e h (.store n p v) = retH (astore n (p.ev e) (v.ev e) h) := Eq.trans rfl rfl
theorem op_nilc (x : X) : evOp c e h (.nilc x) = nilcB h (x.ev e) := Eq.trans rfl rfl
theorem op_bin (o : Bo) (x y : X) : evOp c e h (.bin o x y) = ret1 h (abin o (x.ev e) (y.ev e)) := Eq.trans rfl rfl
theorem op_eqn (k : Nat) (neg : Bool) (x y : X) : evOp c e h (.eqn k neg x y) = retB h neg (aeqn k (x.ev e) (y.ev e)) := Eq.trans rfl rfl
theorem op_eqb (neg : Bool) (x y : X) : evOp c e h (.eqb neg x y) = eqbB h neg (x.ev e) (y.ev e) := Eq.trans rfl rfl
theorem op_not (x : X) : evOp c e h (.not x) = notB h (x.ev e) := Eq.trans rfl rfl
theorem op_neg (x : X) : evOp c e h (.neg x) = negI h (x.ev e) := Eq.trans rfl rfl
theorem op_inv (x : X) : evOp c e h (.inv x) = invI h (x.ev e) := Eq.trans rfl rfl
theorem op_conv (k : IntKind) (x : X) : evOp c e h (.conv k x) = convI h k (x.ev e) := Eq.trans rfl rfl
theorem op_same (x : X) : evOp c e h (.same x) = sameS h (x.ev e) := Eq.trans rfl rfl
theorem op_b2s (x : X) : evOp c e h (.b2s x) = b2sB h (x.ev e) (srcCells h 1 (x.ev e)) := Eq.trans rfl rfl
theorem op_mkif (t : Nat) (x : X) : evOp c e h (.mkif t x) = if (x.ev e).sc then some (.iface t (x.ev e), h) else none := Eq.trans rfl rfl
theorem op_mkfn (f : Nat) (a b : List X) : evOp c e h (.mkfn f a b) = some (.fn f (evArgs e a) (evArgs e b), h) := Eq.trans rfl rfl
theorem op_sls (x : X) (lo hi : Option X) : evOp c e h (.sls x lo hi) = ret1 h (asls (x.ev e) (lo.map (X.ev e)) (hi.map (X.ev e))) := Eq.trans rfl rfl
theorem op_sl (sz : Nat) (x : X) (lo hi mx : Option X) : evOp c e h (.sl sz x lo hi mx) = ret1 h (asl h sz (x.ev e) (lo.map (X.ev e)) (hi.map (X.ev e)) (mx.map (X.ev e))) := Eq.trans rfl rfl
theorem op_sla (n sz : Nat) (x : X) (lo hi : Option X) : evOp c e h (.sla n sz x lo hi) = ret1 h (asla h n sz (x.ev e) (lo.map (X.ev e)) (hi.map (X.ev e))) := Eq.trans rfl rfl
theorem op_fadr (off : Nat) (x : X) : evOp c e h (.fadr off x) = ret1 h (afadr off (x.ev e)) := Eq.trans rfl rfl
theorem op_fld (agg : Bool) (off n : Nat) (x : X) : evOp c e h (.fld agg off n x) = fldA h agg off n (x.ev e) := Eq.trans rfl rfl
theorem op_iadr (sz : Nat) (x i : X) : evOp c e h (.iadr sz x i) = ret1 h (aiadr sz (x.ev e) (i.ev e)) := Eq.trans rfl rfl
theorem op_iadra (n sz : Nat) (x i : X) : evOp c e h (.iadra n sz x i) = ret1 h (aiadra n sz (x.ev e) (i.ev e)) := Eq.trans rfl rfl
theorem op_idxs (x i : X) : evOp c e h (.idxs x i) = ret1 h (aidxs (x.ev e) (i.ev e)) := Eq.trans rfl rfl
theorem op_idxa (agg : Bool) (n sz : Nat) (x i : X) : evOp c e h (.idxa agg n sz x i) = ret1 h (aidxa agg n sz (x.ev e) (i.ev e)) := Eq.trans rfl rfl
theorem op_extr (x : X) (i : Nat) : evOp c e h (.extr x i) = extrT h i (x.ev e) := Eq.trans rfl rfl
theorem op_tass (x : X) (t : Nat) : evOp c e h (.tass x t) = tassI h t (x.ev e) := Eq.trans rfl rfl
theorem op_call (f : X) (args : List X) : evOp c e h (.call f args) = callF c (evArgs e args) h (f.ev e) := Eq.trans rfl rfl
theorem op_app (a b : Nat) (x y : X) : evOp c e h (.app a b x y) = aapp h a b (x.ev e) (y.ev e) := Eq.trans rfl rfl
theorem op_appz (a b : Nat) (z : List AV) (x y : X) : evOp c e h (.appz a b z x y) = aappz h a b z (x.ev e) (y.ev e) := Eq.trans rfl rfl
theorem op_len (s : Bool) (x : X) : evOp c e h (.len s x) = ret1 h (alen s (x.ev e)) := Eq.trans rfl rfl
theorem op_cap (x : X) : evOp c e h (.cap x) = ret1 h (acap (x.ev e)) := Eq.trans rfl rfl
theorem op_copy (n : Nat) (x y : X) : evOp c e h (.copy n x y) = acopy h n (x.ev e) (y.ev e) := Eq.trans rfl rfl
theorem op_clear (n : Nat) (z : List AV) (x : X) : evOp c e h (.clear n z x) = retH (aclear h n z (x.ev e)) := Eq.trans rfl rfl
end
theorem args_nil (e : Env) : evArgs e [] = [] := Eq.trans rfl rfl
theorem args_cons (e : Env) (x : X) (r : List X) : evArgs e (x :: r) = x.ev e :: evArgs e r := Eq.trans rfl rfl
def goO (c : CallT) (d : Option Nat) (r : List AOper) (e : Env) (p : Option (AV × H)) : Option (Env × H) := p.bind fun q => evOps c r (putEnv d q.1 e) q.2
theorem goO_s (c : CallT) (d : Option Nat) (r : List AOper) (e : Env) (v : AV) (h : H) : goO c d r e (some (v, h)) = evOps c r (putEnv d v e) h := Eq.trans rfl rfl
def goG (w : Bool) (c : CallT) (e : Env) (h : H) (op : AOp) (g : AV) : Option (AV × H) := match g with | .bool b => if b = w then evOp c e h op else some (.tup [], h) | .tup [] => some (.tup [], h) | _ => none
theorem goG_tt (c : CallT) (e : Env) (h : H) (op : AOp) : goG true c e h op (.bool true) = evOp c e h op := by simp [goG]
theorem goG_ff (c : CallT) (e : Env) (h : H) (op : AOp) : goG false c e h op (.bool false) = evOp c e h op := by simp [goG]
theorem goG_tf (c : CallT) (e : Env) (h : H) (op : AOp) : goG true c e h op (.bool false) = some (.tup [], h) := by simp [goG]
theorem goG_ft (c : CallT) (e : Env) (h : H) (op : AOp) : goG false c e h op (.bool true) = some (.tup [], h) := by simp [goG]
theorem goG_u (w : Bool) (c : CallT) (e : Env) (h : H) (op : AOp) : goG w c e h op (.tup []) = some (.tup [], h) := by simp [goG]
theorem evOper_g (c : CallT) (d : Option Nat) (op : AOp) (g : Nat) (w : Bool) (e : Env) (h : H) : evOper c ⟨d, op, some (g, w)⟩ e h = goG w c e h op (look e g) := by
  unfold evOper goG
  dsimp only
  cases look e g with
  | tup vs => cases vs <;> rfl
  | _ => rfl
theorem ops_nil (c : CallT) (e : Env) (h : H) : evOps c [] e h = some (e, h) := Eq.trans rfl rfl
theorem ops_u (c : CallT) (d : Option Nat) (op : AOp) (r : List AOper) (e : Env) (h : H) : evOps c (⟨d, op, none⟩ :: r) e h = goO c d r e (evOp c e h op) := Eq.trans rfl rfl
theorem ops_g (c : CallT) (d : Option Nat) (op : AOp) (g : Nat) (w : Bool) (r : List AOper) (e : Env) (h : H) : evOps c (⟨d, op, some (g, w)⟩ :: r) e h = goO c d r e (goG w c e h op (look e g)) := by
  rw [evOps, evOper_g]; rfl
def goR (keep : List Nat) (p : Option (Env × H)) : Res := p.bind fun q => some (.normal, restr q.1 keep, q.2)
theorem goR_s (keep : List Nat) (e : Env) (h : H) : goR keep (some (e, h)) = some (.normal, restr e keep, h) := Eq.trans rfl rfl
def goS (c : CallT) (l : LoopT) (b : ACode) (p : Res) : Res := p.bind fun r => match r with | (.normal, e', h') => evC c l b e' h' | r => some r
theorem goS_n (c : CallT) (l : LoopT) (b : ACode) (e : Env) (h : H) : goS c l b (some (.normal, e, h)) = evC c l b e h := Eq.trans rfl rfl
theorem goS_x (c : CallT) (l : LoopT) (b : ACode) (i : Nat) (e : Env) (h : H) : goS c l b (some (.exit i, e, h)) = some (.exit i, e, h) := Eq.trans rfl rfl
theorem goS_r (c : CallT) (l : LoopT) (b : ACode) (e : Env) (h : H) : goS c l b (some (.ret, e, h)) = some (.ret, e, h) := Eq.trans rfl rfl
def goK (keep : List Nat) (p : Res) : Res := p.bind fun r => match r with | (.normal, e', h') => some (.normal, restr e' keep, h') | r => some r
theorem goK_n (keep : List Nat) (e : Env) (h : H) : goK keep (some (.normal, e, h)) = some (.normal, restr e keep, h) := Eq.trans rfl rfl
theorem goK_x (keep : List Nat) (i : Nat) (e : Env) (h : H) : goK keep (some (.exit i, e, h)) = some (.exit i, e, h) := Eq.trans rfl rfl
theorem goK_r (keep : List Nat) (e : Env) (h : H) : goK keep (some (.ret, e, h)) = some (.ret, e, h) := Eq.trans rfl rfl
def goI (c : CallT) (l : LoopT) (a b : ACode) (e : Env) (h : H) (t : AV) : Res := match t with | .bool t => if t then evC c l a e h else evC c l b e h | _ => none
theorem goI_t (c : CallT) (l : LoopT) (a b : ACode) (e : Env) (h : H) : goI c l a b e h (.bool true) = evC c l a e h := Eq.trans rfl rfl
theorem goI_f (c : CallT) (l : LoopT) (a b : ACode) (e : Env) (h : H) : goI c l a b e h (.bool false) = evC c l b e h := Eq.trans rfl rfl
def goB (id : Nat) (keep : List Nat) (p : Res) : Res := p.bind fun r => match r with
  | (.normal, e', h') => some (.normal, restr e' keep, h')
  | (.exit j, e', h') => if j = id then some (.normal, restr e' keep, h') else some (.exit j, e', h')
  | (.ret, e', h') => some (.ret, e', h')
theorem goB_n (id : Nat) (keep : List Nat) (e : Env) (h : H) : goB id keep (some (.normal, e, h)) = some (.normal, restr e keep, h) := Eq.trans rfl rfl
theorem goB_x (id : Nat) (keep : List Nat) (e : Env) (h : H) : goB id keep (some (.exit id, e, h)) = some (.normal, restr e keep, h) := by simp [goB]
theorem goB_y {id j : Nat} (hj : j ≠ id) (keep : List Nat) (e : Env) (h : H) : goB id keep (some (.exit j, e, h)) = some (.exit j, e, h) := by simp [goB, hj]
theorem goB_r (id : Nat) (keep : List Nat) (e : Env) (h : H) : goB id keep (some (.ret, e, h)) = some (.ret, e, h) := Eq.trans rfl rfl
section
variable (c : CallT) (l : LoopT) (e : Env) (h : H)
theorem C_reg (ops : List AOper) (keep : List Nat) : evC c l (.reg ops keep) e h = goR keep (evOps c ops e h) := by rw [evC]; rfl
theorem C_dreg0 (ord : List Nat) (ops : List AOper) (keep : List Nat) : evC c l (.dreg ord ops [] keep) e h = goR keep (evOps c ops e h) := by rw [evC_dreg0]; rfl
theorem C_seq (a b : ACode) : evC c l (.seq a b) e h = goS c l b (evC c l a e h) := by rw [evC]; rfl
theorem C_cond (x : X) (a b : ACode) (keep : List Nat) : evC c l (.cond x a b keep) e h = goK keep (goI c l a b e h (x.ev e)) := by
  rw [evC]; unfold goI; cases hx : x.ev e with
  | bool t => cases t <;> rfl
  | _ => rfl
theorem C_block (id : Nat) (x : ACode) (keep : List Nat) : evC c l (.block id x keep) e h = goB id keep (evC c l x e h) := by rw [evC]; rfl
end
theorem look_hit (t : Nat) (v : AV) (r : Env) : look ((t, v) :: r) t = v := if_pos rfl
theorem look_miss {s t : Nat} (hst : s ≠ t) (v : AV) (r : Env) : look ((s, v) :: r) t = look r t := if_neg hst
theorem ev_t' (e : Env) (n : Nat) : (X.t n).ev e = look e n := Eq.trans rfl rfl
theorem ev_c' (e : Env) (v : AV) : (X.c v).ev e = v := Eq.trans rfl rfl
theorem restr_c (e : Env) (t : Nat) (r : List Nat) : restr e (t :: r) = (t, look e t) :: restr e r := Eq.trans rfl rfl
theorem restr_n (e : Env) : restr e [] = [] := Eq.trans rfl rfl
theorem put_s (d : Nat) (v : AV) (e : Env) : putEnv (some d) v e = (d, v) :: e := Eq.trans rfl rfl
theorem put_n (v : AV) (e : Env) : putEnv none v e = e := Eq.trans rfl rfl
theorem params_n (i : Nat) : params i [] = [] := Eq.trans rfl rfl
theorem params_c (i : Nat) (v : AV) (r : List AV) : params i (v :: r) = (i, v) :: params (i + 1) r := Eq.trans rfl rfl
def idP (id off sz : Nat) (p : Option Nat) : Option AV := p.bind fun j => some (.pobj id (off + j * sz))
def idQ (c : List AV) (off sz : Nat) (p : Option Nat) : Option AV := p.bind fun j => some (.pimm c (off + j * sz))
theorem idP_s (id off sz j : Nat) : idP id off sz (some j) = some (.pobj id (off + j * sz)) := Eq.trans rfl rfl
theorem idQ_s (c : List AV) (off sz j : Nat) : idQ c off sz (some j) = some (.pimm c (off + j * sz)) := Eq.trans rfl rfl
theorem iadra_o (n sz id off : Nat) (i : AV) : aiadra n sz (.pobj id off) i = idP id off sz (aidx i n) := Eq.trans rfl rfl
theorem iadra_i (n sz off : Nat) (c : List AV) (i : AV) : aiadra n sz (.pimm c off) i = idQ c off sz (aidx i n) := Eq.trans rfl rfl
theorem fadr_o (off id o : Nat) : afadr off (.pobj id o) = some (.pobj id (o + off)) := Eq.trans rfl rfl
theorem fadr_i (off o : Nat) (c : List AV) : afadr off (.pimm c o) = some (.pimm c (o + off)) := Eq.trans rfl rfl
def rdO (agg : Bool) (n off : Nat) (p : Option (List AV)) : Option AV := p.bind fun cs => rdc agg n cs off
theorem rdO_s (agg : Bool) (n off : Nat) (cs : List AV) : rdO agg n off (some cs) = rdc agg n cs off := Eq.trans rfl rfl
theorem load_o (agg : Bool) (n id off : Nat) (h : H) : aload agg n (.pobj id off) h = rdO agg n off (h.get id) := Eq.trans rfl rfl
theorem load_i (agg : Bool) (n off : Nat) (cs : List AV) (h : H) : aload agg n (.pimm cs off) h = rdc agg n cs off := Eq.trans rfl rfl
theorem rdc_0 (n : Nat) (cs : List AV) (off : Nat) : rdc false n cs off = cs[off]? := by simp [rdc]
def stO (h : H) (id off n : Nat) (v : List AV) (p : Option (List AV)) : Option H := p.bind fun cs => if h.floor ≤ id ∧ v.length = n ∧ off + n ≤ cs.length ∧ AV.allsc v = true then some (h.set id (setFrom cs off v)) else none
theorem store_o (n id off : Nat) (v : AV) (h : H) : astore n (.pobj id off) v h = stO h id off n v.cells (h.get id) := Eq.trans rfl rfl
theorem stO_1 {h : H} {id off : Nat} {v : AV} {cs : List AV} (h1 : h.floor ≤ id) (h2 : off < cs.length) (h3 : v.sc = true) : stO h id off 1 [v] (some cs) = some (h.set id (cs.set off v)) := by
  simp only [stO, Option.bind_some]
  rw [if_pos ⟨h1, rfl, h2, by simp [h3]⟩]; rfl
theorem eqn_po (i o : Nat) : aeqn 0 (.pobj i o) .nilp = some false := Eq.trans rfl rfl
theorem eqn_pi (c : List AV) (o : Nat) : aeqn 0 (.pimm c o) .nilp = some false := Eq.trans rfl rfl
theorem eqn_pn : aeqn 0 .nilp .nilp = some true := Eq.trans rfl rfl
theorem eqn_so (i o l z : Nat) : aeqn 1 (.sobj i o l z) .nils = some false := Eq.trans rfl rfl
theorem eqn_si (t : Bool) (c : List AV) (o l z : Nat) : aeqn 1 (.simm t c o l z) .nils = some false := Eq.trans rfl rfl
theorem eqn_sn : aeqn 1 .nils .nils = some true := Eq.trans rfl rfl
theorem beq_t {a b : Int} (h : a = b) : (a == b) = true := by simp [h]
theorem beq_f {a b : Int} (h : a ≠ b) : (a == b) = false := by simp [h]
theorem bne_t {a b : Int} (h : a ≠ b) : (a != b) = true := by simp [h]
theorem bne_f {a b : Int} (h : a = b) : (a != b) = false := by simp [h]
theorem I_eq (n : Int) : I n = .int .i64 n := rfl
theorem len_str (s : ByteArray) : alen true (.str s) = some (.int .i64 s.size) := Eq.trans rfl rfl
theorem sc_I (n : Int) : (I n).sc = true := rfl
attribute [go_sem] goO_s goG_tt goG_ff goG_tf goG_ft goG_u ops_nil ops_u ops_g goR_s goS_n goS_x goS_r goK_n goK_x goK_r goI_t goI_f goB_n goB_x goB_r goB_y C_reg C_dreg0 C_seq C_cond C_block evC_skip evC_ret evC_exit look_hit look_miss ev_t' ev_c' restr_c restr_n put_s put_n params_n params_c ret1_s retB_s unb_f unb_t retH_s pickB_t pickB_f nilcB_o nilcB_i nilcB_f nilcB_n notB_s convI_s sameS_s extrT_s fldA_s tassI_s callF_s callF_fc birthH_s aggO_s op_mv op_pick op_birth_alloc op_birth_box op_birth_bslice op_birth_mksl op_build op_load op_store op_nilc op_bin op_eqn op_eqb op_not op_neg op_inv op_conv op_same op_b2s op_mkif op_mkfn op_sls op_sl op_sla op_fadr op_fld op_iadr op_iadra op_idxs op_idxa op_extr op_tass op_call op_app op_appz op_len op_cap op_copy op_clear args_nil args_cons idP_s idQ_s iadra_o iadra_i fadr_o fadr_i rdO_s load_o load_i rdc_0 store_o cells_int cells_bool cells_str cells_pobj cells_sobj cells_nils cells_nilp cells_agg sc_int sc_bool sc_str sc_pobj sc_sobj sc_nils sc_nilp ne_eq not_false_eq_true Nat.zero_add Nat.add_zero Nat.mul_one Bool.not_true Bool.not_false abin_add abin_sub abin_mul abin_lss abin_leq abin_gtr abin_geq abin_eql abin_neq abin_and abin_or abin_xor gt_iff_lt ge_iff_le List.cons_append List.nil_append List.append_nil List.append_assoc eqn_po eqn_pi eqn_pn eqn_so eqn_si eqn_sn len_str decide_true decide_false List.length_cons List.length_nil List.set_cons_zero List.set_cons_succ List.getElem?_cons_zero List.getElem?_cons_succ
end Ab
