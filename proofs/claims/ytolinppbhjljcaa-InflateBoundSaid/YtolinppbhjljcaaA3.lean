/- Part A3. -/
import Derived.Test.YtolinppbhjljcaaA1
import Derived.Attr
/- Tools for contracts: stepping through code, tables of cells, slices that are read, slices that are one's own. -/
set_option linter.unusedSimpArgs false
set_option linter.unusedVariables false
namespace Ab
open Go

theorem bind_cl {α β : Type} {x y : Option α} (f : α → Option β) (h : x = y) : x.bind f = y.bind f := by rw [h]
@[simp] theorem look_nil (t : Nat) : look [] t = .bot := rfl
@[simp] theorem look_cons (s t : Nat) (v : AV) (r : Env) : look ((s, v) :: r) t = if s = t then v else look r t := rfl
@[simp] theorem restr_nil (e : Env) : restr e [] = [] := rfl
@[simp] theorem restr_cons (e : Env) (t : Nat) (r : List Nat) : restr e (t :: r) = (t, look e t) :: restr e r := rfl
@[simp] theorem ev_t (e : Env) (n : Nat) : (X.t n).ev e = look e n := rfl
@[simp] theorem ev_c (e : Env) (v : AV) : (X.c v).ev e = v := rfl

@[simp] theorem aload_pobj (agg : Bool) (n id off : Nat) (h : H) : aload agg n (.pobj id off) h = (h.get id).bind fun cs => rdc agg n cs off := rfl
@[simp] theorem aload_pimm (agg : Bool) (n off : Nat) (cs : List AV) (h : H) : aload agg n (.pimm cs off) h = rdc agg n cs off := rfl
@[simp] theorem astore_pobj (n id off : Nat) (v : AV) (h : H) : astore n (.pobj id off) v h = (h.get id).bind fun cs =>
    if h.floor ≤ id ∧ v.cells.length = n ∧ off + n ≤ cs.length ∧ AV.allsc v.cells = true then some (h.set id (setFrom cs off v.cells)) else none := rfl
@[simp] theorem rdc_f (n : Nat) (cs : List AV) (off : Nat) : rdc false n cs off = cs[off]? := rfl
section
variable (k : IntKind) (a b : Int)
@[simp] theorem abin_add : abin .add (.int k a) (.int k b) = some (.int k (k.wrap (a + b))) := by simp [abin, binInt]
@[simp] theorem abin_sub : abin .sub (.int k a) (.int k b) = some (.int k (k.wrap (a - b))) := by simp [abin, binInt]
@[simp] theorem abin_mul : abin .mul (.int k a) (.int k b) = some (.int k (k.wrap (a * b))) := by simp [abin, binInt]
@[simp] theorem abin_lss : abin .lss (.int k a) (.int k b) = some (.bool (decide (a < b))) := by simp [abin, binInt]
@[simp] theorem abin_leq : abin .leq (.int k a) (.int k b) = some (.bool (decide (a ≤ b))) := by simp [abin, binInt]
@[simp] theorem abin_gtr : abin .gtr (.int k a) (.int k b) = some (.bool (decide (a > b))) := by simp [abin, binInt]
@[simp] theorem abin_geq : abin .geq (.int k a) (.int k b) = some (.bool (decide (a ≥ b))) := by simp [abin, binInt]
@[simp] theorem abin_eql : abin .eql (.int k a) (.int k b) = some (.bool (a == b)) := by simp [abin, binInt]
@[simp] theorem abin_neq : abin .neq (.int k a) (.int k b) = some (.bool (a != b)) := by simp [abin, binInt]
@[simp] theorem abin_and : abin .and (.int k a) (.int k b) = some (.int k (bits .and k a b)) := by simp [abin, binInt]
@[simp] theorem abin_or : abin .or (.int k a) (.int k b) = some (.int k (bits .or k a b)) := by simp [abin, binInt]
@[simp] theorem abin_xor : abin .xor (.int k a) (.int k b) = some (.int k (bits .xor k a b)) := by simp [abin, binInt]
theorem abin_quo (h : b ≠ 0) : abin .quo (.int k a) (.int k b) = some (.int k (k.wrap (a.tdiv b))) := by simp [abin, binInt, h]
theorem abin_rem (h : b ≠ 0) : abin .rem (.int k a) (.int k b) = some (.int k (a.tmod b)) := by simp [abin, binInt, h]
end
@[simp] theorem cells_int (k : IntKind) (n : Int) : (AV.int k n).cells = [.int k n] := rfl
@[simp] theorem cells_bool (b : Bool) : (AV.bool b).cells = [.bool b] := rfl
@[simp] theorem cells_str (b : ByteArray) : (AV.str b).cells = [.str b] := rfl
@[simp] theorem cells_pobj (i o : Nat) : (AV.pobj i o).cells = [.pobj i o] := rfl
@[simp] theorem cells_sobj (i o l z : Nat) : (AV.sobj i o l z).cells = [.sobj i o l z] := rfl
@[simp] theorem cells_nils : AV.nils.cells = [.nils] := rfl
@[simp] theorem cells_nilp : AV.nilp.cells = [.nilp] := rfl
@[simp] theorem cells_agg (c : List AV) : (AV.agg c).cells = c := rfl
@[simp] theorem allsc_nil : AV.allsc [] = true := rfl
@[simp] theorem allsc_cons (v : AV) (r : List AV) : AV.allsc (v :: r) = (v.sc && AV.allsc r) := rfl
@[simp] theorem setFrom_nil (cs : List AV) (off : Nat) : setFrom cs off [] = cs := rfl
@[simp] theorem setFrom_cons (cs : List AV) (off : Nat) (v : AV) (r : List AV) : setFrom cs off (v :: r) = setFrom (cs.set off v) (off + 1) r := rfl
@[simp] theorem sc_int (k : IntKind) (n : Int) : (AV.int k n).sc = true := rfl
@[simp] theorem sc_bool (b : Bool) : (AV.bool b).sc = true := rfl
@[simp] theorem sc_str (b : ByteArray) : (AV.str b).sc = true := rfl
@[simp] theorem sc_pobj (i o : Nat) : (AV.pobj i o).sc = true := rfl
@[simp] theorem sc_sobj (i o l z : Nat) : (AV.sobj i o l z).sc = true := rfl
@[simp] theorem sc_nils : AV.nils.sc = true := rfl
@[simp] theorem sc_nilp : AV.nilp.sc = true := rfl
@[simp] theorem putEnv_some (d : Nat) (v : AV) (e : Env) : putEnv (some d) v e = (d, v) :: e := rfl
@[simp] theorem putEnv_none (v : AV) (e : Env) : putEnv none v e = e := rfl
@[simp] theorem stables_nil (call : CallT) (ops : List AOper) (e : Env) (gs : List H) : stables call ops e gs [] = true := rfl
@[simp] theorem afadr_pobj (off id o : Nat) : afadr off (.pobj id o) = some (.pobj id (o + off)) := rfl
@[simp] theorem afadr_pimm (off o : Nat) (c : List AV) : afadr off (.pimm c o) = some (.pimm c (o + off)) := rfl
@[simp] theorem aiadra_pobj (n sz id off : Nat) (i : AV) : aiadra n sz (.pobj id off) i = (aidx i n).bind fun j => some (.pobj id (off + j * sz)) := rfl
@[simp] theorem aiadra_pimm (n sz off : Nat) (c : List AV) (i : AV) : aiadra n sz (.pimm c off) i = (aidx i n).bind fun j => some (.pimm c (off + j * sz)) := rfl

/-- A loop of the interpreter, with its limits. -/
noncomputable def Lp (A : AProg) (keep : List Nat) (c : ACode) (e : Env) (h : H) : Res := loopW (fun e h => evC (callW A) loopW c (restr e keep) h) e h
theorem evC_loop (A : AProg) (keep : List Nat) (c : ACode) (e : Env) (h : H) : evC (callW A) loopW (.loop keep c) e h = Lp A keep c e h := rfl

theorem Lp_next {A : AProg} {keep : List Nat} {c : ACode} {e e' : Env} {h h' : H} {r} (h1 : evC (callW A) loopW c (restr e keep) h = some (.normal, e', h')) (h2 : Lp A keep c e' h' = some r) : Lp A keep c e h = some r := loopW_round h1 h2
theorem Lp_exit {A : AProg} {keep : List Nat} {c : ACode} {e e' : Env} {h h' : H} {i : Nat} (h1 : evC (callW A) loopW c (restr e keep) h = some (.exit i, e', h')) : Lp A keep c e h = some (.exit i, e', h') := loopW_exit h1
theorem Lp_ret {A : AProg} {keep : List Nat} {c : ACode} {e e' : Env} {h h' : H} (h1 : evC (callW A) loopW c (restr e keep) h = some (.ret, e', h')) : Lp A keep c e h = some (.ret, e', h') := loopW_ret h1

theorem seq_n {c : CallT} {l : LoopT} {a b : ACode} {e e1 : Env} {h h1 : H} {r} (h1' : evC c l a e h = some (.normal, e1, h1)) (h2 : evC c l b e1 h1 = some r) : evC c l (.seq a b) e h = some r := by
  simp only [evC, h1', Option.bind_some]; exact h2
theorem seq_x {c : CallT} {l : LoopT} {a b : ACode} {e e1 : Env} {h h1 : H} {i : Nat} (h1' : evC c l a e h = some (.exit i, e1, h1)) : evC c l (.seq a b) e h = some (.exit i, e1, h1) := by
  simp only [evC, h1', Option.bind_some]
theorem seq_r {c : CallT} {l : LoopT} {a b : ACode} {e e1 : Env} {h h1 : H} (h1' : evC c l a e h = some (.ret, e1, h1)) : evC c l (.seq a b) e h = some (.ret, e1, h1) := by
  simp only [evC, h1', Option.bind_some]
/-- A loop that leaves by its own block. -/
theorem block_loop {A : AProg} {id : Nat} {k keep : List Nat} {c : ACode} {e e1 : Env} {h h1 : H} (hl : Lp A keep c e h = some (.exit id, e1, h1)) : evC (callW A) loopW (.block id (.loop keep c) k) e h = some (.normal, restr e1 k, h1) := by
  simp only [evC, Option.bind_eq_some_iff]
  exact ⟨_, hl, by simp⟩

theorem pure_c {A : AProg} {f : Nat} {fn : AFunc} {args : List AV} {h h2 : H} {e : Env} {vs : List AV} {v : AV} (hf : A f = some fn) (hnp : args.length = fn.np) (hp : fn.pure = true)
    (hx : evC (callW A) loopW fn.body (params 0 args) h.fence = some (.ret, e, h2)) (hres : resAll e h2 fn.res = some vs) (hs : snap h2.get h.next 16 true (tupOf vs) = some v) : callW A f args h = some (v, h) := by
  refine call_of hf ?_
  unfold runF
  rw [if_pos hnp]
  simp only [hp, if_true, hx, Option.bind_some, fin, hres, snapFuel, hs]
theorem plain_c {A : AProg} {f : Nat} {fn : AFunc} {args : List AV} {h h2 : H} {e : Env} {vs : List AV} (hf : A f = some fn) (hnp : args.length = fn.np) (hp : fn.pure = false)
    (hx : evC (callW A) loopW fn.body (params 0 args) h = some (.ret, e, h2)) (hres : resAll e h2 fn.res = some vs) : callW A f args h = some (tupOf vs, h2) := by
  refine call_of hf ?_
  unfold runF
  rw [if_pos hnp]
  simp [hp, hx, fin, hres]

theorem evOps_of_D {c : CallT} : ∀ (os : List AOper) (e : Env) (h : H), evOps c os e h = (evOpsD c os e h).bind fun r => some (r.1, r.2.1)
  | [], _, _ => rfl
  | o :: os, e, h => by
    simp only [evOps, evOpsD]
    cases hv : evOper c o e h with
    | none => rfl
    | some r =>
      simp only [Option.bind_some]
      rw [evOps_of_D os]
      cases evOpsD c os (putEnv o.dst r.1 e) r.2 <;> rfl

section
variable (c : CallT) (l : LoopT) (e : Env) (h : H)
theorem evC_reg (ops : List AOper) (keep : List Nat) : evC c l (.reg ops keep) e h = (evOps c ops e h).bind fun r => some (.normal, restr r.1 keep, r.2) := by rw [evC]
theorem evC_dreg0 (ord : List Nat) (ops : List AOper) (keep : List Nat) : evC c l (.dreg ord ops [] keep) e h = (evOps c ops e h).bind fun r => some (.normal, restr r.1 keep, r.2) := by
  rw [evOps_of_D]
  simp only [evC]
  cases evOpsD c ops e h <;> simp
theorem evC_seq (a b : ACode) : evC c l (.seq a b) e h = (evC c l a e h).bind fun r => match r with | (.normal, e', h') => evC c l b e' h' | r => some r := by rw [evC]; rfl
theorem evC_cond (x : X) (a b : ACode) (keep : List Nat) : evC c l (.cond x a b keep) e h = match x.ev e with
    | .bool t => (if t then evC c l a e h else evC c l b e h).bind fun r => match r with | (.normal, e', h') => some (.normal, restr e' keep, h') | r => some r
    | _ => none := by rw [evC]; rfl
theorem evC_block (id : Nat) (x : ACode) (keep : List Nat) : evC c l (.block id x keep) e h = (evC c l x e h).bind fun r => match r with
    | (.normal, e', h') => some (.normal, restr e' keep, h')
    | (.exit j, e', h') => if j = id then some (.normal, restr e' keep, h') else some (.exit j, e', h')
    | (.ret, e', h') => some (.ret, e', h') := by rw [evC]; rfl
theorem evC_skip : evC c l .skip e h = some (.normal, e, h) := by rw [evC]
theorem evC_ret : evC c l .ret e h = some (.ret, e, h) := by rw [evC]
theorem evC_exit (i : Nat) : evC c l (.exit i) e h = some (.exit i, e, h) := by rw [evC]
end

/-! ### Whole numbers -/
def I (n : Int) : AV := .int .i64 n
theorem wrap_in {n : Int} (h1 : -9223372036854775808 ≤ n) (h2 : n < 9223372036854775808) : IntKind.wrap .i64 n = n := by
  have e : IntKind.wrap .i64 n = if n % 18446744073709551616 ≥ 9223372036854775808 then n % 18446744073709551616 - 18446744073709551616 else n % 18446744073709551616 := by
    simp [IntKind.wrap, IntKind.bits, IntKind.signed]
  rw [e]; split <;> omega

/-! ### Tables of cells -/
def tab (n : Nat) (C : Nat → AV) : List AV := (List.range n).map C
def upd (C : Nat → AV) (i : Nat) (v : AV) : Nat → AV := fun j => if j = i then v else C j

@[simp] theorem tab_length (n : Nat) (C : Nat → AV) : (tab n C).length = n := by simp [tab]
theorem tab_get {n : Nat} {C : Nat → AV} {i : Nat} (h : i < n) : (tab n C)[i]? = some (C i) := by simp [tab, h]
@[simp] theorem tab_getElem {n : Nat} {C : Nat → AV} {i : Nat} (h : i < (tab n C).length) : (tab n C)[i] = C i := by simp [tab]
theorem tab_set {n : Nat} {C : Nat → AV} {i : Nat} (h : i < n) (v : AV) : (tab n C).set i v = tab n (upd C i v) := by
  apply List.ext_getElem?
  intro j
  by_cases hj : j < n
  · by_cases e : j = i
    · subst e; rw [List.getElem?_set_self (by simpa using hj), tab_get hj]; simp [upd]
    · rw [List.getElem?_set_ne (by omega), tab_get hj, tab_get hj]; simp [upd, e]
  · rw [List.getElem?_eq_none (by simp; omega), List.getElem?_eq_none (by simp; omega)]

theorem rdc_tab {n : Nat} {C : Nat → AV} {i k : Nat} (h : i < n) : rdc false k (tab n C) i = some (C i) := tab_get h

/-- Cells of whole numbers. -/
def ints (l : List Int) : List AV := l.map I
@[simp] theorem ints_length (l : List Int) : (ints l).length = l.length := by simp [ints]
theorem ints_get {l : List Int} {i : Nat} {x : Int} (h : l[i]? = some x) : (ints l)[i]? = some (I x) := by simp [ints, h]
theorem allsc_ints : ∀ l : List Int, AV.allsc (ints l) = true
  | [] => rfl
  | x :: l => by simp [ints, AV.allsc, I, AV.sc]; exact allsc_ints l
theorem ints_append (a b : List Int) : ints (a ++ b) = ints a ++ ints b := by simp [ints]

/-! ### Slices that are read -/
/-- A slice of one-cell elements that reads so. -/
def Rd (h : H) (v : AV) (cs : List AV) : Prop := srcCells h 1 v = some (cs.length, cs) ∧ ∀ s, v ≠ .str s

theorem Rd.len {h : H} {v : AV} {cs : List AV} (r : Rd h v cs) : alen false v = some (I cs.length) := by
  obtain ⟨r, hs⟩ := r
  unfold srcCells at r
  split at r
  · obtain ⟨h1, h2⟩ := Prod.mk.inj (Option.some.inj r); subst h2; rfl
  · exact absurd rfl (hs _)
  · split at r
    · simp only [Option.bind_eq_some_iff] at r
      obtain ⟨c, _, r⟩ := r
      split at r
      · obtain ⟨h1, h2⟩ := Prod.mk.inj (Option.some.inj r); simp [alen, I, h1]
      · cases r
    · cases r
  · split at r
    · split at r
      · obtain ⟨h1, h2⟩ := Prod.mk.inj (Option.some.inj r); simp [alen, I, h1]
      · cases r
    · cases r
  · cases r

theorem Rd.mono {h g : H} {v : AV} {cs : List AV} (r : Rd h v cs) (hg : ∀ id c, h.get id = some c → g.get id = some c) : Rd g v cs := by
  obtain ⟨r, hs⟩ := r
  refine ⟨?_, hs⟩
  unfold srcCells at r ⊢
  split at r
  · exact r
  · exact r
  · split at r
    · rename_i q; simp only [if_pos q, Option.bind_eq_some_iff] at r ⊢
      obtain ⟨c, h1, r⟩ := r
      exact ⟨c, hg _ _ h1, r⟩
    · cases r
  · exact r
  · cases r

theorem aidx_of {i n : Nat} (h : i < n) : aidx (I i) n = some i := by
  simp [aidx, asI, I]; omega

/-- Reading an element: its address, and the load. -/
theorem Rd.elem {h : H} {v : AV} {cs : List AV} (r : Rd h v cs) {i : Nat} {c : AV} (hc : cs[i]? = some c) : ∃ p, aiadr 1 v (I i) = some p ∧ ∀ g : H, (∀ id c, h.get id = some c → g.get id = some c) → aload false 1 p g = some c := by
  obtain ⟨r, hs⟩ := r
  have hi : i < cs.length := (List.getElem?_eq_some_iff.1 hc).1
  unfold srcCells at r
  split at r
  · obtain ⟨h1, h2⟩ := Prod.mk.inj (Option.some.inj r); subst h2; simp at hi
  · exact absurd rfl (hs _)
  · rename_i id off len s
    split at r
    · rename_i q
      subst q
      simp only [Option.bind_eq_some_iff] at r
      obtain ⟨d, hd, r⟩ := r
      split at r
      · obtain ⟨h1, h2⟩ := Prod.mk.inj (Option.some.inj r)
        refine ⟨.pobj id (off + i), by simp [aiadr, aidx_of (h1 ▸ hi)], fun g hg => ?_⟩
        simp only [aload, hg _ _ hd, Option.bind_some, rdc, Bool.false_eq_true, if_false]
        rw [← h2, List.getElem?_take] at hc
        split at hc
        · rwa [List.getElem?_drop] at hc
        · cases hc
      · cases r
    · cases r
  · rename_i t cells off len s
    split at r
    · rename_i q
      subst q
      split at r
      · obtain ⟨h1, h2⟩ := Prod.mk.inj (Option.some.inj r)
        refine ⟨.pimm cells (off + i), by simp [aiadr, aidx_of (h1 ▸ hi)], fun g hg => ?_⟩
        simp only [aload, rdc, Bool.false_eq_true, if_false]
        rw [← h2, List.getElem?_take] at hc
        split at hc
        · rwa [List.getElem?_drop] at hc
        · cases hc
      · cases r
    · cases r
  · cases r

/-! ### Slices of one's own, that are appended to -/
def Own (h : H) (v : AV) (cs : List AV) : Prop := (v = .nils ∧ cs = []) ∨ ∃ id, v = .sobj id 0 cs.length 1 ∧ h.get id = some cs ∧ h.floor ≤ id ∧ cs ≠ []

theorem Own.mono {h g : H} {v : AV} {cs : List AV} (o : Own h v cs) (hf : g.floor = h.floor) (hg : ∀ i, v.id? = some i → g.get i = h.get i) : Own g v cs := by
  rcases o with o | ⟨id, rfl, h1, h2, h3⟩
  · exact .inl o
  · exact .inr ⟨id, rfl, by rw [hg id rfl]; exact h1, by rw [hf]; exact h2, h3⟩
theorem Own.sc {h : H} {v : AV} {cs : List AV} (o : Own h v cs) : v.sc = true := by
  rcases o with ⟨rfl, _⟩ | ⟨id, rfl, _⟩ <;> rfl

theorem Own.lt {h : H} {v : AV} {cs : List AV} (o : Own h v cs) {i : Nat} (hi : v.id? = some i) : i < h.next := by
  rcases o with ⟨rfl, _⟩ | ⟨id, rfl, h1, _⟩
  · cases hi
  · obtain rfl := Option.some.inj hi; exact h.lt _ _ h1

theorem Own.app {h : H} {v : AV} {cs : List AV} (o : Own h v cs) (hfn : h.floor ≤ h.next) {z : Nat} (c : AV) (hc : c.sc = true) (hr : roomy z (cs.length + 1) = true) :
    ∃ v' h', aappc h 1 z v 1 [c] = some (v', h') ∧ Own h' v' (cs ++ [c]) ∧ h'.floor = h.floor ∧ h.next ≤ h'.next ∧ (∀ i, v.id? ≠ some i → i ≠ h.next → h'.get i = h.get i) ∧ v'.id? = some h.next := by
  have ha : AV.allsc [c] = true := by simp [AV.allsc, hc]
  rcases o with ⟨rfl, rfl⟩ | ⟨id, rfl, hg, hf, hne⟩
  · refine ⟨.sobj h.next 0 1 1, h.alloc [c], ?_, .inr ⟨h.next, rfl, by simp [H.get_alloc], ?_, by simp⟩, by simp, by simp, fun i _ hi => by rw [H.get_alloc, if_neg hi], rfl⟩
    · unfold aappc
      rw [if_neg (by omega), if_neg (by simp [ha])]
      simp only [List.length_nil, Nat.zero_add] at hr
      simp only [hr, if_true]
    · simp; omega
  · refine ⟨.sobj h.next 0 (cs.length + 1) 1, (h.del id).alloc (cs ++ [c]), ?_, .inr ⟨h.next, by simp, by simp [H.get_alloc], ?_, by simp⟩, by simp, by simp, fun i h1 h2 => ?_, rfl⟩
    · unfold aappc
      rw [if_neg (by omega), if_neg (by simp [ha])]
      simp only [hf, and_self, if_true, hg, Option.bind_some]
      rw [if_neg (by omega), if_pos ⟨by omega, hr⟩]
      simp
    · have := h.lt id cs hg; simp; omega
    · rw [H.get_alloc, H.next_del, if_neg h2, H.get_del, if_neg]
      intro e; subst e; exact h1 rfl
end Ab

/- Tools for contracts, 2: stepping whose continuations are no functions, so that a step that is stuck stays small. -/
set_option linter.unusedSimpArgs false
set_option linter.unusedVariables false
namespace Ab
open Go

/-! ### Operations -/
def ret1 (h : H) (p : Option AV) : Option (AV × H) := p.bind fun v => some (v, h)
theorem ret1_s (h : H) (v : AV) : ret1 h (some v) = some (v, h) := Eq.trans rfl rfl
def retB (h : H) (neg : Bool) (p : Option Bool) : Option (AV × H) := p.bind fun b => some (unb neg b, h)
theorem retB_s (h : H) (neg b : Bool) : retB h neg (some b) = some (unb neg b, h) := Eq.trans rfl rfl
theorem unb_f (b : Bool) : unb false b = .bool b := Eq.trans rfl rfl
theorem unb_t (b : Bool) : unb true b = .bool (!b) := Eq.trans rfl rfl
def retH (p : Option H) : Option (AV × H) := p.bind fun h => some (.bot, h)
theorem retH_s (h : H) : retH (some h) = some (.bot, h) := Eq.trans rfl rfl
def pickB (h : H) (a b : AV) (c : AV) : Option (AV × H) := match c with | .bool t => some (if t then a else b, h) | _ => none
theorem pickB_t (h : H) (a b : AV) : pickB h a b (.bool true) = some (a, h) := Eq.trans rfl rfl
theorem pickB_f (h : H) (a b : AV) : pickB h a b (.bool false) = some (b, h) := Eq.trans rfl rfl
def nilcB (h : H) (c : AV) : Option (AV × H) := match c with | .pobj i o => some (.pobj i o, h) | .pimm c o => some (.pimm c o, h) | .fn f a b => some (.fn f a b, h) | .iface t v => some (.iface t v, h) | _ => none
theorem nilcB_o (h : H) (i o : Nat) : nilcB h (.pobj i o) = some (.pobj i o, h) := Eq.trans rfl rfl
theorem nilcB_i (h : H) (c : List AV) (o : Nat) : nilcB h (.pimm c o) = some (.pimm c o, h) := Eq.trans rfl rfl
theorem nilcB_f (h : H) (f : Nat) (a b : List AV) : nilcB h (.fn f a b) = some (.fn f a b, h) := Eq.trans rfl rfl
theorem nilcB_n (h : H) (t : Nat) (v : AV) : nilcB h (.iface t v) = some (.iface t v, h) := Eq.trans rfl rfl
def notB (h : H) (c : AV) : Option (AV × H) := match c with | .bool b => some (.bool (!b), h) | _ => none
theorem notB_s (h : H) (b : Bool) : notB h (.bool b) = some (.bool (!b), h) := Eq.trans rfl rfl
def negI (h : H) (c : AV) : Option (AV × H) := match c with | .int k n => some (.int k (k.wrap (0 - n)), h) | _ => none
theorem negI_s (h : H) (k : IntKind) (n : Int) : negI h (.int k n) = some (.int k (k.wrap (0 - n)), h) := Eq.trans rfl rfl
def invI (h : H) (c : AV) : Option (AV × H) := match c with | .int k n => some (.int k (bits .xor k (if k.signed then -1 else k.max) n), h) | _ => none
theorem invI_s (h : H) (k : IntKind) (n : Int) : invI h (.int k n) = some (.int k (bits .xor k (if k.signed then -1 else k.max) n), h) := Eq.trans rfl rfl
def convI (h : H) (k : IntKind) (c : AV) : Option (AV × H) := match c with | .int _ n => some (.int k (k.wrap n), h) | _ => none
theorem convI_s (h : H) (j k : IntKind) (n : Int) : convI h k (.int j n) = some (.int k (k.wrap n), h) := Eq.trans rfl rfl
def sameS (h : H) (c : AV) : Option (AV × H) := match c with | .str s => some (.str s, h) | _ => none
theorem sameS_s (h : H) (s : ByteArray) : sameS h (.str s) = some (.str s, h) := Eq.trans rfl rfl
def eqbB (h : H) (neg : Bool) (a b : AV) : Option (AV × H) := match a, b with | .bool a, .bool b => some (unb neg (a == b), h) | _, _ => none
theorem eqbB_s (h : H) (neg a b : Bool) : eqbB h neg (.bool a) (.bool b) = some (unb neg (a == b), h) := Eq.trans rfl rfl
def extrT (h : H) (i : Nat) (v : AV) : Option (AV × H) := match v with | .tup vs => ret1 h (vs[i]?) | _ => none
theorem extrT_s (h : H) (i : Nat) (vs : List AV) : extrT h i (.tup vs) = ret1 h (vs[i]?) := Eq.trans rfl rfl
def fldA (h : H) (agg : Bool) (off n : Nat) (v : AV) : Option (AV × H) := match v with | .agg cs => ret1 h (rdc agg n cs off) | _ => none
theorem fldA_s (h : H) (agg : Bool) (off n : Nat) (cs : List AV) : fldA h agg off n (.agg cs) = ret1 h (rdc agg n cs off) := Eq.trans rfl rfl
def tassI (h : H) (t : Nat) (v : AV) : Option (AV × H) := match v with | .iface u v => if u = t then some (v, h) else none | _ => none
theorem tassI_s (h : H) (t : Nat) (v : AV) : tassI h t (.iface t v) = some (v, h) := by simp [tassI]
def callF (c : CallT) (args : List AV) (h : H) (f : AV) : Option (AV × H) := match f with | .fn k first captured => c k (first ++ args ++ captured) h | _ => none
theorem callF_s (c : CallT) (args : List AV) (h : H) (k : Nat) : callF c args h (.fn k [] []) = c k args h := by simp [callF]
theorem callF_fc (c : CallT) (args : List AV) (h : H) (k : Nat) (f g : List AV) : callF c args h (.fn k f g) = c k (f ++ args ++ g) h := Eq.trans rfl rfl
def birthH (h : H) (p : Option (List AV × (Nat → AV))) : Option (AV × H) := p.bind fun b => some (b.2 h.next, h.alloc b.1)
theorem birthH_s (h : H) (cs : List AV) (f : Nat → AV) : birthH h (some (cs, f)) = some (f h.next, h.alloc cs) := Eq.trans rfl rfl
def aggO (h : H) (p : Option (List AV)) : Option (AV × H) := p.bind fun cs => some (.agg cs, h)
theorem aggO_s (h : H) (cs : List AV) : aggO h (some cs) = some (.agg cs, h) := Eq.trans rfl rfl
def b2sB (h : H) (x : AV) (p : Option (Nat × List AV)) : Option (AV × H) := p.bind fun q => (b2s q.2).bind fun l => match x with | .str _ => none | _ => some (.str ⟨l.toArray⟩, h)

section
variable (c : CallT) (e : Env) (h : H)
theorem op_mv (x : X) : evOp c e h (.mv x) = some (x.ev e, h) := Eq.trans rfl rfl
theorem op_pick (x a b : X) : evOp c e h (.pick x a b) = pickB h (a.ev e) (b.ev e) (x.ev e) := Eq.trans rfl rfl
theorem op_birth_alloc (z : List AV) : evOp c e h (.alloc z) = birthH h (birth e (.alloc z)) := Eq.trans rfl rfl
theorem op_birth_box (n : Nat) (x : X) : evOp c e h (.box n x) = birthH h (birth e (.box n x)) := Eq.trans rfl rfl
theorem op_birth_bslice (a b : Nat) (z : List AV) (ps) : evOp c e h (.bslice a b z ps) = birthH h (birth e (.bslice a b z ps)) := Eq.trans rfl rfl
theorem op_birth_mksl (a b : Nat) (z : List AV) (x y : X) : evOp c e h (.mksl a b z x y) = birthH h (birth e (.mksl a b z x y)) := Eq.trans rfl rfl
theorem op_birth_s2b (x : X) : evOp c e h (.s2b x) = birthH h (birth e (.s2b x)) := Eq.trans rfl rfl
theorem op_build (z : List AV) (ps : List (Nat × Nat × X)) : evOp c e h (.build z ps) = aggO h (fillA z (ps.map fun p => (p.1, p.2.1, p.2.2.ev e))) := Eq.trans rfl rfl
theorem op_load (agg : Bool) (n : Nat) (p : X) : evOp c e h (.load agg n p) = ret1 h (aload agg n (p.ev e) h) := Eq.trans rfl rfl
theorem op_store (n : Nat) (p v : X) : evOp c e h (.store n p v) = retH (astore n (p.ev e) (v.ev e) h) := Eq.trans rfl rfl
theorem op_nilc (x : X) : evOp c e h (.nilc x) = nilcB h (x.ev e) := Eq.trans rfl rfl
theorem op_bin (o : Bo) (x y : X) : evOp c e h (.bin o x y) = ret1 h (abin o (x.ev e) (y.ev e)) := Eq.trans rfl rfl
theorem op_eqn (k : Nat) (neg : Bool) (x y : X) : evOp c e h (.eqn k neg x y) = retB h neg (aeqn k (x.ev e) (y.ev e)) := Eq.trans rfl rfl
theorem op_eqb (neg : Bool) (x y : X) : evOp c e h (.eqb neg x y) = eqbB h neg (x.ev e) (y.ev e) := Eq.trans rfl rfl
theorem op_not (x : X) : evOp c e h (.not x) = notB h (x.ev e) := Eq.trans rfl rfl
theorem op_neg (x : X) : evOp c e h (.neg x) = negI h (x.ev e) := Eq.trans rfl rfl
theorem op_inv (x : X) : evOp c e h (.inv x) = invI h (x.ev e) := Eq.trans rfl rfl
theorem op_conv (k : IntKind) (x : X) : evOp c e h (.conv k x) = convI h k (x.ev e) := Eq.trans rfl rfl
theorem op_same (x : X) : evOp c e h (.same x) = sameS h (x.ev e) := Eq.trans rfl rfl
theorem op_b2s (x : X) : evOp c e h (.b2s x) = b2sB h (x.ev e) (srcCells h 1 (x.ev e)) := Eq.trans rfl rfl
theorem op_mkif (t : Nat) (x : X) : evOp c e h (.mkif t x) = if (x.ev e).sc then some (.iface t (x.ev e), h) else none := Eq.trans rfl rfl
theorem op_mkfn (f : Nat) (a b : List X) : evOp c e h (.mkfn f a b) = some (.fn f (evArgs e a) (evArgs e b), h) := Eq.trans rfl rfl
theorem op_sls (x : X) (lo hi : Option X) : evOp c e h (.sls x lo hi) = ret1 h (asls (x.ev e) (lo.map (X.ev e)) (hi.map (X.ev e))) := Eq.trans rfl rfl
theorem op_sl (sz : Nat) (x : X) (lo hi mx : Option X) : evOp c e h (.sl sz x lo hi mx) = ret1 h (asl h sz (x.ev e) (lo.map (X.ev e)) (hi.map (X.ev e)) (mx.map (X.ev e))) := Eq.trans rfl rfl
theorem op_sla (n sz : Nat) (x : X) (lo hi : Option X) : evOp c e h (.sla n sz x lo hi) = ret1 h (asla h n sz (x.ev e) (lo.map (X.ev e)) (hi.map (X.ev e))) := Eq.trans rfl rfl
theorem op_fadr (off : Nat) (x : X) : evOp c e h (.fadr off x) = ret1 h (afadr off (x.ev e)) := Eq.trans rfl rfl
theorem op_fld (agg : Bool) (off n : Nat) (x : X) : evOp c e h (.fld agg off n x) = fldA h agg off n (x.ev e) := Eq.trans rfl rfl
theorem op_iadr (sz : Nat) (x i : X) : evOp c e h (.iadr sz x i) = ret1 h (aiadr sz (x.ev e) (i.ev e)) := Eq.trans rfl rfl
theorem op_iadra (n sz : Nat) (x i : X) : evOp c e h (.iadra n sz x i) = ret1 h (aiadra n sz (x.ev e) (i.ev e)) := Eq.trans rfl rfl
theorem op_idxs (x i : X) : evOp c e h (.idxs x i) = ret1 h (aidxs (x.ev e) (i.ev e)) := Eq.trans rfl rfl
theorem op_idxa (agg : Bool) (n sz : Nat) (x i : X) : evOp c e h (.idxa agg n sz x i) = ret1 h (aidxa agg n sz (x.ev e) (i.ev e)) := Eq.trans rfl rfl
theorem op_extr (x : X) (i : Nat) : evOp c e h (.extr x i) = extrT h i (x.ev e) := Eq.trans rfl rfl
theorem op_tass (x : X) (t : Nat) : evOp c e h (.tass x t) = tassI h t (x.ev e) := Eq.trans rfl rfl
theorem op_call (f : X) (args : List X) : evOp c e h (.call f args) = callF c (evArgs e args) h (f.ev e) := Eq.trans rfl rfl
theorem op_app (a b : Nat) (x y : X) : evOp c e h (.app a b x y) = aapp h a b (x.ev e) (y.ev e) := Eq.trans rfl rfl
theorem op_appz (a b : Nat) (z : List AV) (x y : X) : evOp c e h (.appz a b z x y) = aappz h a b z (x.ev e) (y.ev e) := Eq.trans rfl rfl
theorem op_len (s : Bool) (x : X) : evOp c e h (.len s x) = ret1 h (alen s (x.ev e)) := Eq.trans rfl rfl
theorem op_cap (x : X) : evOp c e h (.cap x) = ret1 h (acap (x.ev e)) := Eq.trans rfl rfl
theorem op_copy (n : Nat) (x y : X) : evOp c e h (.copy n x y) = acopy h n (x.ev e) (y.ev e) := Eq.trans rfl rfl
theorem op_clear (n : Nat) (z : List AV) (x : X) : evOp c e h (.clear n z x) = retH (aclear h n z (x.ev e)) := Eq.trans rfl rfl
end
theorem args_nil (e : Env) : evArgs e [] = [] := Eq.trans rfl rfl
theorem args_cons (e : Env) (x : X) (r : List X) : evArgs e (x :: r) = x.ev e :: evArgs e r := Eq.trans rfl rfl

/-! ### Rows of operations -/
def goO (c : CallT) (d : Option Nat) (r : List AOper) (e : Env) (p : Option (AV × H)) : Option (Env × H) := p.bind fun q => evOps c r (putEnv d q.1 e) q.2
theorem goO_s (c : CallT) (d : Option Nat) (r : List AOper) (e : Env) (v : AV) (h : H) : goO c d r e (some (v, h)) = evOps c r (putEnv d v e) h := Eq.trans rfl rfl
def goG (w : Bool) (c : CallT) (e : Env) (h : H) (op : AOp) (g : AV) : Option (AV × H) := match g with | .bool b => if b = w then evOp c e h op else some (.tup [], h) | .tup [] => some (.tup [], h) | _ => none
theorem goG_tt (c : CallT) (e : Env) (h : H) (op : AOp) : goG true c e h op (.bool true) = evOp c e h op := by simp [goG]
theorem goG_ff (c : CallT) (e : Env) (h : H) (op : AOp) : goG false c e h op (.bool false) = evOp c e h op := by simp [goG]
theorem goG_tf (c : CallT) (e : Env) (h : H) (op : AOp) : goG true c e h op (.bool false) = some (.tup [], h) := by simp [goG]
theorem goG_ft (c : CallT) (e : Env) (h : H) (op : AOp) : goG false c e h op (.bool true) = some (.tup [], h) := by simp [goG]
theorem goG_u (w : Bool) (c : CallT) (e : Env) (h : H) (op : AOp) : goG w c e h op (.tup []) = some (.tup [], h) := by simp [goG]
theorem evOper_g (c : CallT) (d : Option Nat) (op : AOp) (g : Nat) (w : Bool) (e : Env) (h : H) : evOper c ⟨d, op, some (g, w)⟩ e h = goG w c e h op (look e g) := by
  unfold evOper goG
  dsimp only
  cases look e g with
  | tup vs => cases vs <;> rfl
  | _ => rfl
theorem ops_nil (c : CallT) (e : Env) (h : H) : evOps c [] e h = some (e, h) := Eq.trans rfl rfl
theorem ops_u (c : CallT) (d : Option Nat) (op : AOp) (r : List AOper) (e : Env) (h : H) : evOps c (⟨d, op, none⟩ :: r) e h = goO c d r e (evOp c e h op) := Eq.trans rfl rfl
theorem ops_g (c : CallT) (d : Option Nat) (op : AOp) (g : Nat) (w : Bool) (r : List AOper) (e : Env) (h : H) : evOps c (⟨d, op, some (g, w)⟩ :: r) e h = goO c d r e (goG w c e h op (look e g)) := by
  rw [evOps, evOper_g]; rfl

/-! ### Code -/
def goR (keep : List Nat) (p : Option (Env × H)) : Res := p.bind fun q => some (.normal, restr q.1 keep, q.2)
theorem goR_s (keep : List Nat) (e : Env) (h : H) : goR keep (some (e, h)) = some (.normal, restr e keep, h) := Eq.trans rfl rfl
def goS (c : CallT) (l : LoopT) (b : ACode) (p : Res) : Res := p.bind fun r => match r with | (.normal, e', h') => evC c l b e' h' | r => some r
theorem goS_n (c : CallT) (l : LoopT) (b : ACode) (e : Env) (h : H) : goS c l b (some (.normal, e, h)) = evC c l b e h := Eq.trans rfl rfl
theorem goS_x (c : CallT) (l : LoopT) (b : ACode) (i : Nat) (e : Env) (h : H) : goS c l b (some (.exit i, e, h)) = some (.exit i, e, h) := Eq.trans rfl rfl
theorem goS_r (c : CallT) (l : LoopT) (b : ACode) (e : Env) (h : H) : goS c l b (some (.ret, e, h)) = some (.ret, e, h) := Eq.trans rfl rfl
def goK (keep : List Nat) (p : Res) : Res := p.bind fun r => match r with | (.normal, e', h') => some (.normal, restr e' keep, h') | r => some r
theorem goK_n (keep : List Nat) (e : Env) (h : H) : goK keep (some (.normal, e, h)) = some (.normal, restr e keep, h) := Eq.trans rfl rfl
theorem goK_x (keep : List Nat) (i : Nat) (e : Env) (h : H) : goK keep (some (.exit i, e, h)) = some (.exit i, e, h) := Eq.trans rfl rfl
theorem goK_r (keep : List Nat) (e : Env) (h : H) : goK keep (some (.ret, e, h)) = some (.ret, e, h) := Eq.trans rfl rfl
def goI (c : CallT) (l : LoopT) (a b : ACode) (e : Env) (h : H) (t : AV) : Res := match t with | .bool t => if t then evC c l a e h else evC c l b e h | _ => none
theorem goI_t (c : CallT) (l : LoopT) (a b : ACode) (e : Env) (h : H) : goI c l a b e h (.bool true) = evC c l a e h := Eq.trans rfl rfl
theorem goI_f (c : CallT) (l : LoopT) (a b : ACode) (e : Env) (h : H) : goI c l a b e h (.bool false) = evC c l b e h := Eq.trans rfl rfl
def goB (id : Nat) (keep : List Nat) (p : Res) : Res := p.bind fun r => match r with
  | (.normal, e', h') => some (.normal, restr e' keep, h')
  | (.exit j, e', h') => if j = id then some (.normal, restr e' keep, h') else some (.exit j, e', h')
  | (.ret, e', h') => some (.ret, e', h')
theorem goB_n (id : Nat) (keep : List Nat) (e : Env) (h : H) : goB id keep (some (.normal, e, h)) = some (.normal, restr e keep, h) := Eq.trans rfl rfl
theorem goB_x (id : Nat) (keep : List Nat) (e : Env) (h : H) : goB id keep (some (.exit id, e, h)) = some (.normal, restr e keep, h) := by simp [goB]
theorem goB_y {id j : Nat} (hj : j ≠ id) (keep : List Nat) (e : Env) (h : H) : goB id keep (some (.exit j, e, h)) = some (.exit j, e, h) := by simp [goB, hj]
theorem goB_r (id : Nat) (keep : List Nat) (e : Env) (h : H) : goB id keep (some (.ret, e, h)) = some (.ret, e, h) := Eq.trans rfl rfl

section
variable (c : CallT) (l : LoopT) (e : Env) (h : H)
theorem C_reg (ops : List AOper) (keep : List Nat) : evC c l (.reg ops keep) e h = goR keep (evOps c ops e h) := by rw [evC]; rfl
theorem C_dreg0 (ord : List Nat) (ops : List AOper) (keep : List Nat) : evC c l (.dreg ord ops [] keep) e h = goR keep (evOps c ops e h) := by rw [evC_dreg0]; rfl
theorem C_seq (a b : ACode) : evC c l (.seq a b) e h = goS c l b (evC c l a e h) := by rw [evC]; rfl
theorem C_cond (x : X) (a b : ACode) (keep : List Nat) : evC c l (.cond x a b keep) e h = goK keep (goI c l a b e h (x.ev e)) := by
  rw [evC]; unfold goI; cases hx : x.ev e with
  | bool t => cases t <;> rfl
  | _ => rfl
theorem C_block (id : Nat) (x : ACode) (keep : List Nat) : evC c l (.block id x keep) e h = goB id keep (evC c l x e h) := by rw [evC]; rfl
end

/-! ### What is put in -/
theorem look_hit (t : Nat) (v : AV) (r : Env) : look ((t, v) :: r) t = v := if_pos rfl
theorem look_miss {s t : Nat} (hst : s ≠ t) (v : AV) (r : Env) : look ((s, v) :: r) t = look r t := if_neg hst
theorem ev_t' (e : Env) (n : Nat) : (X.t n).ev e = look e n := Eq.trans rfl rfl
theorem ev_c' (e : Env) (v : AV) : (X.c v).ev e = v := Eq.trans rfl rfl
theorem restr_c (e : Env) (t : Nat) (r : List Nat) : restr e (t :: r) = (t, look e t) :: restr e r := Eq.trans rfl rfl
theorem restr_n (e : Env) : restr e [] = [] := Eq.trans rfl rfl
theorem put_s (d : Nat) (v : AV) (e : Env) : putEnv (some d) v e = (d, v) :: e := Eq.trans rfl rfl
theorem put_n (v : AV) (e : Env) : putEnv none v e = e := Eq.trans rfl rfl
theorem params_n (i : Nat) : params i [] = [] := Eq.trans rfl rfl
theorem params_c (i : Nat) (v : AV) (r : List AV) : params i (v :: r) = (i, v) :: params (i + 1) r := Eq.trans rfl rfl
def idP (id off sz : Nat) (p : Option Nat) : Option AV := p.bind fun j => some (.pobj id (off + j * sz))
def idQ (c : List AV) (off sz : Nat) (p : Option Nat) : Option AV := p.bind fun j => some (.pimm c (off + j * sz))
theorem idP_s (id off sz j : Nat) : idP id off sz (some j) = some (.pobj id (off + j * sz)) := Eq.trans rfl rfl
theorem idQ_s (c : List AV) (off sz j : Nat) : idQ c off sz (some j) = some (.pimm c (off + j * sz)) := Eq.trans rfl rfl
theorem iadra_o (n sz id off : Nat) (i : AV) : aiadra n sz (.pobj id off) i = idP id off sz (aidx i n) := Eq.trans rfl rfl
theorem iadra_i (n sz off : Nat) (c : List AV) (i : AV) : aiadra n sz (.pimm c off) i = idQ c off sz (aidx i n) := Eq.trans rfl rfl
theorem fadr_o (off id o : Nat) : afadr off (.pobj id o) = some (.pobj id (o + off)) := Eq.trans rfl rfl
theorem fadr_i (off o : Nat) (c : List AV) : afadr off (.pimm c o) = some (.pimm c (o + off)) := Eq.trans rfl rfl
def rdO (agg : Bool) (n off : Nat) (p : Option (List AV)) : Option AV := p.bind fun cs => rdc agg n cs off
theorem rdO_s (agg : Bool) (n off : Nat) (cs : List AV) : rdO agg n off (some cs) = rdc agg n cs off := Eq.trans rfl rfl
theorem load_o (agg : Bool) (n id off : Nat) (h : H) : aload agg n (.pobj id off) h = rdO agg n off (h.get id) := Eq.trans rfl rfl
theorem load_i (agg : Bool) (n off : Nat) (cs : List AV) (h : H) : aload agg n (.pimm cs off) h = rdc agg n cs off := Eq.trans rfl rfl
theorem rdc_0 (n : Nat) (cs : List AV) (off : Nat) : rdc false n cs off = cs[off]? := by simp [rdc]
def stO (h : H) (id off n : Nat) (v : List AV) (p : Option (List AV)) : Option H := p.bind fun cs => if h.floor ≤ id ∧ v.length = n ∧ off + n ≤ cs.length ∧ AV.allsc v = true then some (h.set id (setFrom cs off v)) else none
theorem store_o (n id off : Nat) (v : AV) (h : H) : astore n (.pobj id off) v h = stO h id off n v.cells (h.get id) := Eq.trans rfl rfl
/-- A cell is stored. -/
theorem stO_1 {h : H} {id off : Nat} {v : AV} {cs : List AV} (h1 : h.floor ≤ id) (h2 : off < cs.length) (h3 : v.sc = true) : stO h id off 1 [v] (some cs) = some (h.set id (cs.set off v)) := by
  simp only [stO, Option.bind_some]
  rw [if_pos ⟨h1, rfl, h2, by simp [h3]⟩]; rfl
theorem eqn_po (i o : Nat) : aeqn 0 (.pobj i o) .nilp = some false := Eq.trans rfl rfl
theorem eqn_pi (c : List AV) (o : Nat) : aeqn 0 (.pimm c o) .nilp = some false := Eq.trans rfl rfl
theorem eqn_pn : aeqn 0 .nilp .nilp = some true := Eq.trans rfl rfl
theorem eqn_so (i o l z : Nat) : aeqn 1 (.sobj i o l z) .nils = some false := Eq.trans rfl rfl
theorem eqn_si (t : Bool) (c : List AV) (o l z : Nat) : aeqn 1 (.simm t c o l z) .nils = some false := Eq.trans rfl rfl
theorem eqn_sn : aeqn 1 .nils .nils = some true := Eq.trans rfl rfl
theorem beq_t {a b : Int} (h : a = b) : (a == b) = true := by simp [h]
theorem beq_f {a b : Int} (h : a ≠ b) : (a == b) = false := by simp [h]
theorem bne_t {a b : Int} (h : a ≠ b) : (a != b) = true := by simp [h]
theorem bne_f {a b : Int} (h : a = b) : (a != b) = false := by simp [h]
theorem I_eq (n : Int) : I n = .int .i64 n := rfl
theorem len_str (s : ByteArray) : alen true (.str s) = some (.int .i64 s.size) := Eq.trans rfl rfl
theorem sc_I (n : Int) : (I n).sc = true := rfl
attribute [go_sem] goO_s goG_tt goG_ff goG_tf goG_ft goG_u ops_nil ops_u ops_g goR_s goS_n goS_x goS_r goK_n goK_x goK_r goI_t goI_f goB_n goB_x goB_r goB_y C_reg C_dreg0 C_seq C_cond C_block evC_skip evC_ret evC_exit look_hit look_miss ev_t' ev_c' restr_c restr_n put_s put_n params_n params_c ret1_s retB_s unb_f unb_t retH_s pickB_t pickB_f nilcB_o nilcB_i nilcB_f nilcB_n notB_s convI_s sameS_s extrT_s fldA_s tassI_s callF_s callF_fc birthH_s aggO_s op_mv op_pick op_birth_alloc op_birth_box op_birth_bslice op_birth_mksl op_build op_load op_store op_nilc op_bin op_eqn op_eqb op_not op_neg op_inv op_conv op_same op_b2s op_mkif op_mkfn op_sls op_sl op_sla op_fadr op_fld op_iadr op_iadra op_idxs op_idxa op_extr op_tass op_call op_app op_appz op_len op_cap op_copy op_clear args_nil args_cons idP_s idQ_s iadra_o iadra_i fadr_o fadr_i rdO_s load_o load_i rdc_0 store_o cells_int cells_bool cells_str cells_pobj cells_sobj cells_nils cells_nilp cells_agg sc_int sc_bool sc_str sc_pobj sc_sobj sc_nils sc_nilp ne_eq not_false_eq_true Nat.zero_add Nat.add_zero Nat.mul_one Bool.not_true Bool.not_false abin_add abin_sub abin_mul abin_lss abin_leq abin_gtr abin_geq abin_eql abin_neq abin_and abin_or abin_xor gt_iff_lt ge_iff_le List.cons_append List.nil_append List.append_nil List.append_assoc eqn_po eqn_pi eqn_pn eqn_so eqn_si eqn_sn len_str decide_true decide_false List.length_cons List.length_nil List.set_cons_zero List.set_cons_succ List.getElem?_cons_zero List.getElem?_cons_succ
end Ab
