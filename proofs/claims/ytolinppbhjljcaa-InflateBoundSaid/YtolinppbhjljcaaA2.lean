/- Part A2. -/
import Derived.Test.YtolinppbhjljcaaA1
import Derived.Orders
import Derived.LoopN
import Derived.ProofKit
import Derived.SizedLaws
/- Every operation: what the interpreter's does, the model's does. -/
set_option linter.unusedSimpArgs false
set_option linter.unusedVariables false
namespace Ab
open Go RowKit

section
variable {L : Lk} {w0 : World} {ι : Io} {M : Mm} {h : H} {w : World}

def Out (L : Lk) (w0 : World) (ι : Io) (M : Mm) (h h' : H) (v : AV) (v' : Value) (w' : World) : Prop :=
  ∃ ι' M', LeI ι ι' ∧ LeM M M' ∧ (∀ id l, id < h.next → ι' id = some l → ι id = some l) ∧ R L w0 ι' M' h' w' ∧ V L ι' M' v v'

theorem Out.of {h' : H} {v : AV} {v' : Value} {w' : World} (hc : Comes' L w0 ι M h h' v v' w') : Out L w0 ι M h h' v v' w' := by
  obtain ⟨ι', a, b, c, d⟩ := hc
  exact ⟨ι', M, a, fun _ _ _ q => q, b, c, d⟩
theorem Out.same {h' : H} {v : AV} {v' : Value} {w' : World} (r : R L w0 ι M h' w') (hv : V L ι M v v') : Out L w0 ι M h h' v v' w' := .of (.same r hv)

def Callee (L : Lk) (w0 : World) (call : CallT) : Prop := ∀ (f : Nat) (fid : FuncId) (args : List AV) (vals : List Value) (ι : Io) (M : Mm) (h h' : H) (w : World) (v : AV), L.mf fid = some f → call f args h = some (v, h') → R L w0 ι M h w → RowA L ι M args vals →
  Calls L.P fid vals.toArray w fun e w' => ∃ v', e = .returned v' ∧ Out L w0 ι M h h' v v' w'

/-- Each function that has a number has a body. -/
def Bodies (L : Lk) : Prop := ∀ fid f, L.mf fid = some f → ∃ fn c, L.P.funcs[fid]? = some fn ∧ fn.body = some c ∧ (fn.name == "runtime.NumGoroutine") = false

theorem Made.out (r : R L w0 ι M h w) {cs : List AV} {mk : Nat → AV} {v' : Value} {w' : World} (hm : Made L ι M w cs mk v' w') : Out L w0 ι M h (h.alloc cs) (mk h.next) v' w' := by
  obtain ⟨dr, arr, t, fz, rfl, hfz, hlen, hval, hv⟩ := hm.ex
  have rn := (r.drew dr).newf (id := h.next) r.ndom (cs := cs) (arr := arr) (t := t) (fz := fz) (h' := h.alloc cs) hfz (by simp) (by simp)
    (fun i c q => by
      simp only [H.get_alloc] at q
      split at q
      · rename_i e; exact .inl ⟨e, (Option.some.inj q).symm⟩
      · rename_i e; exact .inr ⟨e, q⟩) hlen hval
  refine ⟨_, M, Io.le_put _ r.ndom, fun _ _ _ q => q, fun id l hid q => ?_, rn, hv _ _ (by simp [Io.put])⟩
  simp only [Io.put] at q
  split at q
  · omega
  · exact q

theorem oper_value {o : Oper} {a : Act} {next : Act → World → Prop} {Q : Exit → Act → World → Prop} {v' : Value} {w' : World} (hr : (execOp a.eval o).run L.P w = .ok (.value v') w') (hn : next (a.put o.dst v') w') : o.wp L.P a w next Q := by
  unfold Oper.wp; rw [hr]; exact hn
theorem oper_skip {o : Oper} {a : Act} {next : Act → World → Prop} {Q : Exit → Act → World → Prop} {w' : World} (hr : (execOp a.eval o).run L.P w = .ok .skip w') (hn : next (a.put o.dst undef) w') : o.wp L.P a w next Q := by
  unfold Oper.wp; rw [hr]; exact hn

theorem cOX_sound {e : Env} {a : Act} (he : EnvR L ι M e a.tmps) {o : Option Operand} {x : Option X} (h : cOX L o = some x) : OV L ι M (x.map (X.ev e)) (o.map a.eval) := by
  cases o with
  | none => obtain rfl := Option.some.inj h; trivial
  | some o =>
    simp only [cOX, Option.map_eq_some_iff] at h
    obtain ⟨y, hy, rfl⟩ := h
    exact X_sound he hy

theorem cBo_bin {b : BinOp} : (cBo b = .eql ↔ b = .eql) ∧ (cBo b = .neq ↔ b = .neq) := by cases b <;> simp [cBo]

theorem b2s_sound : ∀ {cs : List AV} {vs : List Value} {l : List UInt8}, RowA L ι M cs vs → b2s cs = some l → ∀ (s : ByteArray), (do
      let mut s := s
      for c in vs.toArray do
        let .int .u8 n := c | stuck "bytesToString: byte expected"
        s := s.push (UInt8.ofNat n.toNat)
      pure (.string s) : Sem Value).run L.P w = .ok (.string ⟨s.data ++ l.toArray⟩) w := by
  intro cs
  induction cs with
  | nil =>
    intro vs l hr hl s
    obtain rfl := Option.some.inj hl
    have : vs = [] := List.eq_nil_of_length_eq_zero hr.1.symm
    subst this
    simp
  | cons c cs ih =>
    intro vs l hr hl s
    cases vs with
    | nil => have := hr.1; cases this
    | cons v vs =>
      have hv := hr.2 0 c v rfl rfl
      have hr' : RowA L ι M cs vs := ⟨by simpa using hr.1, fun i a x h1 h2 => hr.2 (i + 1) a x (by simpa using h1) (by simpa using h2)⟩
      unfold b2s at hl
      split at hl
      · rename_i q; cases q
      · rename_i n rest q
        injection q with q1 q2; subst q1; subst q2
        simp only [Option.bind_eq_some_iff] at hl
        obtain ⟨l', hl', hl⟩ := hl
        obtain rfl := Option.some.inj hl
        rw [hv.int_inv]
        have := ih hr' hl' (s.push (UInt8.ofNat n.toNat))
        simp only [List.forIn_toArray, List.forIn_cons, Sem.run_bind, Sem.run_pure, Result.andThen_ok] at this ⊢
        rw [this]
        congr 2
        simp [ByteArray.push]
      · cases hl

def nonnum : Value → Bool
  | .pointer _ | .slice _ _ _ | .func _ _ _ | .nilFunc | .iface _ _ | .nilIface => true
  | _ => false

theorem binOp_nn_eql {t : TypeId} {x y : Value} (hx : nonnum x = true) : binOp .eql t x y = (do pure (.bool (← Op.equal t x y))) := by
  cases x <;> first | (simp [nonnum] at hx; done) | (cases y <;> rfl)
theorem binOp_nn_neq {t : TypeId} {x y : Value} (hx : nonnum x = true) : binOp .neq t x y = (do pure (.bool (!(← Op.equal t x y)))) := by
  cases x <;> first | (simp [nonnum] at hx; done) | (cases y <;> rfl)
theorem nonnum_agg {x : Value} (hx : nonnum x = true) : ∀ c, x ≠ .agg c := by intro c e; subst e; cases hx

theorem aeqn_nn (r : R L w0 ι M h w) {k : Nat} {x y : AV} {xv : Value} {q : Bool} (hx : V L ι M x xv) (hq : aeqn k x y = some q) : nonnum xv = true ∧ (k ≠ 3 → xv ≠ .nilIface) := by
  unfold aeqn at hq
  split at hq
  case h_1 => rw [hx.nilp_inv]; exact ⟨rfl, fun _ => nofun⟩
  case h_2 => rw [hx.nilp_inv]; exact ⟨rfl, fun _ => nofun⟩
  case h_3 => rw [hx.nilp_inv]; exact ⟨rfl, fun _ => nofun⟩
  case h_4 => obtain ⟨l, _, rfl⟩ := hx.pobj_inv; exact ⟨rfl, fun _ => nofun⟩
  case h_5 => obtain ⟨b, o, rfl, _⟩ := V.pimm_inv r hx; exact ⟨rfl, fun _ => nofun⟩
  case h_6 => rw [hx.nils_inv]; exact ⟨rfl, fun _ => nofun⟩
  case h_7 => rw [hx.nils_inv]; exact ⟨rfl, fun _ => nofun⟩
  case h_8 => rw [hx.nils_inv]; exact ⟨rfl, fun _ => nofun⟩
  case h_9 => obtain ⟨l, c, a, _, rfl, _⟩ := hx.sobj_inv; exact ⟨rfl, fun _ => nofun⟩
  case h_10 => obtain ⟨b, o, c, a, rfl, _⟩ := V.simm_inv r hx; exact ⟨rfl, fun _ => nofun⟩
  case h_11 => rw [hx.nilf_inv]; exact ⟨rfl, fun _ => nofun⟩
  case h_12 => rw [hx.nilf_inv]; exact ⟨rfl, fun _ => nofun⟩
  case h_13 => obtain ⟨f, a, c, rfl, _⟩ := hx.fn_inv; exact ⟨rfl, fun _ => nofun⟩
  case h_14 => rw [hx.nili_inv]; exact ⟨rfl, fun q => absurd rfl q⟩
  case h_15 => rw [hx.nili_inv]; exact ⟨rfl, fun q => absurd rfl q⟩
  case h_16 => obtain ⟨f, a, rfl, _⟩ := hx.iface_inv; exact ⟨rfl, fun q => absurd rfl q⟩
  case h_17 => cases hq

theorem run_mapM_sizes {P : Program} : ∀ (fs : List Field), fs.all (fun f => (tsz P f.type).isSome) = true → ((fs.mapM fun f => do pure (f.offset, ← Go.sizeOf f.type) : Sem (List (Nat × Nat))).run P w) = .ok (fs.map fun f => (f.offset, (tsz P f.type).getD 0)) w
  | [], _ => rfl
  | f :: fs, hall => by
    simp only [List.all_cons, Bool.and_eq_true] at hall
    obtain ⟨n, hn⟩ := Option.isSome_iff_exists.1 hall.1
    simp only [List.mapM_cons, Sem.run_bind, run_sizeOf' hn, Result.andThen_ok, Sem.run_pure, run_mapM_sizes fs hall.2, List.map_cons, hn, Option.getD_some]

theorem run_places {P : Program} {fs : Array Field} (hall : fs.toList.all (fun f => (tsz P f.type).isSome) = true) : ((fs.mapM fun f => do pure (f.offset, ← Go.sizeOf f.type) : Sem (Array (Nat × Nat))).run P w) = .ok (fs.map fun f => (f.offset, (tsz P f.type).getD 0)) w := by
  rw [Array.mapM_eq_mapM_toList]
  simp only [Sem.run_map, run_mapM_sizes _ hall, Result.andThen_ok]
  congr 1
  apply Array.ext'
  simp

theorem build_sound {t : TypeId} {i : TypeInfo} {zv : Value} {z cs : List AV} (hi : L.P.info? t = some i) (hzv : i.zero = some zv) (hrow : RowA L ι M z zv.cells.toList) {place : Nat → Option (Nat × Nat)} {ps : List (Nat × Nat × AV)} {qs : Array (Nat × Value)} (hl : ps.length = qs.toList.length)
    (hp : ∀ (i : Nat) (p : Nat × Nat × AV) (q : Nat × Value), ps[i]? = some p → qs.toList[i]? = some q → place q.1 = some (p.1, p.2.1) ∧ V L ι M p.2.2 q.2) (hf : fillA z ps = some cs) :
    ∃ arr, Instr.fill place zv.cells qs.toList = some arr ∧ V L ι M (.agg cs) (.agg arr) := by
  obtain ⟨arr, h1, h2⟩ := fill_sound place ps qs.toList hl hp hrow hf
  refine ⟨arr, h1, ?_⟩
  have := V.agg (L := L) (ι := ι) (M := M) h2.1 h2.2
  simpa using this

theorem fold_min : ∀ {xs : List AV} {vs : List Value} {x v : AV} {y : Value}, RowA L ι M xs vs → V L ι M x y → fold2 amin2 x xs = some v → ∃ v', (vs.foldlM Builtin.min2 y).run L.P w = .ok v' w ∧ V L ι M v v'
  | [], [], x, v, y, _, hx, hv => by obtain rfl := Option.some.inj hv; exact ⟨y, rfl, hx⟩
  | b :: xs, u :: vs, x, v, y, hr, hx, hv => by
    simp only [fold2, Option.bind_eq_some_iff] at hv
    obtain ⟨m, hm, hv⟩ := hv
    have hr' : RowA L ι M xs vs := ⟨by simpa using hr.1, fun i a x h1 h2 => hr.2 (i + 1) a x (by simpa using h1) (by simpa using h2)⟩
    have hb := hr.2 0 b u rfl rfl
    unfold amin2 at hm
    split at hm
    · rename_i k p j q
      obtain rfl := Option.some.inj hm
      rw [hx.int_inv, hb.int_inv]
      obtain ⟨v', h1, h2⟩ := fold_min hr' (V.imm (VI.int k (if q < p then q else p))) hv
      exact ⟨v', by simpa [List.foldlM_cons, Builtin.min2] using h1, h2⟩
    · cases hm
  | [], _ :: _, _, _, _, hr, _, _ => by cases hr.1
  | _ :: _, [], _, _, _, hr, _, _ => by cases hr.1

theorem fold_max : ∀ {xs : List AV} {vs : List Value} {x v : AV} {y : Value}, RowA L ι M xs vs → V L ι M x y → fold2 amax2 x xs = some v → ∃ v', (vs.foldlM Builtin.max2 y).run L.P w = .ok v' w ∧ V L ι M v v'
  | [], [], x, v, y, _, hx, hv => by obtain rfl := Option.some.inj hv; exact ⟨y, rfl, hx⟩
  | b :: xs, u :: vs, x, v, y, hr, hx, hv => by
    simp only [fold2, Option.bind_eq_some_iff] at hv
    obtain ⟨m, hm, hv⟩ := hv
    have hr' : RowA L ι M xs vs := ⟨by simpa using hr.1, fun i a x h1 h2 => hr.2 (i + 1) a x (by simpa using h1) (by simpa using h2)⟩
    have hb := hr.2 0 b u rfl rfl
    unfold amax2 at hm
    split at hm
    · rename_i k p j q
      obtain rfl := Option.some.inj hm
      rw [hx.int_inv, hb.int_inv]
      obtain ⟨v', h1, h2⟩ := fold_max hr' (V.imm (VI.int k (if q > p then q else p))) hv
      exact ⟨v', by simpa [List.foldlM_cons, Builtin.max2] using h1, h2⟩
    · cases hm
  | [], _ :: _, _, _, _, hr, _, _ => by cases hr.1
  | _ :: _, [], _, _, _, hr, _, _ => by cases hr.1

theorem run_builtin {b : Builtin} {args : Array Operand} {ats : Array TypeId} {dst : Option Tmp} {ty : TypeId} {pos : String} {after : Array Edge} {guard : Option (Nat × Bool)} (ρ : Operand → Value) :
    execOp ρ ⟨dst, .call ⟨.builtin b, args, ats⟩, ty, pos, after, guard⟩ = builtin b ats ty (args.map fun | .const _ => true | _ => false) (args.map ρ) := rfl

theorem b2s_conv (r : R L w0 ι M h w) {x : AV} {xv : Value} (hx : V L ι M x xv) {n : Nat} {cs : List AV} (hsrc : srcCells h 1 x = some (n, cs)) {l : List UInt8} (hl : b2s cs = some l) (hns : ∀ s, x ≠ .str s) :
    (Conv.bytesToString xv).run L.P w = .ok (.string ⟨l.toArray⟩) w ∧ ∃ b m c, xv = .slice b m c := by
  obtain ⟨hlen, hbl, hfc⟩ := src_sound r hx hsrc
  obtain ⟨vs, hf, hrow⟩ := hfc n (Nat.le_refl _)
  rw [List.take_of_length_le (by omega)] at hrow
  have hb := b2s_sound (w := w) hrow hl .empty
  have e0 : (ByteArray.empty.data ++ l.toArray) = l.toArray := by show (#[] : Array UInt8) ++ l.toArray = l.toArray; simp
  rw [e0] at hb
  have key : ∀ (b : Addr) (m c : Nat), xv = .slice (some b) m c → (Conv.bytesToString xv).run L.P w = .ok (.string ⟨l.toArray⟩) w := by
    intro b m c hxv
    rw [hxv] at hlen hf ⊢
    have hm : m = n := by simp [Builtin.lenOf] at hlen; exact hlen
    subst hm
    simp only [Builtin.firstCells, Nat.mul_one] at hf
    simp only [Conv.bytesToString, Sem.run_bind, hf, Result.andThen_ok] at hb ⊢
    exact hb
  unfold srcCells at hsrc
  split at hsrc
  · obtain ⟨rfl, rfl⟩ := Prod.mk.inj (Option.some.inj hsrc)
    obtain rfl := Option.some.inj hl
    rw [hx.nils_inv]
    exact ⟨rfl, _, _, _, rfl⟩
  · exact absurd rfl (hns _)
  · obtain ⟨_, cap, a, _, hxv, _⟩ := hx.sobj_inv; exact ⟨key _ _ _ hxv, _, _, _, hxv⟩
  · obtain ⟨_, _, cap, a, hxv, _⟩ := V.simm_inv r hx; exact ⟨key _ _ _ hxv, _, _, _, hxv⟩
  · cases hsrc

theorem args1 {args : Array Operand} {f : Operand → Value} {e : Env} {y : X} (h : (evArgs e [y]).length = (args.toList.map f).length) : ∃ o, args = #[o] := by
  obtain ⟨l⟩ := args
  match l, h with
  | [o], _ => exact ⟨o, rfl⟩
theorem args2 {args : Array Operand} {f : Operand → Value} {e : Env} {y z : X} (h : (evArgs e [y, z]).length = (args.toList.map f).length) : ∃ o1 o2, args = #[o1, o2] := by
  obtain ⟨l⟩ := args
  match l, h with
  | [o1, o2], _ => exact ⟨o1, o2, rfl⟩

theorem alen_sound (r : R L w0 ι M h w) {t ty : TypeId} {str : Bool} (ht : (str = true ∧ L.P.underlying t = some .string) ∨ (str = false ∧ ∃ el, L.P.underlying t = some (.slice el))) {x : AV} {xv : Value} (hx : V L ι M x xv) {v : AV} (hv : alen str x = some v) :
    ∃ v', (Builtin.len_ #[t] ty #[xv]).run L.P w = .ok v' w ∧ V L ι M v v' := by
  unfold alen at hv
  split at hv
  · obtain rfl := Option.some.inj hv
    rcases ht with ⟨_, ht⟩ | ⟨q, _⟩
    · rw [hx.str_inv]; refine ⟨.int .i64 _, ?_, .imm (.int _ _)⟩; simp [Builtin.len_, run_underlying ht, goInt]; try rfl
    · cases q
  all_goals first | cases hv; done | skip
  all_goals
    obtain rfl := Option.some.inj hv
    rcases ht with ⟨q, _⟩ | ⟨_, el, ht⟩
    · cases q
  · rw [hx.nils_inv]; refine ⟨.int .i64 _, ?_, .imm (.int _ _)⟩; simp [Builtin.len_, run_underlying ht, goInt]; try rfl
  · obtain ⟨_, cap, a, _, rfl, _⟩ := hx.sobj_inv; refine ⟨.int .i64 _, ?_, .imm (.int _ _)⟩; simp [Builtin.len_, run_underlying ht, goInt]; try rfl
  · obtain ⟨_, _, cap, a, rfl, _⟩ := V.simm_inv r hx; refine ⟨.int .i64 _, ?_, .imm (.int _ _)⟩; simp [Builtin.len_, run_underlying ht, goInt]; try rfl

set_option maxHeartbeats 2000000 in
theorem op_wp {call : CallT} (hcal : Callee L w0 call) (hbod : Bodies L) {o : Oper} {x : AOp} (hc : cOp L o.op = some x) {e : Env} {a : Act} (he : EnvR L ι M e a.tmps) (r : R L w0 ι M h w) {v : AV} {h' : H} (hev : evOp call e h x = some (v, h'))
    {next : Act → World → Prop} {Q : Exit → Act → World → Prop} (K : ∀ v' w', Out L w0 ι M h h' v v' w' → next (a.put o.dst v') w') : o.wp L.P a w next Q := by
  have hb : ∀ b, birth e x = some b → evOp call e h x = evBirth e h x → o.wp L.P a w next Q := by
    intro b hb heq
    rw [heq, evBirth, hb] at hev
    simp only [Option.bind_some, Option.some.injEq, Prod.mk.injEq] at hev
    obtain ⟨rfl, rfl⟩ := hev
    obtain ⟨v', w', h1, h2⟩ := birth_sound he hc (cs := b.1) (mk := b.2) hb
    exact oper_value h1 (K _ _ (h2.out r))
  have hbn : evOp call e h x = evBirth e h x → ∃ b, birth e x = some b := by
    intro heq
    rw [heq, evBirth] at hev
    simp only [Option.bind_eq_some_iff] at hev
    obtain ⟨b, hb, _⟩ := hev
    exact ⟨b, hb⟩
  obtain ⟨dst, op, ty, pos, after, guard⟩ := o
  dsimp only at hc
  cases op with
  | move y =>
    simp only [cOp, Option.map_eq_some_iff] at hc
    obtain ⟨x, hx, rfl⟩ := hc
    simp only [evOp, Option.some.injEq, Prod.mk.injEq] at hev; obtain ⟨rfl, rfl⟩ := hev
    exact oper_value (v' := a.eval y) (w' := w) (by simp [execOp]) (K _ _ (.same r (X_sound he hx)))
  | assign y =>
    simp only [cOp, Option.map_eq_some_iff] at hc
    obtain ⟨x, hx, rfl⟩ := hc
    simp only [evOp, Option.some.injEq, Prod.mk.injEq] at hev; obtain ⟨rfl, rfl⟩ := hev
    exact oper_value (v' := a.eval y) (w' := w) (by simp [execOp]) (K _ _ (.same r (X_sound he hx)))
  | pick c y z =>
    simp only [cOp, Option.bind_eq_some_iff] at hc
    obtain ⟨c', hc', y', hy, z', hz, hc⟩ := hc
    obtain rfl := Option.some.inj hc
    simp only [evOp] at hev
    split at hev
    · rename_i t ht
      simp only [Option.some.injEq, Prod.mk.injEq] at hev; obtain ⟨rfl, rfl⟩ := hev
      have h1 := X_sound he hc'; rw [ht] at h1
      have h1' := h1.bool_inv
      cases t with
      | true => exact oper_value (v' := a.eval y) (w' := w) (by simp [execOp, h1', asBool]) (K _ _ (.same r (X_sound he hy)))
      | false => exact oper_value (v' := a.eval z) (w' := w) (by simp [execOp, h1', asBool]) (K _ _ (.same r (X_sound he hz)))
    · cases hev
  | alloc t =>
    have hc0 := hc
    simp only [cOp, Option.map_eq_some_iff] at hc0
    obtain ⟨z, _, rfl⟩ := hc0
    obtain ⟨b, hb'⟩ := hbn rfl; exact hb b hb' rfl
  | box t y =>
    have hc0 := hc
    simp only [cOp, Option.bind_eq_some_iff] at hc0
    obtain ⟨_, _, _, _, hc0⟩ := hc0
    obtain rfl := Option.some.inj hc0
    obtain ⟨b, hb'⟩ := hbn rfl; exact hb b hb' rfl
  | build t ps =>
    simp only [cOp, Option.bind_eq_some_iff] at hc
    obtain ⟨z, hz, hc⟩ := hc
    obtain ⟨i, zv, hi, hzv, hcs⟩ := tzero_inv hz
    have hrow := zero_row (L := L) (ι := ι) (M := M) hcs
    split at hc
    · rename_i fs ht
      split at hc
      case isFalse => cases hc
      rename_i hall
      simp only [Option.map_eq_some_iff] at hc
      obtain ⟨xs, hxs, rfl⟩ := hc
      simp only [evOp, Option.bind_eq_some_iff] at hev
      obtain ⟨cs, hf, hev⟩ := hev
      simp only [Option.some.injEq, Prod.mk.injEq] at hev; obtain ⟨rfl, rfl⟩ := hev
      obtain ⟨g1, g2⟩ := cFs_sound he hxs
      obtain ⟨arr, k1, k2⟩ := build_sound hi hzv hrow (place := fun i => (fs.map fun f => (f.offset, (tsz L.P f.type).getD 0))[i]?) (ps := xs.map fun p => (p.1, p.2.1, p.2.2.ev e)) (qs := ps.map fun q => (q.1, a.eval q.2)) (by simp [g1])
        (fun j p q hp hq => by
          rw [Array.toList_map] at hq
          simp only [List.getElem?_map, Option.map_eq_some_iff] at hp hq
          obtain ⟨p', hp', rfl⟩ := hp
          obtain ⟨q', hq', rfl⟩ := hq
          obtain ⟨⟨f, e1, e2, e3⟩, e4⟩ := g2 j p' q' hp' hq'
          refine ⟨?_, e4⟩
          simp only [Array.getElem?_map, e1, Option.map_some, e2, e3, Option.getD_some]) hf
      exact oper_value (v' := .agg arr) (w' := w) (by
        simp only [execOp, Instr.build, Sem.run_bind, run_zero hi hzv, Result.andThen_ok, run_underlying ht, run_places hall, k1, Sem.run_pure]) (K _ _ (.same r k2))
    · rename_i el ht
      simp only [Option.bind_eq_some_iff, Option.map_eq_some_iff] at hc
      obtain ⟨n, hn, xs, hxs, rfl⟩ := hc
      simp only [evOp, Option.bind_eq_some_iff] at hev
      obtain ⟨cs, hf, hev⟩ := hev
      simp only [Option.some.injEq, Prod.mk.injEq] at hev; obtain ⟨rfl, rfl⟩ := hev
      obtain ⟨g1, g2⟩ := cPs_sound he hxs
      rw [List.map_map] at hf
      obtain ⟨arr, k1, k2⟩ := build_sound hi hzv hrow (place := fun i => some (i * n, n)) (qs := ps.map fun q => (q.1, a.eval q.2)) (by simp [g1])
        (fun j p q hp hq => by
          rw [Array.toList_map] at hq
          simp only [List.getElem?_map, Option.map_eq_some_iff] at hp hq
          obtain ⟨p', hp', rfl⟩ := hp
          obtain ⟨q', hq', rfl⟩ := hq
          obtain ⟨e1, e4⟩ := g2 j p' q' hp' hq'
          exact ⟨by simp only [Function.comp_apply, e1], e4⟩) hf
      exact oper_value (v' := .agg arr) (w' := w) (by
        simp only [execOp, Instr.build, Sem.run_bind, run_zero hi hzv, Result.andThen_ok, run_underlying ht, run_sizeOf' hn, k1, Sem.run_pure]) (K _ _ (.same r k2))
    · cases hc
  | buildSlice t len ps =>
    have hc0 := hc
    simp only [cOp] at hc0
    split at hc0
    · simp only [Option.bind_eq_some_iff] at hc0
      obtain ⟨_, _, _, _, _, _, hc0⟩ := hc0
      split at hc0
      · obtain rfl := Option.some.inj hc0
        obtain ⟨b, hb'⟩ := hbn rfl; exact hb b hb' rfl
      · cases hc0
    · cases hc0
  | load t p =>
    simp only [cOp, Option.bind_eq_some_iff, Option.map_eq_some_iff] at hc
    obtain ⟨ag, hag, n, hn, p', hp, rfl⟩ := hc
    simp only [evOp, Option.bind_eq_some_iff] at hev
    obtain ⟨y, hy, hev⟩ := hev
    simp only [Option.some.injEq, Prod.mk.injEq] at hev; obtain ⟨rfl, rfl⟩ := hev
    obtain ⟨v', h1, h2⟩ := aload_sound r hag hn (X_sound he hp) hy
    exact oper_value (v' := v') (w' := w) (by simp [execOp, h1]) (K _ _ (.same r h2))
  | store t p z =>
    simp only [cOp, Option.bind_eq_some_iff, Option.map_eq_some_iff] at hc
    obtain ⟨n, hn, p', hp, z', hz, rfl⟩ := hc
    simp only [evOp, Option.bind_eq_some_iff] at hev
    obtain ⟨y, hy, hev⟩ := hev
    simp only [Option.some.injEq, Prod.mk.injEq] at hev; obtain ⟨rfl, rfl⟩ := hev
    obtain ⟨w', h1, h2⟩ := astore_sound r hn (X_sound he hp) (X_sound he hz) hy
    exact oper_skip (w' := w') (by simp [execOp, h1]) (K _ _ (.same h2 (.imm (.bot _))))
  | nilCheck y =>
    simp only [cOp, Option.map_eq_some_iff] at hc
    obtain ⟨x, hx, rfl⟩ := hc
    have hv := X_sound he hx
    simp only [evOp] at hev
    split at hev
    · rename_i q; rw [q] at hv
      simp only [Option.some.injEq, Prod.mk.injEq] at hev; obtain ⟨rfl, rfl⟩ := hev
      obtain ⟨l, h1, h2⟩ := hv.pobj_inv
      exact oper_value (v' := a.eval y) (w' := w) (by simp [execOp, h2]) (K _ _ (.same r hv))
    · rename_i q; rw [q] at hv
      simp only [Option.some.injEq, Prod.mk.injEq] at hev; obtain ⟨rfl, rfl⟩ := hev
      obtain ⟨b, o, h2, _⟩ := V.pimm_inv r hv
      exact oper_value (v' := a.eval y) (w' := w) (by simp [execOp, h2]) (K _ _ (.same r hv))
    · rename_i q; rw [q] at hv
      simp only [Option.some.injEq, Prod.mk.injEq] at hev; obtain ⟨rfl, rfl⟩ := hev
      obtain ⟨f, va, vc, h2, _⟩ := hv.fn_inv
      exact oper_value (v' := a.eval y) (w' := w) (by simp [execOp, h2]) (K _ _ (.same r hv))
    · rename_i q; rw [q] at hv
      simp only [Option.some.injEq, Prod.mk.injEq] at hev; obtain ⟨rfl, rfl⟩ := hev
      obtain ⟨t, z, h2, _⟩ := hv.iface_inv
      exact oper_value (v' := a.eval y) (w' := w) (by simp [execOp, h2]) (K _ _ (.same r hv))
    · cases hev
  | binOp b t y z u =>
    simp only [cOp, cBin, Option.bind_eq_some_iff] at hc
    obtain ⟨y', hy, z', hz, hc⟩ := hc
    have hyv := X_sound he hy
    have hzv := X_sound he hz
    have hbin : ∀ {x : AOp}, x = .bin (cBo b) y' z' → evOp call e h x = some (v, h') → (⟨dst, .binOp b t y z u, ty, pos, after, guard⟩ : Oper).wp L.P a w next Q := by
      intro x hx hev
      subst hx
      simp only [evOp, Option.bind_eq_some_iff] at hev
      obtain ⟨q, hq, hev⟩ := hev
      simp only [Option.some.injEq, Prod.mk.injEq] at hev; obtain ⟨rfl, rfl⟩ := hev
      obtain ⟨v', h1, h2⟩ := abin_sound (w := w) (t := t) hyv hzv hq
      obtain ⟨n1, n2⟩ := abin_noagg hyv hzv hq
      exact oper_value (v' := v') (w' := w) (by simp [execOp, eqGuard_ok (.inl n1) n2, h1]) (K _ _ (.same r h2))
    have heq : ∀ (k : Nat) (d : TypeDesc), L.P.underlying t = some d → eqT k d → (k = 3 → isConst y = true ∨ isConst z = true) → (b = .eql ∧ x = .eqn k false y' z' ∨ b = .neq ∧ x = .eqn k true y' z') → (⟨dst, .binOp b t y z u, ty, pos, after, guard⟩ : Oper).wp L.P a w next Q := by
      intro k d hd hk hcon hor
      rcases hor with ⟨rfl, rfl⟩ | ⟨rfl, rfl⟩
      all_goals
        simp only [evOp, Option.bind_eq_some_iff] at hev
        obtain ⟨q, hq, hev⟩ := hev
        simp only [Option.some.injEq, Prod.mk.injEq] at hev; obtain ⟨rfl, rfl⟩ := hev
        obtain ⟨n1, n2⟩ := aeqn_nn r hyv hq
        have hg := fun b => eqGuard_ok (b := b) (t := t) (x := y) (y := z) (xv := a.eval y) (yv := a.eval z) (by
          by_cases h3 : k = 3
          · exact .inr (.inr (hcon h3))
          · exact .inl (n2 h3)) (nonnum_agg n1)
        have he' := aeqn_sound hd hk r hyv hzv hq
      · exact oper_value (v' := .bool q) (w' := w) (by simp [execOp, hg, binOp_nn_eql n1, he']) (K _ _ (.same r (.imm (.bool _))))
      · exact oper_value (v' := .bool !q) (w' := w) (by simp [execOp, hg, binOp_nn_neq n1, he']) (K _ _ (.same r (.imm (.bool _))))
    split at hc
    · obtain rfl := Option.some.inj hc; exact hbin rfl hev
    · obtain rfl := Option.some.inj hc; exact hbin rfl hev
    · rename_i hd
      split at hc
      all_goals first | cases hc; done | skip
      all_goals
        obtain rfl := Option.some.inj hc
        simp only [evOp] at hev
        split at hev
        · rename_i p q hp hq
          simp only [Option.some.injEq, Prod.mk.injEq] at hev; obtain ⟨rfl, rfl⟩ := hev
          rw [hp] at hyv; rw [hq] at hzv
          have e1 := hyv.bool_inv; have e2 := hzv.bool_inv
          obtain ⟨n, hn⟩ := maxDepth_pos
          have hbb : binOp .eql t (.bool p) (.bool q) = (do pure (.bool (← Op.equal t (.bool p) (.bool q)))) := rfl
          have hbn : binOp .neq t (.bool p) (.bool q) = (do pure (.bool (!(← Op.equal t (.bool p) (.bool q))))) := rfl
          exact oper_value (v' := _) (w' := w) (by simp [execOp, e1, e2, hbb, hbn, Op.equal, hn, Op.equalIn, run_underlying hd]; rfl) (K _ _ (.same r (.imm (.bool _))))
        · cases hev
    · rename_i hd
      refine heq 0 _ hd trivial (fun q => by omega) ?_
      split at hc <;> first | (obtain rfl := Option.some.inj hc; first | exact .inl ⟨rfl, rfl⟩ | exact .inr ⟨rfl, rfl⟩) | cases hc
    · rename_i hd
      refine heq 1 _ hd trivial (fun q => by omega) ?_
      split at hc <;> first | (obtain rfl := Option.some.inj hc; first | exact .inl ⟨rfl, rfl⟩ | exact .inr ⟨rfl, rfl⟩) | cases hc
    · rename_i hd
      refine heq 2 _ hd trivial (fun q => by omega) ?_
      split at hc <;> first | (obtain rfl := Option.some.inj hc; first | exact .inl ⟨rfl, rfl⟩ | exact .inr ⟨rfl, rfl⟩) | cases hc
    · rename_i hd
      split at hc
      · rename_i hcon
        refine heq 3 _ hd trivial (fun _ => by simpa using hcon) ?_
        split at hc <;> first | (obtain rfl := Option.some.inj hc; first | exact .inl ⟨rfl, rfl⟩ | exact .inr ⟨rfl, rfl⟩) | cases hc
      · cases hc
    · cases hc
  | unOp u t y =>
    simp only [cOp, Option.bind_eq_some_iff] at hc
    obtain ⟨y', hy, hc⟩ := hc
    have hyv := X_sound he hy
    split at hc
    · obtain rfl := Option.some.inj hc
      simp only [evOp] at hev
      split at hev
      · rename_i p hp
        simp only [Option.some.injEq, Prod.mk.injEq] at hev; obtain ⟨rfl, rfl⟩ := hev
        rw [hp] at hyv
        exact oper_value (v' := .bool !p) (w' := w) (by simp [execOp, hyv.bool_inv, Op.unary]) (K _ _ (.same r (.imm (.bool _))))
      · cases hev
    · obtain rfl := Option.some.inj hc
      simp only [evOp] at hev
      split at hev
      · rename_i k p hp
        simp only [Option.some.injEq, Prod.mk.injEq] at hev; obtain ⟨rfl, rfl⟩ := hev
        rw [hp] at hyv
        exact oper_value (v' := .int k (k.wrap (0 - p))) (w' := w) (by simp [execOp, hyv.int_inv, Op.unary, Op.intArith]) (K _ _ (.same r (.imm (.int _ _))))
      · cases hev
    · obtain rfl := Option.some.inj hc
      simp only [evOp] at hev
      split at hev
      · rename_i k p hp
        simp only [Option.some.injEq, Prod.mk.injEq] at hev; obtain ⟨rfl, rfl⟩ := hev
        rw [hp] at hyv
        exact oper_value (v' := .int k (bits .xor k (if k.signed then -1 else k.max) p)) (w' := w) (by simp only [execOp, hyv.int_inv, Op.unary]; rfl) (K _ _ (.same r (.imm (.int _ _))))
      · cases hev
    · cases hc
  | convert s d y =>
    have hc0 := hc
    simp only [cOp, Option.bind_eq_some_iff] at hc
    obtain ⟨y', hy, hc⟩ := hc
    have hyv := X_sound he hy
    unfold cConv at hc
    split at hc
    · rename_i k1 k2 h1 h2
      obtain rfl := Option.some.inj hc
      simp only [evOp] at hev
      split at hev
      · rename_i k p hp
        simp only [Option.some.injEq, Prod.mk.injEq] at hev; obtain ⟨rfl, rfl⟩ := hev
        rw [hp] at hyv
        exact oper_value (v' := .int k2 (k2.wrap p)) (w' := w) (by simp [execOp, hyv.int_inv, convert, run_underlying h1, run_underlying h2, Conv.intToInt]) (K _ _ (.same r (.imm (.int _ _))))
      · cases hev
    · rename_i h1 h2
      obtain rfl := Option.some.inj hc
      simp only [evOp] at hev
      split at hev
      · rename_i p hp
        simp only [Option.some.injEq, Prod.mk.injEq] at hev; obtain ⟨rfl, rfl⟩ := hev
        rw [hp] at hyv
        exact oper_value (v' := .string p) (w' := w) (by simp [execOp, hyv.str_inv, convert, run_underlying h1, run_underlying h2]) (K _ _ (.same r (.imm (.str _))))
      · cases hev
    · rename_i el h1 h2
      split at hc
      · rename_i h3
        obtain rfl := Option.some.inj hc
        simp only [evOp, Option.bind_eq_some_iff] at hev
        obtain ⟨⟨n, cs⟩, hsrc, l, hl, hev⟩ := hev
        have hnostr : ∀ s, y'.ev e ≠ .str s := by
          intro s hs; rw [hs] at hev; cases hev
        have hev' : some (AV.str ⟨l.toArray⟩, h) = some (v, h') := by
          revert hev
          split
          · intro q; cases q
          · intro q; exact q
        simp only [Option.some.injEq, Prod.mk.injEq] at hev'; obtain ⟨rfl, rfl⟩ := hev'
        obtain ⟨hconv, b, m, c, hyb⟩ := b2s_conv r hyv hsrc hl hnostr
        refine oper_value (v' := .string ⟨l.toArray⟩) (w' := w) ?_ (K _ _ (.same r (.imm (.str _))))
        rw [hyb] at hconv
        simp only [execOp, Sem.run_bind, hyb, convert, run_underlying h1, run_underlying h2, run_underlying h3, hconv, Result.andThen_ok, Sem.run_pure]
      · cases hc
    · rename_i el h1 h2
      split at hc
      · rename_i h3
        split at hc
        · obtain rfl := Option.some.inj hc
          obtain ⟨b, hb'⟩ := hbn rfl; exact hb b hb' rfl
        · cases hc
      · cases hc
    · cases hc
  | makeInterface t y =>
    simp only [cOp] at hc
    split at hc
    · cases hc
    · cases hc
    · rename_i hni1 hni2
      simp only [Option.map_eq_some_iff] at hc
      obtain ⟨y', hy, rfl⟩ := hc
      simp only [evOp] at hev
      split at hev
      · simp only [Option.some.injEq, Prod.mk.injEq] at hev; obtain ⟨rfl, rfl⟩ := hev
        have hyv := X_sound he hy
        obtain ⟨d, hd⟩ : ∃ d, L.P.underlying t = some d := by
          cases hq : L.P.underlying t with
          | none => exact absurd hq hni2
          | some d => exact ⟨d, rfl⟩
        refine oper_value (v' := .iface t (a.eval y)) (w' := w) ?_ (K _ _ (.same r (.iface rfl hyv)))
        cases d <;> first | exact absurd hd (hni1 _) | simp [execOp, Instr.makeInterface, run_underlying hd]
      · cases hev
  | makeFunc f y z =>
    cases f with
    | func f =>
      simp only [cOp, Option.bind_eq_some_iff, Option.map_eq_some_iff] at hc
      obtain ⟨k, hk, y', hy, z', hz, rfl⟩ := hc
      simp only [evOp, Option.some.injEq, Prod.mk.injEq] at hev; obtain ⟨rfl, rfl⟩ := hev
      have r1 := cXs_sound he hy
      have r2 := cXs_sound he hz
      refine oper_value (v' := .func (.func f) (y.map a.eval) (z.map a.eval)) (w' := w) (by simp [execOp, Instr.makeFunc]) (K _ _ (.same r ?_))
      have := V.fn (L := L) (ι := ι) (M := M) hk r1.1 r2.1 r1.2 r2.2
      have e1 : ∀ q : Array Operand, (List.map a.eval q.toList).toArray = q.map a.eval := fun q => by apply Array.ext'; simp
      rwa [e1, e1] at this
    | _ => cases hc
  | makeSlice t l c =>
    have hc0 := hc
    simp only [cOp] at hc0
    split at hc0
    · simp only [Option.bind_eq_some_iff, Option.map_eq_some_iff] at hc0
      obtain ⟨_, _, _, _, _, _, _, _, _, _, rfl⟩ := hc0
      obtain ⟨b, hb'⟩ := hbn rfl; exact hb b hb' rfl
    · cases hc0
  | slice t y lo hi mx =>
    simp only [cOp, cSlice, Option.bind_eq_some_iff] at hc
    obtain ⟨y', hy, lo', hlo, hi', hhi, mx', hmx, hc⟩ := hc
    have hyv := X_sound he hy
    have hl := cOX_sound he hlo
    have hh := cOX_sound he hhi
    have hm := cOX_sound he hmx
    split at hc
    · rename_i ht
      split at hc
      · obtain rfl := Option.some.inj hc
        simp only [evOp, Option.bind_eq_some_iff] at hev
        obtain ⟨q, hq, hev⟩ := hev
        simp only [Option.some.injEq, Prod.mk.injEq] at hev; obtain ⟨rfl, rfl⟩ := hev
        obtain ⟨v', h1, h2⟩ := asls_sound (w := w) ht hyv hl hh hq
        have hmn : mx = none := by
          cases mx with
          | none => rfl
          | some m => simp only [cOX, Option.map_eq_some_iff] at hmx; obtain ⟨_, _, hmx⟩ := hmx; cases hmx
        subst hmn
        exact oper_value (v' := v') (w' := w) (by simp [execOp, h1]) (K _ _ (.same r h2))
      · cases hc
    · rename_i el ht
      simp only [Option.bind_eq_some_iff] at hc
      obtain ⟨n, hn, hc⟩ := hc
      obtain rfl := Option.some.inj hc
      simp only [evOp, Option.bind_eq_some_iff] at hev
      obtain ⟨q, hq, hev⟩ := hev
      simp only [Option.some.injEq, Prod.mk.injEq] at hev; obtain ⟨rfl, rfl⟩ := hev
      obtain ⟨v', h1, h2⟩ := asl_sound r ht hn hyv hl hh hm hq
      exact oper_value (v' := v') (w' := w) (by simp [execOp, h1]) (K _ _ (.same r h2))
    · rename_i k el ht
      split at hc
      · simp only [Option.bind_eq_some_iff] at hc
        obtain ⟨n, hn, hc⟩ := hc
        obtain rfl := Option.some.inj hc
        simp only [evOp, Option.bind_eq_some_iff] at hev
        obtain ⟨q, hq, hev⟩ := hev
        simp only [Option.some.injEq, Prod.mk.injEq] at hev; obtain ⟨rfl, rfl⟩ := hev
        obtain ⟨v', h1, h2⟩ := asla_sound r ht hn hyv hl hh hq
        have hmn : mx = none := by
          cases mx with
          | none => rfl
          | some m => simp only [cOX, Option.map_eq_some_iff] at hmx; obtain ⟨_, _, hmx⟩ := hmx; cases hmx
        subst hmn
        exact oper_value (v' := v') (w' := w) (by simp [execOp, h1]) (K _ _ (.same r h2))
      · cases hc
    · cases hc
  | fieldAddr s y f =>
    simp only [cOp] at hc
    split at hc
    · rename_i fs ht
      simp only [Option.bind_eq_some_iff] at hc
      obtain ⟨fd, hf, n, hn, hc⟩ := hc
      split at hc
      · cases hc
      · rename_i hn0
        simp only [Option.map_eq_some_iff] at hc
        obtain ⟨y', hy, rfl⟩ := hc
        simp only [evOp, Option.bind_eq_some_iff] at hev
        obtain ⟨q, hq, hev⟩ := hev
        simp only [Option.some.injEq, Prod.mk.injEq] at hev; obtain ⟨rfl, rfl⟩ := hev
        obtain ⟨v', h1, h2⟩ := afadr_sound (w := w) ht hf hn hn0 (X_sound he hy) hq
        exact oper_value (v' := v') (w' := w) (by simp [execOp, h1]) (K _ _ (.same r h2))
    · cases hc
  | field s y f =>
    simp only [cOp] at hc
    split at hc
    · rename_i fs ht
      simp only [Option.bind_eq_some_iff, Option.map_eq_some_iff] at hc
      obtain ⟨fd, hf, ag, hag, n, hn, y', hy, rfl⟩ := hc
      simp only [evOp] at hev
      split at hev
      · rename_i cs hcs
        simp only [Option.bind_eq_some_iff] at hev
        obtain ⟨q, hq, hev⟩ := hev
        simp only [Option.some.injEq, Prod.mk.injEq] at hev; obtain ⟨rfl, rfl⟩ := hev
        have hyv := X_sound he hy; rw [hcs] at hyv
        obtain ⟨vs, hvs, hl, hv⟩ := hyv.agg_inv
        obtain ⟨v', h1, h2⟩ := part_sound (w := w) hag hn hl hv hq
        exact oper_value (v' := v') (w' := w) (by simp [execOp, Instr.field, run_underlying ht, hf, hvs, asAgg, h1]) (K _ _ (.same r h2))
      · cases hev
    · cases hc
  | indexAddr t y z =>
    simp only [cOp, Option.bind_eq_some_iff] at hc
    obtain ⟨y', hy, z', hz, hc⟩ := hc
    split at hc
    · rename_i el ht
      simp only [Option.map_eq_some_iff] at hc
      obtain ⟨n, hn, rfl⟩ := hc
      simp only [evOp, Option.bind_eq_some_iff] at hev
      obtain ⟨q, hq, hev⟩ := hev
      simp only [Option.some.injEq, Prod.mk.injEq] at hev; obtain ⟨rfl, rfl⟩ := hev
      obtain ⟨v', h1, h2⟩ := aiadr_sound r ht hn (X_sound he hy) (X_sound he hz) hq
      exact oper_value (v' := v') (w' := w) (by simp [execOp, h1]) (K _ _ (.same r h2))
    · rename_i k el ht
      simp only [Option.map_eq_some_iff] at hc
      obtain ⟨n, hn, rfl⟩ := hc
      simp only [evOp, Option.bind_eq_some_iff] at hev
      obtain ⟨q, hq, hev⟩ := hev
      simp only [Option.some.injEq, Prod.mk.injEq] at hev; obtain ⟨rfl, rfl⟩ := hev
      obtain ⟨v', h1, h2⟩ := aiadra_sound (w := w) ht hn (X_sound he hy) (X_sound he hz) hq
      exact oper_value (v' := v') (w' := w) (by simp [execOp, h1]) (K _ _ (.same r h2))
    · cases hc
  | index t y z =>
    simp only [cOp, Option.bind_eq_some_iff] at hc
    obtain ⟨y', hy, z', hz, hc⟩ := hc
    have hyv := X_sound he hy
    have hzv := X_sound he hz
    split at hc
    · rename_i ht
      obtain rfl := Option.some.inj hc
      simp only [evOp, Option.bind_eq_some_iff] at hev
      obtain ⟨q, hq, hev⟩ := hev
      simp only [Option.some.injEq, Prod.mk.injEq] at hev; obtain ⟨rfl, rfl⟩ := hev
      unfold aidxs at hq
      split at hq
      · rename_i st hst
        simp only [Option.bind_eq_some_iff] at hq
        obtain ⟨j, hj, b, hb1, hq⟩ := hq
        obtain rfl := Option.some.inj hq
        rw [hst] at hyv
        obtain ⟨k, zi, hzi, z0, z1, rfl, hjl⟩ := aidx_inv hzv hj
        exact oper_value (v' := .int .u8 b.toNat) (w' := w) (by simp [execOp, Instr.index, hzi, asIntOf, run_underlying ht, hyv.str_inv, z0, hb1]) (K _ _ (.same r (.imm (.int _ _))))
      · cases hq
    · rename_i k el ht
      simp only [Option.bind_eq_some_iff, Option.map_eq_some_iff] at hc
      obtain ⟨ag, hag, n, hn, rfl⟩ := hc
      simp only [evOp, Option.bind_eq_some_iff] at hev
      obtain ⟨q, hq, hev⟩ := hev
      simp only [Option.some.injEq, Prod.mk.injEq] at hev; obtain ⟨rfl, rfl⟩ := hev
      unfold aidxa at hq
      split at hq
      · rename_i cs hcs
        simp only [Option.bind_eq_some_iff] at hq
        obtain ⟨j, hj, hq⟩ := hq
        rw [hcs] at hyv
        obtain ⟨vs, hvs, hl, hv⟩ := hyv.agg_inv
        obtain ⟨k', zi, hzi, z0, z1, rfl, hjl⟩ := aidx_inv hzv hj
        obtain ⟨v', h1, h2⟩ := part_sound (w := w) hag hn hl hv hq
        exact oper_value (v' := v') (w' := w) (by simp [execOp, Instr.index, hzi, asIntOf, run_underlying ht, hvs, z0, z1, run_sizeOf' hn, h1]) (K _ _ (.same r h2))
      · cases hq
    · cases hc
  | extract y i =>
    simp only [cOp, Option.map_eq_some_iff] at hc
    obtain ⟨y', hy, rfl⟩ := hc
    have hyv := X_sound he hy
    simp only [evOp] at hev
    split at hev
    · rename_i vs hvs
      simp only [Option.bind_eq_some_iff] at hev
      obtain ⟨q, hq, hev⟩ := hev
      simp only [Option.some.injEq, Prod.mk.injEq] at hev; obtain ⟨rfl, rfl⟩ := hev
      rw [hvs] at hyv
      obtain ⟨us, hus, hl, hv⟩ := hyv.tup_inv
      obtain ⟨hi, _⟩ := List.getElem?_eq_some_iff.1 hq
      have hu : us[i]? = some (us[i]'(hl ▸ hi)) := by simp [hl ▸ hi]
      exact oper_value (v' := us[i]'(hl ▸ hi)) (w' := w) (by simp [execOp, Instr.extract, hus, hu]) (K _ _ (.same r (hv i _ _ hq hu)))
    · cases hev
  | call c =>
    obtain ⟨callee, args, ats⟩ := c
    simp only [cOp, cCall, Option.bind_eq_some_iff] at hc
    obtain ⟨xs, hxs, hc⟩ := hc
    have hrow := cXs_sound he hxs
    split at hc
    · rename_i f
      simp only [Option.bind_eq_some_iff] at hc
      obtain ⟨f', hf, hc⟩ := hc
      obtain rfl := Option.some.inj hc
      simp only [evOp] at hev
      split at hev
      · rename_i k first captured hk
        have hfv := X_sound he hf; rw [hk] at hfv
        obtain ⟨fid, va, vc, hfe, hmf, la, lc, hva, hvc⟩ := hfv.fn_inv
        obtain ⟨fn, cd, hfn, hbody, hname⟩ := hbod fid k hmf
        have hcall := hcal k fid _ (va ++ args.toList.map a.eval ++ vc) ι M h h' w v hmf hev r (RowA.append (RowA.append (show RowA L ι M first va from ⟨la, hva⟩) hrow) (show RowA L ι M captured vc from ⟨lc, hvc⟩))
        have hexec : (execOp a.eval ⟨dst, .call ⟨.value f, args, ats⟩, ty, pos, after, guard⟩).run L.P w = .ok (.enter fid (va ++ args.toList.map a.eval ++ vc).toArray) w := by
          simp only [execOp, resolve, Sem.run_bind, hfe, Deferred.ofValue, Sem.run_pure, Result.andThen_ok, invoke, callFunc, run_program, hfn, hname, Bool.false_eq_true, if_false, hbody, Option.isNone_some]
          congr 2
          apply Array.ext'
          simp
        unfold Oper.wp
        rw [hexec]
        exact hcall.mono fun e w' hq => by
          obtain ⟨v', rfl, ho⟩ := hq
          exact K _ _ ho
      · cases hev
    · cases hc
    · rename_i b
      have hlen := hrow.1
      split at hc
      · rename_i y t hats
        unfold cLen at hc
        obtain ⟨o, rfl⟩ := args1 hlen
        have hat : ats = #[t] := by obtain ⟨l⟩ := ats; simp at hats; rw [hats]
        subst hat
        have hyv := hrow.2 0 (y.ev e) (a.eval o) rfl rfl
        have hrunlen : ∀ {v' : Value}, (Builtin.len_ #[t] ty #[a.eval o]).run L.P w = .ok v' w → (execOp a.eval ⟨dst, .call ⟨.builtin .len, #[o], #[t]⟩, ty, pos, after, guard⟩).run L.P w = .ok (.value v') w := by
          intro v' hq
          rw [run_builtin]
          simp [builtin, hq]
        have hlenb : ∀ {str : Bool}, evOp call e h (.len str y) = some (v, h') → ((str = true ∧ L.P.underlying t = some .string) ∨ (str = false ∧ ∃ el, L.P.underlying t = some (.slice el))) → (⟨dst, .call ⟨.builtin .len, #[o], #[t]⟩, ty, pos, after, guard⟩ : Oper).wp L.P a w next Q := by
          intro str hev ht
          simp only [evOp, Option.bind_eq_some_iff] at hev
          obtain ⟨q, hq, hev⟩ := hev
          simp only [Option.some.injEq, Prod.mk.injEq] at hev; obtain ⟨rfl, rfl⟩ := hev
          obtain ⟨m, hm1, hm2⟩ := alen_sound (w := w) (ty := ty) r ht hyv hq
          exact oper_value (v' := m) (w' := w) (hrunlen hm1) (K _ _ (.same r hm2))
        split at hc
        · rename_i ht
          obtain rfl := Option.some.inj hc
          exact hlenb hev (.inl ⟨rfl, ht⟩)
        · rename_i el ht
          obtain rfl := Option.some.inj hc
          exact hlenb hev (.inr ⟨rfl, el, ht⟩)
        · rename_i n el ht
          obtain rfl := Option.some.inj hc
          simp only [evOp, X.ev, Option.some.injEq, Prod.mk.injEq] at hev; obtain ⟨rfl, rfl⟩ := hev
          exact oper_value (v' := .int .i64 n) (w' := w) (hrunlen (by simp [Builtin.len_, run_underlying ht, goInt])) (K _ _ (.same r (.imm (.int _ _))))
        · rename_i el ht
          split at hc
          · rename_i n el' ht'
            obtain rfl := Option.some.inj hc
            simp only [evOp, X.ev, Option.some.injEq, Prod.mk.injEq] at hev; obtain ⟨rfl, rfl⟩ := hev
            exact oper_value (v' := .int .i64 n) (w' := w) (hrunlen (by simp [Builtin.len_, run_underlying ht, run_underlying ht', goInt])) (K _ _ (.same r (.imm (.int _ _))))
          · cases hc
        · cases hc
      · rename_i y t hats
        obtain ⟨o, rfl⟩ := args1 hlen
        have hat : ats = #[t] := by obtain ⟨l⟩ := ats; simp at hats; rw [hats]
        subst hat
        have hyv := hrow.2 0 (y.ev e) (a.eval o) rfl rfl
        split at hc
        · rename_i el ht
          obtain rfl := Option.some.inj hc
          simp only [evOp, Option.bind_eq_some_iff] at hev
          obtain ⟨q, hq, hev⟩ := hev
          simp only [Option.some.injEq, Prod.mk.injEq] at hev; obtain ⟨rfl, rfl⟩ := hev
          unfold acap at hq
          split at hq
          · rename_i hy
            obtain rfl := Option.some.inj hq
            rw [hy] at hyv
            exact oper_value (v' := .int .i64 0) (w' := w) (by rw [run_builtin]; simp [builtin, Builtin.cap_, run_underlying ht, hyv.nils_inv, goInt]) (K _ _ (.same r (.imm (.int _ _))))
          · cases hq
        · cases hc
      · rename_i y z sT xT hats
        obtain ⟨o1, o2, rfl⟩ := args2 hlen
        have hat : ats = #[sT, xT] := by obtain ⟨l⟩ := ats; simp at hats; rw [hats]
        subst hat
        have hyv := hrow.2 0 (y.ev e) (a.eval o1) rfl rfl
        have hzv := hrow.2 1 (z.ev e) (a.eval o2) rfl rfl
        have happ : ∀ {v' : Value} {w' : World}, (Builtin.append_ #[sT, xT] ty #[a.eval o1, a.eval o2]).run L.P w = .ok v' w' → (execOp a.eval ⟨dst, .call ⟨.builtin .append, #[o1, o2], #[sT, xT]⟩, ty, pos, after, guard⟩).run L.P w = .ok (.value v') w' := by
          intro v' w' hq
          rw [run_builtin]
          simp [builtin, hq]
        split at hc
        · rename_i el k ht hx
          simp only [Option.bind_eq_some_iff] at hc
          obtain ⟨n, hn, m, hm, zz, hzz, hc⟩ := hc
          obtain rfl := Option.some.inj hc
          simp only [evOp] at hev
          obtain ⟨v', w', h1, h2⟩ := appz_sound (ty := ty) r ht hx hn hm hzz hyv hzv hev
          exact oper_value (happ h1) (K _ _ (.of h2))
        · rename_i el ht hx
          simp only [Option.bind_eq_some_iff] at hc
          obtain ⟨n, hn, m, hm, zz, hzz, hc⟩ := hc
          split at hc
          · rename_i hzl
            obtain rfl := Option.some.inj hc
            simp only [evOp] at hev
            obtain ⟨v', w', h1, h2⟩ := app_sound (ty := ty) r ht (.inl hx) hn hm hzz hzl hyv hzv hev
            exact oper_value (happ h1) (K _ _ (.of h2))
          · cases hc
        · rename_i el el' ht hx
          simp only [Option.bind_eq_some_iff] at hc
          obtain ⟨n, hn, m, hm, zz, hzz, hc⟩ := hc
          split at hc
          · rename_i hzl
            obtain rfl := Option.some.inj hc
            simp only [evOp] at hev
            obtain ⟨v', w', h1, h2⟩ := app_sound (ty := ty) r ht (.inr ⟨_, hx⟩) hn hm hzz hzl hyv hzv hev
            exact oper_value (happ h1) (K _ _ (.of h2))
          · cases hc
        · cases hc
      · rename_i y z sT xT hats
        obtain ⟨o1, o2, rfl⟩ := args2 hlen
        have hat : ats = #[sT, xT] := by obtain ⟨l⟩ := ats; simp at hats; rw [hats]
        subst hat
        have hyv := hrow.2 0 (y.ev e) (a.eval o1) rfl rfl
        have hzv := hrow.2 1 (z.ev e) (a.eval o2) rfl rfl
        split at hc
        · rename_i el ht
          simp only [Option.bind_eq_some_iff] at hc
          obtain ⟨n, hn, hc⟩ := hc
          obtain rfl := Option.some.inj hc
          simp only [evOp] at hev
          obtain ⟨v', w', h1, h2⟩ := copy_sound (sT := xT) (ty := ty) r ht hn hyv hzv hev
          exact oper_value (v' := v') (w' := w') (by rw [run_builtin]; simp [builtin, h1]) (K _ _ (.of h2))
        · cases hc
      · rename_i y sT hats
        obtain ⟨o, rfl⟩ := args1 hlen
        have hat : ats = #[sT] := by obtain ⟨l⟩ := ats; simp at hats; rw [hats]
        subst hat
        have hyv := hrow.2 0 (y.ev e) (a.eval o) rfl rfl
        split at hc
        · rename_i el ht
          simp only [Option.bind_eq_some_iff] at hc
          obtain ⟨n, hn, zz, hzz, hc⟩ := hc
          obtain rfl := Option.some.inj hc
          simp only [evOp, Option.bind_eq_some_iff] at hev
          obtain ⟨q, hq, hev⟩ := hev
          simp only [Option.some.injEq, Prod.mk.injEq] at hev; obtain ⟨rfl, rfl⟩ := hev
          obtain ⟨w', h1, h2⟩ := clear_sound (ty := ty) r ht hn hzz hyv hq
          exact oper_value (v' := .tuple #[]) (w' := w') (by rw [run_builtin]; simp [builtin, h1]) (K _ _ (.same h2 (.imm (.bot _))))
        · cases hc
      · obtain rfl := Option.some.inj hc
        simp only [evOp] at hev
        split at hev
        · cases hev
        · rename_i x0 rest hxs'
          simp only [Option.bind_eq_some_iff] at hev
          obtain ⟨q, hq, hev⟩ := hev
          simp only [Option.some.injEq, Prod.mk.injEq] at hev; obtain ⟨rfl, rfl⟩ := hev
          rw [hxs'] at hrow
          obtain ⟨o, os, hos⟩ : ∃ o os, args.toList = o :: os := by
            cases hargs : args.toList with
            | nil => rw [hargs] at hrow; have := hrow.1; simp at this
            | cons o os => exact ⟨o, os, rfl⟩
          rw [hos] at hrow
          obtain ⟨v', h1, h2⟩ := fold_min (w := w) (xs := rest) (vs := os.map a.eval) ⟨by simpa using hrow.1, fun i a x p q => hrow.2 (i + 1) a x (by simpa using p) (by simpa using q)⟩ (hrow.2 0 x0 (a.eval o) rfl rfl) hq
          exact oper_value (v' := v') (w' := w) (by rw [run_builtin]; simp [builtin, Builtin.min_, hos, h1]) (K _ _ (.same r h2))
      · obtain rfl := Option.some.inj hc
        simp only [evOp] at hev
        split at hev
        · cases hev
        · rename_i x0 rest hxs'
          simp only [Option.bind_eq_some_iff] at hev
          obtain ⟨q, hq, hev⟩ := hev
          simp only [Option.some.injEq, Prod.mk.injEq] at hev; obtain ⟨rfl, rfl⟩ := hev
          rw [hxs'] at hrow
          obtain ⟨o, os, hos⟩ : ∃ o os, args.toList = o :: os := by
            cases hargs : args.toList with
            | nil => rw [hargs] at hrow; have := hrow.1; simp at this
            | cons o os => exact ⟨o, os, rfl⟩
          rw [hos] at hrow
          obtain ⟨v', h1, h2⟩ := fold_max (w := w) (xs := rest) (vs := os.map a.eval) ⟨by simpa using hrow.1, fun i a x p q => hrow.2 (i + 1) a x (by simpa using p) (by simpa using q)⟩ (hrow.2 0 x0 (a.eval o) rfl rfl) hq
          exact oper_value (v' := v') (w' := w) (by rw [run_builtin]; simp [builtin, Builtin.max_, hos, h1]) (K _ _ (.same r h2))
      · cases hc
  | panic y => obtain rfl := Option.some.inj hc; cases hev
  | _ => cases hc
end
end Ab

/- Code of the model against code of the interpreter: the check `comp`; what operations look at; the heap only grows. -/
set_option linter.unusedSimpArgs false
set_option linter.unusedVariables false
namespace Ab
open Go RowKit

/-! ### The heap's next number -/
def NextMono (call : CallT) : Prop := ∀ f a h v h', call f a h = some (v, h') → h.next ≤ h'.next

theorem evOp_quiet {call : CallT} {e : Env} {h h' : H} {o : AOp} {v : AV} (hl : o.loud = false) (hb : o.births = false) (hev : evOp call e h o = some (v, h')) : h' = h := by
  cases o <;> simp only [AOp.loud, AOp.births, Bool.true_eq_false, reduceCtorEq] at hl hb <;> simp only [evOp, Option.bind_eq_some_iff] at hev
  all_goals first
    | (obtain ⟨_, _, hev⟩ := hev; exact (Prod.mk.inj (Option.some.inj hev)).2.symm)
    | exact (Prod.mk.inj (Option.some.inj hev)).2.symm
    | skip
  all_goals repeat' split at hev
  all_goals first
    | (cases hev; done)
    | exact (Prod.mk.inj (Option.some.inj hev)).2.symm
    | skip
  all_goals try simp only [Option.bind_eq_some_iff] at hev
  all_goals obtain ⟨q1, q2, hev⟩ := hev
  all_goals first
    | exact (Prod.mk.inj (Option.some.inj hev)).2.symm
    | skip
  all_goals obtain ⟨q3, q4, hev⟩ := hev
  all_goals repeat' split at hev
  all_goals first
    | (cases hev; done)
    | exact (Prod.mk.inj (Option.some.inj hev)).2.symm

theorem evOp_births {call : CallT} {e : Env} {h : H} {o : AOp} (hb : o.births = true) : evOp call e h o = evBirth e h o := by
  cases o <;> first | (simp [AOp.births] at hb; done) | rfl

theorem evOp_birth {call : CallT} {e : Env} {h h' : H} {o : AOp} {v : AV} (hb : o.births = true) (hev : evOp call e h o = some (v, h')) : ∃ b, birth e o = some b ∧ v = b.2 h.next ∧ h' = h.alloc b.1 := by
  rw [evOp_births hb, evBirth] at hev
  simp only [Option.bind_eq_some_iff, Option.some.injEq, Prod.mk.injEq] at hev
  obtain ⟨b, h1, h2, h3⟩ := hev
  exact ⟨b, h1, h2.symm, h3.symm⟩

theorem birth_id {e : Env} {o : AOp} {b} (h : birth e o = some b) (i : Nat) : (b.2 i).id? = some i := by
  cases o <;> simp only [birth] at h <;> repeat' split at h
  all_goals first
    | (cases h; done)
    | (obtain rfl := Option.some.inj h; rfl)
    | (simp only [Option.bind_eq_some_iff] at h; obtain ⟨_, _, h⟩ := h; obtain rfl := Option.some.inj h; rfl)

theorem set_next (h : H) (id : Nat) (cs : List AV) : (h.set id cs).next = h.next := H.next_set h id cs
theorem alloc_next (h : H) (cs : List AV) : (h.alloc cs).next = h.next + 1 := H.next_alloc h cs
theorem del_next (h : H) (id : Nat) : (h.del id).next = h.next := rfl

theorem aappc_next {h h' : H} {sz by_ : Nat} {a : AV} {n : Nat} {bs : List AV} {v : AV} (hh : aappc h sz by_ a n bs = some (v, h')) : h.next ≤ h'.next := by
  unfold aappc at hh
  repeat' split at hh
  all_goals first
    | (cases hh; done)
    | (obtain ⟨_, rfl⟩ := Prod.mk.inj (Option.some.inj hh); simp only [alloc_next]; omega)
    | (obtain ⟨_, rfl⟩ := Prod.mk.inj (Option.some.inj hh); exact Nat.le_refl _)
    | skip
  simp only [Option.bind_eq_some_iff] at hh
  obtain ⟨cs, _, hh⟩ := hh
  repeat' split at hh
  all_goals first
    | (cases hh; done)
    | (obtain ⟨_, rfl⟩ := Prod.mk.inj (Option.some.inj hh); simp only [alloc_next, set_next, del_next]; omega)
    | (obtain ⟨_, rfl⟩ := Prod.mk.inj (Option.some.inj hh); exact Nat.le_refl _)

theorem evOp_next {call : CallT} (hn : NextMono call) {e : Env} {h h' : H} {o : AOp} {v : AV} (hev : evOp call e h o = some (v, h')) : h.next ≤ h'.next := by
  by_cases hb : o.births = true
  · obtain ⟨b, _, _, rfl⟩ := evOp_birth hb hev
    simp only [alloc_next]; omega
  by_cases hl : o.loud = true
  · cases o <;> simp only [AOp.loud, Bool.false_eq_true] at hl <;> simp only [evOp] at hev
    case store n p x =>
      simp only [Option.bind_eq_some_iff, Option.some.injEq, Prod.mk.injEq] at hev
      obtain ⟨h1, hs, _, rfl⟩ := hev
      unfold astore at hs
      split at hs
      · simp only [Option.bind_eq_some_iff] at hs
        obtain ⟨cs, _, hs⟩ := hs
        split at hs
        · obtain rfl := Option.some.inj hs; first | exact Nat.le_refl _ | simp
        · cases hs
      · cases hs
    case call f args =>
      split at hev
      · exact hn _ _ _ _ _ hev
      · cases hev
    case inv2 => cases hev
    case app =>
      unfold aapp at hev
      simp only [Option.bind_eq_some_iff] at hev
      obtain ⟨r, _, hev⟩ := hev
      exact aappc_next hev
    case appz =>
      unfold aappz at hev
      repeat' split at hev
      all_goals first
        | (cases hev; done)
        | (obtain ⟨_, rfl⟩ := Prod.mk.inj (Option.some.inj hev); simp only [alloc_next]; omega)
    case copy =>
      unfold acopy at hev
      simp only [Option.bind_eq_some_iff] at hev
      obtain ⟨r, _, hev⟩ := hev
      split at hev
      · obtain ⟨_, rfl⟩ := Prod.mk.inj (Option.some.inj hev); first | exact Nat.le_refl _ | simp
      · split at hev
        · simp only [Option.bind_eq_some_iff] at hev
          obtain ⟨r, _, hev⟩ := hev
          split at hev
          · obtain ⟨_, rfl⟩ := Prod.mk.inj (Option.some.inj hev); first | exact Nat.le_refl _ | simp
          · cases hev
        · cases hev
      · cases hev
    case clear =>
      simp only [Option.bind_eq_some_iff, Option.some.injEq, Prod.mk.injEq] at hev
      obtain ⟨h1, hev, _, rfl⟩ := hev
      unfold aclear at hev
      repeat' split at hev
      all_goals first
        | (cases hev; done)
        | (obtain rfl := Option.some.inj hev; first | exact Nat.le_refl _ | simp)
        | skip
      simp only [Option.bind_eq_some_iff] at hev
      obtain ⟨r, _, hev⟩ := hev
      split at hev
      · obtain rfl := Option.some.inj hev; first | exact Nat.le_refl _ | simp
      · cases hev
  · rw [evOp_quiet (by simpa using hl) (by simpa using hb) hev]; first | exact Nat.le_refl _ | simp

theorem evOper_next {call : CallT} (hn : NextMono call) {e : Env} {h h' : H} {o : AOper} {v : AV} (hev : evOper call o e h = some (v, h')) : h.next ≤ h'.next := by
  unfold evOper at hev
  repeat' split at hev
  all_goals first
    | exact evOp_next hn hev
    | (obtain ⟨_, rfl⟩ := Prod.mk.inj (Option.some.inj hev); exact Nat.le_refl _)
    | (cases hev; done)

theorem evOps_next {call : CallT} (hn : NextMono call) : ∀ {os : List AOper} {e e' : Env} {h h' : H}, evOps call os e h = some (e', h') → h.next ≤ h'.next
  | [], _, _, _, _, hev => by obtain ⟨_, rfl⟩ := Prod.mk.inj (Option.some.inj hev); exact Nat.le_refl _
  | o :: os, _, _, _, _, hev => by
    simp only [evOps, Option.bind_eq_some_iff] at hev
    obtain ⟨r, h1, h2⟩ := hev
    exact Nat.le_trans (evOper_next hn h1) (evOps_next hn h2)

theorem evOpsD_ops {call : CallT} : ∀ {os : List AOper} {e e' : Env} {h h' : H} {gs}, evOpsD call os e h = some (e', h', gs) → evOps call os e h = some (e', h')
  | [], _, _, _, _, _, hev => by obtain ⟨rfl, h2⟩ := Prod.mk.inj (Option.some.inj hev); obtain ⟨rfl, _⟩ := Prod.mk.inj h2; rfl
  | o :: os, _, _, _, _, _, hev => by
    simp only [evOpsD, evOps, Option.bind_eq_some_iff] at hev ⊢
    obtain ⟨r, h1, r2, h2, h3⟩ := hev
    obtain ⟨rfl, h4⟩ := Prod.mk.inj (Option.some.inj h3); obtain ⟨rfl, _⟩ := Prod.mk.inj h4
    exact ⟨r, h1, evOpsD_ops (h2)⟩

def NextF (F : Env → H → Res) : Prop := ∀ e h x e' h', F e h = some (x, e', h') → h.next ≤ h'.next
def NextL (lp : LoopT) : Prop := ∀ F, NextF F → NextF (lp F)

theorem nextL_loopN : ∀ n, NextL (loopN n)
  | 0, _, _, _, _, _, _, _, h => by cases h
  | n + 1, F, hF, e, h, x, e', h', hev => by
    simp only [loopN, Option.bind_eq_some_iff] at hev
    obtain ⟨⟨y, e1, h1⟩, ha, hb⟩ := hev
    have := hF _ _ _ _ _ ha
    split at hb
    · rename_i q
      obtain ⟨rfl, q2⟩ := Prod.mk.inj q; obtain ⟨rfl, rfl⟩ := Prod.mk.inj q2
      exact Nat.le_trans this (nextL_loopN n F hF _ _ _ _ _ hb)
    · obtain ⟨rfl, q2⟩ := Prod.mk.inj (Option.some.inj hb); obtain ⟨rfl, rfl⟩ := Prod.mk.inj q2
      exact this

theorem evC_next {call : CallT} (hn : NextMono call) {lp : LoopT} (hl : NextL lp) : ∀ (x : ACode), NextF (evC call lp x)
  | .skip, _, _, _, _, _, hev => by cases hev; exact Nat.le_refl _
  | .exit _, _, _, _, _, _, hev => by cases hev; exact Nat.le_refl _
  | .ret, _, _, _, _, _, hev => by cases hev; exact Nat.le_refl _
  | .reg ops keep, _, _, _, _, _, hev => by
    simp only [evC, Option.bind_eq_some_iff] at hev
    obtain ⟨r, h1, h2⟩ := hev
    cases h2; exact evOps_next hn h1
  | .dreg ord ops fl keep, _, _, _, _, _, hev => by
    simp only [evC, Option.bind_eq_some_iff] at hev
    obtain ⟨r, h1, h2⟩ := hev
    split at h2
    · cases h2; exact evOps_next hn (evOpsD_ops h1)
    · cases h2
  | .seq a b, _, _, _, _, _, hev => by
    simp only [evC, Option.bind_eq_some_iff] at hev
    obtain ⟨⟨y, e1, h1⟩, ha, hb⟩ := hev
    have := evC_next hn hl a _ _ _ _ _ ha
    split at hb
    · rename_i q
      cases q
      exact Nat.le_trans this (evC_next hn hl b _ _ _ _ _ hb)
    · cases hb; exact this
  | .cond x a b keep, _, h0, _, _, _, hev => by
    simp only [evC] at hev
    split at hev
    · simp only [Option.bind_eq_some_iff] at hev
      obtain ⟨⟨y, e1, h1⟩, ha, hb⟩ := hev
      have : h0.next ≤ h1.next := by
        split at ha
        · exact evC_next hn hl a _ _ _ _ _ ha
        · exact evC_next hn hl b _ _ _ _ _ ha
      split at hb
      · rename_i q; cases q; cases hb; exact this
      · cases hb; exact this
    · cases hev
  | .block id c keep, _, _, _, _, _, hev => by
    simp only [evC, Option.bind_eq_some_iff] at hev
    obtain ⟨⟨y, e1, h1⟩, ha, hb⟩ := hev
    have := evC_next hn hl c _ _ _ _ _ ha
    split at hb
    · rename_i q; cases q; cases hb; exact this
    · rename_i q; cases q
      split at hb <;> (cases hb; exact this)
    · rename_i q; cases q; cases hb; exact this
  | .loop keep c, _, _, _, _, _, hev => hl _ (fun _ _ _ _ _ h => evC_next hn hl c _ _ _ _ _ h) _ _ _ _ _ hev

theorem runF_next {call : CallT} (hn : NextMono call) {lp : LoopT} (hl : NextL lp) {fn : AFunc} {args : List AV} {h h' : H} {v : AV} (hev : runF call lp fn args h = some (v, h')) : h.next ≤ h'.next := by
  unfold runF at hev
  split at hev
  · simp only [Option.bind_eq_some_iff] at hev
    obtain ⟨⟨y, e1, h1⟩, ha, hb⟩ := hev
    have := evC_next hn hl _ _ _ _ _ _ ha
    unfold fin at hb
    split at hb
    · cases hb
    · rename_i q; cases q
      simp only [Option.bind_eq_some_iff] at hb
      obtain ⟨vs, _, hb⟩ := hb
      split at hb
      · simp only [Option.bind_eq_some_iff] at hb
        obtain ⟨_, _, hb⟩ := hb
        cases hb; exact Nat.le_refl _
      · rename_i hp; cases hb; rw [if_neg hp] at this; exact this
  · cases hev

theorem next_callN (A : AProg) : ∀ d, NextMono (callN A d)
  | 0, _, _, _, _, _, h => by cases h
  | d + 1, f, args, h, v, h', hev => by
    simp only [callN, Option.bind_eq_some_iff] at hev
    obtain ⟨fn, _, hr⟩ := hev
    exact runF_next (next_callN A d) (nextL_loopN d) hr

/-! ### What an operation looks at -/
def X.tm : X → List Nat
  | .t n => [n]
  | .c _ => []
def oxtm : Option X → List Nat
  | none => []
  | some x => x.tm
def xstm (l : List X) : List Nat := l.flatMap X.tm

def AOp.tm : AOp → List Nat
  | .mv x | .box _ x | .nilc x | .not x | .neg x | .inv x | .conv _ x | .same x | .b2s x | .s2b x | .mkif _ x | .fadr _ x | .fld _ _ _ x | .extr x _ | .tass x _ | .len _ x | .cap x | .clear _ _ x => x.tm
  | .pick a b c => a.tm ++ (b.tm ++ c.tm)
  | .alloc _ | .pan => []
  | .build _ ps => ps.flatMap fun p => p.2.2.tm
  | .bslice _ _ _ ps => ps.flatMap fun p => p.2.tm
  | .load _ _ p => p.tm
  | .store _ p v => p.tm ++ v.tm
  | .bin _ x y | .eqn _ _ x y | .eqb _ x y | .eqs _ _ x y | .iadr _ x y | .iadra _ _ x y | .idxs x y | .idxa _ _ _ x y | .app _ _ x y | .appz _ _ _ x y | .copy _ x y | .mksl _ _ _ x y => x.tm ++ y.tm
  | .mkfn _ a b => xstm a ++ xstm b
  | .sls x a b => x.tm ++ (oxtm a ++ oxtm b)
  | .sl _ x a b c => x.tm ++ (oxtm a ++ (oxtm b ++ oxtm c))
  | .sla _ _ x a b => x.tm ++ (oxtm a ++ oxtm b)
  | .call f xs => f.tm ++ xstm xs
  | .inv2 r _ xs => r.tm ++ xstm xs
  | .mn xs | .mx xs => xstm xs

def AOper.tm (o : AOper) : List Nat := (match o.guard with | none => [] | some g => [g.1]) ++ o.op.tm

section
variable {e e' : Env}
def Agree (e e' : Env) (l : List Nat) : Prop := ∀ t ∈ l, look e t = look e' t
theorem Agree.left {a b : List Nat} (h : Agree e e' (a ++ b)) : Agree e e' a := fun t q => h t (List.mem_append_left _ q)
theorem Agree.right {a b : List Nat} (h : Agree e e' (a ++ b)) : Agree e e' b := fun t q => h t (List.mem_append_right _ q)
theorem X.ev_agree {x : X} (h : Agree e e' x.tm) : x.ev e = x.ev e' := by
  cases x with
  | t n => exact h n (by simp [X.tm])
  | c v => rfl
theorem ox_agree {x : Option X} (h : Agree e e' (oxtm x)) : x.map (X.ev e) = x.map (X.ev e') := by
  cases x with
  | none => rfl
  | some x => simp only [Option.map_some, X.ev_agree (x := x) h]
theorem xs_agree {l : List X} (h : Agree e e' (xstm l)) : evArgs e l = evArgs e' l :=
  List.map_congr_left fun x hx => X.ev_agree fun t ht => h t (List.mem_flatMap.2 ⟨x, hx, ht⟩)

theorem birth_agree {o : AOp} (h : Agree e e' o.tm) : birth e o = birth e' o := by
  cases o <;> simp only [birth]
  case box n x => rw [X.ev_agree (x := x) h]
  case bslice sz len z ps =>
    have : (ps.map fun p => (p.1 * sz, sz, p.2.ev e)) = ps.map fun p => (p.1 * sz, sz, p.2.ev e') := List.map_congr_left fun p hp => by rw [X.ev_agree (x := p.2) fun t ht => h t (List.mem_flatMap.2 ⟨p, hp, ht⟩)]
    rw [this]
  case mksl sz b z x y => rw [X.ev_agree (x := x) h.left, X.ev_agree (x := y) h.right]
  case s2b x => rw [X.ev_agree (x := x) h]

theorem evOp_agree {call : CallT} {g : H} {o : AOp} (h : Agree e e' o.tm) : evOp call e g o = evOp call e' g o := by
  cases o <;> simp only [evOp, evBirth, birth_agree h]
  case build z ps =>
    have : (ps.map fun p => (p.1, p.2.1, p.2.2.ev e)) = ps.map fun p => (p.1, p.2.1, p.2.2.ev e') := List.map_congr_left fun p hp => by rw [X.ev_agree (x := p.2.2) fun t ht => h t (List.mem_flatMap.2 ⟨p, hp, ht⟩)]
    rw [this]
  all_goals first
    | (rename_i x; rw [X.ev_agree (x := x) h]; done)
    | (rename_i x _; rw [X.ev_agree (x := x) h]; done)
    | (rename_i x y; rw [X.ev_agree (x := x) h.left, X.ev_agree (x := y) h.right]; done)
    | (rename_i x y z; rw [X.ev_agree (x := x) h.left, X.ev_agree (x := y) h.right.left, X.ev_agree (x := z) h.right.right]; done)
    | (rename_i x y; rw [xs_agree (l := x) h.left, xs_agree (l := y) h.right]; done)
    | (rename_i x a b; rw [X.ev_agree (x := x) h.left, ox_agree (x := a) h.right.left, ox_agree (x := b) h.right.right]; done)
    | (rename_i x a b c; rw [X.ev_agree (x := x) h.left, ox_agree (x := a) h.right.left, ox_agree (x := b) h.right.right.left, ox_agree (x := c) h.right.right.right]; done)
    | (rename_i x y; rw [X.ev_agree (x := x) h.left, xs_agree (l := y) h.right]; done)
    | (rename_i x _ y; rw [X.ev_agree (x := x) h.left, xs_agree (l := y) h.right]; done)
    | (rename_i x; rw [xs_agree (l := x) h]; done)

theorem evOper_agree {call : CallT} {g : H} {o : AOper} (h : Agree e e' o.tm) : evOper call o e g = evOper call o e' g := by
  unfold AOper.tm at h
  unfold evOper
  cases hg : o.guard with
  | none => exact evOp_agree (by simpa [hg] using h)
  | some gw =>
    obtain ⟨t, want⟩ := gw
    rw [hg] at h
    simp only
    rw [h t (by simp), evOp_agree h.right]
end

/-! ### The check of code -/
def dstOk (nt : Nat) : Option Nat → Bool
  | none => true
  | some d => decide (d < nt)
def compOper (L : Lk) (nt : Nat) (ops : Array Oper) (o : Oper) : Option AOper :=
  (cOp L o.op).bind fun x =>
  (match o.guard with | none => some none | some (j, w) => ((ops[j]?).bind (·.dst)).map fun t => some (t, w)).bind fun g =>
  if dstOk nt o.dst = true then some ⟨o.dst, x, g⟩ else none

def compOps (L : Lk) (nt : Nat) (ops : Array Oper) : List Oper → Option (List AOper)
  | [] => some []
  | o :: r => (compOper L nt ops o).bind fun a => (compOps L nt ops r).bind fun as => some (a :: as)
end Ab

/- One operation with its guard; regions in the order of the text. -/
set_option linter.unusedSimpArgs false
set_option linter.unusedVariables false
namespace Ab
open Go RowKit

/-- How the places and the memory that never changes may have grown. -/
structure Gr (h : H) (ι : Io) (M : Mm) (h' : H) (ι' : Io) (M' : Mm) : Prop where
  nx : h.next ≤ h'.next
  io : LeI ι ι'
  mm : LeM M M'
  old : ∀ id l, id < h.next → ι' id = some l → ι id = some l

theorem Gr.refl (h : H) (ι : Io) (M : Mm) : Gr h ι M h ι M := ⟨Nat.le_refl _, fun _ _ q => q, fun _ _ _ q => q, fun _ _ _ q => q⟩
theorem Gr.trans {h1 h2 h3 : H} {ι1 ι2 ι3 : Io} {M1 M2 M3 : Mm} (a : Gr h1 ι1 M1 h2 ι2 M2) (b : Gr h2 ι2 M2 h3 ι3 M3) : Gr h1 ι1 M1 h3 ι3 M3 :=
  ⟨Nat.le_trans a.nx b.nx, fun _ _ q => b.io _ _ (a.io _ _ q), fun _ _ _ q => b.mm _ _ _ (a.mm _ _ _ q), fun id l q1 q2 => a.old id l q1 (b.old id l (Nat.lt_of_lt_of_le q1 a.nx) q2)⟩

section
variable {L : Lk} {w0 : World} {ι : Io} {M : Mm} {h : H} {w : World}

theorem getD_bool {tmps : Array Value} {t : Nat} {b : Bool} (h : tmps.getD t undef = .bool b) : tmps[t]? = some (.bool b) := by
  rw [Array.getD_eq_getD_getElem?] at h
  cases hg : tmps[t]? with
  | none => rw [hg] at h; simp [undef] at h
  | some v => rw [hg] at h; simpa using h

theorem V.skip : V L ι M (.tup []) undef := .tup (as := []) (vs := []) rfl (fun i a v h => by simp at h)
theorem V.skip_inv {v : Value} (h : V L ι M (.tup []) v) : v = undef := by
  cases h with
  | imm h =>
    cases h with
    | tup l _ => rename_i vs; rw [List.length_eq_zero_iff.1 l.symm]; rfl
  | tup l _ => rename_i vs; rw [List.length_eq_zero_iff.1 l.symm]; rfl
theorem yielded_undef {ops : Array Oper} {tmps : Array Value} {j t : Nat} (ht : (ops[j]?).bind (·.dst) = some t) (h : V L ι M (.tup []) (tmps.getD t undef)) : yielded ops tmps j = none := by
  have h := h.skip_inv
  unfold yielded
  rw [ht]
  simp only [Option.bind_some]
  rw [Array.getD_eq_getD_getElem?] at h
  cases hg : tmps[t]? with
  | none => rfl
  | some v => rw [hg] at h; simp only [Option.getD_some] at h; rw [h]; rfl

theorem EnvR.put {e : Env} {a : Act} (he : EnvR L ι M e a.tmps) {d : Option Nat} {v : AV} {v' : Value} (hv : V L ι M v v') (hd : ∀ t, d = some t → t < a.tmps.size) : EnvR L ι M (putEnv d v e) (a.put d v').tmps := by
  cases d with
  | none => exact he
  | some d =>
    intro t
    simp only [putEnv, look, Act.put]
    by_cases hdt : d = t
    · subst hdt
      rw [if_pos rfl, Array.getD_eq_getD_getElem?, Array.getElem?_setIfInBounds_self_of_lt (hd d rfl)]
      exact hv
    · rw [if_neg hdt, Array.getD_eq_getD_getElem?, Array.getElem?_setIfInBounds_ne hdt, ← Array.getD_eq_getD_getElem?]
      exact he t

theorem put_size (a : Act) (d : Option Nat) (v : Value) : (a.put d v).tmps.size = a.tmps.size := by
  cases d <;> simp [Act.put]
theorem put_defers (a : Act) (d : Option Nat) (v : Value) : (a.put d v).defers = a.defers := by
  cases d <;> simp [Act.put]

theorem compOper_inv {nt : Nat} {ops : Array Oper} {o : Oper} {x : AOper} (hc : compOper L nt ops o = some x) :
    cOp L o.op = some x.op ∧ x.dst = o.dst ∧ (∀ t, o.dst = some t → t < nt) ∧ ((o.guard = none ∧ x.guard = none) ∨ ∃ j want t, o.guard = some (j, want) ∧ (ops[j]?).bind (·.dst) = some t ∧ x.guard = some (t, want)) := by
  unfold compOper at hc
  simp only [Option.bind_eq_some_iff] at hc
  obtain ⟨y, h1, g, h2, h3⟩ := hc
  by_cases hd : dstOk nt o.dst = true
  · rw [if_pos hd] at h3
    obtain rfl := Option.some.inj h3
    refine ⟨h1, rfl, fun t ht => ?_, ?_⟩
    · rw [ht] at hd; exact of_decide_eq_true hd
    · split at h2
      · rename_i hg; obtain rfl := Option.some.inj h2; exact .inl ⟨hg, rfl⟩
      · rename_i j want hg
        simp only [Option.map_eq_some_iff] at h2
        obtain ⟨t, ht, rfl⟩ := h2
        exact .inr ⟨j, want, t, hg, ht, rfl⟩
  · rw [if_neg hd] at h3; cases h3

theorem oper_step {call : CallT} (hcal : Callee L w0 call) (hbod : Bodies L) {nt : Nat} {ops : Array Oper} {i : Nat} {o : Oper} {x : AOper} (hi : ops[i]? = some o) (hc : compOper L nt ops o = some x)
    {e : Env} {a : Act} (he : EnvR L ι M e a.tmps) (r : R L w0 ι M h w) {v : AV} {h' : H} (hev : evOper call x e h = some (v, h')) {K : Act → World → Prop} {Q : Exit → Act → World → Prop}
    (hK : ∀ v' w', Out L w0 ι M h h' v v' w' → K (a.put o.dst v') w') : wpOp L.P ops Q i K a w := by
  obtain ⟨hop, hdst, _, hg⟩ := compOper_inv hc
  unfold wpOp
  simp only [hi]
  unfold evOper at hev
  rcases hg with ⟨hg1, hg2⟩ | ⟨j, want, t, hg1, ht, hg2⟩
  · rw [hg2] at hev
    have : Region.wanted o (yielded ops a.tmps) = true := by simp [Region.wanted, hg1]
    rw [if_pos this]
    exact .inl (op_wp hcal hbod hop he r hev hK)
  · rw [hg2] at hev
    simp only at hev
    split at hev
    · rename_i b hb
      have h1 := he t
      rw [hb] at h1
      have h2 := getD_bool h1.bool_inv
      have hy : yielded ops a.tmps j = some b := by simp [yielded, ht, h2]
      split at hev
      · rename_i hbw
        have : Region.wanted o (yielded ops a.tmps) = true := by simp [Region.wanted, hg1, hy, hbw]
        rw [if_pos this]
        exact .inl (op_wp hcal hbod hop he r hev hK)
      · rename_i hbw
        have : ¬ Region.wanted o (yielded ops a.tmps) = true := by simp [Region.wanted, hg1, hy, hbw]
        rw [if_neg this]
        obtain ⟨rfl, rfl⟩ := Prod.mk.inj (Option.some.inj hev)
        exact hK _ _ (.same r V.skip)
    · rename_i hb
      have h1 := he t
      rw [hb] at h1
      have : ¬ Region.wanted o (yielded ops a.tmps) = true := by simp [Region.wanted, hg1, yielded_undef ht h1]
      rw [if_neg this]
      obtain ⟨rfl, rfl⟩ := Prod.mk.inj (Option.some.inj hev)
      exact hK _ _ (.same r V.skip)
    · cases hev

theorem compOps_get {nt : Nat} {ops : Array Oper} : ∀ {l : List Oper} {os : List AOper}, compOps L nt ops l = some os → l.length = os.length ∧ ∀ (i : Nat) (o : Oper), l[i]? = some o → ∃ x, os[i]? = some x ∧ compOper L nt ops o = some x
  | [], _, h => by obtain rfl := Option.some.inj h; exact ⟨rfl, fun i o q => by simp at q⟩
  | o :: l, _, h => by
    simp only [compOps, Option.bind_eq_some_iff] at h
    obtain ⟨x, h1, xs, h2, h3⟩ := h
    obtain rfl := Option.some.inj h3
    obtain ⟨g1, g2⟩ := compOps_get h2
    refine ⟨by simp [g1], fun i p q => ?_⟩
    cases i with
    | zero => simp at q; subst q; exact ⟨x, rfl, h1⟩
    | succ i => simpa using g2 i p (by simpa using q)

/-- Operations one behind the other. -/
theorem ops_wp {call : CallT} (hcal : Callee L w0 call) (hbod : Bodies L) (hn : NextMono call) {nt : Nat} {ops : Array Oper} {Q : Exit → Act → World → Prop} {e1 : Env} {h1 : H} : ∀ (l : List Oper) (k : Nat) {os : List AOper} {e : Env} {a : Act} {ι : Io} {M : Mm} {h : H} {w : World},
    (∀ j, l[j]? = ops[k + j]?) → compOps L nt ops l = some os → EnvR L ι M e a.tmps → nt ≤ a.tmps.size → R L w0 ι M h w → evOps call os e h = some (e1, h1) →
    (∀ ι' M' a' w', Gr h ι M h1 ι' M' → R L w0 ι' M' h1 w' → EnvR L ι' M' e1 a'.tmps → a'.tmps.size = a.tmps.size → a'.defers = a.defers → Q .normal a' w') →
    wpOps L.P ops Q ((List.range' k l.length)) a w
  | [], k, os, e, a, ι, M, h, w, hl, hc, he, hnt, r, hev, hQ => by
    obtain rfl := Option.some.inj hc
    obtain ⟨rfl, rfl⟩ := Prod.mk.inj (Option.some.inj hev)
    exact hQ _ _ _ _ (.refl _ _ _) r he rfl rfl
  | o :: l, k, os, e, a, ι, M, h, w, hl, hc, he, hnt, r, hev, hQ => by
    have h0 : ops[k]? = some o := by simpa using (hl 0).symm
    simp only [compOps, Option.bind_eq_some_iff] at hc
    obtain ⟨x, hc1, xs, hc2, hc3⟩ := hc
    obtain rfl := Option.some.inj hc3
    simp only [evOps, Option.bind_eq_some_iff] at hev
    obtain ⟨⟨v, h2⟩, hv, hev⟩ := hev
    rw [List.length_cons, List.range'_succ, wpOps_cons]
    obtain ⟨_, hdst, hlt, _⟩ := compOper_inv hc1
    refine oper_step hcal hbod h0 hc1 he r hv fun v' w' hout => ?_
    obtain ⟨ι', M', a1, a2, a3, r', hv'⟩ := hout
    refine ops_wp hcal hbod hn l (k + 1) (fun j => by have := hl (j + 1); simpa [Nat.add_assoc, Nat.add_comm 1 j] using this) hc2 (a := a.put o.dst v') (ι := ι') (M := M') (e := putEnv x.dst v e)
      (by rw [hdst]; exact (he.mono a1 a2).put hv' fun t ht => Nat.lt_of_lt_of_le (hlt t ht) hnt) (by rw [put_size]; exact hnt) r' hev ?_
    intro ι2 M2 a' w2 g2 r2 he2 hs2 hd2
    exact hQ _ _ _ _ ((Gr.mk (evOper_next hn hv) a1 a2 a3).trans g2) r2 he2 (by rw [hs2, put_size]) (by rw [hd2, put_defers])
end
end Ab

/- Regions that draw their order: the check, the stages, the trace of the interpreter's one order. -/
set_option linter.unusedSimpArgs false
set_option linter.unusedVariables false
namespace Ab
open Go RowKit

theorem beq_eq_sound (n : Nat) : (∀ a b : AV, sizeOf a ≤ n → AV.beq a b = true → a = b) ∧ (∀ a b : List AV, sizeOf a ≤ n → AV.beqs a b = true → a = b) := by
  induction n with
  | zero =>
    refine ⟨fun a b h => ?_, fun a b h => ?_⟩
    · cases a <;> simp at h
    · cases a <;> simp at h
  | succ n ih =>
    obtain ⟨i1, i2⟩ := ih
    refine ⟨fun a b h hb => ?_, fun a b h hb => ?_⟩
    · cases a <;> cases b <;> simp only [AV.beq, Bool.and_eq_true, beq_iff_eq, Bool.false_eq_true] at hb <;> try simp only [AV.bool.sizeOf_spec, AV.pimm.sizeOf_spec, AV.simm.sizeOf_spec, AV.fn.sizeOf_spec, AV.iface.sizeOf_spec, AV.agg.sizeOf_spec, AV.tup.sizeOf_spec] at h
      case pimm.pimm => rw [i2 _ _ (by omega) hb.1, hb.2]
      case simm.simm => rw [i2 _ _ (by omega) hb.2.1, hb.1, hb.2.2.1, hb.2.2.2.1, hb.2.2.2.2]
      case fn.fn => rw [hb.1, i2 _ _ (by omega) hb.2.1, i2 _ _ (by omega) hb.2.2]
      case iface.iface => rw [hb.1, i1 _ _ (by omega) hb.2]
      case agg.agg => rw [i2 _ _ (by omega) hb]
      case tup.tup => rw [i2 _ _ (by omega) hb]
      case str.str a b => exact congrArg AV.str (ByteArray.ext (by have : (a.data == b.data) = true := hb; simpa using this))
      all_goals simp_all
    · cases a <;> cases b <;> simp only [AV.beqs, Bool.and_eq_true, Bool.false_eq_true] at hb <;> try simp only [List.cons.sizeOf_spec] at h
      · rfl
      · rw [i1 _ _ (by omega) hb.1, i2 _ _ (by omega) hb.2]

theorem beq_eq {a b : AV} (h : AV.beq a b = true) : a = b := (beq_eq_sound _).1 a b (Nat.le_refl _) h
theorem beqs_eq {a b : List AV} (h : AV.beqs a b = true) : a = b := (beq_eq_sound _).2 a b (Nat.le_refl _) h

/-! ### Heaps that only got more objects -/
structure Gw (h g : H) : Prop where
  nx : h.next ≤ g.next
  get : ∀ id, id < h.next → g.get id = h.get id

theorem Gw.refl (h : H) : Gw h h := ⟨Nat.le_refl _, fun _ _ => rfl⟩
theorem Gw.trans {a b c : H} (h : Gw a b) (k : Gw b c) : Gw a c := ⟨Nat.le_trans h.nx k.nx, fun id hi => by rw [k.get id (Nat.lt_of_lt_of_le hi h.nx), h.get id hi]⟩
theorem Gw.alloc (h : H) (cs : List AV) : Gw h (h.alloc cs) := ⟨by simp, fun id hi => by rw [H.get_alloc]; rw [if_neg (by omega)]⟩
theorem Gw.some {h g : H} (k : Gw h g) {id : Nat} {cs : List AV} (hg : h.get id = .some cs) : g.get id = .some cs := by rw [k.get id (h.lt id cs hg)]; exact hg

theorem evOp_any {call : CallT} {e : Env} {h h' : H} {o : AOp} {v : AV} (hl : o.loud = false) (hb : o.births = false) (hr : o.reads = false) (hev : evOp call e h o = some (v, h')) (G : H) : evOp call e G o = some (v, G) := by
  obtain rfl := evOp_quiet hl hb hev
  cases o <;> simp only [AOp.loud, AOp.births, AOp.reads, Bool.true_eq_false, reduceCtorEq] at hl hb hr <;> simp only [evOp, Option.bind_eq_some_iff] at hev ⊢
  all_goals first
    | (obtain ⟨q1, q2, hev⟩ := hev; exact ⟨q1, q2, by rw [(Prod.mk.inj (Option.some.inj hev)).1]⟩)
    | (rw [(Prod.mk.inj (Option.some.inj hev)).1]; done)
    | skip
  all_goals repeat' split at hev
  all_goals first
    | (cases hev; done)
    | (obtain ⟨q, _⟩ := Prod.mk.inj (Option.some.inj hev); rw [q]; done)
    | (obtain ⟨q, _⟩ := Prod.mk.inj (Option.some.inj hev); simp [*]; done)
    | skip
  all_goals try simp only [Option.bind_eq_some_iff] at hev
  all_goals
    obtain ⟨q1, q2, q3⟩ := hev
    obtain ⟨q, _⟩ := Prod.mk.inj (Option.some.inj q3)
    simp [*]

theorem evOp_own {call : CallT} {e : Env} {h h' : H} {o : AOp} {v : AV} (hl : o.loud = false) (hb : o.births = false) (hev : evOp call e h o = some (v, h')) {G : H} (k : Gw h G) : evOp call e G o = some (v, G) := by
  cases hr : o.reads with
  | false => exact evOp_any hl hb hr hev G
  | true =>
    cases o <;> simp only [AOp.reads, Bool.false_eq_true] at hr <;> simp only [evOp, Option.bind_eq_some_iff] at hev ⊢
    case load agg n p =>
      obtain ⟨x, h1, h2⟩ := hev
      refine ⟨x, ?_, by rw [(Prod.mk.inj (Option.some.inj h2)).1]⟩
      unfold aload at *
      split at h1
      · simp only [Option.bind_eq_some_iff] at h1 ⊢
        obtain ⟨cs, q1, q2⟩ := h1
        exact ⟨cs, k.some q1, q2⟩
      · exact h1
      · cases h1
    case b2s x =>
      obtain ⟨y, h1, l, h2, h3⟩ := hev
      refine ⟨y, ?_, l, h2, ?_⟩
      · unfold srcCells at *
        split at h1
        · exact h1
        · exact h1
        · split at h1
          · rename_i hs; simp only [if_pos hs, Option.bind_eq_some_iff] at h1 ⊢
            obtain ⟨cs, q1, q2⟩ := h1
            exact ⟨cs, k.some q1, q2⟩
          · cases h1
        · exact h1
        · cases h1
      · split at h3
        · cases h3
        · rw [(Prod.mk.inj (Option.some.inj h3)).1]
    case sl sz x a b c =>
      obtain ⟨y, h1, h2⟩ := hev
      refine ⟨y, ?_, by rw [(Prod.mk.inj (Option.some.inj h2)).1]⟩
      unfold asl at *
      split at h1
      · split at h1
        · exact h1
        · split at h1
          · rename_i hs; simp only [if_pos hs, Option.bind_eq_some_iff] at h1 ⊢
            obtain ⟨cs, q1, q2⟩ := h1
            exact ⟨cs, k.some q1, q2⟩
          · cases h1
        · exact h1
        · cases h1
      · exact h1
    case sla n sz x a b =>
      obtain ⟨y, h1, h2⟩ := hev
      refine ⟨y, ?_, by rw [(Prod.mk.inj (Option.some.inj h2)).1]⟩
      unfold asla at *
      split at h1
      · split at h1
        · rename_i hs; simp only [if_pos hs, Option.bind_eq_some_iff] at h1 ⊢
          obtain ⟨cs, q1, q2⟩ := h1
          exact ⟨cs, k.some q1, q2⟩
        · cases h1
      · cases h1

theorem evOper_own {call : CallT} {e : Env} {h h' : H} {o : AOper} {v : AV} (hl : o.op.loud = false) (hb : o.op.births = false) (hev : evOper call o e h = some (v, h')) {G : H} (k : Gw h G) : evOper call o e G = some (v, G) := by
  unfold evOper at *
  split at hev
  · exact evOp_own hl hb hev k
  · split at hev
    · split at hev
      · rename_i q; rw [if_pos q]; exact evOp_own hl hb hev k
      · rename_i q; rw [if_neg q]; rw [(Prod.mk.inj (Option.some.inj hev)).1]
    · rw [(Prod.mk.inj (Option.some.inj hev)).1]
    · cases hev
theorem evOper_any {call : CallT} {e : Env} {h h' : H} {o : AOper} {v : AV} (hl : o.op.loud = false) (hb : o.op.births = false) (hr : o.op.reads = false) (hev : evOper call o e h = some (v, h')) (G : H) : evOper call o e G = some (v, G) := by
  unfold evOper at *
  split at hev
  · exact evOp_any hl hb hr hev G
  · split at hev
    · split at hev
      · rename_i q; rw [if_pos q]; exact evOp_any hl hb hr hev G
      · rename_i q; rw [if_neg q]; rw [(Prod.mk.inj (Option.some.inj hev)).1]
    · rw [(Prod.mk.inj (Option.some.inj hev)).1]
    · cases hev

/-- What an operation that is not loud does to the heap. -/
theorem evOper_gw {call : CallT} {e : Env} {h h' : H} {o : AOper} {v : AV} (hl : o.op.loud = false) (hev : evOper call o e h = some (v, h')) : Gw h h' := by
  have key : ∀ {v h'}, evOp call e h o.op = some (v, h') → Gw h h' := by
    intro v h' hev
    cases hb : o.op.births with
    | false => rw [evOp_quiet hl hb hev]; exact .refl _
    | true => obtain ⟨b, _, _, rfl⟩ := evOp_birth hb hev; exact .alloc _ _
  unfold evOper at hev
  repeat' split at hev
  all_goals first
    | exact key hev
    | (cases hev; done)
    | (obtain ⟨_, rfl⟩ := Prod.mk.inj (Option.some.inj hev); exact .refl _)

/-- What a birth gives: nothing (its guard did not want it), or an object of its own. -/
theorem evOper_birth {call : CallT} {e : Env} {h h' : H} {o : AOper} {v : AV} (hb : o.op.births = true) (hev : evOper call o e h = some (v, h')) :
    (v = .tup [] ∧ h' = h ∧ ∀ G, evOper call o e G = some (.tup [], G)) ∨ ∃ b, birth e o.op = some b ∧ v = b.2 h.next ∧ h' = h.alloc b.1 ∧ v.id? = some h.next ∧ ∀ G, evOper call o e G = evOp call e G o.op := by
  have key : evOp call e h o.op = some (v, h') → (∀ G, evOper call o e G = evOp call e G o.op) → ∃ b, birth e o.op = some b ∧ v = b.2 h.next ∧ h' = h.alloc b.1 ∧ v.id? = some h.next ∧ ∀ G, evOper call o e G = evOp call e G o.op := by
    intro hev hg
    obtain ⟨b, h1, h2, h3⟩ := evOp_birth hb hev
    exact ⟨b, h1, h2, h3, h2 ▸ birth_id h1 _, hg⟩
  unfold evOper at hev
  split at hev
  · rename_i q; exact .inr (key hev fun G => by unfold evOper; rw [q])
  · rename_i g want q
    split at hev
    · rename_i b q2
      split at hev
      · rename_i q3; exact .inr (key hev fun G => by unfold evOper; simp only [q, q2, if_pos q3])
      · rename_i q3
        obtain ⟨rfl, rfl⟩ := Prod.mk.inj (Option.some.inj hev)
        exact .inl ⟨rfl, rfl, fun G => by unfold evOper; simp only [q, q2, if_neg q3]⟩
    · rename_i q2
      obtain ⟨rfl, rfl⟩ := Prod.mk.inj (Option.some.inj hev)
      exact .inl ⟨rfl, rfl, fun G => by unfold evOper; simp only [q, q2]⟩
    · cases hev

/-! ### The trace -/
def nl : List AOper → Nat
  | [] => 0
  | o :: r => (if o.op.loud = true then 1 else 0) + nl r

theorem nl_append (a b : List AOper) : nl (a ++ b) = nl a + nl b := by
  induction a with
  | nil => simp [nl]
  | cons o a ih => simp only [List.cons_append, nl, ih]; omega

theorem nl_take_succ {os : List AOper} {p : Nat} {x : AOper} (hx : os[p]? = some x) : nl (os.take (p + 1)) = nl (os.take p) + (if x.op.loud = true then 1 else 0) := by
  rw [List.take_add_one, hx, nl_append]; simp [nl]

theorem nl_take_le {os : List AOper} {p q : Nat} (h : p ≤ q) : nl (os.take p) ≤ nl (os.take q) := by
  have : os.take q = os.take p ++ (os.take q).drop p := by
    have := (List.take_append_drop p (os.take q)).symm
    rwa [List.take_take, Nat.min_eq_left h] at this
  rw [this, nl_append]; omega

theorem nl_take_all (os : List AOper) (p : Nat) : nl (os.take p) ≤ nl os := by
  conv => rhs; rw [← List.take_append_drop p os]
  rw [nl_append]; omega

/-- Each number below has its loud operation. -/
theorem nl_exists : ∀ (os : List AOper) (p k : Nat), k < nl (os.take p) → ∃ (q : Nat) (x : AOper), q < p ∧ os[q]? = some x ∧ x.op.loud = true ∧ nl (os.take q) = k := by
  intro os p
  induction p with
  | zero => intro k hk; simp [nl] at hk
  | succ p ih =>
    intro k hk
    cases hx : os[p]? with
    | none =>
      have : os.take (p + 1) = os.take p := by rw [List.take_add_one, hx]; simp
      rw [this] at hk
      obtain ⟨q, x, a, b⟩ := ih k hk
      exact ⟨q, x, by omega, b⟩
    | some x =>
      rw [nl_take_succ hx] at hk
      by_cases hk' : k < nl (os.take p)
      · obtain ⟨q, y, a, b⟩ := ih k hk'
        exact ⟨q, y, by omega, b⟩
      · have hl : x.op.loud = true := by
          cases hl : x.op.loud with
          | true => rfl
          | false => rw [if_neg (by simp [hl])] at hk; omega
        rw [if_pos hl] at hk
        exact ⟨p, x, by omega, hx, hl, by omega⟩

theorem evOps_append {call : CallT} : ∀ (a b : List AOper) (e : Env) (h : H), evOps call (a ++ b) e h = (evOps call a e h).bind fun r => evOps call b r.1 r.2
  | [], b, e, h => rfl
  | o :: a, b, e, h => by
    simp only [List.cons_append, evOps]
    cases hv : evOper call o e h with
    | none => rfl
    | some r => simp only [Option.bind_some]; exact evOps_append a b _ _

theorem evOpsD_head {call : CallT} : ∀ {os : List AOper} {e e' : Env} {h h' : H} {gs}, evOpsD call os e h = some (e', h', gs) → ∃ G, gs[0]? = some G ∧ Gw h G
  | [], _, _, h, _, _, hev => by cases hev; exact ⟨h, rfl, .refl _⟩
  | o :: os, _, _, h, _, _, hev => by
    simp only [evOpsD, Option.bind_eq_some_iff] at hev
    obtain ⟨⟨v, h1⟩, hv, ⟨e2, h2, gs'⟩, h4, h5⟩ := hev
    cases hl : o.op.loud with
    | true => simp only [hl, if_true] at h5; cases h5; exact ⟨h, rfl, .refl _⟩
    | false =>
      simp only [hl, Bool.false_eq_true, if_false] at h5
      cases h5
      obtain ⟨G, g1, g2⟩ := evOpsD_head h4
      exact ⟨G, g1, (evOper_gw hl hv).trans g2⟩

theorem evOpsD_last {call : CallT} : ∀ {os : List AOper} {e e' : Env} {h h' : H} {gs}, evOpsD call os e h = some (e', h', gs) → gs[nl os]? = some h'
  | [], _, _, _, _, _, hev => by cases hev; rfl
  | o :: os, _, _, _, _, _, hev => by
    simp only [evOpsD, Option.bind_eq_some_iff] at hev
    obtain ⟨⟨v, h1⟩, hv, ⟨e2, h2, gs'⟩, h4, h5⟩ := hev
    have := evOpsD_last h4
    cases hl : o.op.loud with
    | true => simp only [hl, if_true] at h5; cases h5; simp only [nl, hl, if_true, Nat.add_comm 1, List.getElem?_cons_succ]; exact this
    | false => simp only [hl, Bool.false_eq_true, if_false] at h5; cases h5; simp only [nl, hl, Bool.false_eq_true, if_false, Nat.zero_add]; exact this

/-- What is known of the operation at a place. -/
theorem evOpsD_at {call : CallT} : ∀ {os : List AOper} {e e' : Env} {h h' : H} {gs}, evOpsD call os e h = some (e', h', gs) → ∀ {p : Nat} {x : AOper}, os[p]? = some x → ∃ e1 h1 v h2 G,
    evOps call (os.take p) e h = some (e1, h1) ∧ evOper call x e1 h1 = some (v, h2) ∧ evOps call (os.drop (p + 1)) (putEnv x.dst v e1) h2 = some (e', h') ∧
    gs[nl (os.take p) + (if x.op.loud = true then 1 else 0)]? = some G ∧ Gw h2 G ∧ (x.op.loud = true → gs[nl (os.take p)]? = some h1)
  | [], _, _, _, _, _, _, p, x, hx => by simp at hx
  | o :: os, e, _, h, _, _, hev, p, x, hx => by
    simp only [evOpsD, Option.bind_eq_some_iff] at hev
    obtain ⟨⟨v, h1⟩, hv, ⟨e2, h2, gs'⟩, h4, h5⟩ := hev
    cases p with
    | zero =>
      simp at hx; subst hx
      obtain ⟨G, g1, g2⟩ := evOpsD_head h4
      refine ⟨e, h, v, h1, G, rfl, hv, ?_, ?_, g2, ?_⟩
      · obtain ⟨rfl, h6⟩ := Prod.mk.inj (Option.some.inj h5); obtain ⟨rfl, _⟩ := Prod.mk.inj h6
        exact evOpsD_ops h4
      · cases hl : o.op.loud with
        | true => simp only [hl, if_true] at h5; cases h5; simpa [nl] using g1
        | false => simp only [hl, Bool.false_eq_true, if_false] at h5; cases h5; simpa [nl] using g1
      · intro hl; simp only [hl, if_true] at h5; cases h5; rfl
    | succ p =>
      obtain ⟨e3, h3, u, h6, G, a1, a2, a3, a4, a5, a6⟩ := evOpsD_at h4 (p := p) (x := x) (by simpa using hx)
      refine ⟨e3, h3, u, h6, G, ?_, a2, ?_, ?_, a5, ?_⟩
      · simp only [List.take_succ_cons, evOps, hv, Option.bind_some]; exact a1
      · obtain ⟨rfl, h7⟩ := Prod.mk.inj (Option.some.inj h5); obtain ⟨rfl, _⟩ := Prod.mk.inj h7
        simpa using a3
      · cases hl : o.op.loud with
        | true => simp only [hl, if_true] at h5; cases h5; simp only [List.take_succ_cons, nl, hl, if_true]; rw [Nat.add_assoc, Nat.add_comm 1, List.getElem?_cons_succ]; exact a4
        | false => simp only [hl, Bool.false_eq_true, if_false] at h5; cases h5; simp only [List.take_succ_cons, nl, hl, Bool.false_eq_true, if_false, Nat.zero_add]; exact a4
      · intro hx'
        have a6 := a6 hx'
        cases hl : o.op.loud with
        | true => simp only [hl, if_true] at h5; cases h5; simp only [List.take_succ_cons, nl, hl, if_true]; rw [Nat.add_comm 1, List.getElem?_cons_succ]; exact a6
        | false => simp only [hl, Bool.false_eq_true, if_false] at h5; cases h5; simp only [List.take_succ_cons, nl, hl, Bool.false_eq_true, if_false, Nat.zero_add]; exact a6

def dsts (os : List AOper) : List Nat := os.filterMap (·.dst)

theorem evOps_look {call : CallT} : ∀ {os : List AOper} {e e' : Env} {h h' : H}, evOps call os e h = some (e', h') → ∀ t, t ∉ dsts os → look e' t = look e t
  | [], _, _, _, _, hev, t, _ => by cases hev; rfl
  | o :: os, e, _, _, _, hev, t, ht => by
    simp only [evOps, Option.bind_eq_some_iff] at hev
    obtain ⟨⟨v, h1⟩, hv, h4⟩ := hev
    have hd : o.dst ≠ some t ∧ t ∉ dsts os := by
      unfold dsts at ht ⊢
      rw [List.filterMap_cons] at ht
      cases hd : o.dst with
      | none => rw [hd] at ht; exact ⟨nofun, ht⟩
      | some d => rw [hd] at ht; simp only [List.mem_cons, not_or] at ht; exact ⟨fun q => ht.1 (Option.some.inj q).symm, ht.2⟩
    rw [evOps_look h4 t hd.2]
    cases hd' : o.dst with
    | none => rfl
    | some d =>
      simp only [putEnv, look]
      rw [if_neg (fun q => hd.1 (by rw [hd', q]))]
end Ab

/- Regions that draw their order: whatever the order, what comes out is what the interpreter's one order gives. -/
set_option linter.unusedSimpArgs false
set_option linter.unusedVariables false
namespace Ab
open Go RowKit

/-- An operation in its place: its number, its text, the mask of what must have been carried out ahead of it. -/
structure Z where
  i : Nat
  x : AOper
  m : Nat

def edges (o : Oper) : List Nat := (o.after.toList.filter (Region.binds .any)).map (·.on)

def lookZ : List Z → Nat → Option Nat
  | [], _ => none
  | z :: r, e => if z.i = e then some z.m else lookZ r e

def maskOf (acc : List Z) : List Nat → Option Nat
  | [] => some 0
  | e :: r => (lookZ acc e).bind fun m => (maskOf acc r).bind fun m' => some ((m ||| 2 ^ e) ||| m')

/-- The operations in the given order, each behind what it waits for. -/
def mkZ (L : Lk) (nt : Nat) (ops : Array Oper) : List Nat → List Z → Option (List Z)
  | [], _ => some []
  | i :: r, acc => (ops[i]?).bind fun o => (compOper L nt ops o).bind fun x => (maskOf acc (edges o)).bind fun m => (mkZ L nt ops r (⟨i, x, m⟩ :: acc)).bind fun zs => some (⟨i, x, m⟩ :: zs)

def flOf : List (Nat × List Nat) → Nat → List Nat
  | [], _ => []
  | (q, ks) :: r, p => if q = p then ks else flOf r p

/-- Two operations, the first ahead of the second. -/
def pairOk (fl : List Nat) (z y : Z) : Bool :=
  decide (z.i ≠ y.i) && ((match z.x.dst with | none => true | some d => decide (y.x.dst ≠ some d) && (!(y.x.tm.contains d) || y.m.testBit z.i)) &&
  ((match y.x.dst with | none => true | some d => !(z.x.tm.contains d) || (y.m.testBit z.i && fl.isEmpty)) && (!(z.x.op.loud && y.x.op.loud) || y.m.testBit z.i)))

/-- May `z` be carried out when `j` loud operations have been (the louds from `q` on)? -/
def stageOk (z : Z) (j : Nat) : Nat → List Z → Bool
  | _, [] => true
  | q, y :: r => if y.x.op.loud = true then ((!(z.m.testBit y.i) || decide (q < j)) && (!(y.m.testBit z.i) || decide (j ≤ q))) && stageOk z j (q + 1) r else stageOk z j q r

def oneOk (zs : List Z) (fl : List Nat) (own n : Nat) (z : Z) : Bool :=
  ((match z.x.dst with | none => !z.x.op.births && fl.isEmpty | some d => !(z.x.tm.contains d) || fl.isEmpty)) &&
  (!(z.x.op.births || z.x.op.reads) || (List.range (n + 1)).all fun j => j == own || !stageOk z j 0 zs || fl.contains j)

def zsOk (all : List Z) (fl : List (Nat × List Nat)) (n : Nat) : Nat → Nat → List Z → Bool
  | _, _, [] => true
  | p, own, z :: r => oneOk all (flOf fl p) own n z && (r.all (pairOk (flOf fl p) z) && zsOk all fl n (p + 1) (if z.x.op.loud = true then own + 1 else own) r)

def compD (L : Lk) (nt : Nat) (ops : Array Oper) (ord : List Nat) (fl : List (Nat × List Nat)) : Option (List AOper) :=
  (mkZ L nt ops ord []).bind fun zs =>
  if ord.length = ops.size ∧ (List.range ops.size).all (ord.contains ·) = true ∧ zsOk zs fl (nl (zs.map (·.x))) 0 0 zs = true then some (zs.map (·.x)) else none

/-! ### What the check says -/
theorem mkZ_spec {L : Lk} {nt : Nat} {ops : Array Oper} : ∀ {ord : List Nat} {acc zs : List Z}, mkZ L nt ops ord acc = some zs → zs.map (·.i) = ord ∧ ∀ z ∈ zs, ∃ o, ops[z.i]? = some o ∧ compOper L nt ops o = some z.x
  | [], _, _, h => by obtain rfl := Option.some.inj h; exact ⟨rfl, fun z hz => by simp at hz⟩
  | i :: r, acc, zs, h => by
    simp only [mkZ, Option.bind_eq_some_iff] at h
    obtain ⟨o, h1, x, h2, m, h3, zs', h4, h5⟩ := h
    obtain rfl := Option.some.inj h5
    obtain ⟨g1, g2⟩ := mkZ_spec h4
    refine ⟨by simp [g1], fun z hz => ?_⟩
    rcases List.mem_cons.1 hz with rfl | hz
    · exact ⟨o, h1, h2⟩
    · exact g2 z hz

theorem lookZ_mem : ∀ {acc : List Z} {e m : Nat}, lookZ acc e = some m → ∃ z ∈ acc, z.i = e ∧ z.m = m
  | [], _, _, h => by cases h
  | z :: r, e, m, h => by
    unfold lookZ at h
    split at h
    · rename_i q; exact ⟨z, by simp, q, Option.some.inj h⟩
    · obtain ⟨y, hy, q⟩ := lookZ_mem h; exact ⟨y, by simp [hy], q⟩

theorem maskOf_spec {acc : List Z} : ∀ {es : List Nat} {m : Nat}, maskOf acc es = some m → (∀ e ∈ es, ∃ z ∈ acc, z.i = e) ∧ ∀ k, m.testBit k = true → ∃ e ∈ es, k = e ∨ ∃ z ∈ acc, z.i = e ∧ z.m.testBit k = true
  | [], m, h => by obtain rfl := Option.some.inj h; exact ⟨fun e he => by simp at he, fun k hk => by simp at hk⟩
  | e :: es, m, h => by
    simp only [maskOf, Option.bind_eq_some_iff] at h
    obtain ⟨m1, h1, m2, h2, h3⟩ := h
    obtain rfl := Option.some.inj h3
    obtain ⟨g1, g2⟩ := maskOf_spec h2
    obtain ⟨z, hz, hz1, hz2⟩ := lookZ_mem h1
    refine ⟨fun e' he => ?_, fun k hk => ?_⟩
    · rcases List.mem_cons.1 he with rfl | he
      · exact ⟨z, hz, hz1⟩
      · exact g1 e' he
    · rw [Nat.testBit_or, Nat.testBit_or, Bool.or_eq_true, Bool.or_eq_true] at hk
      rcases hk with (hk | hk) | hk
      · exact ⟨e, List.mem_cons_self, .inr ⟨z, hz, hz1, hz2.symm ▸ hk⟩⟩
      · rw [Nat.testBit_two_pow] at hk
        exact ⟨e, List.mem_cons_self, .inl (of_decide_eq_true hk).symm⟩
      · obtain ⟨e', he', q⟩ := g2 k hk
        exact ⟨e', by simp [he'], q⟩

/-- Closed under what is waited for: then closed under the masks. -/
def Cl (ops : Array Oper) (done : Nat → Prop) : Prop := ∀ i o, ops[i]? = some o → done i → ∀ e ∈ edges o, done e

theorem mkZ_closed {L : Lk} {nt : Nat} {ops : Array Oper} {done : Nat → Prop} (hcl : Cl ops done) : ∀ {ord : List Nat} {acc zs : List Z}, mkZ L nt ops ord acc = some zs →
    (∀ z ∈ acc, done z.i → ∀ k, z.m.testBit k = true → done k) → ∀ z ∈ zs, done z.i → ∀ k, z.m.testBit k = true → done k
  | [], _, _, h, _ => by obtain rfl := Option.some.inj h; intro z hz; simp at hz
  | i :: r, acc, zs, h, ha => by
    simp only [mkZ, Option.bind_eq_some_iff] at h
    obtain ⟨o, h1, x, h2, m, h3, zs', h4, h5⟩ := h
    obtain rfl := Option.some.inj h5
    have hz : ∀ z ∈ ((⟨i, x, m⟩ : Z) :: acc), done z.i → ∀ k, z.m.testBit k = true → done k := by
      intro z hz hd k hk
      rcases List.mem_cons.1 hz with rfl | hz
      · obtain ⟨e, he, q⟩ := (maskOf_spec h3).2 k hk
        have hde := hcl i o h1 hd e he
        rcases q with rfl | ⟨y, hy, hy1, hy2⟩
        · exact hde
        · exact ha y hy (hy1 ▸ hde) k hy2
      · exact ha z hz hd k hk
    intro z hzm
    rcases List.mem_cons.1 hzm with rfl | hzm
    · exact hz _ (by simp)
    · exact mkZ_closed hcl h4 hz z hzm

/-- As long as something is left, something can be carried out. -/
theorem mkZ_ready {L : Lk} {nt : Nat} {ops : Array Oper} {done : Nat → Prop} : ∀ {ord : List Nat} {acc zs : List Z}, mkZ L nt ops ord acc = some zs → (∀ z ∈ acc, done z.i) → (∃ z ∈ zs, ¬ done z.i) → ∃ z ∈ zs, ¬ done z.i ∧ ∃ o, ops[z.i]? = some o ∧ ∀ e ∈ edges o, done e
  | [], _, _, h, _, hx => by obtain rfl := Option.some.inj h; obtain ⟨z, hz, _⟩ := hx; simp at hz
  | i :: r, acc, zs, h, ha, hx => by
    simp only [mkZ, Option.bind_eq_some_iff] at h
    obtain ⟨o, h1, x, h2, m, h3, zs', h4, h5⟩ := h
    obtain rfl := Option.some.inj h5
    by_cases hd : done i
    · obtain ⟨z, hz, hnd⟩ := hx
      have hz' : z ∈ zs' := by
        rcases List.mem_cons.1 hz with rfl | hz
        · exact absurd hd hnd
        · exact hz
      obtain ⟨y, hy, q⟩ := mkZ_ready h4 (fun y hy => by
        rcases List.mem_cons.1 hy with rfl | hy
        · exact hd
        · exact ha y hy) ⟨z, hz', hnd⟩
      exact ⟨y, by simp [hy], q⟩
    · refine ⟨⟨i, x, m⟩, by simp, hd, o, h1, fun e he => ?_⟩
      obtain ⟨z, hz, hze⟩ := (maskOf_spec h3).1 e he
      exact hze ▸ ha z hz

theorem zsOk_spec {all : List Z} {fl : List (Nat × List Nat)} {n : Nat} : ∀ {l : List Z} {p0 own : Nat}, zsOk all fl n p0 own l = true →
    (∀ p z, l[p]? = some z → oneOk all (flOf fl (p0 + p)) (own + nl ((l.take p).map (·.x))) n z = true) ∧ ∀ p q z y, p < q → l[p]? = some z → l[q]? = some y → pairOk (flOf fl (p0 + p)) z y = true
  | [], _, _, _ => ⟨fun p z h => by simp at h, fun p q z y _ h => by simp at h⟩
  | z0 :: l, p0, own, h => by
    simp only [zsOk, Bool.and_eq_true, List.all_eq_true] at h
    obtain ⟨h1, h2, h3⟩ := h
    obtain ⟨g1, g2⟩ := zsOk_spec h3
    refine ⟨fun p z hz => ?_, fun p q z y hpq hz hy => ?_⟩
    · cases p with
      | zero => simp at hz; subst hz; simpa [nl] using h1
      | succ p =>
        have := g1 p z (by simpa using hz)
        rw [show p0 + 1 + p = p0 + (p + 1) by omega] at this
        rw [List.take_succ_cons, List.map_cons, nl]
        cases hl : z0.x.op.loud with
        | true => simp only [hl, if_true] at this ⊢; rw [← Nat.add_assoc own 1]; exact this
        | false => simp only [hl, Bool.false_eq_true, if_false] at this ⊢; rw [Nat.zero_add]; exact this
    · cases q with
      | zero => omega
      | succ q =>
        cases p with
        | zero => simp at hz; subst hz; exact h2 y (List.mem_of_getElem? (by simpa using hy))
        | succ p =>
          have := g2 p q z y (by omega) (by simpa using hz) (by simpa using hy)
          rwa [show p0 + 1 + p = p0 + (p + 1) by omega] at this

theorem stageOk_of {z : Z} {j : Nat} : ∀ {l : List Z} {q : Nat}, (∀ p y, l[p]? = some y → y.x.op.loud = true → (z.m.testBit y.i = true → q + nl ((l.take p).map (·.x)) < j) ∧ (y.m.testBit z.i = true → j ≤ q + nl ((l.take p).map (·.x)))) → stageOk z j q l = true
  | [], _, _ => rfl
  | y :: l, q, h => by
    unfold stageOk
    split
    · rename_i hl
      have h0 := h 0 y rfl hl
      simp only [List.take_zero, List.map_nil, nl, Nat.add_zero] at h0
      rw [Bool.and_eq_true, Bool.and_eq_true, Bool.or_eq_true, Bool.or_eq_true]
      refine ⟨⟨?_, ?_⟩, ?_⟩
      · cases hb : z.m.testBit y.i with
        | false => exact .inl rfl
        | true => exact .inr (decide_eq_true (h0.1 hb))
      · cases hb : y.m.testBit z.i with
        | false => exact .inl rfl
        | true => exact .inr (decide_eq_true (h0.2 hb))
      · exact stageOk_of fun p x hx hxl => by
          have := h (p + 1) x (by simpa using hx) hxl
          rw [List.take_succ_cons, List.map_cons, nl, if_pos hl, ← Nat.add_assoc] at this
          exact this
    · rename_i hl
      exact stageOk_of fun p x hx hxl => by
          have := h (p + 1) x (by simpa using hx) hxl
          rw [List.take_succ_cons, List.map_cons, nl, if_neg hl, Nat.zero_add] at this
          exact this

theorem stables_mem {call : CallT} {ops : List AOper} {e : Env} {gs : List H} : ∀ {fl : List (Nat × List Nat)}, stables call ops e gs fl = true → ∀ p k, k ∈ flOf fl p → stable1 call ops e gs p k = true
  | [], _, p, k, hk => by simp [flOf] at hk
  | (q, ks) :: r, h, p, k, hk => by
    simp only [stables, Bool.and_eq_true, List.all_eq_true] at h
    unfold flOf at hk
    split at hk
    · rename_i e; subst e; exact h.1 k hk
    · exact stables_mem h.2 p k hk

theorem look_append (t : Nat) : ∀ (l : List Nat) (e0 E : Env), look (l.map (fun s => (s, look e0 s)) ++ E) t = if t ∈ l then look e0 t else look E t
  | [], _, _ => by simp
  | s :: l, e0, E => by
    simp only [List.map_cons, List.cons_append, look]
    by_cases hs : s = t
    · subst hs; simp
    · rw [if_neg hs, look_append t l e0 E]
      have : t ∈ s :: l ↔ t ∈ l := by simp [Ne.symm hs]
      by_cases ht : t ∈ l
      · rw [if_pos ht, if_pos (this.2 ht)]
      · rw [if_neg ht, if_neg (fun q => ht (this.1 q))]

def und (zs : List Z) (dn : Nat → Bool) : List Nat := zs.filterMap fun z => if dn z.i then none else z.x.dst
def cut (zs : List Z) (dn : Nat → Bool) (e0 E : Env) : Env := (und zs dn).map (fun s => (s, look e0 s)) ++ E

theorem mem_und {zs : List Z} {dn : Nat → Bool} {t : Nat} : t ∈ und zs dn ↔ ∃ z ∈ zs, dn z.i = false ∧ z.x.dst = some t := by
  unfold und
  rw [List.mem_filterMap]
  constructor
  · rintro ⟨z, hz, h⟩
    split at h
    · cases h
    · rename_i q; exact ⟨z, hz, by simpa using q, h⟩
  · rintro ⟨z, hz, h1, h2⟩
    exact ⟨z, hz, by simp [h1, h2]⟩
end Ab

/- Regions that draw their order: the walk. -/
set_option linter.unusedSimpArgs false
set_option linter.unusedVariables false
namespace Ab
open Go RowKit

section
variable {L : Lk} {w0 : World}

theorem R.gw {ι : Io} {M : Mm} {h G : H} {w : World} (r : R L w0 ι M h w) (k : Gw h G) : R L w0 ι M G w := by
  have g : ∀ id cs l, G.get id = some cs → ι id = some l → h.get id = some cs := fun id cs l a b => by rw [k.get id (r.dom id l b)] at a; exact a
  exact ⟨r.below, fun id l q => Nat.lt_of_lt_of_le (r.dom id l q) k.nx, fun id cs l a b => r.blk id cs l (g _ _ _ a b) b, fun id cs l a b => r.own id cs l (g _ _ _ a b) b, fun id cs l a b => r.val id cs l (g _ _ _ a b) b,
    fun i j cs cs' l l' a b c d => r.disj i j cs cs' l l' (g _ _ _ a c) (g _ _ _ b d) c d, r.imm, fun b o v id cs l m a c => r.immd b o v id cs l m (g _ _ _ a c) c⟩

theorem Gr.gw {h h2 G : H} {ι ι' : Io} {M M' : Mm} (a : Gr h ι M h2 ι' M') (k : Gw h2 G) : Gr h ι M G ι' M' := ⟨Nat.le_trans a.nx k.nx, a.io, a.mm, a.old⟩

theorem oper_cases {ι : Io} {M : Mm} {w : World} {call : CallT} {nt : Nat} {ops : Array Oper} {i : Nat} {o : Oper} {x : AOper} (hi : ops[i]? = some o) (hc : compOper L nt ops o = some x)
    {e : Env} {a : Act} (he : EnvR L ι M e a.tmps) {h h' : H} {v : AV} (hev : evOper call x e h = some (v, h')) {K : Act → World → Prop} {Q : Exit → Act → World → Prop}
    (h1 : cOp L o.op = some x.op → evOp call e h x.op = some (v, h') → o.wp L.P a w K Q) (h2 : v = .tup [] → h' = h → K (a.put o.dst undef) w) : wpOp L.P ops Q i K a w := by
  obtain ⟨hop, hdst, _, hg⟩ := compOper_inv hc
  unfold wpOp
  simp only [hi]
  unfold evOper at hev
  rcases hg with ⟨hg1, hg2⟩ | ⟨j, want, t, hg1, ht, hg2⟩
  · rw [hg2] at hev
    have : Region.wanted o (yielded ops a.tmps) = true := by simp [Region.wanted, hg1]
    rw [if_pos this]
    exact .inl (h1 hop hev)
  · rw [hg2] at hev
    simp only at hev
    split at hev
    · rename_i b hb
      have q1 := he t
      rw [hb] at q1
      have q2 := getD_bool q1.bool_inv
      have hy : yielded ops a.tmps j = some b := by simp [yielded, ht, q2]
      split at hev
      · rename_i hbw
        have : Region.wanted o (yielded ops a.tmps) = true := by simp [Region.wanted, hg1, hy, hbw]
        rw [if_pos this]
        exact .inl (h1 hop hev)
      · rename_i hbw
        have : ¬ Region.wanted o (yielded ops a.tmps) = true := by simp [Region.wanted, hg1, hy, hbw]
        rw [if_neg this]
        obtain ⟨q3, q4⟩ := Prod.mk.inj (Option.some.inj hev)
        exact h2 q3.symm q4.symm
    · rename_i hb
      have q1 := he t
      rw [hb] at q1
      have : ¬ Region.wanted o (yielded ops a.tmps) = true := by simp [Region.wanted, hg1, yielded_undef ht q1]
      rw [if_neg this]
      obtain ⟨q3, q4⟩ := Prod.mk.inj (Option.some.inj hev)
      exact h2 q3.symm q4.symm
    · cases hev

theorem evOper_quiet {call : CallT} {e : Env} {h h' : H} {o : AOper} {v : AV} (hl : o.op.loud = false) (hb : o.op.births = false) (hev : evOper call o e h = some (v, h')) : h' = h := by
  unfold evOper at hev
  split at hev
  · exact evOp_quiet hl hb hev
  · split at hev
    · split at hev
      · exact evOp_quiet hl hb hev
      · exact (Prod.mk.inj (Option.some.inj hev)).2.symm
    · exact (Prod.mk.inj (Option.some.inj hev)).2.symm
    · cases hev

/-- All that is given. -/
structure DH (L : Lk) (nt : Nat) (ops : Array Oper) (call : CallT) (ord : List Nat) (zs : List Z) (fl : List (Nat × List Nat)) (e0 : Env) (h0 : H) (E : Env) (hN : H) (gs : List H) : Prop where
  mz : mkZ L nt ops ord [] = some zs
  len : ord.length = ops.size
  all : ∀ k, k < ops.size → k ∈ ord
  one : ∀ (p : Nat) (z : Z), zs[p]? = some z → oneOk zs (flOf fl p) (nl ((zs.map (·.x)).take p)) (nl (zs.map (·.x))) z = true
  pair : ∀ (p q : Nat) (z y : Z), p < q → zs[p]? = some z → zs[q]? = some y → pairOk (flOf fl p) z y = true
  ev : evOpsD call (zs.map (·.x)) e0 h0 = some (E, hN, gs)
  st : stables call (zs.map (·.x)) E gs fl = true
  nm : NextMono call

variable {nt : Nat} {ops : Array Oper} {call : CallT} {ord : List Nat} {zs : List Z} {fl : List (Nat × List Nat)} {e0 : Env} {h0 : H} {E : Env} {hN : H} {gs : List H}

theorem DH.of {os : List AOper} (hc : compD L nt ops ord fl = some os) (hev : evOpsD call os e0 h0 = some (E, hN, gs)) (hst : stables call os E gs fl = true) (hn : NextMono call) : ∃ zs, os = zs.map (·.x) ∧ DH L nt ops call ord zs fl e0 h0 E hN gs := by
  unfold compD at hc
  simp only [Option.bind_eq_some_iff] at hc
  obtain ⟨zs, h1, h2⟩ := hc
  split at h2
  · rename_i hq
    obtain rfl := Option.some.inj h2
    obtain ⟨q1, q2, q3⟩ := hq
    obtain ⟨g1, g2⟩ := zsOk_spec q3
    refine ⟨zs, rfl, h1, q1, fun k hk => ?_, fun p z hz => ?_, fun p q z y h a b => by simpa using g2 p q z y h a b, hev, hst, hn⟩
    · have := List.all_eq_true.1 q2 k (List.mem_range.2 hk)
      simpa using this
    · have := g1 p z hz
      simpa [List.map_take] using this
  · cases h2

theorem DH.zx (d : DH L nt ops call ord zs fl e0 h0 E hN gs) {p : Nat} {z : Z} (hz : zs[p]? = some z) : (zs.map (·.x))[p]? = some z.x := by simp [hz]

theorem DH.inj (d : DH L nt ops call ord zs fl e0 h0 E hN gs) {p q : Nat} {z y : Z} (hz : zs[p]? = some z) (hy : zs[q]? = some y) (h : z.i = y.i) : p = q := by
  rcases Nat.lt_trichotomy p q with hlt | rfl | hlt
  · have := d.pair p q z y hlt hz hy
    simp [pairOk, h] at this
  · rfl
  · have := d.pair q p y z hlt hy hz
    simp [pairOk, h] at this

theorem DH.dinj (d : DH L nt ops call ord zs fl e0 h0 E hN gs) {p q : Nat} {z y : Z} (hz : zs[p]? = some z) (hy : zs[q]? = some y) {t : Nat} (h1 : z.x.dst = some t) (h2 : y.x.dst = some t) : p = q := by
  rcases Nat.lt_trichotomy p q with hlt | rfl | hlt
  · have := d.pair p q z y hlt hz hy
    simp [pairOk, h1, h2] at this
  · rfl
  · have := d.pair q p y z hlt hy hz
    simp [pairOk, h1, h2] at this

theorem DH.exi (d : DH L nt ops call ord zs fl e0 h0 E hN gs) {i : Nat} (hi : i < ops.size) : ∃ (p : Nat) (z : Z), zs[p]? = some z ∧ z.i = i := by
  have := d.all i hi
  rw [← (mkZ_spec d.mz).1] at this
  obtain ⟨z, hz, rfl⟩ := List.mem_map.1 this
  obtain ⟨p, hp⟩ := List.mem_iff_getElem?.1 hz
  exact ⟨p, z, hp, rfl⟩

theorem DH.take (d : DH L nt ops call ord zs fl e0 h0 E hN gs) {p t : Nat} (h : t ∈ dsts ((zs.map (·.x)).take p)) : ∃ (q : Nat) (y : Z), q < p ∧ zs[q]? = some y ∧ y.x.dst = some t := by
  unfold dsts at h
  obtain ⟨x, hx, hd⟩ := List.mem_filterMap.1 h
  obtain ⟨q, hq⟩ := List.mem_iff_getElem?.1 hx
  rw [List.getElem?_take] at hq
  split at hq
  · rename_i hlt
    rw [List.getElem?_map] at hq
    obtain ⟨y, hy, rfl⟩ := Option.map_eq_some_iff.1 hq
    exact ⟨q, y, hlt, hy, hd⟩
  · cases hq

theorem DH.drop (d : DH L nt ops call ord zs fl e0 h0 E hN gs) {p t : Nat} (h : t ∈ dsts ((zs.map (·.x)).drop p)) : ∃ (q : Nat) (y : Z), p ≤ q ∧ zs[q]? = some y ∧ y.x.dst = some t := by
  unfold dsts at h
  obtain ⟨x, hx, hd⟩ := List.mem_filterMap.1 h
  obtain ⟨q, hq⟩ := List.mem_iff_getElem?.1 hx
  rw [List.getElem?_drop, List.getElem?_map] at hq
  obtain ⟨y, hy, rfl⟩ := Option.map_eq_some_iff.1 hq
  exact ⟨p + q, y, by omega, hy, hd⟩

theorem look_put_ne {d : Option Nat} {v : AV} {e : Env} {t : Nat} (h : d ≠ some t) : look (putEnv d v e) t = look e t := by
  cases d with
  | none => rfl
  | some s => simp only [putEnv, look]; rw [if_neg (fun q => h (by rw [q]))]
theorem look_put_eq {v : AV} {e : Env} {t : Nat} : look (putEnv (some t) v e) t = v := by simp [putEnv, look]

/-- The heaps ahead of the places, one behind the other. -/
theorem DH.pre_le (d : DH L nt ops call ord zs fl e0 h0 E hN gs) {p q : Nat} (hpq : p ≤ q) {e1 e2 : Env} {h1 h2 : H} (a : evOps call ((zs.map (·.x)).take p) e0 h0 = some (e1, h1)) (b : evOps call ((zs.map (·.x)).take q) e0 h0 = some (e2, h2)) : h1.next ≤ h2.next := by
  have : (zs.map (·.x)).take q = (zs.map (·.x)).take p ++ ((zs.map (·.x)).take q).drop p := by
    have := (List.take_append_drop p ((zs.map (·.x)).take q)).symm
    rwa [List.take_take, Nat.min_eq_left hpq] at this
  rw [this, evOps_append, a] at b
  exact evOps_next d.nm b

theorem DH.pre_succ (d : DH L nt ops call ord zs fl e0 h0 E hN gs) {p : Nat} {z : Z} (hz : zs[p]? = some z) {e1 : Env} {h1 h2 : H} {v : AV} (a : evOps call ((zs.map (·.x)).take p) e0 h0 = some (e1, h1)) (b : evOper call z.x e1 h1 = some (v, h2)) : evOps call ((zs.map (·.x)).take (p + 1)) e0 h0 = some (putEnv z.x.dst v e1, h2) := by
  rw [List.take_add_one, d.zx hz, evOps_append, a]
  simp [evOps, b]

structure Inv (L : Lk) (w0 : World) (ops : Array Oper) (call : CallT) (zs : List Z) (e0 : Env) (h0 : H) (E : Env) (gs : List H) (ι0 : Io) (M0 : Mm) (a0 : Act) (listed : Array Bool) (a : Act) (w : World) (ι : Io) (M : Mm) (G : H) (j : Nat) : Prop where
  sz : listed.size = ops.size
  cl : Cl ops (fun i => listed.getD i false = true)
  hG : gs[j]? = some G
  ld : ∀ (p : Nat) (z : Z), zs[p]? = some z → z.x.op.loud = true → (listed.getD z.i false = true ↔ nl ((zs.map (·.x)).take p) < j)
  le : j ≤ nl (zs.map (·.x))
  gr : Gr h0 ι0 M0 G ι M
  r : R L w0 ι M G w
  env : EnvR L ι M (cut zs (fun i => listed.getD i false) e0 E) a.tmps
  asz : a.tmps.size = a0.tmps.size
  adf : a.defers = a0.defers
  bi : ∀ (q : Nat) (y : Z) (eq : Env) (hq : H) (v : AV) (h' : H) (id : Nat), zs[q]? = some y → y.x.op.births = true → listed.getD y.i false = false → evOps call ((zs.map (·.x)).take q) e0 h0 = some (eq, hq) → evOper call y.x eq hq = some (v, h') → v.id? = some id → ι id = none

theorem getD_set {listed : Array Bool} {i k : Nat} (hi : i < listed.size) : (listed.setIfInBounds i true).getD k false = true ↔ k = i ∨ listed.getD k false = true := by
  by_cases h : k = i
  · subst h; simp [hi]
  · rw [getD_set_ne false (fun q => h q.symm)]; simp [h]

/-- What is asked of the next state is the same for all kinds of operations, but for the stage. -/
theorem Inv.next (d : DH L nt ops call ord zs fl e0 h0 E hN gs) {ι0 : Io} {M0 : Mm} {a0 : Act} {listed : Array Bool} {a : Act} {w : World} {ι : Io} {M : Mm} {G : H} {j : Nat} (inv : Inv L w0 ops call zs e0 h0 E gs ι0 M0 a0 listed a w ι M G j) (hnt : nt ≤ a0.tmps.size)
    {p : Nat} {z : Z} (hz : zs[p]? = some z) (hnd : listed.getD z.i false = false) {o : Oper} (hio : ops[z.i]? = some o) (hc : compOper L nt ops o = some z.x) (hed : ∀ e ∈ edges o, listed.getD e false = true)
    {e1 : Env} {h2 : H} {v : AV} (t3 : evOps call ((zs.map (·.x)).drop (p + 1)) (putEnv z.x.dst v e1) h2 = some (E, hN))
    {ι' : Io} {M' : Mm} {G' : H} {j' : Nat} {v' : Value} {w' : World} (hG : gs[j']? = some G')
    (hld : ∀ (q : Nat) (y : Z), zs[q]? = some y → y.x.op.loud = true → (y.i = z.i ∨ listed.getD y.i false = true ↔ nl ((zs.map (·.x)).take q) < j')) (hle : j' ≤ nl (zs.map (·.x))) (hle1 : LeI ι ι') (hle2 : LeM M M') (hgr : Gr h0 ι0 M0 G' ι' M') (hr : R L w0 ι' M' G' w') (hv : V L ι' M' v v')
    (hbi : ∀ (q : Nat) (y : Z) (eq : Env) (hq : H) (u : AV) (h' : H) (id : Nat), zs[q]? = some y → y.x.op.births = true → q ≠ p → listed.getD y.i false = false → evOps call ((zs.map (·.x)).take q) e0 h0 = some (eq, hq) → evOper call y.x eq hq = some (u, h') → u.id? = some id → ι' id = none) :
    Inv L w0 ops call zs e0 h0 E gs ι0 M0 a0 (listed.setIfInBounds z.i true) (a.put o.dst v') w' ι' M' G' j' := by
  obtain ⟨_, hdst, hlt, _⟩ := compOper_inv hc
  have hi : z.i < listed.size := by rw [inv.sz]; exact (Array.getElem?_eq_some_iff.1 hio).1
  have hg : ∀ k, ((listed.setIfInBounds z.i true).getD k false = true ↔ k = z.i ∨ listed.getD k false = true) := fun k => getD_set hi
  refine ⟨by simp [inv.sz], ?_, hG, ?_, hle, hgr, hr, ?_, by rw [put_size]; exact inv.asz, by rw [put_defers]; exact inv.adf, ?_⟩
  · intro k o' hk hd e he
    rw [hg] at hd ⊢
    rcases hd with rfl | hd
    · rw [hio] at hk; obtain rfl := Option.some.inj hk
      exact .inr (hed e he)
    · exact .inr (inv.cl k o' hk hd e he)
  · intro q y hy hl
    rw [hg]; exact hld q y hy hl
  · have key : ∀ t, look (cut zs (fun i => (listed.setIfInBounds z.i true).getD i false) e0 E) t = look (putEnv z.x.dst v (cut zs (fun i => listed.getD i false) e0 E)) t := by
      intro t
      by_cases ht : z.x.dst = some t
      · rw [ht, look_put_eq, cut, look_append]
        rw [if_neg]
        · rw [evOps_look t3 t (fun q => by
            obtain ⟨s, y, hs, hy, hyd⟩ := d.drop q
            have := d.dinj hz hy ht hyd; omega), ht, look_put_eq]
        · intro q
          obtain ⟨y, hy, hyu, hyd⟩ := mem_und.1 q
          obtain ⟨s, hs⟩ := List.mem_iff_getElem?.1 hy
          obtain rfl := d.dinj hz hs ht hyd
          rw [hz] at hs; obtain rfl := Option.some.inj hs
          rw [(hg z.i).2 (.inl rfl)] at hyu; cases hyu
      · rw [look_put_ne ht, cut, cut, look_append, look_append]
        have : t ∈ und zs (fun i => (listed.setIfInBounds z.i true).getD i false) ↔ t ∈ und zs (fun i => listed.getD i false) := by
          rw [mem_und, mem_und]
          constructor
          · rintro ⟨y, hy, hyu, hyd⟩
            refine ⟨y, hy, ?_, hyd⟩
            cases hb : listed.getD y.i false with
            | false => rfl
            | true => rw [(hg y.i).2 (.inr hb)] at hyu; cases hyu
          · rintro ⟨y, hy, hyu, hyd⟩
            refine ⟨y, hy, ?_, hyd⟩
            cases hb : (listed.setIfInBounds z.i true).getD y.i false with
            | false => rfl
            | true =>
              rcases (hg y.i).1 hb with q | q
              · obtain ⟨s, hs⟩ := List.mem_iff_getElem?.1 hy
                obtain rfl := d.inj hs hz q
                rw [hz] at hs; obtain rfl := Option.some.inj hs
                exact absurd hyd ht
              · rw [hyu] at q; cases q
        by_cases hu : t ∈ und zs (fun i => listed.getD i false)
        · rw [if_pos hu, if_pos (this.2 hu)]
        · rw [if_neg hu, if_neg (fun q => hu (this.1 q))]
    intro t
    rw [key t]
    have := (inv.env.mono hle1 hle2).put (a := a) (d := z.x.dst) (v := v) hv (fun s hs => by
      rw [inv.asz]; exact Nat.lt_of_lt_of_le (hlt s (by rw [← hdst]; exact hs)) hnt)
    rw [hdst] at this ⊢
    exact this t
  · intro q y eq hq u h' id hy hb hu hp hev hid
    have hne : q ≠ p := fun e => by
      subst e
      rw [hz] at hy; obtain rfl := Option.some.inj hy
      rw [(hg z.i).2 (.inl rfl)] at hu; cases hu
    refine hbi q y eq hq u h' id hy hb hne ?_ hp hev hid
    cases hb : listed.getD y.i false with
    | false => rfl
    | true => rw [(hg y.i).2 (.inr hb)] at hu; cases hu
end
end Ab

/- Regions that draw their order: one step of the walk, and the region. -/
set_option linter.unusedSimpArgs false
set_option linter.unusedVariables false
namespace Ab
open Go RowKit

section
variable {L : Lk} {w0 : World}
variable {nt : Nat} {ops : Array Oper} {call : CallT} {ord : List Nat} {zs : List Z} {fl : List (Nat × List Nat)} {e0 : Env} {h0 : H} {E : Env} {hN : H} {gs : List H}

theorem DH.masks (d : DH L nt ops call ord zs fl e0 h0 E hN gs) {done : Nat → Prop} (hcl : Cl ops done) {p : Nat} {z : Z} (hz : zs[p]? = some z) (hd : done z.i) {k : Nat} (hk : z.m.testBit k = true) : done k :=
  mkZ_closed hcl d.mz (fun z hz => by simp at hz) z (List.mem_of_getElem? hz) hd k hk

theorem pair_loud {f : List Nat} {z y : Z} (h : pairOk f z y = true) (h1 : z.x.op.loud = true) (h2 : y.x.op.loud = true) : y.m.testBit z.i = true := by
  simp only [pairOk, Bool.and_eq_true, h1, h2, Bool.not_true, Bool.false_or, Bool.true_and] at h
  exact h.2.2.2
theorem pair_fwd {f : List Nat} {z y : Z} (h : pairOk f z y = true) {t : Nat} (h1 : z.x.dst = some t) (h2 : t ∈ y.x.tm) : y.m.testBit z.i = true := by
  simp only [pairOk, Bool.and_eq_true, h1, Bool.or_eq_true, Bool.not_eq_true'] at h
  rcases h.2.1.2 with q | q
  · rw [List.contains_iff_mem.2 h2] at q; cases q
  · exact q
theorem pair_bwd {f : List Nat} {z y : Z} (h : pairOk f z y = true) {t : Nat} (h1 : y.x.dst = some t) (h2 : t ∈ z.x.tm) : y.m.testBit z.i = true ∧ f = [] := by
  simp only [pairOk, Bool.and_eq_true, h1, Bool.or_eq_true, Bool.not_eq_true'] at h
  rcases h.2.2.1 with q | q
  · rw [List.contains_iff_mem.2 h2] at q; cases q
  · exact ⟨q.1, by simpa using q.2⟩
theorem one_self {l : List Z} {f : List Nat} {own n : Nat} {z : Z} (h : oneOk l f own n z = true) {t : Nat} (h1 : z.x.dst = some t) (h2 : t ∈ z.x.tm) : f = [] := by
  simp only [oneOk, Bool.and_eq_true, h1, Bool.or_eq_true, Bool.not_eq_true'] at h
  rcases h.1 with q | q
  · rw [List.contains_iff_mem.2 h2] at q; cases q
  · simpa using q
theorem one_dst {l : List Z} {f : List Nat} {own n : Nat} {z : Z} (h : oneOk l f own n z = true) (hf : f ≠ []) : ∃ t, z.x.dst = some t := by
  simp only [oneOk, Bool.and_eq_true] at h
  cases hd : z.x.dst with
  | some t => exact ⟨t, rfl⟩
  | none => rw [hd] at h; simp at h; exact absurd h.1.2 hf
theorem one_stage {l : List Z} {f : List Nat} {own n : Nat} {z : Z} (h : oneOk l f own n z = true) (hb : z.x.op.births = true ∨ z.x.op.reads = true) {j : Nat} (hj : j ≤ n) (hs : stageOk z j 0 l = true) : j = own ∨ j ∈ f := by
  simp only [oneOk, Bool.and_eq_true, Bool.or_eq_true, Bool.not_eq_true', List.all_eq_true, List.mem_range] at h
  have h2 := h.2.resolve_left (by rcases hb with q | q <;> simp [q])
  rcases h2 j (by omega) with (q | q) | q
  · exact .inl (by simpa using q)
  · rw [hs] at q; cases q
  · exact .inr (by simpa using q)

/-- What an operation sees is the same when the interpreter comes to it as when the walk does. -/
theorem DH.sees (d : DH L nt ops call ord zs fl e0 h0 E hN gs) {dn : Nat → Bool} {p : Nat} {z : Z} (hz : zs[p]? = some z) (hnd : dn z.i = false)
    (anc : ∀ (q : Nat) (y : Z), zs[q]? = some y → z.m.testBit y.i = true → y.i ≠ z.i → dn y.i = true) (desc : ∀ (q : Nat) (y : Z), zs[q]? = some y → y.m.testBit z.i = true → dn y.i = false)
    {e1 : Env} {h1 h2 : H} {v : AV} (t1 : evOps call ((zs.map (·.x)).take p) e0 h0 = some (e1, h1)) (t3 : evOps call ((zs.map (·.x)).drop (p + 1)) (putEnv z.x.dst v e1) h2 = some (E, hN)) :
    Agree e1 (cut zs dn e0 E) z.x.tm ∧ (flOf fl p ≠ [] → Agree e1 E z.x.tm) := by
  have main : ∀ t ∈ z.x.tm, look e1 t = look (cut zs dn e0 E) t ∧ (flOf fl p ≠ [] → look e1 t = look E t) := by
    intro t ht
    rw [cut, look_append]
    by_cases hu : ∃ (q : Nat) (y : Z), zs[q]? = some y ∧ y.x.dst = some t
    · obtain ⟨q, y, hy, hyd⟩ := hu
      have uniq : ∀ (s : Nat) (u : Z), zs[s]? = some u → u.x.dst = some t → s = q := fun s u hs hd => d.dinj hs hy hd hyd
      rcases Nat.lt_trichotomy q p with hlt | rfl | hlt
      · have hm := pair_fwd (d.pair q p y z hlt hy hz) hyd ht
        have hne : y.i ≠ z.i := fun e => by have := d.inj hy hz e; omega
        have hdy := anc q y hy hm hne
        have hE : look E t = look e1 t := by
          rw [evOps_look t3 t (fun m => by obtain ⟨s, u, a, b, c⟩ := d.drop m; have := uniq s u b c; omega)]
          exact look_put_ne fun e => by have := uniq p z hz e; omega
        rw [if_neg]
        · exact ⟨hE.symm, fun _ => hE.symm⟩
        · intro m
          obtain ⟨u, hu1, hu2, hu3⟩ := mem_und.1 m
          obtain ⟨s, hs⟩ := List.mem_iff_getElem?.1 hu1
          have := uniq s u hs hu3; subst this
          rw [hy] at hs; obtain rfl := Option.some.inj hs
          rw [hdy] at hu2; cases hu2
      · rw [hz] at hy; obtain rfl := Option.some.inj hy
        have hf := one_self (d.one q z hz) hyd ht
        rw [if_pos (mem_und.2 ⟨z, List.mem_of_getElem? hz, hnd, hyd⟩)]
        exact ⟨evOps_look t1 t fun m => by obtain ⟨s, u, a, b, c⟩ := d.take m; have := uniq s u b c; omega, fun q => absurd hf q⟩
      · obtain ⟨hm, hf⟩ := pair_bwd (d.pair p q z y hlt hz hy) hyd ht
        have hdy := desc q y hy hm
        rw [if_pos (mem_und.2 ⟨y, List.mem_of_getElem? hy, hdy, hyd⟩)]
        exact ⟨evOps_look t1 t fun m => by obtain ⟨s, u, a, b, c⟩ := d.take m; have := uniq s u b c; omega, fun q => absurd hf q⟩
    · have hE : look E t = look e1 t := by
        rw [evOps_look t3 t (fun m => by obtain ⟨s, u, a, b, c⟩ := d.drop m; exact hu ⟨s, u, b, c⟩)]
        exact look_put_ne fun e => hu ⟨p, z, hz, e⟩
      rw [if_neg]
      · exact ⟨hE.symm, fun _ => hE.symm⟩
      · intro m
        obtain ⟨u, hu1, hu2, hu3⟩ := mem_und.1 m
        obtain ⟨s, hs⟩ := List.mem_iff_getElem?.1 hu1
        exact hu ⟨s, u, hs, hu3⟩
  exact ⟨fun t ht => (main t ht).1, fun hf t ht => (main t ht).2 hf⟩

set_option maxHeartbeats 1000000 in
theorem Inv.step (hcal : Callee L w0 call) (hbod : Bodies L) (d : DH L nt ops call ord zs fl e0 h0 E hN gs) {ι0 : Io} {M0 : Mm} {a0 : Act} {listed : Array Bool} {a : Act} {w : World} {ι : Io} {M : Mm} {G : H} {j : Nat}
    (inv : Inv L w0 ops call zs e0 h0 E gs ι0 M0 a0 listed a w ι M G j) (hnt : nt ≤ a0.tmps.size) {i : Nat} (hi : i ∈ Region.ready .any ops listed) {Q : Exit → Act → World → Prop} {K : Act → World → Prop}
    (hK : ∀ a' w' ι' M' G' j', Inv L w0 ops call zs e0 h0 E gs ι0 M0 a0 (listed.setIfInBounds i true) a' w' ι' M' G' j' → K a' w') : wpOp L.P ops Q i K a w := by
  obtain ⟨hun, o, hio, hed'⟩ := mem_ready.1 hi
  have hin : i < ops.size := (Array.getElem?_eq_some_iff.1 hio).1
  have hnd : listed.getD i false = false := by
    rw [Array.getD_eq_getD_getElem?] at hun ⊢
    rw [Array.getElem?_eq_getElem (by rw [inv.sz]; exact hin)] at hun ⊢
    exact hun
  have hed : ∀ e ∈ edges o, listed.getD e false = true := by
    intro e he
    unfold edges at he
    obtain ⟨x, hx, rfl⟩ := List.mem_map.1 he
    obtain ⟨hx1, hx2⟩ := List.mem_filter.1 hx
    exact hed' x (by simpa using hx1) hx2
  obtain ⟨p, z, hz, rfl⟩ := d.exi hin
  obtain ⟨o', ho', hc⟩ := (mkZ_spec d.mz).2 z (List.mem_of_getElem? hz)
  rw [hio] at ho'; obtain rfl := Option.some.inj ho'
  obtain ⟨e1, h1, v, h2, G1, t1, t2, t3, t4, t5, t6⟩ := evOpsD_at d.ev (d.zx hz)
  -- what stands ahead, what waits
  have hcl' : Cl ops (fun k => k = z.i ∨ listed.getD k false = true) := by
    intro k o2 hk hd e he
    rcases hd with rfl | hd
    · rw [hio] at hk; obtain rfl := Option.some.inj hk; exact .inr (hed e he)
    · exact .inr (inv.cl k o2 hk hd e he)
  have anc : ∀ (q : Nat) (y : Z), zs[q]? = some y → z.m.testBit y.i = true → y.i ≠ z.i → listed.getD y.i false = true := fun q y hy hm hne =>
    (d.masks hcl' hz (.inl rfl) hm).resolve_left hne
  have desc : ∀ (q : Nat) (y : Z), zs[q]? = some y → y.m.testBit z.i = true → listed.getD y.i false = false := fun q y hy hm => by
    cases hb : listed.getD y.i false with
    | false => rfl
    | true => have : listed.getD z.i false = true := d.masks inv.cl hy hb hm; rw [hnd] at this; cases this
  obtain ⟨ag, agE⟩ := d.sees (dn := fun k => listed.getD k false) hz hnd anc desc t1 t3
  have hev : evOper call z.x (cut zs (fun i => listed.getD i false) e0 E) h1 = some (v, h2) := by rw [← evOper_agree ag]; exact t2
  have hlt1 : ∀ (q : Nat) (y : Z), zs[q]? = some y → y.x.op.loud = true → q < p → z.x.op.loud = true → nl ((zs.map (·.x)).take q) < nl ((zs.map (·.x)).take p) := fun q y hy hl hq _ => by
    have := nl_take_succ (d.zx hy); rw [if_pos hl] at this
    have := nl_take_le (os := zs.map (·.x)) (Nat.succ_le_of_lt hq)
    simp only [Nat.succ_eq_add_one] at this; omega
  -- the objects not made yet stay so
  have hbi0 : ∀ (ι' : Io), (∀ id l, id < G.next → ι' id = some l → ι id = some l) → (∀ id l, ι' id = some l → id < G.next) →
      ∀ (q : Nat) (y : Z) (eq : Env) (hq : H) (u : AV) (h' : H) (id : Nat), zs[q]? = some y → y.x.op.births = true → q ≠ p → listed.getD y.i false = false → evOps call ((zs.map (·.x)).take q) e0 h0 = some (eq, hq) → evOper call y.x eq hq = some (u, h') → u.id? = some id → ι' id = none := by
    intro ι' hold hdom q y eq hq u h' id hy hb hne hu hp hev' hid
    cases hc : ι' id with
    | none => rfl
    | some l =>
      have := hold id l (hdom id l hc) hc
      rw [inv.bi q y eq hq u h' id hy hb hu hp hev' hid] at this; cases this
  have hld0 : z.x.op.loud = false → ∀ (q : Nat) (y : Z), zs[q]? = some y → y.x.op.loud = true → (y.i = z.i ∨ listed.getD y.i false = true ↔ nl ((zs.map (·.x)).take q) < j) := by
    intro hzl q y hy hl
    rw [← inv.ld q y hy hl]
    constructor
    · rintro (e | e)
      · have := d.inj hy hz e; subst this
        rw [hz] at hy; obtain rfl := Option.some.inj hy
        rw [hzl] at hl; cases hl
      · exact e
    · exact .inr
  -- a quiet operation at this stage
  have quiet : z.x.op.loud = false → evOper call z.x (cut zs (fun i => listed.getD i false) e0 E) G = some (v, G) → wpOp L.P ops Q z.i K a w := by
    intro hzl hq
    refine oper_step hcal hbod hio hc inv.env inv.r hq fun v' w' hout => ?_
    obtain ⟨ι', M', a1, a2, a3, r', hv'⟩ := hout
    exact hK _ _ _ _ _ _ (inv.next d hnt hz hnd hio hc hed t3 inv.hG (hld0 hzl) inv.le a1 a2 (inv.gr.trans ⟨Nat.le_refl _, a1, a2, a3⟩) r' hv' (hbi0 ι' a3 r'.dom))
  by_cases hzl : z.x.op.loud = true
  · -- loud
    have hjp : nl ((zs.map (·.x)).take p) = j := by
      have g1 : j ≤ nl ((zs.map (·.x)).take p) := by
        have := inv.ld p z hz hzl
        rcases Nat.lt_or_ge (nl ((zs.map (·.x)).take p)) j with q | q
        · rw [this.2 q] at hnd; cases hnd
        · exact q
      rcases Nat.lt_or_ge j (nl ((zs.map (·.x)).take p)) with q | q
      · obtain ⟨s, x, hs, hx, hxl, hxn⟩ := nl_exists _ _ _ q
        rw [List.getElem?_map] at hx
        obtain ⟨y, hy, rfl⟩ := Option.map_eq_some_iff.1 hx
        have hm := pair_loud (d.pair s p y z hs hy hz) hxl hzl
        have hne : y.i ≠ z.i := fun e => by have := d.inj hy hz e; omega
        have := (inv.ld s y hy hxl).1 (anc s y hy hm hne)
        omega
      · omega
    have hGe : G = h1 := by have := t6 hzl; rw [hjp, inv.hG] at this; exact Option.some.inj this
    subst hGe
    rw [if_pos hzl, hjp] at t4
    refine oper_step hcal hbod hio hc inv.env inv.r hev fun v' w' hout => ?_
    obtain ⟨ι', M', a1, a2, a3, r', hv'⟩ := hout
    have hgr : Gr G ι M h2 ι' M' := ⟨evOper_next d.nm t2, a1, a2, a3⟩
    refine hK _ _ _ _ _ _ (inv.next d hnt hz hnd hio hc hed t3 t4 ?_ ?_ a1 a2 (inv.gr.trans (hgr.gw t5)) (r'.gw t5) hv' ?_)
    · intro q y hy hl
      rcases Nat.lt_trichotomy q p with hlt | rfl | hlt
      · have h3 := hlt1 q y hy hl hlt hzl
        have h4 := (inv.ld q y hy hl).2 (by omega)
        exact ⟨fun _ => by omega, fun _ => .inr h4⟩
      · rw [hz] at hy; obtain rfl := Option.some.inj hy
        exact ⟨fun _ => by omega, fun _ => .inl rfl⟩
      · have h3 := nl_take_succ (d.zx hz); rw [if_pos hzl] at h3
        have h4 := nl_take_le (os := zs.map (·.x)) (Nat.succ_le_of_lt hlt)
        simp only [Nat.succ_eq_add_one] at h4
        constructor
        · rintro (e | e)
          · have := d.inj hy hz e; omega
          · have := (inv.ld q y hy hl).1 e; omega
        · intro h5; omega
    · have h3 := nl_take_succ (d.zx hz); rw [if_pos hzl] at h3
      have := nl_take_all (zs.map (·.x)) (p + 1); omega
    · intro q y eq hq u h' id hy hb hne hu hp hev' hid
      cases hcc : ι' id with
      | none => rfl
      | some l =>
        rcases evOper_birth hb hev' with ⟨rfl, _, _⟩ | ⟨b, _, _, rfl, hid', _⟩
        · cases hid
        · rw [hid] at hid'; obtain rfl := Option.some.inj hid'
          rcases Nat.lt_or_gt_of_ne hne with hlt | hlt
          · have h3 := d.pre_le (Nat.succ_le_of_lt hlt) (d.pre_succ hy hp hev') t1
            simp only [alloc_next] at h3
            have := a3 _ l (by omega) hcc
            rw [inv.bi q y eq hq u _ _ hy hb hu hp hev' hid] at this; cases this
          · have h3 := d.pre_le (Nat.succ_le_of_lt hlt) (d.pre_succ hz t1 t2) hp
            have := r'.dom _ l hcc
            omega
  · have hzl' : z.x.op.loud = false := by simpa using hzl
    rw [if_neg hzl, Nat.add_zero] at t4
    have stage : z.x.op.births = true ∨ z.x.op.reads = true → j = nl ((zs.map (·.x)).take p) ∨ j ∈ flOf fl p := by
      intro hbr
      refine one_stage (d.one p z hz) hbr inv.le (stageOk_of fun q y hy hl => ?_)
      have hne : y.i ≠ z.i := fun e => by
        have := d.inj hy hz e; subst this
        rw [hz] at hy; obtain rfl := Option.some.inj hy
        rw [hzl'] at hl; cases hl
      rw [Nat.zero_add, List.map_take]
      refine ⟨fun hm => (inv.ld q y hy hl).1 (anc q y hy hm hne), fun hm => ?_⟩
      rcases Nat.lt_or_ge (nl ((zs.map (·.x)).take q)) j with h3 | h3
      · have := (inv.ld q y hy hl).2 h3; rw [desc q y hy hm] at this; cases this
      · exact h3
    -- what floats, at another stage
    have stable : j ∈ flOf fl p → ∃ t, z.x.dst = some t ∧ look E t = v ∧ stable1 call (zs.map (·.x)) E gs p j = true := by
      intro hj
      obtain ⟨t, ht⟩ := one_dst (d.one p z hz) (fun q => by rw [q] at hj; simp at hj)
      refine ⟨t, ht, ?_, stables_mem d.st p j hj⟩
      rw [evOps_look t3 t (fun m => by obtain ⟨s, u, a, b, c⟩ := d.drop m; have := d.dinj hz b ht c; omega), ht, look_put_eq]
    cases hzb : z.x.op.births with
    | false =>
      refine quiet hzl' ?_
      cases hzr : z.x.op.reads with
      | false => exact evOper_any hzl' hzb hzr hev G
      | true =>
        rcases stage (.inr hzr) with hj | hj
        · rw [← hj, inv.hG] at t4; obtain rfl := Option.some.inj t4
          obtain rfl := evOper_quiet hzl' hzb t2
          exact evOper_own hzl' hzb hev t5
        · obtain ⟨t, ht, hE, hst⟩ := stable hj
          have hagE := agE (fun q => by rw [q] at hj; simp at hj)
          simp only [stable1, d.zx hz, inv.hG, hzb, Bool.false_eq_true, if_false, ht, Option.map_some, hE] at hst
          split at hst
          · rename_i u g' hu
            have := beq_eq hst; subst this
            obtain rfl := evOper_quiet hzl' hzb hu
            rw [← evOper_agree ag, evOper_agree hagE]; exact hu
          · cases hst
    | true =>
      rcases evOper_birth hzb hev with ⟨rfl, rfl, hskip⟩ | ⟨b, hb1, rfl, rfl, hid, _⟩
      · exact quiet hzl' (hskip G)
      · have hget : G.get h1.next = some b.1 := by
          rcases stage (.inl hzb) with hj | hj
          · rw [← hj, inv.hG] at t4; obtain rfl := Option.some.inj t4
            exact t5.some (by simp [H.get_alloc])
          · obtain ⟨t, ht, hE, hst⟩ := stable hj
            have hagE := agE (fun q => by rw [q] at hj; simp at hj)
            have hbE : birth E z.x.op = some b := by
              rw [← hb1, ← birth_agree (e := e1) fun t ht => hagE t (List.mem_append_right _ ht), birth_agree fun t ht => ag t (List.mem_append_right _ ht)]
            simp only [stable1, d.zx hz, inv.hG, hzb, if_true, ht, Option.map_some, hE, hbE, hid] at hst
            split at hst
            · rename_i q; have := Option.some.inj q; rw [this] at hid; cases hid
            · rename_i q; obtain rfl := Option.some.inj q
              simp only [hid] at hst
              split at hst
              · rename_i cs hcs; rw [hcs, beqs_eq hst]
              · cases hst
            · cases hst
        have hnone : ι h1.next = none := inv.bi p z e1 h1 _ _ _ hz hzb hnd t1 t2 hid
        refine oper_cases hio hc inv.env hev (fun hop _ => ?_) (fun q _ => by rw [q] at hid; cases hid)
        obtain ⟨v', w', g1, hm⟩ := birth_sound inv.env hop (cs := b.1) (mk := b.2) hb1
        refine oper_value g1 ?_
        obtain ⟨dr, arr, ty, fz, rfl, hfz, hlen, hval, hv⟩ := hm.ex
        have rn := (inv.r.drew dr).newf (id := h1.next) hnone (cs := b.1) (arr := arr) (t := ty) (fz := fz) (h' := G) hfz (Nat.le_refl _) (G.lt _ _ hget)
          (fun i c q => by
            by_cases e : i = h1.next
            · subst e; rw [hget] at q; exact .inl ⟨rfl, (Option.some.inj q).symm⟩
            · exact .inr ⟨e, q⟩) hlen hval
        refine hK _ _ _ _ _ _ (inv.next d hnt hz hnd hio hc hed t3 inv.hG (hld0 hzl') inv.le (Io.le_put _ hnone) (fun _ _ _ q => q) ⟨inv.gr.nx, fun _ _ q => Io.le_put _ hnone _ _ (inv.gr.io _ _ q), inv.gr.mm, ?_⟩ rn (hv _ _ (by simp [Io.put])) ?_)
        · intro id l hid' q
          refine inv.gr.old id l hid' ?_
          have := d.pre_le (Nat.zero_le p) (e1 := e0) (h1 := h0) rfl t1
          simp only [Io.put] at q
          rwa [if_neg (by omega)] at q
        · intro q y eq hq u h' id hy hb hne hu hp hev' hid2
          have h3 := inv.bi q y eq hq u h' id hy hb hu hp hev' hid2
          simp only [Io.put]
          rw [if_neg]
          · exact h3
          · rintro rfl
            rcases evOper_birth hb hev' with ⟨rfl, _, _⟩ | ⟨b', _, _, rfl, hid', _⟩
            · cases hid2
            · rw [hid2] at hid'
              have hid' := Option.some.inj hid'
              rcases Nat.lt_or_gt_of_ne hne with hlt | hlt
              · have h4 := d.pre_le (Nat.succ_le_of_lt hlt) (d.pre_succ hy hp hev') t1
                simp only [alloc_next] at h4; omega
              · have h4 := d.pre_le (Nat.succ_le_of_lt hlt) (d.pre_succ hz t1 t2) hp
                simp only [alloc_next] at h4; omega
end
end Ab

/- Code: what the interpreter gives, the model's code comes to. -/
set_option linter.unusedSimpArgs false
set_option linter.unusedVariables false
namespace Ab
open Go RowKit

theorem countP_lt {α : Type} {p q : α → Bool} : ∀ {l : List α}, (∀ x ∈ l, q x = true → p x = true) → ∀ {x : α}, x ∈ l → p x = true → q x = false → l.countP q < l.countP p
  | [], _, x, hx, _, _ => by simp at hx
  | y :: l, h, x, hx, hp, hq => by
    have hle : l.countP q ≤ l.countP p := List.countP_mono_left fun z hz => h z (by simp [hz])
    rw [List.countP_cons, List.countP_cons]
    rcases List.mem_cons.1 hx with rfl | hx
    · rw [hp, hq]; simp; omega
    · have := countP_lt (fun z hz => h z (by simp [hz])) hx hp hq
      have h2 := h y (by simp)
      cases hqy : q y with
      | false => simp; omega
      | true => rw [h2 hqy]; simp; omega

section
variable {L : Lk} {w0 : World}
variable {nt : Nat} {ops : Array Oper} {call : CallT} {ord : List Nat} {zs : List Z} {fl : List (Nat × List Nat)} {e0 : Env} {h0 : H} {E : Env} {hN : H} {gs : List H}

theorem Inv.fin (d : DH L nt ops call ord zs fl e0 h0 E hN gs) {ι0 : Io} {M0 : Mm} {a0 : Act} {listed : Array Bool} {a : Act} {w : World} {ι : Io} {M : Mm} {G : H} {j : Nat}
    (inv : Inv L w0 ops call zs e0 h0 E gs ι0 M0 a0 listed a w ι M G j) (hall : ∀ z ∈ zs, listed.getD z.i false = true) : G = hN ∧ EnvR L ι M E a.tmps := by
  have hj : j = nl (zs.map (·.x)) := by
    rcases Nat.lt_or_ge j (nl (zs.map (·.x))) with h | h
    · obtain ⟨q, x, _, hx, hl, hn⟩ := nl_exists (zs.map (·.x)) (zs.map (·.x)).length j (by rw [List.take_length]; exact h)
      rw [List.getElem?_map] at hx
      obtain ⟨y, hy, rfl⟩ := Option.map_eq_some_iff.1 hx
      have := (inv.ld q y hy hl).1 (hall y (List.mem_of_getElem? hy))
      omega
    · have := inv.le; omega
  have hG := inv.hG
  rw [hj, evOpsD_last d.ev] at hG
  refine ⟨(Option.some.inj hG).symm, fun t => ?_⟩
  have := inv.env t
  rw [cut, look_append, if_neg] at this
  · exact this
  · intro m
    obtain ⟨z, hz, hu, _⟩ := mem_und.1 m
    simp only [hall z hz] at hu; cases hu

theorem Inv.any (hcal : Callee L w0 call) (hbod : Bodies L) (d : DH L nt ops call ord zs fl e0 h0 E hN gs) {ι0 : Io} {M0 : Mm} {a0 : Act} (hnt : nt ≤ a0.tmps.size) {Q : Exit → Act → World → Prop}
    (hQ : ∀ ι' M' a' w', Gr h0 ι0 M0 hN ι' M' → R L w0 ι' M' hN w' → EnvR L ι' M' E a'.tmps → a'.tmps.size = a0.tmps.size → a'.defers = a0.defers → Q .normal a' w') :
    ∀ (fuel : Nat) {listed : Array Bool} {a : Act} {w : World} {ι : Io} {M : Mm} {G : H} {j : Nat}, Inv L w0 ops call zs e0 h0 E gs ι0 M0 a0 listed a w ι M G j → (zs.countP fun z => !listed.getD z.i false) ≤ fuel → wpAny L.P .any ops Q fuel listed a w := by
  intro fuel
  have fin : ∀ {listed : Array Bool} {a : Act} {w : World} {ι : Io} {M : Mm} {G : H} {j : Nat}, Inv L w0 ops call zs e0 h0 E gs ι0 M0 a0 listed a w ι M G j → (∀ z ∈ zs, listed.getD z.i false = true) → Q .normal a w := by
    intro listed a w ι M G j inv hall
    obtain ⟨rfl, he⟩ := inv.fin d hall
    exact hQ _ _ _ _ inv.gr inv.r he inv.asz inv.adf
  have mem : ∀ {listed : Array Bool}, ∀ i ∈ Region.ready .any ops listed, ∃ z ∈ zs, z.i = i ∧ listed.getD z.i true = false := by
    intro listed i hi
    obtain ⟨hu, o, ho, _⟩ := mem_ready.1 hi
    obtain ⟨p, z, hz, rfl⟩ := d.exi (Array.getElem?_eq_some_iff.1 ho).1
    exact ⟨z, List.mem_of_getElem? hz, rfl, hu⟩
  have tf : ∀ {listed : Array Bool} {i : Nat}, listed.getD i true = false → listed.getD i false = false := by
    intro listed i h
    rw [Array.getD_eq_getD_getElem?] at h ⊢
    cases hg : listed[i]? with
    | none => rfl
    | some b => rw [hg] at h; exact h
  induction fuel with
  | zero =>
    intro listed a w ι M G j inv hc
    have hall : ∀ z ∈ zs, listed.getD z.i false = true := by
      intro z hz
      have := List.countP_eq_zero.1 (Nat.le_zero.1 hc) z hz
      simpa using this
    refine ⟨?_, fin inv hall⟩
    cases hr : Region.ready .any ops listed with
    | nil => rfl
    | cons i l =>
      obtain ⟨z, hz, rfl, hu⟩ := mem i (by rw [hr]; simp)
      have := tf hu; rw [hall z hz] at this; cases this
  | succ fuel ih =>
    intro listed a w ι M G j inv hc
    refine ⟨fun hr => ?_, fun i hi => ?_⟩
    · by_cases hall : ∀ z ∈ zs, listed.getD z.i false = true
      · exact fin inv hall
      · have : ∃ z ∈ zs, ¬ listed.getD z.i false = true := by
          by_cases hx : ∃ z ∈ zs, ¬ listed.getD z.i false = true
          · exact hx
          · exact absurd (fun z hz => by
              cases hb : listed.getD z.i false with
              | true => rfl
              | false => exact absurd ⟨z, hz, by simp [hb]⟩ hx) hall
        obtain ⟨z, hz, hnd, o, ho, hed⟩ := mkZ_ready (done := fun i => listed.getD i false = true) d.mz (fun z hz => by simp at hz) this
        have : z.i ∈ Region.ready .any ops listed := by
          refine mem_ready.2 ⟨?_, o, ho, fun e he hb => hed e.on (List.mem_map.2 ⟨e, List.mem_filter.2 ⟨by simpa using he, hb⟩, rfl⟩)⟩
          have hlt : z.i < listed.size := by rw [inv.sz]; exact (Array.getElem?_eq_some_iff.1 ho).1
          simp only [Bool.not_eq_true] at hnd
          rw [Array.getD_eq_getD_getElem?, Array.getElem?_eq_getElem hlt] at hnd ⊢
          exact hnd
        rw [hr] at this; cases this
    · refine inv.step hcal hbod d hnt hi fun a' w' ι' M' G' j' inv' => ih inv' ?_
      obtain ⟨z, hz, rfl, hu⟩ := mem i hi
      have hlt : z.i < listed.size := by
        obtain ⟨_, o, ho, _⟩ := mem_ready.1 hi
        rw [inv.sz]; exact (Array.getElem?_eq_some_iff.1 ho).1
      have := countP_lt (l := zs) (p := fun z => !listed.getD z.i false) (q := fun y => !(listed.setIfInBounds z.i true).getD y.i false) (fun y hy hq => by
        cases hb : listed.getD y.i false with
        | false => rfl
        | true => rw [(getD_set hlt).2 (.inr hb)] at hq; cases hq) hz (by simp only [tf hu]; rfl) (by simp only [(getD_set hlt).2 (.inl rfl)]; rfl)
      omega

theorem dregion_wp (hm : L.P.follows .mixedOrders = true) (hcal : Callee L w0 call) (hbod : Bodies L) (hn : NextMono call) {os : List AOper} (hc : compD L nt ops ord fl = some os) {ι : Io} {M : Mm} {w : World} {a : Act} {id : Nat}
    (he : EnvR L ι M e0 a.tmps) (hnt : nt ≤ a.tmps.size) (r : R L w0 ι M h0 w) (hev : evOpsD call os e0 h0 = some (E, hN, gs)) (hst : stables call os E gs fl = true) {Q : Exit → Act → World → Prop}
    (hQ : ∀ ι' M' a' w', Gr h0 ι M hN ι' M' → R L w0 ι' M' hN w' → EnvR L ι' M' E a'.tmps → a'.tmps.size = a.tmps.size → a'.defers = a.defers → Q .normal a' w') : (Code.region id ops true).wp L.P Q a w := by
  obtain ⟨zs, rfl, d⟩ := DH.of hc hev hst hn
  refine wp_region_any hm ?_
  obtain ⟨G, hG, hg⟩ := evOpsD_head hev
  have hf : ∀ i, (Array.replicate ops.size false).getD i false = false := fun i => by
    rw [Array.getD_eq_getD_getElem?]
    cases h : (Array.replicate ops.size false)[i]? with
    | none => rfl
    | some b => obtain ⟨hlt, hb⟩ := Array.getElem?_eq_some_iff.1 h; simp at hb; simp [← hb]
  have inv : Inv L w0 ops call zs e0 h0 E gs ι M a (Array.replicate ops.size false) a { w with drawn := w.drawn + 1 } ι M G 0 := by
    refine ⟨by simp, fun i o _ h => (by have h2 : (Array.replicate ops.size false).getD i false = true := h; rw [hf] at h2; cases h2), hG, fun p z _ _ => ⟨fun h => (by rw [hf] at h; cases h), fun h => (by omega)⟩, Nat.zero_le _, ⟨hg.nx, fun _ _ q => q, fun _ _ _ q => q, fun _ _ _ q => q⟩, (r.drew _).gw hg, fun t => ?_, rfl, rfl, ?_⟩
    · have hlk : look (cut zs (fun i => (Array.replicate ops.size false).getD i false) e0 E) t = look e0 t := by
        rw [cut, look_append]
        by_cases hu : t ∈ und zs fun i => (Array.replicate ops.size false).getD i false
        · rw [if_pos hu]
        · rw [if_neg hu]
          refine evOps_look (evOpsD_ops d.ev) t fun m => hu ?_
          have : t ∈ dsts ((zs.map (·.x)).drop 0) := m
          obtain ⟨q, y, _, hy, hd⟩ := d.drop this
          exact mem_und.2 ⟨y, List.mem_of_getElem? hy, hf _, hd⟩
      rw [hlk]; exact he t
    · intro q y eq hq v h' id hy hb _ hp hev' hid
      cases hι : ι id with
      | none => rfl
      | some l =>
        rcases evOper_birth hb hev' with ⟨rfl, _, _⟩ | ⟨b, _, _, rfl, hid', _⟩
        · cases hid
        · rw [hid] at hid'; obtain rfl := Option.some.inj hid'
          have h1 := r.dom _ l hι
          have h2 := d.pre_le (Nat.zero_le q) (e1 := e0) (h1 := h0) rfl hp
          omega
  refine inv.any hcal hbod d hnt hQ ops.size ?_
  refine Nat.le_trans List.countP_le_length ?_
  rw [← d.len, ← (mkZ_spec d.mz).1]; simp

/-! ### Code -/
def comp (L : Lk) (nt : Nat) : Code → ACode → Option ACode
  | .skip, .skip => some .skip
  | .region _ ops false, .reg _ keep => (compOps L nt ops ops.toList).bind fun os => some (.reg os keep)
  | .region _ ops true, .dreg ord _ fl keep => (compD L nt ops ord fl).bind fun os => some (.dreg ord os fl keep)
  | .seq a b, .seq x y => (comp L nt a x).bind fun x' => (comp L nt b y).bind fun y' => some (.seq x' y')
  | .cond c a b, .cond _ x y keep => (cX L c).bind fun c' => (comp L nt a x).bind fun x' => (comp L nt b y).bind fun y' => some (.cond c' x' y' keep)
  | .block id c, .block _ x keep => (comp L nt c x).bind fun x' => some (.block id x' keep)
  | .loop c, .loop keep x => (comp L nt c x).bind fun x' => some (.loop keep x')
  | .exit id, .exit _ => some (.exit id)
  | .ret, .ret => some .ret
  | _, _ => none

def exOf : Ex → Exit
  | .normal => .normal
  | .exit id => .exit id
  | .ret => .ret

theorem code_wp (hm : L.P.follows .mixedOrders = true) (hcal : Callee L w0 call) (hbod : Bodies L) (hn : NextMono call) (k : Nat) : ∀ (c : Code) (x0 x : ACode), comp L nt c x0 = some x → ∀ {e : Env} {a : Act} {ι : Io} {M : Mm} {h : H} {w : World} {ex : Ex} {e' : Env} {h' : H} {Q : Exit → Act → World → Prop},
    EnvR L ι M e a.tmps → nt ≤ a.tmps.size → R L w0 ι M h w → evC call (loopN k) x e h = some (ex, e', h') →
    (∀ ι' M' a' w', Gr h ι M h' ι' M' → R L w0 ι' M' h' w' → EnvR L ι' M' e' a'.tmps → a'.tmps.size = a.tmps.size → a'.defers = a.defers → Q (exOf ex) a' w') → c.wp L.P Q a w := by
  intro c
  induction c with
  | skip =>
    intro x0 x hx e a ι M h w ex e' h' Q he hnt r hev hQ
    cases x0 <;> simp only [comp, reduceCtorEq] at hx
    obtain rfl := Option.some.inj hx
    cases hev
    exact wp_skip (hQ _ _ _ _ (.refl _ _ _) r he rfl rfl)
  | region id ops dr =>
    intro x0 x hx e a ι M h w ex e' h' Q he hnt r hev hQ
    cases dr with
    | false =>
      cases x0 <;> simp only [comp, reduceCtorEq] at hx
      simp only [Option.bind_eq_some_iff] at hx
      obtain ⟨os, h1, hx⟩ := hx
      obtain rfl := Option.some.inj hx
      simp only [evC, Option.bind_eq_some_iff] at hev
      obtain ⟨⟨e1, h2⟩, hv, hev⟩ := hev
      cases hev
      refine wp_region ?_
      have := ops_wp hcal hbod hn ops.toList 0 (Q := Q) (fun j => by simp) h1 he hnt r hv (fun ι' M' a' w' g r' he' hs hd => hQ _ _ _ _ g r' (he'.restr _) hs hd)
      rwa [← List.range_eq_range', Array.length_toList] at this
    | true =>
      cases x0 <;> simp only [comp, reduceCtorEq] at hx
      simp only [Option.bind_eq_some_iff] at hx
      obtain ⟨os, h1, hx⟩ := hx
      obtain rfl := Option.some.inj hx
      simp only [evC, Option.bind_eq_some_iff] at hev
      obtain ⟨⟨e1, h2, gs⟩, hv, hev⟩ := hev
      split at hev
      · rename_i hst
        cases hev
        exact dregion_wp hm hcal hbod hn h1 he hnt r hv hst (fun ι' M' a' w' g r' he' hs hd => hQ _ _ _ _ g r' (he'.restr _) hs hd)
      · cases hev
  | seq c1 c2 i1 i2 =>
    intro x0 x hx e a ι M h w ex e' h' Q he hnt r hev hQ
    cases x0 <;> simp only [comp, reduceCtorEq] at hx
    simp only [Option.bind_eq_some_iff] at hx
    obtain ⟨y1, g1, y2, g2, hx⟩ := hx
    obtain rfl := Option.some.inj hx
    simp only [evC, Option.bind_eq_some_iff] at hev
    obtain ⟨⟨ex1, e1, h1⟩, hv, hev⟩ := hev
    refine wp_seq (i1 _ _ g1 he hnt r hv fun ι' M' a' w' g r' he' hs hd => ?_)
    split at hev
    · rename_i q; cases q
      exact i2 _ _ g2 he' (by rw [hs]; exact hnt) r' hev fun ι2 M2 a2 w2 gg r2 he2 hs2 hd2 => hQ _ _ _ _ (g.trans gg) r2 he2 (by rw [hs2, hs]) (by rw [hd2, hd])
    · rename_i hne
      cases hev
      have : Q (exOf ex) a' w' := hQ _ _ _ _ g r' he' hs hd
      cases ex with
      | normal => exact absurd rfl (hne _ _)
      | exit id => exact this
      | ret => exact this
  | cond cnd c1 c2 i1 i2 =>
    intro x0 x hx e a ι M h w ex e' h' Q he hnt r hev hQ
    cases x0 <;> simp only [comp, reduceCtorEq] at hx
    simp only [Option.bind_eq_some_iff] at hx
    obtain ⟨c', g0, y1, g1, y2, g2, hx⟩ := hx
    obtain rfl := Option.some.inj hx
    simp only [evC] at hev
    split at hev
    · rename_i t ht
      have hc := X_sound he g0
      rw [ht] at hc
      refine wp_cond (t := t) hc.bool_inv ?_
      simp only [Option.bind_eq_some_iff] at hev
      obtain ⟨⟨ex1, e1, h1⟩, hv, hev⟩ := hev
      have hout : ex1 = ex ∧ h1 = h' ∧ ∀ ι' M' (tm : Array Value), EnvR L ι' M' e1 tm → EnvR L ι' M' e' tm := by
        split at hev
        · rename_i q; cases q; cases hev; exact ⟨rfl, rfl, fun _ _ _ he => he.restr _⟩
        · cases hev; exact ⟨rfl, rfl, fun _ _ _ he => he⟩
      obtain ⟨rfl, rfl, hr⟩ := hout
      cases t with
      | true => exact i1 _ _ g1 he hnt r hv fun ι' M' a' w' g r' he' hs hd => hQ _ _ _ _ g r' (hr _ _ _ he') hs hd
      | false => exact i2 _ _ g2 he hnt r hv fun ι' M' a' w' g r' he' hs hd => hQ _ _ _ _ g r' (hr _ _ _ he') hs hd
    · cases hev
  | block id c1 i1 =>
    intro x0 x hx e a ι M h w ex e' h' Q he hnt r hev hQ
    cases x0 <;> simp only [comp, reduceCtorEq] at hx
    simp only [Option.bind_eq_some_iff] at hx
    obtain ⟨y1, g1, hx⟩ := hx
    obtain rfl := Option.some.inj hx
    simp only [evC, Option.bind_eq_some_iff] at hev
    obtain ⟨⟨ex1, e1, h1⟩, hv, hev⟩ := hev
    refine wp_block (i1 _ _ g1 he hnt r hv fun ι' M' a' w' g r' he' hs hd => ?_)
    split at hev
    · rename_i q; cases q; cases hev; exact hQ _ _ _ _ g r' (he'.restr _) hs hd
    · rename_i j _ _ q; cases q
      simp only [exOf, Exit.inBlock]
      split at hev
      · rename_i hj; cases hev; rw [if_pos hj]; exact hQ _ _ _ _ g r' (he'.restr _) hs hd
      · rename_i hj; cases hev; rw [if_neg hj]; exact hQ _ _ _ _ g r' he' hs hd
    · rename_i q; cases q; cases hev; exact hQ _ _ _ _ g r' he' hs hd
  | loop c1 i1 =>
    intro x0 x hx e a ι M h w ex e' h' Q he hnt r hev hQ
    cases x0 <;> simp only [comp, reduceCtorEq] at hx
    rename_i keep y
    simp only [Option.bind_eq_some_iff] at hx
    obtain ⟨y1, g1, hx⟩ := hx
    obtain rfl := Option.some.inj hx
    simp only [evC] at hev
    have key : ∀ (n : Nat) {e : Env} {a : Act} {ι : Io} {M : Mm} {h : H} {w : World}, EnvR L ι M e a.tmps → nt ≤ a.tmps.size → R L w0 ι M h w → loopN n (fun e h => evC call (loopN k) y1 (restr e keep) h) e h = some (ex, e', h') →
        (∀ ι' M' a' w', Gr h ι M h' ι' M' → R L w0 ι' M' h' w' → EnvR L ι' M' e' a'.tmps → a'.tmps.size = a.tmps.size → a'.defers = a.defers → Q (exOf ex) a' w') → Code.rounds L.P c1 Q n a w := by
      intro n
      induction n with
      | zero => intro e a ι M h w _ _ _ hev; cases hev
      | succ n ih =>
        intro e a ι M h w he hnt r hev hQ
        simp only [loopN, Option.bind_eq_some_iff] at hev
        obtain ⟨⟨ex1, e1, h1⟩, hv, hev⟩ := hev
        refine i1 _ _ g1 (he.restr _) hnt r hv fun ι' M' a' w' g r' he' hs hd => ?_
        split at hev
        · rename_i q; cases q
          exact ih he' (by rw [hs]; exact hnt) r' hev fun ι2 M2 a2 w2 gg r2 he2 hs2 hd2 => hQ _ _ _ _ (g.trans gg) r2 he2 (by rw [hs2, hs]) (by rw [hd2, hd])
        · rename_i hne
          cases hev
          have : Q (exOf ex) a' w' := hQ _ _ _ _ g r' he' hs hd
          cases ex with
          | normal => exact absurd rfl (hne _ _)
          | exit id => exact this
          | ret => exact this
    exact wp_loop_rounds k (key k he hnt r hev hQ)
  | exit id =>
    intro x0 x hx e a ι M h w ex e' h' Q he hnt r hev hQ
    cases x0 <;> simp only [comp, reduceCtorEq] at hx
    obtain rfl := Option.some.inj hx
    cases hev
    exact wp_exit (hQ _ _ _ _ (.refl _ _ _) r he rfl rfl)
  | ret =>
    intro x0 x hx e a ι M h w ex e' h' Q he hnt r hev hQ
    cases x0 <;> simp only [comp, reduceCtorEq] at hx
    obtain rfl := Option.some.inj hx
    cases hev
    exact wp_ret (hQ _ _ _ _ (.refl _ _ _) r he rfl rfl)
  | _ =>
    intro x0 x hx
    cases x0 <;> simp only [comp, reduceCtorEq] at hx
end
end Ab

/- What lies below the floor stays as it is. -/
set_option linter.unusedSimpArgs false
set_option linter.unusedVariables false
namespace Ab
open Go RowKit

structure Kp (h h' : H) : Prop where
  fl : h'.floor = h.floor
  get : ∀ id, id < h.floor → h'.get id = h.get id

theorem Kp.refl (h : H) : Kp h h := ⟨rfl, fun _ _ => rfl⟩
theorem Kp.trans {a b c : H} (h : Kp a b) (k : Kp b c) : Kp a c := ⟨k.fl.trans h.fl, fun id hi => by rw [k.get id (by rw [h.fl]; exact hi), h.get id hi]⟩
theorem Kp.alloc {h : H} (hf : h.floor ≤ h.next) (cs : List AV) : Kp h (h.alloc cs) := ⟨H.floor_alloc h cs, fun id hi => by rw [H.get_alloc]; rw [if_neg (by omega)]⟩
theorem Kp.set {h : H} {id : Nat} (hf : h.floor ≤ id) (cs : List AV) : Kp h (h.set id cs) := ⟨H.floor_set h id cs, fun i hi => by rw [H.get_set]; rw [if_neg (by omega)]⟩
theorem Kp.del {h : H} {id : Nat} (hf : h.floor ≤ id) : Kp h (h.del id) := ⟨rfl, fun i hi => by rw [H.get_del]; rw [if_neg (by omega)]⟩

def KpC (call : CallT) : Prop := ∀ f a h v h', h.floor ≤ h.next → call f a h = some (v, h') → Kp h h'

theorem aappc_kp {h h' : H} {sz by_ : Nat} {a : AV} {n : Nat} {bs : List AV} {v : AV} (hf : h.floor ≤ h.next) (hh : aappc h sz by_ a n bs = some (v, h')) : Kp h h' := by
  unfold aappc at hh
  repeat' split at hh
  all_goals first
    | (cases hh; done)
    | (obtain ⟨_, rfl⟩ := Prod.mk.inj (Option.some.inj hh); exact .alloc hf _)
    | (obtain ⟨_, rfl⟩ := Prod.mk.inj (Option.some.inj hh); exact .refl _)
    | skip
  rename_i hsf
  simp only [Option.bind_eq_some_iff] at hh
  obtain ⟨cs, _, hh⟩ := hh
  repeat' split at hh
  all_goals first
    | (cases hh; done)
    | (obtain ⟨_, rfl⟩ := Prod.mk.inj (Option.some.inj hh); exact .set hsf.2 _)
    | (obtain ⟨_, rfl⟩ := Prod.mk.inj (Option.some.inj hh); exact (Kp.del hsf.2).trans (Kp.alloc (show (h.del _).floor ≤ (h.del _).next from hf) _))

theorem evOp_kp {call : CallT} (hc : KpC call) {e : Env} {h h' : H} {o : AOp} {v : AV} (hf : h.floor ≤ h.next) (hev : evOp call e h o = some (v, h')) : Kp h h' := by
  by_cases hb : o.births = true
  · obtain ⟨b, _, _, rfl⟩ := evOp_birth hb hev
    exact .alloc hf _
  by_cases hl : o.loud = true
  · cases o <;> simp only [AOp.loud, Bool.false_eq_true] at hl <;> simp only [evOp] at hev
    case store n p x =>
      simp only [Option.bind_eq_some_iff, Option.some.injEq, Prod.mk.injEq] at hev
      obtain ⟨h1, hs, _, rfl⟩ := hev
      unfold astore at hs
      split at hs
      · simp only [Option.bind_eq_some_iff] at hs
        obtain ⟨cs, _, hs⟩ := hs
        split at hs
        · rename_i q; obtain rfl := Option.some.inj hs; exact .set q.1 _
        · cases hs
      · cases hs
    case call f args =>
      split at hev
      · exact hc _ _ _ _ _ hf hev
      · cases hev
    case inv2 => cases hev
    case app =>
      unfold aapp at hev
      simp only [Option.bind_eq_some_iff] at hev
      obtain ⟨r, _, hev⟩ := hev
      exact aappc_kp hf hev
    case appz =>
      unfold aappz at hev
      repeat' split at hev
      all_goals first
        | (cases hev; done)
        | (obtain ⟨_, rfl⟩ := Prod.mk.inj (Option.some.inj hev); exact .alloc hf _)
    case copy =>
      unfold acopy at hev
      simp only [Option.bind_eq_some_iff] at hev
      obtain ⟨r, _, hev⟩ := hev
      split at hev
      · obtain ⟨_, rfl⟩ := Prod.mk.inj (Option.some.inj hev); exact .refl _
      · split at hev
        · rename_i q
          simp only [Option.bind_eq_some_iff] at hev
          obtain ⟨r, _, hev⟩ := hev
          split at hev
          · obtain ⟨_, rfl⟩ := Prod.mk.inj (Option.some.inj hev); exact .set q.2.1 _
          · cases hev
        · cases hev
      · cases hev
    case clear =>
      simp only [Option.bind_eq_some_iff, Option.some.injEq, Prod.mk.injEq] at hev
      obtain ⟨h1, hev, _, rfl⟩ := hev
      unfold aclear at hev
      repeat' split at hev
      all_goals first
        | (cases hev; done)
        | (obtain rfl := Option.some.inj hev; exact .refl _)
        | skip
      rename_i q
      simp only [Option.bind_eq_some_iff] at hev
      obtain ⟨r, _, hev⟩ := hev
      split at hev
      · obtain rfl := Option.some.inj hev; exact .set q.2.1 _
      · cases hev
  · rw [evOp_quiet (by simpa using hl) (by simpa using hb) hev]; exact .refl _

theorem evOper_kp {call : CallT} (hc : KpC call) {e : Env} {h h' : H} {o : AOper} {v : AV} (hf : h.floor ≤ h.next) (hev : evOper call o e h = some (v, h')) : Kp h h' := by
  unfold evOper at hev
  repeat' split at hev
  all_goals first
    | exact evOp_kp hc hf hev
    | (obtain ⟨_, rfl⟩ := Prod.mk.inj (Option.some.inj hev); exact .refl _)
    | (cases hev; done)

theorem Kp.fn {h h' : H} (k : Kp h h') (hn : h.next ≤ h'.next) (hf : h.floor ≤ h.next) : h'.floor ≤ h'.next := by rw [k.fl]; omega

theorem evOps_kp {call : CallT} (hn : NextMono call) (hc : KpC call) : ∀ {os : List AOper} {e e' : Env} {h h' : H}, h.floor ≤ h.next → evOps call os e h = some (e', h') → Kp h h'
  | [], _, _, _, _, _, hev => by obtain ⟨_, rfl⟩ := Prod.mk.inj (Option.some.inj hev); exact .refl _
  | o :: os, _, _, _, _, hf, hev => by
    simp only [evOps, Option.bind_eq_some_iff] at hev
    obtain ⟨r, h1, h2⟩ := hev
    have k := evOper_kp hc hf h1
    exact k.trans (evOps_kp hn hc (k.fn (evOper_next hn h1) hf) h2)

def KpF (F : Env → H → Res) : Prop := ∀ e h x e' h', h.floor ≤ h.next → F e h = some (x, e', h') → Kp h h'

theorem kp_loopN {F : Env → H → Res} (hN : NextF F) (hF : KpF F) : ∀ n, KpF (loopN n F)
  | 0, _, _, _, _, _, _, h => by cases h
  | n + 1, e, h, x, e', h', hf, hev => by
    simp only [loopN, Option.bind_eq_some_iff] at hev
    obtain ⟨⟨y, e1, h1⟩, ha, hb⟩ := hev
    have k := hF _ _ _ _ _ hf ha
    split at hb
    · rename_i q; cases q
      exact k.trans (kp_loopN hN hF n _ _ _ _ _ (k.fn (hN _ _ _ _ _ ha) hf) hb)
    · cases hb; exact k

theorem evC_kp {call : CallT} (hn : NextMono call) (hc : KpC call) (d : Nat) : ∀ (x : ACode), KpF (evC call (loopN d) x)
  | .skip, _, _, _, _, _, _, hev => by cases hev; exact .refl _
  | .exit _, _, _, _, _, _, _, hev => by cases hev; exact .refl _
  | .ret, _, _, _, _, _, _, hev => by cases hev; exact .refl _
  | .reg ops keep, _, _, _, _, _, hf, hev => by
    simp only [evC, Option.bind_eq_some_iff] at hev
    obtain ⟨r, h1, h2⟩ := hev
    cases h2; exact evOps_kp hn hc hf h1
  | .dreg ord ops fl keep, _, _, _, _, _, hf, hev => by
    simp only [evC, Option.bind_eq_some_iff] at hev
    obtain ⟨r, h1, h2⟩ := hev
    split at h2
    · cases h2; exact evOps_kp hn hc hf (evOpsD_ops h1)
    · cases h2
  | .seq a b, _, _, _, _, _, hf, hev => by
    simp only [evC, Option.bind_eq_some_iff] at hev
    obtain ⟨⟨y, e1, h1⟩, ha, hb⟩ := hev
    have k := evC_kp hn hc d a _ _ _ _ _ hf ha
    split at hb
    · rename_i q
      cases q
      exact k.trans (evC_kp hn hc d b _ _ _ _ _ (k.fn (evC_next hn (nextL_loopN d) a _ _ _ _ _ ha) hf) hb)
    · cases hb; exact k
  | .cond x a b keep, _, h0, _, _, _, hf, hev => by
    simp only [evC] at hev
    split at hev
    · simp only [Option.bind_eq_some_iff] at hev
      obtain ⟨⟨y, e1, h1⟩, ha, hb⟩ := hev
      have : Kp h0 h1 := by
        split at ha
        · exact evC_kp hn hc d a _ _ _ _ _ hf ha
        · exact evC_kp hn hc d b _ _ _ _ _ hf ha
      split at hb
      · rename_i q; cases q; cases hb; exact this
      · cases hb; exact this
    · cases hev
  | .block id c keep, _, _, _, _, _, hf, hev => by
    simp only [evC, Option.bind_eq_some_iff] at hev
    obtain ⟨⟨y, e1, h1⟩, ha, hb⟩ := hev
    have := evC_kp hn hc d c _ _ _ _ _ hf ha
    split at hb
    · rename_i q; cases q; cases hb; exact this
    · rename_i q; cases q
      split at hb <;> (cases hb; exact this)
    · rename_i q; cases q; cases hb; exact this
  | .loop keep c, _, _, _, _, _, hf, hev => kp_loopN (fun _ _ _ _ _ h => evC_next hn (nextL_loopN d) c _ _ _ _ _ h) (fun _ _ _ _ _ hf h => evC_kp hn hc d c _ _ _ _ _ hf h) d _ _ _ _ _ hf hev

theorem kp_callN (A : AProg) : ∀ d, KpC (callN A d)
  | 0, _, _, _, _, _, _, h => by cases h
  | d + 1, f, args, h, v, h', hf, hev => by
    simp only [callN, Option.bind_eq_some_iff] at hev
    obtain ⟨fn, _, hr⟩ := hev
    unfold runF at hr
    split at hr
    · simp only [Option.bind_eq_some_iff] at hr
      obtain ⟨⟨y, e1, h1⟩, ha, hb⟩ := hr
      unfold fin at hb
      split at hb
      · cases hb
      · rename_i q; cases q
        simp only [Option.bind_eq_some_iff] at hb
        obtain ⟨vs, _, hb⟩ := hb
        split at hb
        · simp only [Option.bind_eq_some_iff] at hb
          obtain ⟨_, _, hb⟩ := hb
          cases hb; exact .refl _
        · rename_i hp; cases hb
          rw [if_neg hp] at ha
          exact evC_kp (next_callN A d) (kp_callN A d) d _ _ _ _ _ _ hf ha
    · cases hr
end Ab

/- Functions: the call of the interpreter and the call of the model. -/
set_option linter.unusedSimpArgs false
set_option linter.unusedVariables false
namespace Ab
open Go RowKit

section
variable {L : Lk} {w0 : World} {ι ι1 : Io} {M M1 : Mm} {h h1 : H} {w w1 : World}

open Classical in
/-- What stays for good once a pure call is over: the cells of what it made. -/
noncomputable def keepM (M1 : Mm) (ι1 : Io) (h1 : H) (fl : Nat) (w1 : World) : Mm := fun b o =>
  match M1 b o with
  | some v => some v
  | none => if ∃ id cs l, fl ≤ id ∧ h1.get id = some cs ∧ ι1 id = some l ∧ l.block = b ∧ l.base ≤ o ∧ o < l.base + cs.length then w1.cell? (at' b o) else none

theorem keepM_le (fl : Nat) : LeM M1 (keepM M1 ι1 h1 fl w1) := fun b o v q => by simp only [keepM, q]

theorem keepM_cell (r : R L w0 ι1 M1 h1 w1) {fl id : Nat} (hid : fl ≤ id) {cs : List AV} (hg : h1.get id = some cs) {l : Loc} (hl : ι1 id = some l) {i : Nat} (hi : i < cs.length) {v : Value} (hv : w1.cell? (at' l.block (l.base + i)) = some v) : keepM M1 ι1 h1 fl w1 l.block (l.base + i) = some v := by
  simp only [keepM]
  split
  · rename_i u hu; rw [r.imm _ _ _ hu] at hv; exact hv
  · rw [if_pos ⟨id, cs, l, hid, hg, hl, rfl, by omega, by omega⟩]; exact hv

theorem keepM_spec {fl b o : Nat} {v : Value} (hv : keepM M1 ι1 h1 fl w1 b o = some v) : M1 b o = some v ∨ (w1.cell? (at' b o) = some v ∧ ∃ id cs l, fl ≤ id ∧ h1.get id = some cs ∧ ι1 id = some l ∧ l.block = b ∧ l.base ≤ o ∧ o < l.base + cs.length) := by
  simp only [keepM] at hv
  split at hv
  · rename_i u hu; obtain rfl := Option.some.inj hv; exact .inl hu
  · split at hv
    · rename_i q; exact .inr ⟨hv, q⟩
    · cases hv

/-- The world after a pure call, and the heap ahead of it. -/
theorem R.back (r : R L w0 ι M h w) (r1 : R L w0 ι1 M1 h1 w1) (hg : ∀ id, id < h.next → h1.get id = h.get id) (hι : LeI ι ι1) (hM : LeM M M1) : R L w0 ι (keepM M1 ι1 h1 h.next w1) h w1 := by
  have g : ∀ id cs l, h.get id = some cs → ι id = some l → h1.get id = some cs ∧ ι1 id = some l := fun id cs l a b => ⟨by rw [hg id (r.dom id l b)]; exact a, hι _ _ b⟩
  refine ⟨r1.below, r.dom, fun id cs l a b => r1.blk id cs l (g _ _ _ a b).1 (g _ _ _ a b).2, fun id cs l a b => r1.own id cs l (g _ _ _ a b).1 (g _ _ _ a b).2, fun id cs l a b i x hx => ?_, r.disj, fun b o v hv => ?_, fun b o v id cs l hv a c => ?_⟩
  · obtain ⟨v, q1, q2⟩ := r1.val id cs l (g _ _ _ a b).1 (g _ _ _ a b).2 i x hx
    obtain ⟨v0, _, q3⟩ := r.val id cs l a b i x hx
    exact ⟨v, q1, (q2.shrink hι q3).mono (fun _ _ q => q) (keepM_le _)⟩
  · rcases keepM_spec hv with q | ⟨q, _⟩
    · exact r1.imm b o v q
    · exact q
  · obtain ⟨a1, c1⟩ := g _ _ _ a c
    rcases keepM_spec hv with q | ⟨_, id', cs', l', q1, q2, q3, q4, q5, q6⟩
    · exact r1.immd b o v id cs l q a1 c1
    · intro hb
      have hne : id ≠ id' := fun e => by have := r.dom id l c; omega
      have hlen := (r1.blk id' cs' l' q2 q3)
      rcases r1.disj id id' cs cs' l l' a1 q2 c1 q3 hne (by omega) with hd | hd <;> omega

/-- A value all of whose parts are the given function's. -/
theorem mapO_spec {f : AV → Option AV} : ∀ {l l' : List AV}, mapO f l = some l' → l'.length = l.length ∧ ∀ (i : Nat) (a' : AV), l'[i]? = some a' → ∃ a, l[i]? = some a ∧ f a = some a'
  | [], l', h => by obtain rfl := Option.some.inj h; exact ⟨rfl, fun i a q => by simp at q⟩
  | v :: r, l', h => by
    simp only [mapO, Option.bind_eq_some_iff] at h
    obtain ⟨v', h1, r', h2, h3⟩ := h
    obtain rfl := Option.some.inj h3
    obtain ⟨g1, g2⟩ := mapO_spec h2
    refine ⟨by simp [g1], fun i a q => ?_⟩
    cases i with
    | zero => simp at q; subst q; exact ⟨v, rfl, h1⟩
    | succ i => simpa using g2 i a (by simpa using q)

theorem snap_sound (r1 : R L w0 ι1 M1 h1 w1) {fl : Nat} (hold : ∀ id l, id < fl → ι1 id = some l → ι id = some l) : ∀ (n : Nat) (top : Bool) (a a' : AV) (v : Value), V L ι1 M1 a v → snap h1.get fl n top a = some a' →
    (top = true → V L ι (keepM M1 ι1 h1 fl w1) a' v) ∧ (top = false → VI L (keepM M1 ι1 h1 fl w1) a' v) := by
  intro n
  induction n with
  | zero => intro top a a' v _ hs; cases hs
  | succ n ih =>
    intro top a a' v hV hs
    have imm : ∀ {x : AV}, VI L M1 x v → a' = x → (top = true → V L ι (keepM M1 ι1 h1 fl w1) a' v) ∧ (top = false → VI L (keepM M1 ι1 h1 fl w1) a' v) := by
      intro x hx e
      subst e
      exact ⟨fun _ => .imm (hx.mono (keepM_le _)), fun _ => hx.mono (keepM_le _)⟩
    -- rows of values
    have row : ∀ {t : Bool} {xs ys : List AV} {vs : List Value}, mapO (snap h1.get fl n t) xs = some ys → (∀ (i : Nat) (a : AV) (v : Value), xs[i]? = some a → vs[i]? = some v → V L ι1 M1 a v) →
        (t = true → ∀ (i : Nat) (a : AV) (v : Value), ys[i]? = some a → vs[i]? = some v → V L ι (keepM M1 ι1 h1 fl w1) a v) ∧ (t = false → ∀ (i : Nat) (a : AV) (v : Value), ys[i]? = some a → vs[i]? = some v → VI L (keepM M1 ι1 h1 fl w1) a v) := by
      intro t xs ys vs hm hx
      obtain ⟨_, g2⟩ := mapO_spec hm
      refine ⟨fun ht i a v ha hv => ?_, fun ht i a v ha hv => ?_⟩
      · obtain ⟨b, hb, hsb⟩ := g2 i a ha
        exact (ih t b a v (hx i b v hb hv) hsb).1 ht
      · obtain ⟨b, hb, hsb⟩ := g2 i a ha
        exact (ih t b a v (hx i b v hb hv) hsb).2 ht
    -- cells of a new object
    have cells : ∀ {id : Nat} {cs : List AV} {l : Loc} {off m : Nat} {ys : List AV}, ¬ id < fl → h1.get id = some cs → ι1 id = some l → mapO (snap h1.get fl n false) ((cs.drop off).take m) = some ys →
        ∃ vs : Nat → Value, (∀ (i : Nat) (c : AV), ys[i]? = some c → keepM M1 ι1 h1 fl w1 l.block (l.base + off + i) = some (vs i)) ∧ ∀ (i : Nat) (c : AV), ys[i]? = some c → VI L (keepM M1 ι1 h1 fl w1) c (vs i) := by
      intro id cs l off m ys hid hg hl hm
      obtain ⟨_, g2⟩ := mapO_spec hm
      refine ⟨fun i => (w1.cell? (at' l.block (l.base + off + i))).getD undef, ?_⟩
      have key : ∀ (i : Nat) (c : AV), ys[i]? = some c → ∃ v, w1.cell? (at' l.block (l.base + off + i)) = some v ∧ off + i < cs.length ∧ VI L (keepM M1 ι1 h1 fl w1) c v := by
        intro i c hc
        obtain ⟨b, hb, hsb⟩ := g2 i c hc
        have hb' : cs[off + i]? = some b := by
          rw [List.getElem?_take] at hb
          split at hb
          · rwa [List.getElem?_drop] at hb
          · cases hb
        obtain ⟨v, q1, q2⟩ := r1.val id cs l hg hl (off + i) b hb'
        rw [← Nat.add_assoc] at q1
        exact ⟨v, q1, (List.getElem?_eq_some_iff.1 hb').1, (ih false b c v q2 hsb).2 rfl⟩
      refine ⟨fun i c hc => ?_, fun i c hc => ?_⟩
      · obtain ⟨v, q1, q2, _⟩ := key i c hc
        simp only [q1, Option.getD_some]
        rw [Nat.add_assoc]
        exact keepM_cell r1 (by omega) hg hl q2 (by rw [← Nat.add_assoc]; exact q1)
      · obtain ⟨v, q1, _, q3⟩ := key i c hc
        simp only [q1, Option.getD_some]; exact q3
    cases a with
    | bot => cases hV with | imm hx => exact imm hx (Option.some.inj hs).symm
    | bool b => cases hV with | imm hx => exact imm hx (Option.some.inj hs).symm
    | int k m => cases hV with | imm hx => exact imm hx (Option.some.inj hs).symm
    | str s => cases hV with | imm hx => exact imm hx (Option.some.inj hs).symm
    | nilp => cases hV with | imm hx => exact imm hx (Option.some.inj hs).symm
    | pimm c o => cases hV with | imm hx => exact imm hx (Option.some.inj hs).symm
    | nils => cases hV with | imm hx => exact imm hx (Option.some.inj hs).symm
    | simm t c o l s => cases hV with | imm hx => exact imm hx (Option.some.inj hs).symm
    | nilf => cases hV with | imm hx => exact imm hx (Option.some.inj hs).symm
    | nili => cases hV with | imm hx => exact imm hx (Option.some.inj hs).symm
    | pobj id off =>
      obtain ⟨l, hl, rfl⟩ := hV.pobj_inv
      simp only [snap] at hs
      split at hs
      · rename_i hid
        cases top with
        | false => cases hs
        | true => obtain rfl := Option.some.inj hs; exact ⟨fun _ => .pobj (hold id l hid hl), nofun⟩
      · rename_i hid
        simp only [Option.bind_eq_some_iff] at hs
        obtain ⟨cs, hg, ys, hm, hs⟩ := hs
        obtain rfl := Option.some.inj hs
        have hm' : mapO (snap h1.get fl n false) ((cs.drop 0).take cs.length) = some ys := by simpa using hm
        obtain ⟨vs, k1, k2⟩ := cells hid hg hl hm'
        have : VI L (keepM M1 ι1 h1 fl w1) (.pimm ys off) (.pointer (some (at' l.block (l.base + off)))) := .pimm vs (fun i c hc => k1 i c hc) k2
        exact ⟨fun _ => .imm this, fun _ => this⟩
    | sobj id off len sz =>
      obtain ⟨l, cap, ad, hl, rfl, c1, c2, c3, c4⟩ := hV.sobj_inv
      simp only [snap] at hs
      split at hs
      · rename_i hid
        cases top with
        | false => cases hs
        | true => obtain rfl := Option.some.inj hs; exact ⟨fun _ => .sobj (hold id l hid hl) c1 c2 c3 c4, nofun⟩
      · rename_i hid
        simp only [Option.bind_eq_some_iff] at hs
        obtain ⟨cs, hg, hs⟩ := hs
        split at hs
        · rename_i hle
          simp only [Option.bind_eq_some_iff] at hs
          obtain ⟨ys, hm, hs⟩ := hs
          obtain rfl := Option.some.inj hs
          obtain ⟨vs, k1, k2⟩ := cells hid hg hl hm
          have hlen := (mapO_spec hm).1
          have hmul : len * sz ≤ cap * sz := Nat.mul_le_mul_right sz c1
          have : VI L (keepM M1 ι1 h1 fl w1) (.simm false ys 0 len sz) (.slice (some ad) len cap) :=
            .simm (b := l.block) (base := l.base + off) vs k1 k2 c1 (fun q => by rw [c2 q]; rfl) (by rw [hlen]; simp only [List.length_take, List.length_drop]; omega) nofun
          exact ⟨fun _ => .imm this, fun _ => this⟩
        · cases hs
    | agg cs =>
      simp only [snap, Option.bind_eq_some_iff] at hs
      obtain ⟨ys, hm, hs⟩ := hs
      obtain rfl := Option.some.inj hs
      obtain ⟨vs, rfl, q1, q2⟩ := hV.agg_inv
      have hl := (mapO_spec hm).1
      obtain ⟨k1, k2⟩ := row hm q2
      exact ⟨fun ht => .agg (by omega) (k1 ht), fun ht => .agg (by omega) (k2 ht)⟩
    | tup cs =>
      simp only [snap, Option.bind_eq_some_iff] at hs
      obtain ⟨ys, hm, hs⟩ := hs
      obtain rfl := Option.some.inj hs
      obtain ⟨vs, rfl, q1, q2⟩ := hV.tup_inv
      have hl := (mapO_spec hm).1
      obtain ⟨k1, k2⟩ := row hm q2
      exact ⟨fun ht => .tup (by omega) (k1 ht), fun ht => .tup (by omega) (k2 ht)⟩
    | fn f as cs =>
      simp only [snap, Option.bind_eq_some_iff] at hs
      obtain ⟨ys, hm, zs, hm2, hs⟩ := hs
      obtain rfl := Option.some.inj hs
      obtain ⟨fid, va, vc, rfl, q0, q1, q2, q3, q4⟩ := hV.fn_inv
      have hl := (mapO_spec hm).1
      have hl2 := (mapO_spec hm2).1
      obtain ⟨k1, k2⟩ := row hm q3
      obtain ⟨k3, k4⟩ := row hm2 q4
      exact ⟨fun ht => .fn q0 (by omega) (by omega) (k1 ht) (k3 ht), fun ht => .fn q0 (by omega) (by omega) (k2 ht) (k4 ht)⟩
    | iface t x =>
      simp only [snap, Option.bind_eq_some_iff] at hs
      obtain ⟨y, hy, hs⟩ := hs
      obtain rfl := Option.some.inj hs
      obtain ⟨tid, u, rfl, q1, q2⟩ := hV.iface_inv
      obtain ⟨k1, k2⟩ := ih top x y u q2 hy
      exact ⟨fun ht => .iface q1 (k1 ht), fun ht => .iface q1 (k2 ht)⟩

/-! ### Results -/
def compRes (L : Lk) : List ResultVar → Option (List RV)
  | [] => some []
  | .tmp t :: r => (compRes L r).bind fun rs => some (.tmp t :: rs)
  | .cell t ty :: r => (tagg L.P ty).bind fun a => (tsz L.P ty).bind fun n => (compRes L r).bind fun rs => some (.cell t a n :: rs)

theorem res_sound (r : R L w0 ι M h w) {e : Env} {tmps : Array Value} (he : EnvR L ι M e tmps) : ∀ {l : List ResultVar} {rs : List RV} {vs : List AV}, compRes L l = some rs → resAll e h rs = some vs →
    ∃ vals : List Value, ((l.mapM fun
      | .tmp t => pure (tmps.getD t undef)
      | .cell a t => do loadVar t (← asAddr (tmps.getD a undef)) : Sem (List Value)).run L.P w) = .ok vals w ∧ RowA L ι M vs vals
  | [], rs, vs, hc, hr => by
    obtain rfl := Option.some.inj hc
    obtain rfl := Option.some.inj hr
    exact ⟨[], rfl, rfl, fun i a v q => by simp at q⟩
  | .tmp t :: l, rs, vs, hc, hr => by
    simp only [compRes, Option.bind_eq_some_iff] at hc
    obtain ⟨rs', hc, q⟩ := hc
    obtain rfl := Option.some.inj q
    simp only [resAll, resOf, Option.bind_eq_some_iff] at hr
    obtain ⟨v, hv, vs', hr, q⟩ := hr
    obtain rfl := Option.some.inj hv
    obtain rfl := Option.some.inj q
    obtain ⟨vals, g1, g2⟩ := res_sound r he hc hr
    refine ⟨tmps.getD t undef :: vals, ?_, by simp [g2.1], fun i a v ha hv => ?_⟩
    · simp only [List.mapM_cons, Sem.run_bind, Sem.run_pure, Result.andThen_ok, g1]
    · cases i with
      | zero => simp at ha hv; subst ha; subst hv; rw [← Array.getD_eq_getD_getElem?]; exact he t
      | succ i => exact g2.2 i a v (by simpa using ha) (by simpa using hv)
  | .cell t ty :: l, rs, vs, hc, hr => by
    simp only [compRes, Option.bind_eq_some_iff] at hc
    obtain ⟨ag, ha, n, hn, rs', hc, q⟩ := hc
    obtain rfl := Option.some.inj q
    simp only [resAll, resOf, Option.bind_eq_some_iff] at hr
    obtain ⟨v, hv, vs', hr, q⟩ := hr
    obtain rfl := Option.some.inj q
    obtain ⟨vals, g1, g2⟩ := res_sound r he hc hr
    have ht := he t
    have hload : ∃ u, ((do loadVar ty (← asAddr (tmps.getD t undef)) : Sem Value).run L.P w) = .ok u w ∧ V L ι M v u := by
      unfold aload at hv
      split at hv
      · rename_i id off q
        rw [q] at ht
        obtain ⟨lo, hlo, hp⟩ := ht.pobj_inv
        simp only [Option.bind_eq_some_iff] at hv
        obtain ⟨cs, hg, hv⟩ := hv
        obtain ⟨u, k1, k2⟩ := rdc_sound ha hn (r.row hg hlo) hv
        exact ⟨u, by rw [hp]; simpa [asAddr] using k1, k2⟩
      · rename_i cs off q
        rw [q] at ht
        obtain ⟨b, base, hp, hrow⟩ := V.pimm_inv r ht
        obtain ⟨u, k1, k2⟩ := rdc_sound ha hn hrow hv
        exact ⟨u, by rw [hp]; simpa [asAddr] using k1, k2⟩
      · cases hv
    obtain ⟨u, k1, k2⟩ := hload
    refine ⟨u :: vals, ?_, by simp [g2.1], fun i a x hx hy => ?_⟩
    · simp only [List.mapM_cons, Sem.run_bind, Sem.run_pure, Result.andThen_ok, g1] at k1 ⊢
      rw [k1]; simp only [Result.andThen_ok, g1]
    · cases i with
      | zero => simp at hx hy; subst hx; subst hy; exact k2
      | succ i => exact g2.2 i a x (by simpa using hx) (by simpa using hy)

theorem results_sound (r : R L w0 ι M h w) {e : Env} {fn : Func} {tmps : Array Value} (he : EnvR L ι M e tmps) {rs : List RV} {vs : List AV} (hc : compRes L fn.results.toList = some rs) (hr : resAll e h rs = some vs) :
    ∃ v, (results fn tmps).run L.P w = .ok v w ∧ V L ι M (tupOf vs) v := by
  obtain ⟨vals, g1, g2⟩ := res_sound r he hc hr
  unfold results
  rw [Array.mapM_eq_mapM_toList]
  have : (if hx : vals.toArray.size = 1 then vals.toArray[0] else .tuple vals.toArray) = (if hx : vals.toArray.size = 1 then vals.toArray[0] else .tuple vals.toArray) := rfl
  refine ⟨if hx : vals.toArray.size = 1 then vals.toArray[0] else .tuple vals.toArray, ?_, ?_⟩
  · simp only [Sem.run_bind, Sem.run_map, Sem.run_pure]
    erw [g1]
    rfl
  · match vs, vals, g2 with
    | [v], [u], g2 => simpa [tupOf] using g2.2 0 v u rfl rfl
    | [], [], g2 => simp only [tupOf]; exact .tup g2.1 g2.2
    | a :: b :: vs, x :: y :: vals, g2 =>
      have : ¬ (x :: y :: vals).toArray.size = 1 := by simp
      rw [dif_neg this]
      exact .tup g2.1 g2.2
    | [], _ :: _, g2 => cases g2.1
    | _ :: _, [], g2 => cases g2.1
    | [_], _ :: _ :: _, g2 => cases g2.1
    | _ :: _ :: _, [_], g2 => cases g2.1
end
end Ab

/- Every call: what the interpreter gives, the model's call comes to. -/
set_option linter.unusedSimpArgs false
set_option linter.unusedVariables false
namespace Ab
open Go RowKit

structure LinkOk (L : Lk) (A : AProg) : Prop where
  hm : L.P.follows .mixedOrders = true
  fns : ∀ (fid : FuncId) (f : Nat), L.mf fid = some f → ∃ fn c, L.P.funcs[fid]? = some fn ∧ fn.body = some c ∧ (fn.name == "runtime.NumGoroutine") = false ∧
    ∀ af, A f = some af → (∃ x0, comp L fn.ntmps c x0 = some af.body) ∧ compRes L fn.results.toList = some af.res

theorem LinkOk.bodies {L : Lk} {A : AProg} (lk : LinkOk L A) : Bodies L := fun fid f h => let ⟨fn, c, a, b, d, _⟩ := lk.fns fid f h; ⟨fn, c, a, b, d⟩

theorem look_params : ∀ (args : List AV) (k t : Nat), look (params k args) t = if k ≤ t then (args[t - k]?).getD .bot else .bot
  | [], k, t => by simp [params, look]
  | v :: r, k, t => by
    simp only [params, look, look_params r (k + 1) t]
    by_cases h : k = t
    · subst h; simp
    · rw [if_neg h]
      by_cases hk : k ≤ t
      · have e : t - k = (t - (k + 1)) + 1 := by omega
        rw [if_pos hk, if_pos (by omega), e, List.getElem?_cons_succ]
      · rw [if_neg hk, if_neg (by omega)]

section
variable {L : Lk} {w0 : World} {ι : Io} {M : Mm} {h : H} {w : World}

theorem EnvR.params {args : List AV} {vals : List Value} (hr : RowA L ι M args vals) (n : Nat) : EnvR L ι M (params 0 args) (vals.toArray ++ Array.replicate n undef) := by
  intro t
  rw [look_params, if_pos (Nat.zero_le _), Nat.sub_zero]
  cases ha : args[t]? with
  | none => exact .imm (.bot _)
  | some a =>
    obtain ⟨hlt, _⟩ := List.getElem?_eq_some_iff.1 ha
    have hlt' : t < vals.length := by rw [← hr.1]; exact hlt
    have hv : vals[t]? = some vals[t] := List.getElem?_eq_getElem hlt'
    have := hr.2 t a _ ha hv
    rw [Array.getD_eq_getD_getElem?, Array.getElem?_append_left (by simpa using hlt')]
    simpa [hv] using this

theorem R.fence (r : R L w0 ι M h w) : R L w0 ι M h.fence w := ⟨r.below, r.dom, r.blk, r.own, r.val, r.disj, r.imm, r.immd⟩

theorem callee {A : AProg} (lk : LinkOk L A) : ∀ d, Callee L w0 (callN A d)
  | 0, _, _, _, _, _, _, _, _, _, _, _, hev, _, _ => by cases hev
  | d + 1, f, fid, args, vals, ι, M, h, h', w, v, hmf, hev, r, hrow => by
    have ih := callee lk d
    obtain ⟨fn, c, hf, hb, _, hA⟩ := lk.fns fid f hmf
    simp only [callN, Option.bind_eq_some_iff] at hev
    obtain ⟨af, haf, hev⟩ := hev
    obtain ⟨⟨x0, hx⟩, hres⟩ := hA af haf
    unfold runF at hev
    split at hev
    · rename_i hnp
      simp only [Option.bind_eq_some_iff] at hev
      obtain ⟨⟨ex, e1, h1⟩, hv, hfin⟩ := hev
      have hsz : fn.ntmps ≤ (vals.toArray ++ Array.replicate (fn.ntmps - vals.toArray.size) undef).size := by simp; omega
      refine calls_of_wp hf hb ?_
      have hr' : R L w0 ι M (if af.pure = true then h.fence else h) w := by
        split
        · exact r.fence
        · exact r
      refine code_wp lk.hm ih lk.bodies (next_callN A d) d c x0 af.body hx (a := { tmps := vals.toArray ++ Array.replicate (fn.ntmps - vals.toArray.size) undef, defers := [] }) (EnvR.params hrow _) hsz hr' hv ?_
      intro ι1 M1 a1 w1 g r1 he1 _ hd1
      have post : ∀ (P : Value → World → Prop) (vs : List AV), resAll e1 h1 af.res = some vs → (∀ u, V L ι1 M1 (tupOf vs) u → P u w1) → bodyPost L.P fn (fun e w' => ∃ v', e = .returned v' ∧ P v' w') .normal a1 w1 := by
        intro P vs hvs hP
        obtain ⟨u, k1, k2⟩ := results_sound r1 (fn := fn) he1 hres hvs
        exact ⟨hd1, u, k1, u, rfl, hP u k2⟩
      have main : ∀ vs, resAll e1 h1 af.res = some vs → (if af.pure = true then (snap h1.get h.next snapFuel true (tupOf vs)).bind fun v => some (v, h) else some (tupOf vs, h1)) = some (v, h') →
          bodyPost L.P fn (fun e w' => ∃ v', e = .returned v' ∧ Out L w0 ι M h h' v v' w') .normal a1 w1 := by
        intro vs hvs hfin
        split at hfin
        · rename_i hp
          simp only [Option.bind_eq_some_iff] at hfin
          obtain ⟨v2, hsn, hfin⟩ := hfin
          obtain ⟨rfl, rfl⟩ := Prod.mk.inj (Option.some.inj hfin)
          simp only [hp, if_true] at g hv
          have kp := evC_kp (next_callN A d) (kp_callN A d) d _ _ _ _ _ _ (Nat.le_refl _) hv
          refine post (fun u w' => Out L w0 ι M h h v2 u w') vs hvs fun u hu => ?_
          have hold : ∀ id l, id < h.next → ι1 id = some l → ι id = some l := fun id l a b => g.old id l a b
          exact ⟨ι, keepM M1 ι1 h1 h.next w1, fun _ _ q => q, fun b o x q => keepM_le _ b o x (g.mm _ _ _ q), fun _ _ _ q => q, r.back r1 (fun id hid => kp.get id hid) g.io g.mm, (snap_sound r1 hold _ true _ _ _ hu hsn).1 rfl⟩
        · rename_i hp
          obtain ⟨rfl, rfl⟩ := Prod.mk.inj (Option.some.inj hfin)
          rw [if_neg hp] at g
          exact post (fun u w' => Out L w0 ι M h h1 (tupOf vs) u w') vs hvs fun u hu => ⟨ι1, M1, g.io, g.mm, g.old, r1, hu⟩
      unfold fin at hfin
      split at hfin
      · cases hfin
      · rename_i hne q
        cases q
        simp only [Option.bind_eq_some_iff] at hfin
        obtain ⟨vs, hvs, hfin⟩ := hfin
        have := main vs hvs hfin
        cases ex with
        | normal => exact this
        | ret => exact this
        | exit id => exact (hne _ rfl).elim
    · cases hev

/-- The call, with its limits. -/
theorem callW_sound {A : AProg} (lk : LinkOk L A) : Callee L w0 (callW A) := by
  intro f fid args vals ι M h h' w v hmf hev r hrow
  obtain ⟨n, hn⟩ := callW_inv hev
  exact callee lk n f fid args vals ι M h h' w v hmf hn r hrow
end
end Ab

/- From a call of the interpreter to a call of the model: at the head of a row. -/
set_option linter.unusedVariables false
namespace Ab
open Go RowKit ChangeShapes WideShapes

def noI : Io := fun _ => none
def noM : Mm := fun _ _ => none

theorem R.start (L : Lk) (W : World) {M : Mm} (hM : ∀ b o v, M b o = some v → W.cell? (at' b o) = some v) : R L W noI M H.empty W :=
  ⟨Below.refl _ _, fun _ _ h => (by cases h), fun _ _ _ _ h => (by cases h), fun _ _ _ _ h => (by cases h), fun _ _ _ _ h => (by cases h), fun _ _ _ _ _ _ _ _ h => (by cases h), hM, fun _ _ _ _ _ _ _ _ h => (by cases h)⟩

/-- A law that says true. -/
theorem says_true {L : Lk} {A : AProg} (lk : LinkOk L A) {f : Nat} {fid : FuncId} {args : List AV} {vals : List Value} {M : Mm} {W : World} {h' : H} (hm : L.mf fid = some f) (hM : ∀ b o v, M b o = some v → W.cell? (at' b o) = some v)
    (hc : callW A f args H.empty = some (.bool true, h')) (hr : RowA L noI M args vals) : Calls L.P fid vals.toArray W fun e W' => e = .returned (.bool true) ∧ Below W.heap.size W W' := by
  refine (callW_sound lk f fid args vals noI M H.empty h' W _ hm hc (R.start L W hM) hr).mono fun e W' ⟨v', he, ι', M', _, _, _, r', hv⟩ => ?_
  have := hv.bool_inv
  subst this
  exact ⟨he, r'.below⟩

theorem int_rng {a : Int} (w : (Lit.int .i64 a).wf = true) : -9223372036854775808 ≤ a ∧ a < 9223372036854775808 := by
  simp only [Lit.wf, Bool.and_eq_true, decide_eq_true_eq] at w
  have h1 : IntKind.min .i64 = -9223372036854775808 := by decide
  have h2 : IntKind.max .i64 = 9223372036854775807 := by decide
  rw [h1, h2] at w
  omega
theorem str_sz {s : ByteArray} (w : s.size ≤ reachBytes) : s.size < 140737488355328 := by
  unfold reachBytes at w; omega

/-- What a row asks of a law that says true: all else reads as it did. -/
theorem post_true {H : Type} {enc : TypeId × Value → H} {P : Program} {f : Func} {s : ChangeSpec} {apart fresh handsOn : Bool} {W W' : World} {args : Array Value} {ds gs : List (DataW H)} {before pa pv : List MemPlace} {t : TypeId}
    (hW : DataW.Whole enc P f.params.toList s.vars apart W args.toList ds gs before) (hb : Below W.heap.size W W')
    (hrt : f.resultTypes = #[t]) (hres : ∀ (b : Nat) (sp : Nat → Bool) (hd : Bool), DataW.Trod enc P W' b sp hd t (.bool true) (.lit (.bool true)) []) (hsr : (s.fn H (ds ++ gs)).results = [.lit (.bool true)])
    (hargs : DataW.TrodAll enc P W' 0 (fun b => decide (b < W.heap.size)) true f.params.toList args.toList (s.fn H (ds ++ gs)).args pa)
    (hvars : DataW.TrodVars enc P W' (fun b => decide (b < W.heap.size)) s.vars (s.fn H (ds ++ gs)).vars pv) :
    s.post enc P f apart fresh handsOn false W args (.bool true) W' := by
  refine ⟨ds, gs, before, [], pa, pv, hW, ?_, hargs, hvars, hb.frame _, fun h => by cases h⟩
  rw [hrt, hsr]
  exact trodAll_mk1 (hres _ _ _)
end Ab
