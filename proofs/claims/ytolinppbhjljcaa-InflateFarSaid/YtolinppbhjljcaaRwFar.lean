/- For every number, portagelaw7.InflateFar says true: a copy from farther back than there are bytes is refused, a nearer one is made. -/
import Derived.Test.YtolinppbhjljcaaC4
import Derived.Test.YtolinppbhjljcaaK1
import Derived.Test.YtolinppbhjljcaaA2
import Derived.Test.YtolinppbhjljcaaRows
/- For every number, portagelaw7.InflateFar says true: a copy from farther back than there are bytes is refused, a nearer one is made. -/
set_option maxRecDepth 100000
namespace Go.Proofs.Ytolinppbhjljcaa.inflateFar
open Go.ChangeShapes Go.WideShapes Go.ChangeAt Go.RowKit

theorem own : ownKnob Try.prog.godebug = none := by kernel_rfl

theorem any (lits : Int) (wlits : (Lit.int .i64 lits).wf = true) (W : World) :
    Calls Try.prog 7 #[.int .i64 lits] W fun e W' => e = .returned (.bool true) ∧ Below W.heap.size W W' :=
  Ab.says_true Ab.Ln.lk (f := 4) (args := [Ab.I lits]) (vals := [.int .i64 lits]) (M := Ab.noM) (by kernel_rfl) (fun _ _ _ h => by cases h)
    (Ab.far_c lits (Ab.int_rng wlits) Ab.H.empty) (.cons (.imm (.int _ _)) .nil)

theorem lifted (os : Os) (started : os.Started) (H : Type) (enc : TypeId × Value → H) :
    ReturnsInHanded {} Try.checked os 7 .any (Rows.inflateFarSpec.pre6 enc Try.prog Try.f7 Rows.inflateFarRow.domain false) (Rows.inflateFarSpec.post enc Try.prog Try.f7 false true false false) := by
  refine returnsInHanded_of_change_sized (C := Try.checked) own started (by kernel_rfl) Try.func7
    (ChangeSpec.witness6 (enc := enc) (C := Try.checked) false ⟨#[], #[.int .i64 0], []⟩ 8 (by kernel_rfl) (by kernel_rfl) (by kernel_rfl) (by kernel_rfl)) ?_
  intro W base args ds gs before hval0 hW hcnd hsz _
  have hval : ∀ (j : Nat) t v, Try.f7.params[j]? = some t → args[j]? = some v → Value.okWide Try.prog W .any base t v := hval0
  have hW' := hW
  obtain ⟨p, q, hA0, hV, rfl, hfz, hnd⟩ := hW
  have hA : DataW.TrodAll enc Try.prog W 0 (fun _ => true) true Try.f7.params.toList args.toList ds p := hA0
  rw [Try.params7] at hA hval
  obtain ⟨v0, d0, rfl, rfl, h0⟩ := trodAll_one hA
  obtain ⟨rfl, rfl⟩ := trodVars_none hV
  obtain ⟨lits, rfl, rfl, rfl, wlits⟩ := open_int Try.underlying3 (hval 0 3 v0 rfl rfl) h0
  clear hA0 hval0
  simp only [List.append_nil] at hW'

  refine (any lits wlits W).mono fun e W' ⟨he, hw⟩ => ?_
  subst he
  exact ⟨_, rfl, Ab.post_true (pa := []) (pv := []) hW' hw rfl (fun _ _ _ => shut_bool Try.underlying4 true) rfl (trodAll_mk1 (shut_int Try.underlying3 wlits)) rfl⟩

theorem proved : Rows.InflateFarSaid :=
  OpenClaim.holds_of_wide 7 Try.f7 rfl rfl rfl rfl rfl rfl rfl ⟨rfl, rfl, rfl, rfl, rfl⟩ rfl rfl rfl rfl rfl (by kernel_rfl) Try.func7 (by kernel_rfl)
    (of_decide_eq_true (by kernel_rfl)) (by unfold Func.isWrapper; rw [if_neg (by decide +kernel)]; exact ⟨rfl, rfl⟩)
    (fun os started H enc _ => lifted os started H enc)
end Go.Proofs.Ytolinppbhjljcaa.inflateFar
