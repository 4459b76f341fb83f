/- For every number, portagelaw7.InflateForms says true: the bytes that are no stream are refused, each with the right word. -/
import Derived.Test.YtolinppbhjljcaaC3
import Derived.Test.YtolinppbhjljcaaK1
import Derived.Test.YtolinppbhjljcaaA2
import Derived.Test.YtolinppbhjljcaaRows
/- For every number, portagelaw7.InflateForms says true: the bytes that are no stream are refused, each with the right word. -/
set_option maxRecDepth 100000
namespace Go.Proofs.Ytolinppbhjljcaa
open Go.ChangeShapes Go.WideShapes Go.ChangeAt Go.RowKit

theorem Try.own : ownKnob Try.prog.godebug = none := by kernel_rfl

theorem forms_any (a : Int) (wa : (Lit.int .i64 a).wf = true) (W : World) :
    Calls Try.prog 5 #[.int .i64 a] W fun e W' => e = .returned (.bool true) ∧ Below W.heap.size W W' := by
  have hw : IntKind.wrap .i64 a = a := by
    simp only [Lit.wf, Bool.and_eq_true, decide_eq_true_eq] at wa
    exact Ab.wrap_in (by have := wa.1; simpa [IntKind.min, IntKind.bits, IntKind.signed] using this) (by have := wa.2; simp [IntKind.max, IntKind.bits, IntKind.signed] at this; omega)
  exact Ab.says_true Ab.Ln.lk (f := 2) (args := [Ab.I a]) (vals := [.int .i64 a]) (M := Ab.noM) (by kernel_rfl) (fun _ _ _ h => by cases h)
    (Ab.forms_c a hw Ab.H.empty) (.cons (.imm (.int _ _)) .nil)

theorem forms_lifted (os : Os) (started : os.Started) (H : Type) (enc : TypeId × Value → H) :
    ReturnsInHanded {} Try.checked os 5 .any (Rows.inflateFormsSpec.pre6 enc Try.prog Try.f5 Rows.inflateFormsRow.domain false) (Rows.inflateFormsSpec.post enc Try.prog Try.f5 false true false false) := by
  refine returnsInHanded_of_change (C := Try.checked) Try.own started (by kernel_rfl) Try.func5
    (ChangeSpec.witness6 (enc := enc) (C := Try.checked) false ⟨#[], #[.int .i64 0], []⟩ 8 (by kernel_rfl) (by kernel_rfl) (by kernel_rfl) (by kernel_rfl)) ?_
  intro W base args ds gs before hval0 hW hcnd _
  have hval : ∀ (j : Nat) t v, Try.f5.params[j]? = some t → args[j]? = some v → Value.okWide Try.prog W .any base t v := hval0
  have hW' := hW
  obtain ⟨p, q, hA0, hV, rfl, hfz, hnd⟩ := hW
  have hA : DataW.TrodAll enc Try.prog W 0 (fun _ => true) true Try.f5.params.toList args.toList ds p := hA0
  rw [Try.params5] at hA hval
  obtain ⟨v0, d0, rfl, rfl, h0⟩ := trodAll_one hA
  obtain ⟨rfl, rfl⟩ := trodVars_none hV
  obtain ⟨a, rfl, rfl, rfl, wa⟩ := open_int Try.underlying3 (hval 0 3 v0 rfl rfl) h0
  clear hA0 hval0
  simp only [List.append_nil] at hW'
  refine (forms_any a wa W).mono fun e W' ⟨he, hw⟩ => ?_
  subst he
  exact ⟨_, rfl, Ab.post_true (pa := []) (pv := []) hW' hw rfl (fun _ _ _ => shut_bool Try.underlying4 true) rfl (trodAll_mk1 (shut_int Try.underlying3 wa)) rfl⟩

theorem forms_holds : Rows.InflateFormsSaid :=
  OpenClaim.holds_of_wide 5 Try.f5 rfl rfl rfl rfl rfl rfl rfl ⟨rfl, rfl, rfl, rfl, rfl⟩ rfl rfl rfl rfl rfl (by kernel_rfl) Try.func5 (by kernel_rfl)
    (of_decide_eq_true (by kernel_rfl)) (by unfold Func.isWrapper; rw [if_neg (by decide +kernel)]; exact ⟨rfl, rfl⟩)
    (fun os started H enc _ => forms_lifted os started H enc)
end Go.Proofs.Ytolinppbhjljcaa
