/- For every two texts and every number, portagelaw7.InflateStored says true: stored blocks that stand one behind the other are told in their row, and too long ones are refused. -/
import Derived.Test.YtolinppbhjljcaaC4
import Derived.Test.YtolinppbhjljcaaK1
import Derived.Test.YtolinppbhjljcaaA2
import Derived.Test.YtolinppbhjljcaaRows
/- For every two texts and every number, portagelaw7.InflateStored says true: stored blocks that stand one behind the other are told in their row, and too long ones are refused. -/
set_option maxRecDepth 100000
namespace Go.Proofs.Ytolinppbhjljcaa.inflateStored
open Go.ChangeShapes Go.WideShapes Go.ChangeAt Go.RowKit

theorem own : ownKnob Try.prog.godebug = none := by kernel_rfl

theorem any (a : ByteArray) (wa : a.size ≤ reachBytes) (b : ByteArray) (wb : b.size ≤ reachBytes) (most : Int) (wmost : (Lit.int .i64 most).wf = true) (W : World) :
    Calls Try.prog 6 #[.string a, .string b, .int .i64 most] W fun e W' => e = .returned (.bool true) ∧ Below W.heap.size W W' :=
  Ab.says_true Ab.Ln.lk (f := 3) (args := [.str a, .str b, Ab.I most]) (vals := [.string a, .string b, .int .i64 most]) (M := Ab.noM) (by kernel_rfl) (fun _ _ _ h => by cases h)
    (Ab.inflateStored_c a b most (Ab.str_sz wa) (Ab.str_sz wb) (Ab.int_rng wmost) Ab.H.empty) (.cons (.imm (.str _)) (.cons (.imm (.str _)) (.cons (.imm (.int _ _)) .nil)))

theorem lifted (os : Os) (started : os.Started) (H : Type) (enc : TypeId × Value → H) :
    ReturnsInHanded {} Try.checked os 6 .any (Rows.inflateStoredSpec.pre6 enc Try.prog Try.f6 Rows.inflateStoredRow.domain false) (Rows.inflateStoredSpec.post enc Try.prog Try.f6 false true false false) := by
  refine returnsInHanded_of_change_sized (C := Try.checked) own started (by kernel_rfl) Try.func6
    (ChangeSpec.witness6 (enc := enc) (C := Try.checked) false ⟨#[], #[.string ⟨#[]⟩, .string ⟨#[]⟩, .int .i64 0], []⟩ 8 (by kernel_rfl) (by kernel_rfl) (by kernel_rfl) (by kernel_rfl)) ?_
  intro W base args ds gs before hval0 hW hcnd hsz _
  have hval : ∀ (j : Nat) t v, Try.f6.params[j]? = some t → args[j]? = some v → Value.okWide Try.prog W .any base t v := hval0
  have hW' := hW
  obtain ⟨p, q, hA0, hV, rfl, hfz, hnd⟩ := hW
  have hA : DataW.TrodAll enc Try.prog W 0 (fun _ => true) true Try.f6.params.toList args.toList ds p := hA0
  rw [Try.params6] at hA hval
  obtain ⟨v0, v1, v2, d0, d1, d2, p0, p1, p2, rfl, rfl, rfl, h0, h1, h2⟩ := trodAll_three hA
  obtain ⟨rfl, rfl⟩ := trodVars_none hV
  obtain ⟨a, rfl, rfl, rfl, wa⟩ := Go.ChangeMaps.open_string Try.underlying9 (hval 0 9 v0 rfl rfl) h0
  obtain ⟨b, rfl, rfl, rfl, wb⟩ := Go.ChangeMaps.open_string Try.underlying9 (hval 1 9 v1 rfl rfl) h1
  obtain ⟨most, rfl, rfl, rfl, wmost⟩ := open_int Try.underlying3 (hval 2 3 v2 rfl rfl) h2
  clear hA0 hval0
  simp only [List.append_nil] at hW'
  have za : a.size ≤ reachBytes := sized_string hsz (j := 0) (t := 9) (bytes := a.data.toList) rfl rfl
  have zb : b.size ≤ reachBytes := sized_string hsz (j := 1) (t := 9) (bytes := b.data.toList) rfl rfl
  refine (any a za b zb most wmost W).mono fun e W' ⟨he, hw⟩ => ?_
  subst he
  exact ⟨_, rfl, Ab.post_true (pa := []) (pv := []) hW' hw rfl (fun _ _ _ => shut_bool Try.underlying4 true) rfl (trodAll_mk3 (Go.ChangeMaps.shut_string Try.underlying9 wa) (Go.ChangeMaps.shut_string Try.underlying9 wb) (shut_int Try.underlying3 wmost)) rfl⟩

theorem proved : Rows.InflateStoredSaid :=
  OpenClaim.holds_of_wide 6 Try.f6 rfl rfl rfl rfl rfl rfl rfl ⟨rfl, rfl, rfl, rfl, rfl⟩ rfl rfl rfl rfl rfl (by kernel_rfl) Try.func6 (by kernel_rfl)
    (of_decide_eq_true (by kernel_rfl)) (by unfold Func.isWrapper; rw [if_neg (by decide +kernel)]; exact ⟨rfl, rfl⟩)
    (fun os started H enc _ => lifted os started H enc)
end Go.Proofs.Ytolinppbhjljcaa.inflateStored
