/- For every text and every bound, portagelaw7.Inflates says true: the program's Inflate answers as the document's own one. -/
import Derived.Test.YtolinppbhjljcaaC6
import Derived.Test.YtolinppbhjljcaaK1
import Derived.Test.YtolinppbhjljcaaA2
import Derived.Test.YtolinppbhjljcaaRows
/- For every text and every bound, portagelaw7.Inflates says true: the program's Inflate answers as the document's own one. -/
set_option maxRecDepth 100000
namespace Go.Proofs.Ytolinppbhjljcaa.inflates
open Go.ChangeShapes Go.WideShapes Go.ChangeAt Go.RowKit

theorem own : ownKnob Try.prog.godebug = none := by kernel_rfl

theorem any (s : ByteArray) (ws : s.size ≤ reachBytes) (most : Int) (wmost : (Lit.int .i64 most).wf = true) (W : World) :
    Calls Try.prog 3 #[.string s, .int .i64 most] W fun e W' => e = .returned (.bool true) ∧ Below W.heap.size W W' :=
  Ab.says_true Ab.Ln.lk (f := 0) (args := [.str s, Ab.I most]) (vals := [.string s, .int .i64 most]) (M := Ab.noM) (by kernel_rfl) (fun _ _ _ h => by cases h)
    (Ab.inflates_c s most (Ab.str_sz ws) (Ab.int_rng wmost) Ab.H.empty) (.cons (.imm (.str _)) (.cons (.imm (.int _ _)) .nil))

theorem lifted (os : Os) (started : os.Started) (H : Type) (enc : TypeId × Value → H) :
    ReturnsInHanded {} Try.checked os 3 .any (Rows.inflatesSpec.pre6 enc Try.prog Try.f3 Rows.inflatesRow.domain false) (Rows.inflatesSpec.post enc Try.prog Try.f3 false true false false) := by
  refine returnsInHanded_of_change_sized (C := Try.checked) own started (by kernel_rfl) Try.func3
    (ChangeSpec.witness6 (enc := enc) (C := Try.checked) false ⟨#[], #[.string ⟨#[]⟩, .int .i64 0], []⟩ 8 (by kernel_rfl) (by kernel_rfl) (by kernel_rfl) (by kernel_rfl)) ?_
  intro W base args ds gs before hval0 hW hcnd hsz _
  have hval : ∀ (j : Nat) t v, Try.f3.params[j]? = some t → args[j]? = some v → Value.okWide Try.prog W .any base t v := hval0
  have hW' := hW
  obtain ⟨p, q, hA0, hV, rfl, hfz, hnd⟩ := hW
  have hA : DataW.TrodAll enc Try.prog W 0 (fun _ => true) true Try.f3.params.toList args.toList ds p := hA0
  rw [Try.params3] at hA hval
  obtain ⟨v0, v1, d0, d1, p0, p1, rfl, rfl, rfl, h0, h1⟩ := trodAll_two hA
  obtain ⟨rfl, rfl⟩ := trodVars_none hV
  obtain ⟨s, rfl, rfl, rfl, ws⟩ := Go.ChangeMaps.open_string Try.underlying9 (hval 0 9 v0 rfl rfl) h0
  obtain ⟨most, rfl, rfl, rfl, wmost⟩ := open_int Try.underlying3 (hval 1 3 v1 rfl rfl) h1
  clear hA0 hval0
  simp only [List.append_nil] at hW'
  have zs : s.size ≤ reachBytes := sized_string hsz (j := 0) (t := 9) (bytes := s.data.toList) rfl rfl
  refine (any s zs most wmost W).mono fun e W' ⟨he, hw⟩ => ?_
  subst he
  exact ⟨_, rfl, Ab.post_true (pa := []) (pv := []) hW' hw rfl (fun _ _ _ => shut_bool Try.underlying4 true) rfl (trodAll_mk2 (Go.ChangeMaps.shut_string Try.underlying9 ws) (shut_int Try.underlying3 wmost)) rfl⟩

theorem proved : Rows.InflatesSaid :=
  OpenClaim.holds_of_wide 3 Try.f3 rfl rfl rfl rfl rfl rfl rfl ⟨rfl, rfl, rfl, rfl, rfl⟩ rfl rfl rfl rfl rfl (by kernel_rfl) Try.func3 (by kernel_rfl)
    (of_decide_eq_true (by kernel_rfl)) (by unfold Func.isWrapper; rw [if_neg (by decide +kernel)]; exact ⟨rfl, rfl⟩)
    (fun os started H enc _ => lifted os started H enc)
end Go.Proofs.Ytolinppbhjljcaa.inflates
