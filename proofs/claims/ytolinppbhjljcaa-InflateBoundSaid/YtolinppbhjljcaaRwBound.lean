/- For every text, every bound and every text behind, portagelaw7.InflateBound says true: what is told within a bound is told within each greater one and with bytes behind; within a smaller one it is too long; of fewer bytes it is none. -/
import Derived.Test.YtolinppbhjljcaaC5
import Derived.Test.YtolinppbhjljcaaK1
import Derived.Test.YtolinppbhjljcaaA2
import Derived.Test.YtolinppbhjljcaaRows
/- For every text, every bound and every text behind, portagelaw7.InflateBound says true: what is told within a bound is told within each greater one and with bytes behind; within a smaller one it is too long; of fewer bytes it is none. -/
set_option maxRecDepth 100000
namespace Go.Proofs.Ytolinppbhjljcaa.inflateBound
open Go.ChangeShapes Go.WideShapes Go.ChangeAt Go.RowKit

theorem own : ownKnob Try.prog.godebug = none := by kernel_rfl

theorem any (s : ByteArray) (ws : s.size ≤ reachBytes) (most : Int) (wmost : (Lit.int .i64 most).wf = true) (more : ByteArray) (wmore : more.size ≤ reachBytes) (W : World) :
    Calls Try.prog 4 #[.string s, .int .i64 most, .string more] W fun e W' => e = .returned (.bool true) ∧ Below W.heap.size W W' :=
  Ab.says_true Ab.Ln.lk (f := 1) (args := [.str s, Ab.I most, .str more]) (vals := [.string s, .int .i64 most, .string more]) (M := Ab.noM) (by kernel_rfl) (fun _ _ _ h => by cases h)
    (Ab.inflateBound_c s most more (Ab.str_sz ws) (Ab.int_rng wmost) (Ab.str_sz wmore) Ab.H.empty) (.cons (.imm (.str _)) (.cons (.imm (.int _ _)) (.cons (.imm (.str _)) .nil)))

theorem lifted (os : Os) (started : os.Started) (H : Type) (enc : TypeId × Value → H) :
    ReturnsInHanded {} Try.checked os 4 .any (Rows.inflateBoundSpec.pre6 enc Try.prog Try.f4 Rows.inflateBoundRow.domain false) (Rows.inflateBoundSpec.post enc Try.prog Try.f4 false true false false) := by
  refine returnsInHanded_of_change_sized (C := Try.checked) own started (by kernel_rfl) Try.func4
    (ChangeSpec.witness6 (enc := enc) (C := Try.checked) false ⟨#[], #[.string ⟨#[]⟩, .int .i64 0, .string ⟨#[]⟩], []⟩ 8 (by kernel_rfl) (by kernel_rfl) (by kernel_rfl) (by kernel_rfl)) ?_
  intro W base args ds gs before hval0 hW hcnd hsz _
  have hval : ∀ (j : Nat) t v, Try.f4.params[j]? = some t → args[j]? = some v → Value.okWide Try.prog W .any base t v := hval0
  have hW' := hW
  obtain ⟨p, q, hA0, hV, rfl, hfz, hnd⟩ := hW
  have hA : DataW.TrodAll enc Try.prog W 0 (fun _ => true) true Try.f4.params.toList args.toList ds p := hA0
  rw [Try.params4] at hA hval
  obtain ⟨v0, v1, v2, d0, d1, d2, p0, p1, p2, rfl, rfl, rfl, h0, h1, h2⟩ := trodAll_three hA
  obtain ⟨rfl, rfl⟩ := trodVars_none hV
  obtain ⟨s, rfl, rfl, rfl, ws⟩ := Go.ChangeMaps.open_string Try.underlying9 (hval 0 9 v0 rfl rfl) h0
  obtain ⟨most, rfl, rfl, rfl, wmost⟩ := open_int Try.underlying3 (hval 1 3 v1 rfl rfl) h1
  obtain ⟨more, rfl, rfl, rfl, wmore⟩ := Go.ChangeMaps.open_string Try.underlying9 (hval 2 9 v2 rfl rfl) h2
  clear hA0 hval0
  simp only [List.append_nil] at hW'
  have zs : s.size ≤ reachBytes := sized_string hsz (j := 0) (t := 9) (bytes := s.data.toList) rfl rfl
  have zmore : more.size ≤ reachBytes := sized_string hsz (j := 2) (t := 9) (bytes := more.data.toList) rfl rfl
  refine (any s zs most wmost more zmore W).mono fun e W' ⟨he, hw⟩ => ?_
  subst he
  exact ⟨_, rfl, Ab.post_true (pa := []) (pv := []) hW' hw rfl (fun _ _ _ => shut_bool Try.underlying4 true) rfl (trodAll_mk3 (Go.ChangeMaps.shut_string Try.underlying9 ws) (shut_int Try.underlying3 wmost) (Go.ChangeMaps.shut_string Try.underlying9 wmore)) rfl⟩

theorem proved : Rows.InflateBoundSaid :=
  OpenClaim.holds_of_wide 4 Try.f4 rfl rfl rfl rfl rfl rfl rfl ⟨rfl, rfl, rfl, rfl, rfl⟩ rfl rfl rfl rfl rfl (by kernel_rfl) Try.func4 (by kernel_rfl)
    (of_decide_eq_true (by kernel_rfl)) (by unfold Func.isWrapper; rw [if_neg (by decide +kernel)]; exact ⟨rfl, rfl⟩)
    (fun os started H enc _ => lifted os started H enc)
end Go.Proofs.Ytolinppbhjljcaa.inflateBound
