/- For every text and all three numbers, portagelaw7.InflateTurned says true: a dynamic block of which one bit was turned is told as something or refused, and never more than the bound. -/
import Derived.Test.YtolinppbhjljcaaRows
import Derived.ProofKit
import Derived.OpenShut
import Derived.Stop.Joined
import Derived.Test.YtolinppbhjljcaaK1
import Derived.Test.YtolinppbhjljcaaC3
set_option maxRecDepth 100000
namespace Go.Proofs.Ytolinppbhjljcaa.inflateTurned
open Go.ChangeShapes Go.WideShapes Go.ChangeAt Go.RowKit
theorem own : ownKnob Try.prog.godebug = none := by kernel_rfl
theorem spec_eq (H : Type) (ds : List (DataW H)) (h : ds.length = [Ab.strT, Ab.intT, Ab.intT, Ab.intT].length) : Rows.inflateTurnedSpec.fn H ds = { results := [.lit (.bool true)], args := ds } := by
  match ds, h with
  | [d1, d2, d3, d4], _ => rfl
theorem lifted (os : Os) (started : os.Started) (H : Type) (enc : TypeId × Value → H) :
    ReturnsInHanded {} Try.checked os 8 .any (Rows.inflateTurnedSpec.pre6 enc Try.prog Try.f8 Rows.inflateTurnedRow.domain false) (Rows.inflateTurnedSpec.post enc Try.prog Try.f8 false true false false) := by
  refine returnsInHanded_of_change_sized (C := Try.checked) own started (by kernel_rfl) Try.func8
    (ChangeSpec.witness6 (enc := enc) (C := Try.checked) false ⟨#[], #[.string ⟨#[]⟩, .int .i64 0, .int .i64 0, .int .i64 0], []⟩ 8 (by kernel_rfl) (by kernel_rfl) (by kernel_rfl) (by kernel_rfl)) ?_
  intro W base args ds gs before hval hW hcnd hsz _
  exact Ab.law_row (C := Try.checked) Ab.Ln.lk rfl (f := 8) (fn := Try.f8) (key := 5) (by kernel_rfl) (tys := [Ab.strT, Ab.intT, Ab.intT, Ab.intT]) (m := 8) (by kernel_rfl) (by kernel_rfl) (by kernel_rfl) (tb := 4) rfl Try.underlying4 (s := Rows.inflateTurnedSpec) rfl spec_eq Ab.law_inflateTurned hval hW hsz
theorem proved : Rows.InflateTurnedSaid :=
  OpenClaim.holds_of_wide 8 Try.f8 rfl rfl rfl rfl rfl rfl rfl ⟨rfl, rfl, rfl, rfl, rfl⟩ rfl rfl rfl rfl rfl (by kernel_rfl) Try.func8 (by kernel_rfl)
    (of_decide_eq_true (by kernel_rfl)) (by unfold Func.isWrapper; first | (rw [if_pos (by decide +kernel)]; kernel_rfl) | (rw [if_neg (by decide +kernel)]; exact ⟨rfl, rfl⟩))
    (fun os started H enc _ => lifted os started H enc)
end Go.Proofs.Ytolinppbhjljcaa.inflateTurned
