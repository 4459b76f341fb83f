/- For every text portagelaw7.InflateDynamic says true: a block with codes of its own comes to its text. -/
import Derived.Test.YtolinppbhjljcaaRows
import Derived.ProofKit
import Derived.OpenShut
import Derived.Stop.Joined
import Derived.Test.YtolinppbhjljcaaK1
import Derived.Test.YtolinppbhjljcaaC3
set_option maxRecDepth 100000
namespace Go.Proofs.Ytolinppbhjljcaa.inflateDynamic
open Go.ChangeShapes Go.WideShapes Go.ChangeAt Go.RowKit
theorem own : ownKnob Try.prog.godebug = none := by kernel_rfl
theorem spec_eq (H : Type) (ds : List (DataW H)) (h : ds.length = [Ab.strT].length) : Rows.inflateDynamicSpec.fn H ds = { results := [.lit (.bool true)], args := ds } := by
  match ds, h with
  | [d1], _ => rfl
theorem lifted (os : Os) (started : os.Started) (H : Type) (enc : TypeId × Value → H) :
    ReturnsInHanded {} Try.checked os 9 .any (Rows.inflateDynamicSpec.pre6 enc Try.prog Try.f9 Rows.inflateDynamicRow.domain false) (Rows.inflateDynamicSpec.post enc Try.prog Try.f9 false true false false) := by
  refine returnsInHanded_of_change_sized (C := Try.checked) own started (by kernel_rfl) Try.func9
    (ChangeSpec.witness6 (enc := enc) (C := Try.checked) false ⟨#[], #[.string ⟨#[]⟩], []⟩ 8 (by kernel_rfl) (by kernel_rfl) (by kernel_rfl) (by kernel_rfl)) ?_
  intro W base args ds gs before hval hW hcnd hsz _
  exact Ab.law_row (C := Try.checked) Ab.Ln.lk rfl (f := 9) (fn := Try.f9) (key := 6) (by kernel_rfl) (tys := [Ab.strT]) (m := 8) (by kernel_rfl) (by kernel_rfl) (by kernel_rfl) (tb := 4) rfl Try.underlying4 (s := Rows.inflateDynamicSpec) rfl spec_eq Ab.law_inflateDynamic hval hW hsz
theorem proved : Rows.InflateDynamicSaid :=
  OpenClaim.holds_of_wide 9 Try.f9 rfl rfl rfl rfl rfl rfl rfl ⟨rfl, rfl, rfl, rfl, rfl⟩ rfl rfl rfl rfl rfl (by kernel_rfl) Try.func9 (by kernel_rfl)
    (of_decide_eq_true (by kernel_rfl)) (by unfold Func.isWrapper; first | (rw [if_pos (by decide +kernel)]; kernel_rfl) | (rw [if_neg (by decide +kernel)]; exact ⟨rfl, rfl⟩))
    (fun os started H enc _ => lifted os started H enc)
end Go.Proofs.Ytolinppbhjljcaa.inflateDynamic
