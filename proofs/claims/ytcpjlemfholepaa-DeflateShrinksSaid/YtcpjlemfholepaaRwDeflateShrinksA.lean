/- The row, part A. -/
import Derived.Test.YtcpjlemfholepaaRows
import Derived.ProofKit
import Derived.OpenShut
import Derived.Stop.Joined
import Derived.Test.YtcpjlemfholepaaK1
import Derived.Test.YtcpjlemfholepaaC3
set_option maxRecDepth 100000
namespace Go.Proofs.Ytcpjlemfholepaa.deflateShrinks
open Go.ChangeShapes Go.WideShapes Go.ChangeAt Go.RowKit
theorem own : ownKnob Try.prog.godebug = none := by kernel_rfl
theorem spec_eq (H : Type) (ds : List (DataW H)) (h : ds.length = [Ab.Hw, Ab.Hw].length) : Rows.deflateShrinksSpec.fn H ds = { results := [.lit (.bool true)], args := ds } := by
  match ds, h with
  | [d1, d2], _ => rfl
theorem lifted (os : Os) (started : os.Started) (H : Type) (enc : TypeId × Value → H) :
    ReturnsInHanded {} Try.checked os 10 .any (Rows.deflateShrinksSpec.pre6 enc Try.prog Try.f10 Rows.deflateShrinksRow.domain false) (Rows.deflateShrinksSpec.post enc Try.prog Try.f10 false true false false) := by
  refine returnsInHanded_of_change_sized (C := Try.checked) own started (by kernel_rfl) Try.func10
    (ChangeSpec.witness6 (enc := enc) (C := Try.checked) false ⟨#[], #[.int .i64 0, .int .i64 0], []⟩ 8 (by kernel_rfl) (by kernel_rfl) (by kernel_rfl) (by kernel_rfl)) ?_
  intro W base args ds gs before hval hW hcnd hsz _
  exact Ab.tv (C := Try.checked) Ab.Ln.lk rfl (f := 10) (fn := Try.f10) (key := 323) (by kernel_rfl) (tys := [Ab.Hw, Ab.Hw]) (m := 8) (by kernel_rfl) (by kernel_rfl) (by kernel_rfl) (tb := 4) rfl Try.underlying4 (s := Rows.deflateShrinksSpec) rfl spec_eq Ab.Ao hval hW hsz
end Go.Proofs.Ytcpjlemfholepaa.deflateShrinks
