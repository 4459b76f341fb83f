/- The row, part A. -/
import Derived.Test.YtcpjlemfholepaaRows
import Derived.ProofKit
import Derived.OpenShut
import Derived.Stop.Joined
import Derived.Test.YtcpjlemfholepaaK1
import Derived.Test.YtcpjlemfholepaaC3
set_option maxRecDepth 100000
namespace Go.Proofs.Ytcpjlemfholepaa.deflateBest
open Go.ChangeShapes Go.WideShapes Go.ChangeAt Go.RowKit
theorem own : ownKnob Try.prog.godebug = none := by kernel_rfl
theorem spec_eq (H : Type) (ds : List (DataW H)) (h : ds.length = [Ab.Oe].length) : Rows.deflateBestSpec.fn H ds = { results := [.lit (.bool true)], args := ds } := by
  match ds, h with
  | [d1], _ => rfl
theorem lifted (os : Os) (started : os.Started) (H : Type) (enc : TypeId × Value → H) :
    ReturnsInHanded {} Try.checked os 9 .any (Rows.deflateBestSpec.pre6 enc Try.prog Try.f9 Rows.deflateBestRow.domain false) (Rows.deflateBestSpec.post enc Try.prog Try.f9 false true false false) := by
  refine returnsInHanded_of_change_sized (C := Try.checked) own started (by kernel_rfl) Try.func9
    (ChangeSpec.witness6 (enc := enc) (C := Try.checked) false ⟨#[], #[.string ⟨#[]⟩], []⟩ 8 (by kernel_rfl) (by kernel_rfl) (by kernel_rfl) (by kernel_rfl)) ?_
  intro W base args ds gs before hval hW hcnd hsz _
  exact Ab.sY (C := Try.checked) Ab.Ln.lk rfl (f := 9) (fn := Try.f9) (key := 322) (by kernel_rfl) (tys := [Ab.Oe]) (m := 8) (by kernel_rfl) (by kernel_rfl) (by kernel_rfl) (tb := 4) rfl Try.underlying4 (s := Rows.deflateBestSpec) rfl spec_eq Ab.B4 hval hW hsz
end Go.Proofs.Ytcpjlemfholepaa.deflateBest
