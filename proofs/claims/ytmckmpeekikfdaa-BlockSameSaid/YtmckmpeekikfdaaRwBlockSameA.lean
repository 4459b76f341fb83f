/- The row, part A. -/
import Derived.Test.YtmckmpeekikfdaaRows
import Derived.ProofKit
import Derived.OpenShut
import Derived.Stop.Joined
import Derived.Test.YtmckmpeekikfdaaK1
import Derived.Test.YtmckmpeekikfdaaC3
set_option maxRecDepth 100000
namespace Go.Proofs.Ytmckmpeekikfdaa.blockSame
open Go.ChangeShapes Go.WideShapes Go.ChangeAt Go.RowKit
theorem own : ownKnob Try.prog.godebug = none := by kernel_rfl
theorem spec_eq (H : Type) (ds : List (DataW H)) (h : ds.length = [Ab.Hq].length) : Rows.blockSameSpec.fn H ds = { results := [.lit (.bool true)], args := ds } := by
  match ds, h with
  | [d1], _ => rfl
theorem lifted (os : Os) (started : os.Started) (H : Type) (enc : TypeId × Value → H) :
    ReturnsInHanded {} Try.checked os 6 .any (Rows.blockSameSpec.pre6 enc Try.prog Try.f6 Rows.blockSameRow.domain false) (Rows.blockSameSpec.post enc Try.prog Try.f6 false true false false) := by
  refine returnsInHanded_of_change_sized (C := Try.checked) own started (by kernel_rfl) Try.func6
    (ChangeSpec.witness6 (enc := enc) (C := Try.checked) false ⟨#[], #[.slice none 0 0], []⟩ 8 (by kernel_rfl) (by kernel_rfl) (by kernel_rfl) (by kernel_rfl)) ?_
  intro W base args ds gs before hval hW hcnd hsz _
  exact Ab.sW (C := Try.checked) Ab.Ln.lk rfl (f := 6) (fn := Try.f6) (key := 319) (by kernel_rfl) (tys := [Ab.Hq]) (m := 8) (by kernel_rfl) (by kernel_rfl) (by kernel_rfl) (tb := 4) rfl Try.underlying4 (s := Rows.blockSameSpec) rfl spec_eq Ab.CU hval hW hsz
end Go.Proofs.Ytmckmpeekikfdaa.blockSame
