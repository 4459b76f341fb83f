/- The row, part A. -/
import Derived.Test.YtmckmpeekikfdaaRows
import Derived.ProofKit
import Derived.OpenShut
import Derived.Stop.Joined
import Derived.Test.YtmckmpeekikfdaaK1
import Derived.Test.YtmckmpeekikfdaaC3
set_option maxRecDepth 100000
namespace Go.Proofs.Ytmckmpeekikfdaa.blockBack
open Go.ChangeShapes Go.WideShapes Go.ChangeAt Go.RowKit
theorem own : ownKnob Try.prog.godebug = none := by kernel_rfl
theorem spec_eq (H : Type) (ds : List (DataW H)) (h : ds.length = [Ab.NB, Ab.Hx].length) : Rows.blockBackSpec.fn H ds = { results := [.lit (.bool true)], args := ds } := by
  match ds, h with
  | [d1, d2], _ => rfl
theorem lifted (os : Os) (started : os.Started) (H : Type) (enc : TypeId × Value → H) :
    ReturnsInHanded {} Try.checked os 3 .any (Rows.blockBackSpec.pre6 enc Try.prog Try.f3 Rows.blockBackRow.domain false) (Rows.blockBackSpec.post enc Try.prog Try.f3 false true false false) := by
  refine returnsInHanded_of_change_sized (C := Try.checked) own started (by kernel_rfl) Try.func3
    (ChangeSpec.witness6 (enc := enc) (C := Try.checked) false ⟨#[], #[.string ⟨#[]⟩, .slice none 0 0], []⟩ 8 (by kernel_rfl) (by kernel_rfl) (by kernel_rfl) (by kernel_rfl)) ?_
  intro W base args ds gs before hval hW hcnd hsz _
  exact Ab.sZ (C := Try.checked) Ab.Ln.lk rfl (f := 3) (fn := Try.f3) (key := 316) (by kernel_rfl) (tys := [Ab.NB, Ab.Hx]) (m := 8) (by kernel_rfl) (by kernel_rfl) (by kernel_rfl) (tb := 4) rfl Try.underlying4 (s := Rows.blockBackSpec) rfl spec_eq Ab.C7 hval hW hsz
end Go.Proofs.Ytmckmpeekikfdaa.blockBack
