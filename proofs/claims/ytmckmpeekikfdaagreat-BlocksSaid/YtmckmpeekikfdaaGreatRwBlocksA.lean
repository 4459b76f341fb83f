/- The row, part A. -/
import Derived.Test.YtmckmpeekikfdaaGreatRows
import Derived.ProofKit
import Derived.OpenShut
import Derived.Stop.Joined
import Derived.Test.YtmckmpeekikfdaaGreatK1
import Derived.Test.YtmckmpeekikfdaaGreatC4
set_option maxRecDepth 100000
namespace Go.Proofs.YtmckmpeekikfdaaGreat.blocks
open Go.ChangeShapes Go.WideShapes Go.ChangeAt Go.RowKit
theorem own : ownKnob Tryz.prog.godebug = none := by kernel_rfl
theorem spec_eq (H : Type) (ds : List (DataW H)) (h : ds.length = [Ab.QD, Ab.JV].length) : Rows.blocksSpec.fn H ds = { results := [.lit (.bool true)], args := ds } := by
  match ds, h with
  | [d1, d2], _ => rfl
theorem lifted (os : Os) (started : os.Started) (H : Type) (enc : TypeId × Value → H) :
    ReturnsInHanded {} Tryz.checked os 3 .any (Rows.blocksSpec.pre6 enc Tryz.prog Tryz.f3 Rows.blocksRow.domain false) (Rows.blocksSpec.post enc Tryz.prog Tryz.f3 false true false false) := by
  refine returnsInHanded_of_change_sized (C := Tryz.checked) own started (by kernel_rfl) Tryz.func3
    (ChangeSpec.witness6 (enc := enc) (C := Tryz.checked) false ⟨#[], #[.string ⟨#[]⟩, .slice none 0 0], []⟩ 8 (by kernel_rfl) (by kernel_rfl) (by kernel_rfl) (by kernel_rfl)) ?_
  intro W base args ds gs before hval hW hcnd hsz _
  exact Ab.ui (C := Tryz.checked) Ab.Ln.lk rfl (f := 3) (fn := Tryz.f3) (key := 375) (by kernel_rfl) (tys := [Ab.QD, Ab.JV]) (m := 8) (by kernel_rfl) (by kernel_rfl) (by kernel_rfl) (tb := 4) rfl Tryz.underlying4 (s := Rows.blocksSpec) rfl spec_eq Ab.IJ hval hW hsz
end Go.Proofs.YtmckmpeekikfdaaGreat.blocks
