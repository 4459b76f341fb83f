/- The row, part A. -/
import Derived.Test.YtcpjlemfholepaaGreatRows
import Derived.ProofKit
import Derived.OpenShut
import Derived.Stop.Joined
import Derived.Test.YtcpjlemfholepaaGreatK1
import Derived.Test.YtcpjlemfholepaaGreatC5
set_option maxRecDepth 100000
namespace Go.Proofs.YtcpjlemfholepaaGreat.deflates
open Go.ChangeShapes Go.WideShapes Go.ChangeAt Go.RowKit
theorem own : ownKnob Tryz.prog.godebug = none := by kernel_rfl
theorem spec_eq (H : Type) (ds : List (DataW H)) (h : ds.length = [Ab.MA, Ab.Ki, Ab.MA, Ab.Ki].length) : Rows.deflatesSpec.fn H ds = { results := [.lit (.bool true)], args := ds } := by
  match ds, h with
  | [d1, d2, d3, d4], _ => rfl
theorem lifted (os : Os) (started : os.Started) (H : Type) (enc : TypeId × Value → H) :
    ReturnsInHanded {} Tryz.checked os 4 .any (Rows.deflatesSpec.pre6 enc Tryz.prog Tryz.f4 Rows.deflatesRow.domain false) (Rows.deflatesSpec.post enc Tryz.prog Tryz.f4 false true false false) := by
  refine returnsInHanded_of_change_sized (C := Tryz.checked) own started (by kernel_rfl) Tryz.func4
    (ChangeSpec.witness6 (enc := enc) (C := Tryz.checked) false ⟨#[], #[.string ⟨#[]⟩, .int .i64 0, .string ⟨#[]⟩, .int .i64 0], []⟩ 8 (by kernel_rfl) (by kernel_rfl) (by kernel_rfl) (by kernel_rfl)) ?_
  intro W base args ds gs before hval hW hcnd hsz _
  exact Ab.tX (C := Tryz.checked) Ab.Ln.lk rfl (f := 4) (fn := Tryz.f4) (key := 376) (by kernel_rfl) (tys := [Ab.MA, Ab.Ki, Ab.MA, Ab.Ki]) (m := 8) (by kernel_rfl) (by kernel_rfl) (by kernel_rfl) (tb := 4) rfl Tryz.underlying4 (s := Rows.deflatesSpec) rfl spec_eq Ab.Hw hval hW hsz
end Go.Proofs.YtcpjlemfholepaaGreat.deflates
