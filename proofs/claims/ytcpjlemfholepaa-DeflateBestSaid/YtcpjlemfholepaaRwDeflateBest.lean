/- For every text portagelaw9.DeflateBest says true: what is deflated is no longer than any of the three blocks, and one of them. -/
import Derived.Test.YtcpjlemfholepaaRows
import Derived.ProofKit
import Derived.OpenShut
import Derived.Stop.Joined
import Derived.Test.YtcpjlemfholepaaRwDeflateBestA
import Derived.Test.YtcpjlemfholepaaC3
set_option maxRecDepth 100000
namespace Go.Proofs.Ytcpjlemfholepaa.deflateBest
open Go.ChangeShapes Go.WideShapes Go.ChangeAt Go.RowKit
theorem andc {a b : Bool} (h : a = true) (k : b = true) : (a && b) = true := by rw [h, k]; rfl
theorem j1 : (Rows.deflateBestRow.wf (OpenSpec.ofChange Rows.deflateBestSpec) && laidOutB Try.pinned.checked.prog && mapsRowed Try.pinned.checked.prog) = true := by kernel_rfl
theorem j10 : (Rows.deflateBestRow.inPlace == Try.pinned.checked.prog.inPlace 9) = true := by kernel_rfl
theorem j11 : (Rows.deflateBestRow.unfollowed == Try.pinned.checked.prog.unfollowed 9) = true := by kernel_rfl
theorem j12 : (Rows.deflateBestRow.recurses == Try.pinned.checked.prog.recurses 9) = true := by kernel_rfl
theorem j13 : (Rows.deflateBestRow.named == Try.pinned.checked.prog.varsNamed 9) = true := by kernel_rfl
theorem j23 : (Rows.deflateBestRow.plainKeys == Try.pinned.checked.prog.plainKeys) = true := by kernel_rfl
theorem j24 : Try.pinned.checked.prog.stopsHeard = true := by kernel_rfl
theorem j25 : Try.pinned.checked.prog.mayEnter = true := by kernel_rfl
theorem j26 : (Rows.deflateBestRow.lifted == Try.pinned.checked.prog.liftsFinal) = true := by kernel_rfl
theorem closed : joinedFacts Try.pinned.checked.prog 9 Try.f9 Rows.deflateBestSpec Rows.deflateBestRow = true := by
  unfold joinedFacts
  exact (andc (andc (andc (andc (andc (andc (andc (andc (andc (andc (andc (andc (andc (andc (andc (andc (andc (andc (andc (andc (andc (andc (andc (andc (andc (andc (andc (andc (andc j1 (by kernel_rfl)) (by kernel_rfl)) (by kernel_rfl)) (by kernel_rfl)) (by kernel_rfl)) (by kernel_rfl)) j10) j11) j12) j13) (by kernel_rfl)) (by kernel_rfl)) (by kernel_rfl)) (by kernel_rfl)) (by kernel_rfl)) (by kernel_rfl)) (by kernel_rfl)) (by kernel_rfl)) (by kernel_rfl)) j23) (by kernel_rfl)) j24) j25) j26) (by kernel_rfl)) (by kernel_rfl)) (by kernel_rfl)) (by kernel_rfl)) (by kernel_rfl))
theorem proved : Rows.DeflateBestSaid :=
  OpenClaim.holds_of_wide 9 Try.f9 rfl rfl rfl rfl rfl rfl rfl ⟨rfl, rfl, rfl, rfl, rfl⟩ rfl rfl rfl rfl rfl (by kernel_rfl) Try.func9 closed
    (of_decide_eq_true (by kernel_rfl)) (by unfold Func.isWrapper; first | (rw [if_pos (by decide +kernel)]; kernel_rfl) | (rw [if_neg (by decide +kernel)]; exact ⟨rfl, rfl⟩))
    (fun os started H enc _ => lifted os started H enc)
end Go.Proofs.Ytcpjlemfholepaa.deflateBest
