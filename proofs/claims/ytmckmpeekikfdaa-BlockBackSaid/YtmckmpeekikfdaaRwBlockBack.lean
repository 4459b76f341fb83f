/- For every text and every row of tokens portagelaw8.BlockBack says true: what stands in a block is inflated, and nothing is left. -/
import Derived.Test.YtmckmpeekikfdaaRows
import Derived.ProofKit
import Derived.OpenShut
import Derived.Stop.Joined
import Derived.Test.YtmckmpeekikfdaaRwBlockBackA
import Derived.Test.YtmckmpeekikfdaaC3
set_option maxRecDepth 100000
namespace Go.Proofs.Ytmckmpeekikfdaa.blockBack
open Go.ChangeShapes Go.WideShapes Go.ChangeAt Go.RowKit
theorem andc {a b : Bool} (h : a = true) (k : b = true) : (a && b) = true := by rw [h, k]; rfl
theorem j1 : (Rows.blockBackRow.wf (OpenSpec.ofChange Rows.blockBackSpec) && laidOutB Try.pinned.checked.prog && mapsRowed Try.pinned.checked.prog) = true := by kernel_rfl
theorem j10 : (Rows.blockBackRow.inPlace == Try.pinned.checked.prog.inPlace 3) = true := by kernel_rfl
theorem j11 : (Rows.blockBackRow.unfollowed == Try.pinned.checked.prog.unfollowed 3) = true := by kernel_rfl
theorem j12 : (Rows.blockBackRow.recurses == Try.pinned.checked.prog.recurses 3) = true := by kernel_rfl
theorem j13 : (Rows.blockBackRow.named == Try.pinned.checked.prog.varsNamed 3) = true := by kernel_rfl
theorem j23 : (Rows.blockBackRow.plainKeys == Try.pinned.checked.prog.plainKeys) = true := by kernel_rfl
theorem j24 : Try.pinned.checked.prog.stopsHeard = true := by kernel_rfl
theorem j25 : Try.pinned.checked.prog.mayEnter = true := by kernel_rfl
theorem j26 : (Rows.blockBackRow.lifted == Try.pinned.checked.prog.liftsFinal) = true := by kernel_rfl
theorem closed : joinedFacts Try.pinned.checked.prog 3 Try.f3 Rows.blockBackSpec Rows.blockBackRow = true := by
  unfold joinedFacts
  exact (andc (andc (andc (andc (andc (andc (andc (andc (andc (andc (andc (andc (andc (andc (andc (andc (andc (andc (andc (andc (andc (andc (andc (andc (andc (andc (andc (andc (andc j1 (by kernel_rfl)) (by kernel_rfl)) (by kernel_rfl)) (by kernel_rfl)) (by kernel_rfl)) (by kernel_rfl)) j10) j11) j12) j13) (by kernel_rfl)) (by kernel_rfl)) (by kernel_rfl)) (by kernel_rfl)) (by kernel_rfl)) (by kernel_rfl)) (by kernel_rfl)) (by kernel_rfl)) (by kernel_rfl)) j23) (by kernel_rfl)) j24) j25) j26) (by kernel_rfl)) (by kernel_rfl)) (by kernel_rfl)) (by kernel_rfl)) (by kernel_rfl))
theorem proved : Rows.BlockBackSaid :=
  OpenClaim.holds_of_wide 3 Try.f3 rfl rfl rfl rfl rfl rfl rfl ⟨rfl, rfl, rfl, rfl, rfl⟩ rfl rfl rfl rfl rfl (by kernel_rfl) Try.func3 closed
    (of_decide_eq_true (by kernel_rfl)) (by unfold Func.isWrapper; first | (rw [if_pos (by decide +kernel)]; kernel_rfl) | (rw [if_neg (by decide +kernel)]; exact ⟨rfl, rfl⟩))
    (fun os started H enc _ => lifted os started H enc)
end Go.Proofs.Ytmckmpeekikfdaa.blockBack
