/- For every two numbers portagelaw8.BlockForms says true: what is too long, or none, is refused. -/
import Derived.Test.YtmckmpeekikfdaaRows
import Derived.ProofKit
import Derived.OpenShut
import Derived.Stop.Joined
import Derived.Test.YtmckmpeekikfdaaRwBlockFormsA
import Derived.Test.YtmckmpeekikfdaaC3
set_option maxRecDepth 100000
namespace Go.Proofs.Ytmckmpeekikfdaa.blockForms
open Go.ChangeShapes Go.WideShapes Go.ChangeAt Go.RowKit
theorem andc {a b : Bool} (h : a = true) (k : b = true) : (a && b) = true := by rw [h, k]; rfl
theorem j1 : (Rows.blockFormsRow.wf (OpenSpec.ofChange Rows.blockFormsSpec) && laidOutB Try.pinned.checked.prog && mapsRowed Try.pinned.checked.prog) = true := by kernel_rfl
theorem j10 : (Rows.blockFormsRow.inPlace == Try.pinned.checked.prog.inPlace 4) = true := by kernel_rfl
theorem j11 : (Rows.blockFormsRow.unfollowed == Try.pinned.checked.prog.unfollowed 4) = true := by kernel_rfl
theorem j12 : (Rows.blockFormsRow.recurses == Try.pinned.checked.prog.recurses 4) = true := by kernel_rfl
theorem j13 : (Rows.blockFormsRow.named == Try.pinned.checked.prog.varsNamed 4) = true := by kernel_rfl
theorem j23 : (Rows.blockFormsRow.plainKeys == Try.pinned.checked.prog.plainKeys) = true := by kernel_rfl
theorem j24 : Try.pinned.checked.prog.stopsHeard = true := by kernel_rfl
theorem j25 : Try.pinned.checked.prog.mayEnter = true := by kernel_rfl
theorem j26 : (Rows.blockFormsRow.lifted == Try.pinned.checked.prog.liftsFinal) = true := by kernel_rfl
theorem closed : joinedFacts Try.pinned.checked.prog 4 Try.f4 Rows.blockFormsSpec Rows.blockFormsRow = true := by
  unfold joinedFacts
  exact (andc (andc (andc (andc (andc (andc (andc (andc (andc (andc (andc (andc (andc (andc (andc (andc (andc (andc (andc (andc (andc (andc (andc (andc (andc (andc (andc (andc (andc j1 (by kernel_rfl)) (by kernel_rfl)) (by kernel_rfl)) (by kernel_rfl)) (by kernel_rfl)) (by kernel_rfl)) j10) j11) j12) j13) (by kernel_rfl)) (by kernel_rfl)) (by kernel_rfl)) (by kernel_rfl)) (by kernel_rfl)) (by kernel_rfl)) (by kernel_rfl)) (by kernel_rfl)) (by kernel_rfl)) j23) (by kernel_rfl)) j24) j25) j26) (by kernel_rfl)) (by kernel_rfl)) (by kernel_rfl)) (by kernel_rfl)) (by kernel_rfl))
theorem proved : Rows.BlockFormsSaid :=
  OpenClaim.holds_of_wide 4 Try.f4 rfl rfl rfl rfl rfl rfl rfl ⟨rfl, rfl, rfl, rfl, rfl⟩ rfl rfl rfl rfl rfl (by kernel_rfl) Try.func4 closed
    (of_decide_eq_true (by kernel_rfl)) (by unfold Func.isWrapper; first | (rw [if_pos (by decide +kernel)]; kernel_rfl) | (rw [if_neg (by decide +kernel)]; exact ⟨rfl, rfl⟩))
    (fun os started H enc _ => lifted os started H enc)
end Go.Proofs.Ytmckmpeekikfdaa.blockForms
