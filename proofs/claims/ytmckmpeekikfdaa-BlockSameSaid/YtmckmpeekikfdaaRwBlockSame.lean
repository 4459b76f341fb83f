/- For every row of tokens portagelaw8.BlockSame says true: two rows of one text come to one text. -/
import Derived.Test.YtmckmpeekikfdaaRows
import Derived.ProofKit
import Derived.OpenShut
import Derived.Stop.Joined
import Derived.Test.YtmckmpeekikfdaaRwBlockSameA
import Derived.Test.YtmckmpeekikfdaaC3
set_option maxRecDepth 100000
namespace Go.Proofs.Ytmckmpeekikfdaa.blockSame
open Go.ChangeShapes Go.WideShapes Go.ChangeAt Go.RowKit
theorem andc {a b : Bool} (h : a = true) (k : b = true) : (a && b) = true := by rw [h, k]; rfl
theorem j1 : (Rows.blockSameRow.wf (OpenSpec.ofChange Rows.blockSameSpec) && laidOutB Try.pinned.checked.prog && mapsRowed Try.pinned.checked.prog) = true := by kernel_rfl
theorem j10 : (Rows.blockSameRow.inPlace == Try.pinned.checked.prog.inPlace 6) = true := by kernel_rfl
theorem j11 : (Rows.blockSameRow.unfollowed == Try.pinned.checked.prog.unfollowed 6) = true := by kernel_rfl
theorem j12 : (Rows.blockSameRow.recurses == Try.pinned.checked.prog.recurses 6) = true := by kernel_rfl
theorem j13 : (Rows.blockSameRow.named == Try.pinned.checked.prog.varsNamed 6) = true := by kernel_rfl
theorem j23 : (Rows.blockSameRow.plainKeys == Try.pinned.checked.prog.plainKeys) = true := by kernel_rfl
theorem j24 : Try.pinned.checked.prog.stopsHeard = true := by kernel_rfl
theorem j25 : Try.pinned.checked.prog.mayEnter = true := by kernel_rfl
theorem j26 : (Rows.blockSameRow.lifted == Try.pinned.checked.prog.liftsFinal) = true := by kernel_rfl
theorem closed : joinedFacts Try.pinned.checked.prog 6 Try.f6 Rows.blockSameSpec Rows.blockSameRow = true := by
  unfold joinedFacts
  exact (andc (andc (andc (andc (andc (andc (andc (andc (andc (andc (andc (andc (andc (andc (andc (andc (andc (andc (andc (andc (andc (andc (andc (andc (andc (andc (andc (andc (andc j1 (by kernel_rfl)) (by kernel_rfl)) (by kernel_rfl)) (by kernel_rfl)) (by kernel_rfl)) (by kernel_rfl)) j10) j11) j12) j13) (by kernel_rfl)) (by kernel_rfl)) (by kernel_rfl)) (by kernel_rfl)) (by kernel_rfl)) (by kernel_rfl)) (by kernel_rfl)) (by kernel_rfl)) (by kernel_rfl)) j23) (by kernel_rfl)) j24) j25) j26) (by kernel_rfl)) (by kernel_rfl)) (by kernel_rfl)) (by kernel_rfl)) (by kernel_rfl))
theorem proved : Rows.BlockSameSaid :=
  OpenClaim.holds_of_wide 6 Try.f6 rfl rfl rfl rfl rfl rfl rfl ⟨rfl, rfl, rfl, rfl, rfl⟩ rfl rfl rfl rfl rfl (by kernel_rfl) Try.func6 closed
    (of_decide_eq_true (by kernel_rfl)) (by unfold Func.isWrapper; first | (rw [if_pos (by decide +kernel)]; kernel_rfl) | (rw [if_neg (by decide +kernel)]; exact ⟨rfl, rfl⟩))
    (fun os started H enc _ => lifted os started H enc)
end Go.Proofs.Ytmckmpeekikfdaa.blockSame
