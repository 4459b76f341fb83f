/- For every two numbers portagelaw9.DeflateShrinks says true: a long run is told in a few bytes. -/
import Derived.Test.YtcpjlemfholepaaRows
import Derived.ProofKit
import Derived.OpenShut
import Derived.Stop.Joined
import Derived.Test.YtcpjlemfholepaaRwDeflateShrinksA
import Derived.Test.YtcpjlemfholepaaC3
set_option maxRecDepth 100000
namespace Go.Proofs.Ytcpjlemfholepaa.deflateShrinks
open Go.ChangeShapes Go.WideShapes Go.ChangeAt Go.RowKit
theorem andc {a b : Bool} (h : a = true) (k : b = true) : (a && b) = true := by rw [h, k]; rfl
theorem j1 : (Rows.deflateShrinksRow.wf (OpenSpec.ofChange Rows.deflateShrinksSpec) && laidOutB Try.pinned.checked.prog && mapsRowed Try.pinned.checked.prog) = true := by kernel_rfl
theorem j10 : (Rows.deflateShrinksRow.inPlace == Try.pinned.checked.prog.inPlace 10) = true := by kernel_rfl
theorem j11 : (Rows.deflateShrinksRow.unfollowed == Try.pinned.checked.prog.unfollowed 10) = true := by kernel_rfl
theorem j12 : (Rows.deflateShrinksRow.recurses == Try.pinned.checked.prog.recurses 10) = true := by kernel_rfl
theorem j13 : (Rows.deflateShrinksRow.named == Try.pinned.checked.prog.varsNamed 10) = true := by kernel_rfl
theorem j23 : (Rows.deflateShrinksRow.plainKeys == Try.pinned.checked.prog.plainKeys) = true := by kernel_rfl
theorem j24 : Try.pinned.checked.prog.stopsHeard = true := by kernel_rfl
theorem j25 : Try.pinned.checked.prog.mayEnter = true := by kernel_rfl
theorem j26 : (Rows.deflateShrinksRow.lifted == Try.pinned.checked.prog.liftsFinal) = true := by kernel_rfl
theorem closed : joinedFacts Try.pinned.checked.prog 10 Try.f10 Rows.deflateShrinksSpec Rows.deflateShrinksRow = true := by
  unfold joinedFacts
  exact (andc (andc (andc (andc (andc (andc (andc (andc (andc (andc (andc (andc (andc (andc (andc (andc (andc (andc (andc (andc (andc (andc (andc (andc (andc (andc (andc (andc (andc j1 (by kernel_rfl)) (by kernel_rfl)) (by kernel_rfl)) (by kernel_rfl)) (by kernel_rfl)) (by kernel_rfl)) j10) j11) j12) j13) (by kernel_rfl)) (by kernel_rfl)) (by kernel_rfl)) (by kernel_rfl)) (by kernel_rfl)) (by kernel_rfl)) (by kernel_rfl)) (by kernel_rfl)) (by kernel_rfl)) j23) (by kernel_rfl)) j24) j25) j26) (by kernel_rfl)) (by kernel_rfl)) (by kernel_rfl)) (by kernel_rfl)) (by kernel_rfl))
theorem proved : Rows.DeflateShrinksSaid :=
  OpenClaim.holds_of_wide 10 Try.f10 rfl rfl rfl rfl rfl rfl rfl ⟨rfl, rfl, rfl, rfl, rfl⟩ rfl rfl rfl rfl rfl (by kernel_rfl) Try.func10 closed
    (of_decide_eq_true (by kernel_rfl)) (by unfold Func.isWrapper; first | (rw [if_pos (by decide +kernel)]; kernel_rfl) | (rw [if_neg (by decide +kernel)]; exact ⟨rfl, rfl⟩))
    (fun os started H enc _ => lifted os started H enc)
end Go.Proofs.Ytcpjlemfholepaa.deflateShrinks
