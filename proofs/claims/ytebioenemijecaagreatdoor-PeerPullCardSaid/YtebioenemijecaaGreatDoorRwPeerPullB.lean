/- The row, part B. -/
import Derived.Test.YtebioenemijecaaGreatDoorCards
import Derived.Test.YtebioenemijecaaGreatDoorTie
import Derived.LaidMore
import Derived.Lay
import Derived.SevenTiedAt
import Derived.ProofKit
import Derived.OpenShut
import Derived.Stop.Joined
import Derived.Test.YtebioenemijecaaGreatDoorRwPeerPullA
import Derived.Test.YtebioenemijecaaGreatDoorC5
set_option maxRecDepth 100000
namespace Go.Proofs.YtebioenemijecaaGreatDoor.peerPull
open Go.ChangeShapes Go.WideShapes Go.ChangeAt Go.RowKit
theorem andc {a b : Bool} (h : a = true) (k : b = true) : (a && b) = true := by rw [h, k]; rfl
theorem j1 : (Rows.peerPullRow.wf (OpenSpec.ofChange Rows.peerPullSpec) && laidOutB Tryz.pinned.checked.prog && mapsRowed Tryz.pinned.checked.prog) = true := by kernel_rfl
theorem j10 : (Rows.peerPullRow.inPlace == Tryz.pinned.checked.prog.inPlace 3) = true := by kernel_rfl
theorem j11 : (Rows.peerPullRow.unfollowed == Tryz.pinned.checked.prog.unfollowed 3) = true := by kernel_rfl
theorem j12 : (Rows.peerPullRow.recurses == Tryz.pinned.checked.prog.recurses 3) = true := by kernel_rfl
theorem j13 : (Rows.peerPullRow.named == Tryz.pinned.checked.prog.varsNamed 3) = true := by kernel_rfl
theorem j23 : (Rows.peerPullRow.plainKeys == Tryz.pinned.checked.prog.plainKeys) = true := by kernel_rfl
theorem j24 : Tryz.pinned.checked.prog.stopsHeard = true := by kernel_rfl
theorem j25 : Tryz.pinned.checked.prog.mayEnter = true := by kernel_rfl
theorem j26 : (Rows.peerPullRow.lifted == Tryz.pinned.checked.prog.liftsFinal) = true := by kernel_rfl
theorem closed : joinedFacts Tryz.pinned.checked.prog 3 Tryz.f3 Rows.peerPullSpec Rows.peerPullRow = true := by
  unfold joinedFacts
  exact (andc (andc (andc (andc (andc (andc (andc (andc (andc (andc (andc (andc (andc (andc (andc (andc (andc (andc (andc (andc (andc (andc (andc (andc (andc (andc (andc (andc (andc j1 (by kernel_rfl)) (by kernel_rfl)) (by kernel_rfl)) (by kernel_rfl)) (by kernel_rfl)) (by kernel_rfl)) j10) j11) j12) j13) (by kernel_rfl)) (by kernel_rfl)) (by kernel_rfl)) (by kernel_rfl)) (by kernel_rfl)) (by kernel_rfl)) (by kernel_rfl)) (by kernel_rfl)) (by kernel_rfl)) j23) (by kernel_rfl)) j24) j25) j26) (by kernel_rfl)) (by kernel_rfl)) (by kernel_rfl)) (by kernel_rfl)) (by kernel_rfl))
theorem said : Rows.PeerPullSaid :=
  OpenClaim.holds_of_wide 3 Tryz.f3 rfl rfl rfl rfl rfl rfl rfl ⟨rfl, rfl, rfl, rfl, rfl⟩ rfl rfl rfl rfl rfl (by kernel_rfl) Tryz.func3 closed
    (of_decide_eq_true (by kernel_rfl)) (by unfold Func.isWrapper; first | (rw [if_pos (by decide +kernel)]; kernel_rfl) | (rw [if_neg (by decide +kernel)]; exact ⟨rfl, rfl⟩))
    (fun os started H enc _ => lifted os started H enc)
theorem pw : Rows.peerPullRow.wfByText (OpenSpec.ofChange Rows.peerPullSpec) = true := by kernel_rfl
theorem pm : Tryz.pinned.checked.prog.mainIs = some (((true, "e867aa025c2c6c8eff85378ff00a1d5b551f669b567664f18f1fd35f11957040") : Bool × String).1, ((true, "e867aa025c2c6c8eff85378ff00a1d5b551f669b567664f18f1fd35f11957040") : Bool × String).2.toList) := by kernel_rfl
theorem pk : false = Tryz.pinned.checked.prog.looks [] := by kernel_rfl
theorem pg : false = Rows.peerPullRow.goesBy Tryz.pinned.checked.prog := by kernel_rfl
end Go.Proofs.YtebioenemijecaaGreatDoor.peerPull
