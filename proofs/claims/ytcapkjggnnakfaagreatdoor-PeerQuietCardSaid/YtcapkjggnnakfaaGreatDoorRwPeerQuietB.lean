/- The row, part B. -/
import Derived.Test.YtcapkjggnnakfaaGreatDoorCards
import Derived.Test.YtcapkjggnnakfaaGreatDoorTie
import Derived.LaidMore
import Derived.Lay
import Derived.SevenTiedAt
import Derived.ProofKit
import Derived.OpenShut
import Derived.Stop.Joined
import Derived.Test.YtcapkjggnnakfaaGreatDoorRwPeerQuietA
import Derived.Test.YtcapkjggnnakfaaGreatDoorC4
set_option maxRecDepth 100000
namespace Go.Proofs.YtcapkjggnnakfaaGreatDoor.peerQuiet
open Go.ChangeShapes Go.WideShapes Go.ChangeAt Go.RowKit
theorem andc {a b : Bool} (h : a = true) (k : b = true) : (a && b) = true := by rw [h, k]; rfl
theorem j1 : (Rows.peerQuietRow.wf (OpenSpec.ofChange Rows.peerQuietSpec) && laidOutB Tryz.pinned.checked.prog && mapsRowed Tryz.pinned.checked.prog) = true := by kernel_rfl
theorem j10 : (Rows.peerQuietRow.inPlace == Tryz.pinned.checked.prog.inPlace 11) = true := by kernel_rfl
theorem j11 : (Rows.peerQuietRow.unfollowed == Tryz.pinned.checked.prog.unfollowed 11) = true := by kernel_rfl
theorem j12 : (Rows.peerQuietRow.recurses == Tryz.pinned.checked.prog.recurses 11) = true := by kernel_rfl
theorem j13 : (Rows.peerQuietRow.named == Tryz.pinned.checked.prog.varsNamed 11) = true := by kernel_rfl
theorem j23 : (Rows.peerQuietRow.plainKeys == Tryz.pinned.checked.prog.plainKeys) = true := by kernel_rfl
theorem j24 : Tryz.pinned.checked.prog.stopsHeard = true := by kernel_rfl
theorem j25 : Tryz.pinned.checked.prog.mayEnter = true := by kernel_rfl
theorem j26 : (Rows.peerQuietRow.lifted == Tryz.pinned.checked.prog.liftsFinal) = true := by kernel_rfl
theorem closed : joinedFacts Tryz.pinned.checked.prog 11 Tryz.f11 Rows.peerQuietSpec Rows.peerQuietRow = true := by
  unfold joinedFacts
  exact (andc (andc (andc (andc (andc (andc (andc (andc (andc (andc (andc (andc (andc (andc (andc (andc (andc (andc (andc (andc (andc (andc (andc (andc (andc (andc (andc (andc (andc j1 (by kernel_rfl)) (by kernel_rfl)) (by kernel_rfl)) (by kernel_rfl)) (by kernel_rfl)) (by kernel_rfl)) j10) j11) j12) j13) (by kernel_rfl)) (by kernel_rfl)) (by kernel_rfl)) (by kernel_rfl)) (by kernel_rfl)) (by kernel_rfl)) (by kernel_rfl)) (by kernel_rfl)) (by kernel_rfl)) j23) (by kernel_rfl)) j24) j25) j26) (by kernel_rfl)) (by kernel_rfl)) (by kernel_rfl)) (by kernel_rfl)) (by kernel_rfl))
theorem said : Rows.PeerQuietSaid :=
  OpenClaim.holds_of_wide 11 Tryz.f11 rfl rfl rfl rfl rfl rfl rfl ⟨rfl, rfl, rfl, rfl, rfl⟩ rfl rfl rfl rfl rfl (by kernel_rfl) Tryz.func11 closed
    (of_decide_eq_true (by kernel_rfl)) (by unfold Func.isWrapper; first | (rw [if_pos (by decide +kernel)]; kernel_rfl) | (rw [if_neg (by decide +kernel)]; exact ⟨rfl, rfl⟩))
    (fun os started H enc _ => lifted os started H enc)
theorem pw : Rows.peerQuietRow.wfByText (OpenSpec.ofChange Rows.peerQuietSpec) = true := by kernel_rfl
theorem pm : Tryz.pinned.checked.prog.mainIs = some (((true, "02b6a1e0b59df1b44563cb21f6a1e9ce4914f5599b632221b4af161c03709402") : Bool × String).1, ((true, "02b6a1e0b59df1b44563cb21f6a1e9ce4914f5599b632221b4af161c03709402") : Bool × String).2.toList) := by kernel_rfl
theorem pk : false = Tryz.pinned.checked.prog.looks [] := by kernel_rfl
theorem pg : false = Rows.peerQuietRow.goesBy Tryz.pinned.checked.prog := by kernel_rfl
end Go.Proofs.YtcapkjggnnakfaaGreatDoor.peerQuiet
