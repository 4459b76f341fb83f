/- For every two folders portagelaw22.PeerPull says true: who pulls knows all of both then, unless two unlike ones have one digest, or there is no room. -/
import Derived.Test.YtebioenemijecaaGreatDoorCards
import Derived.Test.YtebioenemijecaaGreatDoorTie
import Derived.LaidMore
import Derived.Lay
import Derived.SevenTiedAt
import Derived.ProofKit
import Derived.OpenShut
import Derived.Stop.Joined
import Derived.Test.YtebioenemijecaaGreatDoorRwPeerPullB
import Derived.Test.YtebioenemijecaaGreatDoorC5
set_option maxRecDepth 100000
namespace Go.Proofs.YtebioenemijecaaGreatDoor.peerPull
open Go.ChangeShapes Go.WideShapes Go.ChangeAt Go.RowKit
theorem proved : Rows.PeerPullCardSaid :=
  Claim7.holds_tied_plain_at .later [] [.data, .pinned] true (true, "e867aa025c2c6c8eff85378ff00a1d5b551f669b567664f18f1fd35f11957040") false said (fun _ h => by cases h) pw (fun _ h => by cases h) peerPull_row_tie rfl ⟨rfl, rfl⟩ pm rfl
    (fun f fn hf hfn => by
      obtain rfl : f = 3 := Option.some.inj ((show Tryz.prog.funcNamed "portage/portagelaw22.PeerPull" = some 3 by kernel_rfl).symm.trans hf) |>.symm
      obtain rfl : fn = Tryz.f3 := (Option.some.inj (Tryz.func3.symm.trans hfn)).symm
      exact ⟨pk, fun j t ht => by
        rw [Tryz.params3] at ht
        have hm : t ∈ [24, 24] := by simpa using Array.mem_of_getElem? ht
        have hall : ([24, 24].all fun u => !Tryz.prog.wantsStandIn u) = true := by kernel_rfl
        exact (show Tryz.prog.wantsStandIn t = false by simpa using List.all_eq_true.1 hall t hm)⟩)
    pg
end Go.Proofs.YtebioenemijecaaGreatDoor.peerPull
