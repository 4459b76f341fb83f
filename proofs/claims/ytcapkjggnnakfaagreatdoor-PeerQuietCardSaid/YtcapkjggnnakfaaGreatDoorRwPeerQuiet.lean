/- For every folder and two numbers portagelaw22.PeerQuiet says true: who has the same is not answered. -/
import Derived.Test.YtcapkjggnnakfaaGreatDoorCards
import Derived.Test.YtcapkjggnnakfaaGreatDoorTie
import Derived.LaidMore
import Derived.Lay
import Derived.SevenTiedAt
import Derived.ProofKit
import Derived.OpenShut
import Derived.Stop.Joined
import Derived.Test.YtcapkjggnnakfaaGreatDoorRwPeerQuietB
import Derived.Test.YtcapkjggnnakfaaGreatDoorC4
set_option maxRecDepth 100000
namespace Go.Proofs.YtcapkjggnnakfaaGreatDoor.peerQuiet
open Go.ChangeShapes Go.WideShapes Go.ChangeAt Go.RowKit
theorem proved : Rows.PeerQuietCardSaid :=
  Claim7.holds_tied_plain_at .later [] [.data, .pinned] true (true, "02b6a1e0b59df1b44563cb21f6a1e9ce4914f5599b632221b4af161c03709402") false said (fun _ h => by cases h) pw (fun _ h => by cases h) peerQuiet_row_tie rfl ⟨rfl, rfl⟩ pm rfl
    (fun f fn hf hfn => by
      obtain rfl : f = 11 := Option.some.inj ((show Tryz.prog.funcNamed "portage/portagelaw22.PeerQuiet" = some 11 by kernel_rfl).symm.trans hf) |>.symm
      obtain rfl : fn = Tryz.f11 := (Option.some.inj (Tryz.func11.symm.trans hfn)).symm
      exact ⟨pk, fun j t ht => by
        rw [Tryz.params11] at ht
        have hm : t ∈ [57, 3, 3] := by simpa using Array.mem_of_getElem? ht
        have hall : ([57, 3, 3].all fun u => !Tryz.prog.wantsStandIn u) = true := by kernel_rfl
        exact (show Tryz.prog.wantsStandIn t = false by simpa using List.all_eq_true.1 hall t hm)⟩)
    pg
end Go.Proofs.YtcapkjggnnakfaaGreatDoor.peerQuiet
