/- For every two numbers portagelaw22.PeerForms says true: what is no folder, no node or no message is answered ErrPeerForm. -/
import Derived.Test.YtcapkjggnnakfaaGreatDoorCards
import Derived.Test.YtcapkjggnnakfaaGreatDoorTie
import Derived.LaidMore
import Derived.Lay
import Derived.SevenTiedAt
import Derived.ProofKit
import Derived.OpenShut
import Derived.Stop.Joined
import Derived.Test.YtcapkjggnnakfaaGreatDoorRwPeerFormsB
import Derived.Test.YtcapkjggnnakfaaGreatDoorC3
set_option maxRecDepth 100000
namespace Go.Proofs.YtcapkjggnnakfaaGreatDoor.peerForms
open Go.ChangeShapes Go.WideShapes Go.ChangeAt Go.RowKit
theorem proved : Rows.PeerFormsCardSaid :=
  Claim7.holds_tied_plain_at .later [] [.data, .pinned] true (true, "02b6a1e0b59df1b44563cb21f6a1e9ce4914f5599b632221b4af161c03709402") false said (fun _ h => by cases h) pw (fun _ h => by cases h) peerForms_row_tie rfl ⟨rfl, rfl⟩ pm rfl
    (fun f fn hf hfn => by
      obtain rfl : f = 10 := Option.some.inj ((show Tryz.prog.funcNamed "portage/portagelaw22.PeerForms" = some 10 by kernel_rfl).symm.trans hf) |>.symm
      obtain rfl : fn = Tryz.f10 := (Option.some.inj (Tryz.func10.symm.trans hfn)).symm
      exact ⟨pk, fun j t ht => by
        rw [Tryz.params10] at ht
        have hm : t ∈ [3, 3] := by simpa using Array.mem_of_getElem? ht
        have hall : ([3, 3].all fun u => !Tryz.prog.wantsStandIn u) = true := by kernel_rfl
        exact (show Tryz.prog.wantsStandIn t = false by simpa using List.all_eq_true.1 hall t hm)⟩)
    pg
end Go.Proofs.YtcapkjggnnakfaaGreatDoor.peerForms
