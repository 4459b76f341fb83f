/-
  DERIVED. GIVEN WITH THE SEED: THE CARDS: each row of YtebioenemijecaaGreatDoorRows.lean that lists a variable, with what it lists TIED to the program's text (the seventh form; the later family's looks); each row that meets fmt, with fmt's text TOLD by the authors' own Lean function (tested against real Go, not proved from fmt's source: count such statements apart). THE CARD IS WHAT COUNTS. Prove the row's statement (the work); the ties are given (YtebioenemijecaaGreatDoorTie.lean); close each card by the builder's one call (the guide's Derived/Test/ToyasCard.lean, 'card_holds'). Laid BY PROGRAM, IN A SANDBOX (cutbox-door.mjs). By AI agents, Wed Nov 11 2026. No macro, syntax, notation, axiom, sorry.
-/
import Derived.Test.YtebioenemijecaaGreatDoorRows
import GoSem.ClaimSeven
namespace Go.Proofs.YtebioenemijecaaGreatDoor
namespace Rows

/-- THE TIED CARD OF 'portagelaw22.PeerPull'. -/
def peerPullCard : Claim7 := { stood := { row := peerPullRow, standIns := [], harness := (true, "e867aa025c2c6c8eff85378ff00a1d5b551f669b567664f18f1fd35f11957040"), looks := false }, kinds := [], alts := [], laidByText := true, laidKinds := [.data, .pinned], laidTests := true, laidLooks := .later }
def PeerPullCardSaid : Prop := Claim7.holds Tryz.pinned (.plain (OpenSpec.ofChange peerPullSpec)) peerPullCard

/-- THE TIED CARD OF 'portagelaw22.PeerWants'. -/
def peerWantsCard : Claim7 := { stood := { row := peerWantsRow, standIns := [], harness := (true, "e867aa025c2c6c8eff85378ff00a1d5b551f669b567664f18f1fd35f11957040"), looks := false }, kinds := [], alts := [], laidByText := true, laidKinds := [.data, .pinned], laidTests := true, laidLooks := .later }
def PeerWantsCardSaid : Prop := Claim7.holds Tryz.pinned (.plain (OpenSpec.ofChange peerWantsSpec)) peerWantsCard

/-- THE SECOND FORM's CARD OF 'portagelaw22.PeerPull'. -/
def peerPullUptoCard : Claim7 := { stood := { row := peerPullUptoRow, standIns := [], harness := (true, "e867aa025c2c6c8eff85378ff00a1d5b551f669b567664f18f1fd35f11957040"), looks := false }, kinds := [], alts := [], laidByText := true, laidKinds := [.data, .pinned], laidTests := true, laidLooks := .later }
def PeerPullUptoCardSaid : Prop := Claim7.holds Tryz.pinned (.plain (OpenSpec.upto peerPullSpec)) peerPullUptoCard

/-- THE SECOND FORM's CARD OF 'portagelaw22.PeerWants'. -/
def peerWantsUptoCard : Claim7 := { stood := { row := peerWantsUptoRow, standIns := [], harness := (true, "e867aa025c2c6c8eff85378ff00a1d5b551f669b567664f18f1fd35f11957040"), looks := false }, kinds := [], alts := [], laidByText := true, laidKinds := [.data, .pinned], laidTests := true, laidLooks := .later }
def PeerWantsUptoCardSaid : Prop := Claim7.holds Tryz.pinned (.plain (OpenSpec.upto peerWantsSpec)) peerWantsUptoCard
end Rows
end Go.Proofs.YtebioenemijecaaGreatDoor
