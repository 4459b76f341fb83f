/-
  DERIVED. GIVEN WITH THE SEED: THE CARDS: each row of YtcapkjggnnakfaaGreatDoorRows.lean that lists a variable, with what it lists TIED to the program's text (the seventh form; the later family's looks); each row that meets fmt, with fmt's text TOLD by the authors' own Lean function (tested against real Go, not proved from fmt's source: count such statements apart). THE CARD IS WHAT COUNTS. Prove the row's statement (the work); the ties are given (YtcapkjggnnakfaaGreatDoorTie.lean); close each card by the builder's one call (the guide's Derived/Test/ToyasCard.lean, 'card_holds'). Laid BY PROGRAM, IN A SANDBOX (cutbox-door.mjs). By AI agents, Wed Nov 11 2026. No macro, syntax, notation, axiom, sorry.
-/
import Derived.Test.YtcapkjggnnakfaaGreatDoorRows
import GoSem.ClaimSeven
namespace Go.Proofs.YtcapkjggnnakfaaGreatDoor
namespace Rows

/-- THE TIED CARD OF 'portagelaw21.Msgs'. -/
def msgsCard : Claim7 := { stood := { row := msgsRow, standIns := [], harness := (true, "02b6a1e0b59df1b44563cb21f6a1e9ce4914f5599b632221b4af161c03709402"), looks := false }, kinds := [], alts := [], laidByText := true, laidKinds := [.data, .pinned], laidTests := true, laidLooks := .later }
def MsgsCardSaid : Prop := Claim7.holds Tryz.pinned (.plain (OpenSpec.ofChange msgsSpec)) msgsCard

/-- THE TIED CARD OF 'portagelaw21.MsgTurned'. -/
def msgTurnedCard : Claim7 := { stood := { row := msgTurnedRow, standIns := [], harness := (true, "02b6a1e0b59df1b44563cb21f6a1e9ce4914f5599b632221b4af161c03709402"), looks := false }, kinds := [], alts := [], laidByText := true, laidKinds := [.data, .pinned], laidTests := true, laidLooks := .later }
def MsgTurnedCardSaid : Prop := Claim7.holds Tryz.pinned (.plain (OpenSpec.ofChange msgTurnedSpec)) msgTurnedCard

/-- THE TIED CARD OF 'portagelaw21.MsgForms'. -/
def msgFormsCard : Claim7 := { stood := { row := msgFormsRow, standIns := [], harness := (true, "02b6a1e0b59df1b44563cb21f6a1e9ce4914f5599b632221b4af161c03709402"), looks := false }, kinds := [], alts := [], laidByText := true, laidKinds := [.data, .pinned], laidTests := true, laidLooks := .later }
def MsgFormsCardSaid : Prop := Claim7.holds Tryz.pinned (.plain (OpenSpec.ofChange msgFormsSpec)) msgFormsCard

/-- THE TIED CARD OF 'portagelaw21.MsgUnlike'. -/
def msgUnlikeCard : Claim7 := { stood := { row := msgUnlikeRow, standIns := [], harness := (true, "02b6a1e0b59df1b44563cb21f6a1e9ce4914f5599b632221b4af161c03709402"), looks := false }, kinds := [], alts := [], laidByText := true, laidKinds := [.data, .pinned], laidTests := true, laidLooks := .later }
def MsgUnlikeCardSaid : Prop := Claim7.holds Tryz.pinned (.plain (OpenSpec.ofChange msgUnlikeSpec)) msgUnlikeCard

/-- THE TIED CARD OF 'portagelaw21.MsgSums'. -/
def msgSumsCard : Claim7 := { stood := { row := msgSumsRow, standIns := [], harness := (true, "02b6a1e0b59df1b44563cb21f6a1e9ce4914f5599b632221b4af161c03709402"), looks := false }, kinds := [], alts := [], laidByText := true, laidKinds := [.data, .pinned], laidTests := true, laidLooks := .later }
def MsgSumsCardSaid : Prop := Claim7.holds Tryz.pinned (.plain (OpenSpec.ofChange msgSumsSpec)) msgSumsCard

/-- THE TIED CARD OF 'portagelaw22.Peers'. -/
def peersCard : Claim7 := { stood := { row := peersRow, standIns := [], harness := (true, "02b6a1e0b59df1b44563cb21f6a1e9ce4914f5599b632221b4af161c03709402"), looks := false }, kinds := [], alts := [], laidByText := true, laidKinds := [.data, .pinned], laidTests := true, laidLooks := .later }
def PeersCardSaid : Prop := Claim7.holds Tryz.pinned (.plain (OpenSpec.ofChange peersSpec)) peersCard

/-- THE TIED CARD OF 'portagelaw22.PeerPull'. -/
def peerPullCard : Claim7 := { stood := { row := peerPullRow, standIns := [], harness := (true, "02b6a1e0b59df1b44563cb21f6a1e9ce4914f5599b632221b4af161c03709402"), looks := false }, kinds := [], alts := [], laidByText := true, laidKinds := [.data, .pinned], laidTests := true, laidLooks := .later }
def PeerPullCardSaid : Prop := Claim7.holds Tryz.pinned (.plain (OpenSpec.ofChange peerPullSpec)) peerPullCard

/-- THE TIED CARD OF 'portagelaw22.PeerForms'. -/
def peerFormsCard : Claim7 := { stood := { row := peerFormsRow, standIns := [], harness := (true, "02b6a1e0b59df1b44563cb21f6a1e9ce4914f5599b632221b4af161c03709402"), looks := false }, kinds := [], alts := [], laidByText := true, laidKinds := [.data, .pinned], laidTests := true, laidLooks := .later }
def PeerFormsCardSaid : Prop := Claim7.holds Tryz.pinned (.plain (OpenSpec.ofChange peerFormsSpec)) peerFormsCard

/-- THE TIED CARD OF 'portagelaw22.PeerQuiet'. -/
def peerQuietCard : Claim7 := { stood := { row := peerQuietRow, standIns := [], harness := (true, "02b6a1e0b59df1b44563cb21f6a1e9ce4914f5599b632221b4af161c03709402"), looks := false }, kinds := [], alts := [], laidByText := true, laidKinds := [.data, .pinned], laidTests := true, laidLooks := .later }
def PeerQuietCardSaid : Prop := Claim7.holds Tryz.pinned (.plain (OpenSpec.ofChange peerQuietSpec)) peerQuietCard

/-- THE TIED CARD OF 'portagelaw22.PeerWants'. -/
def peerWantsCard : Claim7 := { stood := { row := peerWantsRow, standIns := [], harness := (true, "02b6a1e0b59df1b44563cb21f6a1e9ce4914f5599b632221b4af161c03709402"), looks := false }, kinds := [], alts := [], laidByText := true, laidKinds := [.data, .pinned], laidTests := true, laidLooks := .later }
def PeerWantsCardSaid : Prop := Claim7.holds Tryz.pinned (.plain (OpenSpec.ofChange peerWantsSpec)) peerWantsCard

/-- THE TIED CARD OF 'portagelaw22.PeerBoth'. -/
def peerBothCard : Claim7 := { stood := { row := peerBothRow, standIns := [], harness := (true, "02b6a1e0b59df1b44563cb21f6a1e9ce4914f5599b632221b4af161c03709402"), looks := false }, kinds := [], alts := [], laidByText := true, laidKinds := [.data, .pinned], laidTests := true, laidLooks := .later }
def PeerBothCardSaid : Prop := Claim7.holds Tryz.pinned (.plain (OpenSpec.ofChange peerBothSpec)) peerBothCard

/-- THE SECOND FORM's CARD OF 'portagelaw21.Msgs'. -/
def msgsUptoCard : Claim7 := { stood := { row := msgsUptoRow, standIns := [], harness := (true, "02b6a1e0b59df1b44563cb21f6a1e9ce4914f5599b632221b4af161c03709402"), looks := false }, kinds := [], alts := [], laidByText := true, laidKinds := [.data, .pinned], laidTests := true, laidLooks := .later }
def MsgsUptoCardSaid : Prop := Claim7.holds Tryz.pinned (.plain (OpenSpec.upto msgsSpec)) msgsUptoCard

/-- THE SECOND FORM's CARD OF 'portagelaw21.MsgTurned'. -/
def msgTurnedUptoCard : Claim7 := { stood := { row := msgTurnedUptoRow, standIns := [], harness := (true, "02b6a1e0b59df1b44563cb21f6a1e9ce4914f5599b632221b4af161c03709402"), looks := false }, kinds := [], alts := [], laidByText := true, laidKinds := [.data, .pinned], laidTests := true, laidLooks := .later }
def MsgTurnedUptoCardSaid : Prop := Claim7.holds Tryz.pinned (.plain (OpenSpec.upto msgTurnedSpec)) msgTurnedUptoCard

/-- THE SECOND FORM's CARD OF 'portagelaw21.MsgForms'. -/
def msgFormsUptoCard : Claim7 := { stood := { row := msgFormsUptoRow, standIns := [], harness := (true, "02b6a1e0b59df1b44563cb21f6a1e9ce4914f5599b632221b4af161c03709402"), looks := false }, kinds := [], alts := [], laidByText := true, laidKinds := [.data, .pinned], laidTests := true, laidLooks := .later }
def MsgFormsUptoCardSaid : Prop := Claim7.holds Tryz.pinned (.plain (OpenSpec.upto msgFormsSpec)) msgFormsUptoCard

/-- THE SECOND FORM's CARD OF 'portagelaw21.MsgUnlike'. -/
def msgUnlikeUptoCard : Claim7 := { stood := { row := msgUnlikeUptoRow, standIns := [], harness := (true, "02b6a1e0b59df1b44563cb21f6a1e9ce4914f5599b632221b4af161c03709402"), looks := false }, kinds := [], alts := [], laidByText := true, laidKinds := [.data, .pinned], laidTests := true, laidLooks := .later }
def MsgUnlikeUptoCardSaid : Prop := Claim7.holds Tryz.pinned (.plain (OpenSpec.upto msgUnlikeSpec)) msgUnlikeUptoCard

/-- THE SECOND FORM's CARD OF 'portagelaw21.MsgSums'. -/
def msgSumsUptoCard : Claim7 := { stood := { row := msgSumsUptoRow, standIns := [], harness := (true, "02b6a1e0b59df1b44563cb21f6a1e9ce4914f5599b632221b4af161c03709402"), looks := false }, kinds := [], alts := [], laidByText := true, laidKinds := [.data, .pinned], laidTests := true, laidLooks := .later }
def MsgSumsUptoCardSaid : Prop := Claim7.holds Tryz.pinned (.plain (OpenSpec.upto msgSumsSpec)) msgSumsUptoCard

/-- THE SECOND FORM's CARD OF 'portagelaw22.Peers'. -/
def peersUptoCard : Claim7 := { stood := { row := peersUptoRow, standIns := [], harness := (true, "02b6a1e0b59df1b44563cb21f6a1e9ce4914f5599b632221b4af161c03709402"), looks := false }, kinds := [], alts := [], laidByText := true, laidKinds := [.data, .pinned], laidTests := true, laidLooks := .later }
def PeersUptoCardSaid : Prop := Claim7.holds Tryz.pinned (.plain (OpenSpec.upto peersSpec)) peersUptoCard

/-- THE SECOND FORM's CARD OF 'portagelaw22.PeerPull'. -/
def peerPullUptoCard : Claim7 := { stood := { row := peerPullUptoRow, standIns := [], harness := (true, "02b6a1e0b59df1b44563cb21f6a1e9ce4914f5599b632221b4af161c03709402"), looks := false }, kinds := [], alts := [], laidByText := true, laidKinds := [.data, .pinned], laidTests := true, laidLooks := .later }
def PeerPullUptoCardSaid : Prop := Claim7.holds Tryz.pinned (.plain (OpenSpec.upto peerPullSpec)) peerPullUptoCard

/-- THE SECOND FORM's CARD OF 'portagelaw22.PeerForms'. -/
def peerFormsUptoCard : Claim7 := { stood := { row := peerFormsUptoRow, standIns := [], harness := (true, "02b6a1e0b59df1b44563cb21f6a1e9ce4914f5599b632221b4af161c03709402"), looks := false }, kinds := [], alts := [], laidByText := true, laidKinds := [.data, .pinned], laidTests := true, laidLooks := .later }
def PeerFormsUptoCardSaid : Prop := Claim7.holds Tryz.pinned (.plain (OpenSpec.upto peerFormsSpec)) peerFormsUptoCard

/-- THE SECOND FORM's CARD OF 'portagelaw22.PeerQuiet'. -/
def peerQuietUptoCard : Claim7 := { stood := { row := peerQuietUptoRow, standIns := [], harness := (true, "02b6a1e0b59df1b44563cb21f6a1e9ce4914f5599b632221b4af161c03709402"), looks := false }, kinds := [], alts := [], laidByText := true, laidKinds := [.data, .pinned], laidTests := true, laidLooks := .later }
def PeerQuietUptoCardSaid : Prop := Claim7.holds Tryz.pinned (.plain (OpenSpec.upto peerQuietSpec)) peerQuietUptoCard

/-- THE SECOND FORM's CARD OF 'portagelaw22.PeerWants'. -/
def peerWantsUptoCard : Claim7 := { stood := { row := peerWantsUptoRow, standIns := [], harness := (true, "02b6a1e0b59df1b44563cb21f6a1e9ce4914f5599b632221b4af161c03709402"), looks := false }, kinds := [], alts := [], laidByText := true, laidKinds := [.data, .pinned], laidTests := true, laidLooks := .later }
def PeerWantsUptoCardSaid : Prop := Claim7.holds Tryz.pinned (.plain (OpenSpec.upto peerWantsSpec)) peerWantsUptoCard

/-- THE SECOND FORM's CARD OF 'portagelaw22.PeerBoth'. -/
def peerBothUptoCard : Claim7 := { stood := { row := peerBothUptoRow, standIns := [], harness := (true, "02b6a1e0b59df1b44563cb21f6a1e9ce4914f5599b632221b4af161c03709402"), looks := false }, kinds := [], alts := [], laidByText := true, laidKinds := [.data, .pinned], laidTests := true, laidLooks := .later }
def PeerBothUptoCardSaid : Prop := Claim7.holds Tryz.pinned (.plain (OpenSpec.upto peerBothSpec)) peerBothUptoCard
end Rows
end Go.Proofs.YtcapkjggnnakfaaGreatDoor
