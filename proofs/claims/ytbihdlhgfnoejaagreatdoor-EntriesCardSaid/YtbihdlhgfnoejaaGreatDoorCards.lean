/-
  DERIVED. GIVEN WITH THE SEED: THE CARDS: each row of YtbihdlhgfnoejaaGreatDoorRows.lean that lists a variable, with what it lists TIED to the program's text (the seventh form; the later family's looks); each row that meets fmt, with fmt's text TOLD by the authors' own Lean function (tested against real Go, not proved from fmt's source: count such statements apart). THE CARD IS WHAT COUNTS. Prove the row's statement (the work); the ties are given (YtbihdlhgfnoejaaGreatDoorTie.lean); close each card by the builder's one call (the guide's Derived/Test/ToyasCard.lean, 'card_holds'). Laid BY PROGRAM, IN A SANDBOX (cutbox-door.mjs). By AI agents, Wed Nov 11 2026. No macro, syntax, notation, axiom, sorry.
-/
import Derived.Test.YtbihdlhgfnoejaaGreatDoorRows
import GoSem.ClaimSeven
namespace Go.Proofs.YtbihdlhgfnoejaaGreatDoor
namespace Rows

/-- THE TIED CARD OF 'portagelaw19.Digests'. -/
def digestsCard : Claim7 := { stood := { row := digestsRow, standIns := [], harness := (true, "2ecf3d6e13ff52df4b705b49bce138db7ec8278227ca8f235b45410ecf03829a"), looks := false }, kinds := [], alts := [], laidByText := true, laidKinds := [.data, .pinned], laidTests := true, laidLooks := .later }
def DigestsCardSaid : Prop := Claim7.holds Tryz.pinned (.plain (OpenSpec.ofChange digestsSpec)) digestsCard

/-- THE TIED CARD OF 'portagelaw19.DigestSame'. -/
def digestSameCard : Claim7 := { stood := { row := digestSameRow, standIns := [], harness := (true, "2ecf3d6e13ff52df4b705b49bce138db7ec8278227ca8f235b45410ecf03829a"), looks := false }, kinds := [], alts := [], laidByText := true, laidKinds := [.data, .pinned], laidTests := true, laidLooks := .later }
def DigestSameCardSaid : Prop := Claim7.holds Tryz.pinned (.plain (OpenSpec.ofChange digestSameSpec)) digestSameCard

/-- THE TIED CARD OF 'portagelaw15.Entries'. -/
def entriesCard : Claim7 := { stood := { row := entriesRow, standIns := [], harness := (true, "2ecf3d6e13ff52df4b705b49bce138db7ec8278227ca8f235b45410ecf03829a"), looks := false }, kinds := [], alts := [], laidByText := true, laidKinds := [.data, .pinned], laidTests := true, laidLooks := .later }
def EntriesCardSaid : Prop := Claim7.holds Tryz.pinned (.plain (OpenSpec.ofChange entriesSpec)) entriesCard

/-- THE TIED CARD OF 'portagelaw15.EntryForms'. -/
def entryFormsCard : Claim7 := { stood := { row := entryFormsRow, standIns := [], harness := (true, "2ecf3d6e13ff52df4b705b49bce138db7ec8278227ca8f235b45410ecf03829a"), looks := false }, kinds := [], alts := [], laidByText := true, laidKinds := [.data, .pinned], laidTests := true, laidLooks := .later }
def EntryFormsCardSaid : Prop := Claim7.holds Tryz.pinned (.plain (OpenSpec.ofChange entryFormsSpec)) entryFormsCard

/-- THE TIED CARD OF 'portagelaw15.EntryTexts'. -/
def entryTextsCard : Claim7 := { stood := { row := entryTextsRow, standIns := [], harness := (true, "2ecf3d6e13ff52df4b705b49bce138db7ec8278227ca8f235b45410ecf03829a"), looks := false }, kinds := [], alts := [], laidByText := true, laidKinds := [.data, .pinned], laidTests := true, laidLooks := .later }
def EntryTextsCardSaid : Prop := Claim7.holds Tryz.pinned (.plain (OpenSpec.ofChange entryTextsSpec)) entryTextsCard

/-- THE SECOND FORM's CARD OF 'portagelaw19.Digests'. -/
def digestsUptoCard : Claim7 := { stood := { row := digestsUptoRow, standIns := [], harness := (true, "2ecf3d6e13ff52df4b705b49bce138db7ec8278227ca8f235b45410ecf03829a"), looks := false }, kinds := [], alts := [], laidByText := true, laidKinds := [.data, .pinned], laidTests := true, laidLooks := .later }
def DigestsUptoCardSaid : Prop := Claim7.holds Tryz.pinned (.plain (OpenSpec.upto digestsSpec)) digestsUptoCard

/-- THE SECOND FORM's CARD OF 'portagelaw19.DigestSame'. -/
def digestSameUptoCard : Claim7 := { stood := { row := digestSameUptoRow, standIns := [], harness := (true, "2ecf3d6e13ff52df4b705b49bce138db7ec8278227ca8f235b45410ecf03829a"), looks := false }, kinds := [], alts := [], laidByText := true, laidKinds := [.data, .pinned], laidTests := true, laidLooks := .later }
def DigestSameUptoCardSaid : Prop := Claim7.holds Tryz.pinned (.plain (OpenSpec.upto digestSameSpec)) digestSameUptoCard

/-- THE SECOND FORM's CARD OF 'portagelaw15.Entries'. -/
def entriesUptoCard : Claim7 := { stood := { row := entriesUptoRow, standIns := [], harness := (true, "2ecf3d6e13ff52df4b705b49bce138db7ec8278227ca8f235b45410ecf03829a"), looks := false }, kinds := [], alts := [], laidByText := true, laidKinds := [.data, .pinned], laidTests := true, laidLooks := .later }
def EntriesUptoCardSaid : Prop := Claim7.holds Tryz.pinned (.plain (OpenSpec.upto entriesSpec)) entriesUptoCard

/-- THE SECOND FORM's CARD OF 'portagelaw15.EntryForms'. -/
def entryFormsUptoCard : Claim7 := { stood := { row := entryFormsUptoRow, standIns := [], harness := (true, "2ecf3d6e13ff52df4b705b49bce138db7ec8278227ca8f235b45410ecf03829a"), looks := false }, kinds := [], alts := [], laidByText := true, laidKinds := [.data, .pinned], laidTests := true, laidLooks := .later }
def EntryFormsUptoCardSaid : Prop := Claim7.holds Tryz.pinned (.plain (OpenSpec.upto entryFormsSpec)) entryFormsUptoCard

/-- THE SECOND FORM's CARD OF 'portagelaw15.EntryTexts'. -/
def entryTextsUptoCard : Claim7 := { stood := { row := entryTextsUptoRow, standIns := [], harness := (true, "2ecf3d6e13ff52df4b705b49bce138db7ec8278227ca8f235b45410ecf03829a"), looks := false }, kinds := [], alts := [], laidByText := true, laidKinds := [.data, .pinned], laidTests := true, laidLooks := .later }
def EntryTextsUptoCardSaid : Prop := Claim7.holds Tryz.pinned (.plain (OpenSpec.upto entryTextsSpec)) entryTextsUptoCard
end Rows
end Go.Proofs.YtbihdlhgfnoejaaGreatDoor
