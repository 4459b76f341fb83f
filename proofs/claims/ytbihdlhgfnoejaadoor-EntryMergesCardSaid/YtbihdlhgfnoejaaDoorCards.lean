/-
  DERIVED. GIVEN WITH THE SEED: THE CARDS: each row of YtbihdlhgfnoejaaDoorRows.lean that lists a variable, with what it lists TIED to the program's text (the seventh form; the later family's looks); each row that meets fmt, with fmt's text TOLD by the authors' own Lean function (tested against real Go, not proved from fmt's source: count such statements apart). THE CARD IS WHAT COUNTS. Prove the row's statement (the work); the ties are given (YtbihdlhgfnoejaaDoorTie.lean); close each card by the builder's one call (the guide's Derived/Test/ToyasCard.lean, 'card_holds'). Laid BY PROGRAM, IN A SANDBOX (cutbox-door.mjs). By AI agents, Wed Nov 11 2026. No macro, syntax, notation, axiom, sorry.
-/
import Derived.Test.YtbihdlhgfnoejaaDoorRows
import GoSem.ClaimSeven
namespace Go.Proofs.YtbihdlhgfnoejaaDoor
namespace Rows

/-- THE TIED CARD OF 'portagelaw19.DigestTurned'. -/
def digestTurnedCard : Claim7 := { stood := { row := digestTurnedRow, standIns := [], harness := (true, "790ee5f555561e28bea65c3139c3e5d314b9c18eba7104d67e21425c60e38cba"), looks := false }, kinds := [], alts := [], laidByText := true, laidKinds := [.data, .pinned], laidTests := true, laidLooks := .later }
def DigestTurnedCardSaid : Prop := Claim7.holds Tryd.pinned (.plain (OpenSpec.ofChange digestTurnedSpec)) digestTurnedCard

/-- THE TIED CARD OF 'portagelaw19.DigestForms'. -/
def digestFormsCard : Claim7 := { stood := { row := digestFormsRow, standIns := [], harness := (true, "790ee5f555561e28bea65c3139c3e5d314b9c18eba7104d67e21425c60e38cba"), looks := false }, kinds := [], alts := [], laidByText := true, laidKinds := [.data, .pinned], laidTests := true, laidLooks := .later }
def DigestFormsCardSaid : Prop := Claim7.holds Tryd.pinned (.plain (OpenSpec.ofChange digestFormsSpec)) digestFormsCard

/-- THE TIED CARD OF 'portagelaw15.EntryMerges'. -/
def entryMergesCard : Claim7 := { stood := { row := entryMergesRow, standIns := [], harness := (true, "790ee5f555561e28bea65c3139c3e5d314b9c18eba7104d67e21425c60e38cba"), looks := false }, kinds := [], alts := [], laidByText := true, laidKinds := [.data, .pinned], laidTests := true, laidLooks := .later }
def EntryMergesCardSaid : Prop := Claim7.holds Tryd.pinned (.plain (OpenSpec.ofChange entryMergesSpec)) entryMergesCard

/-- THE TIED CARD OF 'portagelaw15.EntryWins'. -/
def entryWinsCard : Claim7 := { stood := { row := entryWinsRow, standIns := [], harness := (true, "790ee5f555561e28bea65c3139c3e5d314b9c18eba7104d67e21425c60e38cba"), looks := false }, kinds := [], alts := [], laidByText := true, laidKinds := [.data, .pinned], laidTests := true, laidLooks := .later }
def EntryWinsCardSaid : Prop := Claim7.holds Tryd.pinned (.plain (OpenSpec.ofChange entryWinsSpec)) entryWinsCard

/-- THE TIED CARD OF 'portagelaw15.EntryRow'. -/
def entryRowCard : Claim7 := { stood := { row := entryRowRow, standIns := [], harness := (true, "790ee5f555561e28bea65c3139c3e5d314b9c18eba7104d67e21425c60e38cba"), looks := false }, kinds := [], alts := [], laidByText := true, laidKinds := [.data, .pinned], laidTests := true, laidLooks := .later }
def EntryRowCardSaid : Prop := Claim7.holds Tryd.pinned (.plain (OpenSpec.ofChange entryRowSpec)) entryRowCard

/-- THE SECOND FORM's CARD OF 'portagelaw19.DigestTurned'. -/
def digestTurnedUptoCard : Claim7 := { stood := { row := digestTurnedUptoRow, standIns := [], harness := (true, "790ee5f555561e28bea65c3139c3e5d314b9c18eba7104d67e21425c60e38cba"), looks := false }, kinds := [], alts := [], laidByText := true, laidKinds := [.data, .pinned], laidTests := true, laidLooks := .later }
def DigestTurnedUptoCardSaid : Prop := Claim7.holds Tryd.pinned (.plain (OpenSpec.upto digestTurnedSpec)) digestTurnedUptoCard

/-- THE SECOND FORM's CARD OF 'portagelaw19.DigestForms'. -/
def digestFormsUptoCard : Claim7 := { stood := { row := digestFormsUptoRow, standIns := [], harness := (true, "790ee5f555561e28bea65c3139c3e5d314b9c18eba7104d67e21425c60e38cba"), looks := false }, kinds := [], alts := [], laidByText := true, laidKinds := [.data, .pinned], laidTests := true, laidLooks := .later }
def DigestFormsUptoCardSaid : Prop := Claim7.holds Tryd.pinned (.plain (OpenSpec.upto digestFormsSpec)) digestFormsUptoCard

/-- THE SECOND FORM's CARD OF 'portagelaw15.EntryMerges'. -/
def entryMergesUptoCard : Claim7 := { stood := { row := entryMergesUptoRow, standIns := [], harness := (true, "790ee5f555561e28bea65c3139c3e5d314b9c18eba7104d67e21425c60e38cba"), looks := false }, kinds := [], alts := [], laidByText := true, laidKinds := [.data, .pinned], laidTests := true, laidLooks := .later }
def EntryMergesUptoCardSaid : Prop := Claim7.holds Tryd.pinned (.plain (OpenSpec.upto entryMergesSpec)) entryMergesUptoCard

/-- THE SECOND FORM's CARD OF 'portagelaw15.EntryWins'. -/
def entryWinsUptoCard : Claim7 := { stood := { row := entryWinsUptoRow, standIns := [], harness := (true, "790ee5f555561e28bea65c3139c3e5d314b9c18eba7104d67e21425c60e38cba"), looks := false }, kinds := [], alts := [], laidByText := true, laidKinds := [.data, .pinned], laidTests := true, laidLooks := .later }
def EntryWinsUptoCardSaid : Prop := Claim7.holds Tryd.pinned (.plain (OpenSpec.upto entryWinsSpec)) entryWinsUptoCard

/-- THE SECOND FORM's CARD OF 'portagelaw15.EntryRow'. -/
def entryRowUptoCard : Claim7 := { stood := { row := entryRowUptoRow, standIns := [], harness := (true, "790ee5f555561e28bea65c3139c3e5d314b9c18eba7104d67e21425c60e38cba"), looks := false }, kinds := [], alts := [], laidByText := true, laidKinds := [.data, .pinned], laidTests := true, laidLooks := .later }
def EntryRowUptoCardSaid : Prop := Claim7.holds Tryd.pinned (.plain (OpenSpec.upto entryRowSpec)) entryRowUptoCard
end Rows
end Go.Proofs.YtbihdlhgfnoejaaDoor
