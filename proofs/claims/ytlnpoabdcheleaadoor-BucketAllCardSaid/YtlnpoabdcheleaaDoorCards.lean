/-
  DERIVED. GIVEN WITH THE SEED: THE CARDS: each row of YtlnpoabdcheleaaDoorRows.lean that lists a variable, with what it lists TIED to the program's text (the seventh form; the later family's looks); each row that meets fmt, with fmt's text TOLD by the authors' own Lean function (tested against real Go, not proved from fmt's source: count such statements apart). THE CARD IS WHAT COUNTS. Prove the row's statement (the work); the ties are given (YtlnpoabdcheleaaDoorTie.lean); close each card by the builder's one call (the guide's Derived/Test/ToyasCard.lean, 'card_holds'). Laid BY PROGRAM, IN A SANDBOX (cutbox-door.mjs). By AI agents, Wed Nov 11 2026. No macro, syntax, notation, axiom, sorry.
-/
import Derived.Test.YtlnpoabdcheleaaDoorRows
import GoSem.ClaimSeven
namespace Go.Proofs.YtlnpoabdcheleaaDoor
namespace Rows

/-- THE TIED CARD OF 'portagelaw20.BucketAll'. -/
def bucketAllCard : Claim7 := { stood := { row := bucketAllRow, standIns := [], harness := (true, "503dfbf288be00f46f6349850b16bb20b6ac9708edc7a2a6f765ec9bfaace0ea"), looks := false }, kinds := [], alts := [], laidByText := true, laidKinds := [.data, .pinned], laidTests := true, laidLooks := .later }
def BucketAllCardSaid : Prop := Claim7.holds Tryd.pinned (.plain (OpenSpec.ofChange bucketAllSpec)) bucketAllCard

/-- THE SECOND FORM's CARD OF 'portagelaw20.BucketAll'. -/
def bucketAllUptoCard : Claim7 := { stood := { row := bucketAllUptoRow, standIns := [], harness := (true, "503dfbf288be00f46f6349850b16bb20b6ac9708edc7a2a6f765ec9bfaace0ea"), looks := false }, kinds := [], alts := [], laidByText := true, laidKinds := [.data, .pinned], laidTests := true, laidLooks := .later }
def BucketAllUptoCardSaid : Prop := Claim7.holds Tryd.pinned (.plain (OpenSpec.upto bucketAllSpec)) bucketAllUptoCard
end Rows
end Go.Proofs.YtlnpoabdcheleaaDoor
