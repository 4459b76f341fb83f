/-
  DERIVED. GIVEN WITH THE SEED: THE CARDS: each row of YtlnpoabdcheleaaGreatDoorRows.lean that lists a variable, with what it lists TIED to the program's text (the seventh form; the later family's looks); each row that meets fmt, with fmt's text TOLD by the authors' own Lean function (tested against real Go, not proved from fmt's source: count such statements apart). THE CARD IS WHAT COUNTS. Prove the row's statement (the work); the ties are given (YtlnpoabdcheleaaGreatDoorTie.lean); close each card by the builder's one call (the guide's Derived/Test/ToyasCard.lean, 'card_holds'). Laid BY PROGRAM, IN A SANDBOX (cutbox-door.mjs). By AI agents, Wed Nov 11 2026. No macro, syntax, notation, axiom, sorry.
-/
import Derived.Test.YtlnpoabdcheleaaGreatDoorRows
import GoSem.ClaimSeven
namespace Go.Proofs.YtlnpoabdcheleaaGreatDoor
namespace Rows

/-- THE TIED CARD OF 'portagelaw20.Buckets'. -/
def bucketsCard : Claim7 := { stood := { row := bucketsRow, standIns := [], harness := (true, "8aaf9254d98c047c5e3e4e1115380a3e3bb0c18b4ce6ccb6696db3eef8cf556e"), looks := false }, kinds := [], alts := [], laidByText := true, laidKinds := [.data, .pinned], laidTests := true, laidLooks := .later }
def BucketsCardSaid : Prop := Claim7.holds Tryz.pinned (.plain (OpenSpec.ofChange bucketsSpec)) bucketsCard

/-- THE TIED CARD OF 'portagelaw20.BucketForms'. -/
def bucketFormsCard : Claim7 := { stood := { row := bucketFormsRow, standIns := [], harness := (true, "8aaf9254d98c047c5e3e4e1115380a3e3bb0c18b4ce6ccb6696db3eef8cf556e"), looks := false }, kinds := [], alts := [], laidByText := true, laidKinds := [.data, .pinned], laidTests := true, laidLooks := .later }
def BucketFormsCardSaid : Prop := Claim7.holds Tryz.pinned (.plain (OpenSpec.ofChange bucketFormsSpec)) bucketFormsCard

/-- THE TIED CARD OF 'portagelaw20.BucketNew'. -/
def bucketNewCard : Claim7 := { stood := { row := bucketNewRow, standIns := [], harness := (true, "8aaf9254d98c047c5e3e4e1115380a3e3bb0c18b4ce6ccb6696db3eef8cf556e"), looks := false }, kinds := [], alts := [], laidByText := true, laidKinds := [.data, .pinned], laidTests := true, laidLooks := .later }
def BucketNewCardSaid : Prop := Claim7.holds Tryz.pinned (.plain (OpenSpec.ofChange bucketNewSpec)) bucketNewCard

/-- THE SECOND FORM's CARD OF 'portagelaw20.Buckets'. -/
def bucketsUptoCard : Claim7 := { stood := { row := bucketsUptoRow, standIns := [], harness := (true, "8aaf9254d98c047c5e3e4e1115380a3e3bb0c18b4ce6ccb6696db3eef8cf556e"), looks := false }, kinds := [], alts := [], laidByText := true, laidKinds := [.data, .pinned], laidTests := true, laidLooks := .later }
def BucketsUptoCardSaid : Prop := Claim7.holds Tryz.pinned (.plain (OpenSpec.upto bucketsSpec)) bucketsUptoCard

/-- THE SECOND FORM's CARD OF 'portagelaw20.BucketForms'. -/
def bucketFormsUptoCard : Claim7 := { stood := { row := bucketFormsUptoRow, standIns := [], harness := (true, "8aaf9254d98c047c5e3e4e1115380a3e3bb0c18b4ce6ccb6696db3eef8cf556e"), looks := false }, kinds := [], alts := [], laidByText := true, laidKinds := [.data, .pinned], laidTests := true, laidLooks := .later }
def BucketFormsUptoCardSaid : Prop := Claim7.holds Tryz.pinned (.plain (OpenSpec.upto bucketFormsSpec)) bucketFormsUptoCard

/-- THE SECOND FORM's CARD OF 'portagelaw20.BucketNew'. -/
def bucketNewUptoCard : Claim7 := { stood := { row := bucketNewUptoRow, standIns := [], harness := (true, "8aaf9254d98c047c5e3e4e1115380a3e3bb0c18b4ce6ccb6696db3eef8cf556e"), looks := false }, kinds := [], alts := [], laidByText := true, laidKinds := [.data, .pinned], laidTests := true, laidLooks := .later }
def BucketNewUptoCardSaid : Prop := Claim7.holds Tryz.pinned (.plain (OpenSpec.upto bucketNewSpec)) bucketNewUptoCard
end Rows
end Go.Proofs.YtlnpoabdcheleaaGreatDoor
