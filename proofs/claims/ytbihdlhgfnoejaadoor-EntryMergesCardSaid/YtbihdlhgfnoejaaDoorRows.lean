/-
  NARROWER THAN 'FOR EVERY INPUT', by the rows' own cells (each row's printed sentence says how): DigestTurned: laid · DigestForms: laid · EntryMerges: laid · EntryWins: laid · EntryRow: laid.
  DERIVED. THE GIVEN ROWS OF THIS SEAT. 5 by the template 'for every input the law returns true; each argument reads behind the call as it read before'; 0 by the template 'total and deterministic' (their statements: YtbihdlhgfnoejaaDoorTotals.lean).
  GIVEN WITH THE SEED: the statements are not yours to turn. If you find one false, say at which input.
  Laid BY PROGRAM, IN A SANDBOX (cutbox-rows.mjs): the forced cells as the released guide's own fill.sh prints them over the translation fe7c6f5eb30b6a06… (all of the seat's roots in one cut). By AI agents, Wed Nov 11 2026. No macro, syntax, notation, axiom, sorry.
-/
import Derived.Test.YtbihdlhgfnoejaaDoorChecked
import GoSem.PinnedTables
import GoSem.Claim
import GoSem.ClaimJoined
import GoSem.ClaimMapViews
import Derived.JoinedTies
import Derived.KernelRfl
namespace Go.Proofs.YtbihdlhgfnoejaaDoor
/- THE CELL 'sum', in the pinned program and in every row, IS THE sha256 OF THE DUMP (.gsa) THAT YtbihdlhgfnoejaaDoorProg.lean LOADS. Nothing in Lean hashes anything: it is a label: what it is worth is what the hold of that sum in a sandbox is worth. -/
noncomputable def Tryd.pinned : Pinned := { name := "ytbihdlhgfnoejaadoor", sum := "fe7c6f5eb30b6a069d7c0882bf6b4dcfbc53ff6f948cd6bc6be2da0bc3ebe575", checked := Tryd.checked }
namespace Rows
def none {H : Type} : Left H := { results := [], args := [] }

/- WHAT THE LISTED PACKAGE-LEVEL VARIABLES READ AS WHEN THE CALL BEGINS. Each datum BY PROGRAM (the guide's laid-datum.mjs) off the statement by which the dump's own 'gosem.cut.vars' lays the variable. In a bare row this is a premise. The card (YtbihdlhgfnoejaaDoorCards.lean) ties it to the program's text. -/
def laid_unicode_utf8_acceptRanges {H : Type} : DataW H := .agg [.agg [.lit (.int .u8 128), .lit (.int .u8 191)], .agg [.lit (.int .u8 160), .lit (.int .u8 191)], .agg [.lit (.int .u8 128), .lit (.int .u8 159)], .agg [.lit (.int .u8 144), .lit (.int .u8 191)], .agg [.lit (.int .u8 128), .lit (.int .u8 143)], .agg [.lit (.int .u8 0), .lit (.int .u8 0)], .agg [.lit (.int .u8 0), .lit (.int .u8 0)], .agg [.lit (.int .u8 0), .lit (.int .u8 0)], .agg [.lit (.int .u8 0), .lit (.int .u8 0)], .agg [.lit (.int .u8 0), .lit (.int .u8 0)], .agg [.lit (.int .u8 0), .lit (.int .u8 0)], .agg [.lit (.int .u8 0), .lit (.int .u8 0)], .agg [.lit (.int .u8 0), .lit (.int .u8 0)], .agg [.lit (.int .u8 0), .lit (.int .u8 0)], .agg [.lit (.int .u8 0), .lit (.int .u8 0)], .agg [.lit (.int .u8 0), .lit (.int .u8 0)]]
/-- One of Go's own tables, pinned by name: the form's constant. -/
def laid_unicode_utf8_first : DataW Unit := Go.Pinned.utf8First

/-- 'portagelaw19.DigestTurned': WHATEVER THE INPUT: true; the input reads as it did. -/
def digestTurnedSpec : ChangeSpec := { name := "digestTurned", fn := fun _ => fun
  | [d1, d2, d3, d4] => { results := [.lit (.bool true)], args := [d1, d2, d3, d4] }
  | _ => none }
def digestTurnedRow : OpenClaim := { program := "ytbihdlhgfnoejaadoor", sum := "fe7c6f5eb30b6a069d7c0882bf6b4dcfbc53ff6f948cd6bc6be2da0bc3ebe575", func := "portage/portagelaw19.DigestTurned", spec := "digestTurned", inPlace := ["internal/bytealg.IndexByteString", "internal/bytealg.IndexString"], unfollowed := true, recurses := true, named := ["unicode/utf8.first", "unicode/utf8.acceptRanges", "internal/bytealg.MaxLen"], apart := false, laid := [("unicode/utf8.acceptRanges", laid_unicode_utf8_acceptRanges), ("unicode/utf8.first", laid_unicode_utf8_first)] }
def DigestTurnedSaid : Prop := digestTurnedRow.holds Tryd.pinned (OpenSpec.ofChange digestTurnedSpec)

/-- ITS FALSE NEIGHBOUR: 'it returns false'. Refute it at one input. -/
def digestTurnedWrong : ChangeSpec := { name := "digestTurned", fn := fun _ => fun
  | [d1, d2, d3, d4] => { results := [.lit (.bool false)], args := [d1, d2, d3, d4] }
  | _ => none }
def DigestTurnedWrongFalsely : Prop := digestTurnedRow.holds Tryd.pinned (OpenSpec.ofChange digestTurnedWrong)

/-- 'portagelaw19.DigestForms': WHATEVER THE INPUT: true; the input reads as it did. -/
def digestFormsSpec : ChangeSpec := { name := "digestForms", fn := fun _ => fun
  | [d1, d2] => { results := [.lit (.bool true)], args := [d1, d2] }
  | _ => none }
def digestFormsRow : OpenClaim := { program := "ytbihdlhgfnoejaadoor", sum := "fe7c6f5eb30b6a069d7c0882bf6b4dcfbc53ff6f948cd6bc6be2da0bc3ebe575", func := "portage/portagelaw19.DigestForms", spec := "digestForms", inPlace := ["internal/bytealg.IndexByteString", "internal/bytealg.IndexString"], unfollowed := true, recurses := true, named := ["unicode/utf8.first", "unicode/utf8.acceptRanges", "internal/bytealg.MaxLen"], apart := false, laid := [("unicode/utf8.acceptRanges", laid_unicode_utf8_acceptRanges), ("unicode/utf8.first", laid_unicode_utf8_first)] }
def DigestFormsSaid : Prop := digestFormsRow.holds Tryd.pinned (OpenSpec.ofChange digestFormsSpec)

/-- ITS FALSE NEIGHBOUR: 'it returns false'. Refute it at one input. -/
def digestFormsWrong : ChangeSpec := { name := "digestForms", fn := fun _ => fun
  | [d1, d2] => { results := [.lit (.bool false)], args := [d1, d2] }
  | _ => none }
def DigestFormsWrongFalsely : Prop := digestFormsRow.holds Tryd.pinned (OpenSpec.ofChange digestFormsWrong)

/-- 'portagelaw15.EntryMerges': WHATEVER THE INPUT: true; the input reads as it did. -/
def entryMergesSpec : ChangeSpec := { name := "entryMerges", fn := fun _ => fun
  | [d1, d2, d3] => { results := [.lit (.bool true)], args := [d1, d2, d3] }
  | _ => none }
def entryMergesRow : OpenClaim := { program := "ytbihdlhgfnoejaadoor", sum := "fe7c6f5eb30b6a069d7c0882bf6b4dcfbc53ff6f948cd6bc6be2da0bc3ebe575", func := "portage/portagelaw15.EntryMerges", spec := "entryMerges", inPlace := ["internal/bytealg.IndexByteString", "internal/bytealg.IndexString"], unfollowed := true, recurses := true, named := ["unicode/utf8.first", "unicode/utf8.acceptRanges", "internal/bytealg.MaxLen"], apart := false, laid := [("unicode/utf8.acceptRanges", laid_unicode_utf8_acceptRanges), ("unicode/utf8.first", laid_unicode_utf8_first)] }
def EntryMergesSaid : Prop := entryMergesRow.holds Tryd.pinned (OpenSpec.ofChange entryMergesSpec)

/-- ITS FALSE NEIGHBOUR: 'it returns false'. Refute it at one input. -/
def entryMergesWrong : ChangeSpec := { name := "entryMerges", fn := fun _ => fun
  | [d1, d2, d3] => { results := [.lit (.bool false)], args := [d1, d2, d3] }
  | _ => none }
def EntryMergesWrongFalsely : Prop := entryMergesRow.holds Tryd.pinned (OpenSpec.ofChange entryMergesWrong)

/-- 'portagelaw15.EntryWins': WHATEVER THE INPUT: true; the input reads as it did. -/
def entryWinsSpec : ChangeSpec := { name := "entryWins", fn := fun _ => fun
  | [d1, d2, d3, d4] => { results := [.lit (.bool true)], args := [d1, d2, d3, d4] }
  | _ => none }
def entryWinsRow : OpenClaim := { program := "ytbihdlhgfnoejaadoor", sum := "fe7c6f5eb30b6a069d7c0882bf6b4dcfbc53ff6f948cd6bc6be2da0bc3ebe575", func := "portage/portagelaw15.EntryWins", spec := "entryWins", inPlace := ["internal/bytealg.IndexByteString", "internal/bytealg.IndexString"], unfollowed := true, recurses := true, named := ["unicode/utf8.first", "unicode/utf8.acceptRanges", "internal/bytealg.MaxLen"], apart := false, laid := [("unicode/utf8.acceptRanges", laid_unicode_utf8_acceptRanges), ("unicode/utf8.first", laid_unicode_utf8_first)] }
def EntryWinsSaid : Prop := entryWinsRow.holds Tryd.pinned (OpenSpec.ofChange entryWinsSpec)

/-- ITS FALSE NEIGHBOUR: 'it returns false'. Refute it at one input. -/
def entryWinsWrong : ChangeSpec := { name := "entryWins", fn := fun _ => fun
  | [d1, d2, d3, d4] => { results := [.lit (.bool false)], args := [d1, d2, d3, d4] }
  | _ => none }
def EntryWinsWrongFalsely : Prop := entryWinsRow.holds Tryd.pinned (OpenSpec.ofChange entryWinsWrong)

/-- 'portagelaw15.EntryRow': WHATEVER THE INPUT: true; the input reads as it did. -/
def entryRowSpec : ChangeSpec := { name := "entryRow", fn := fun _ => fun
  | [d1, d2] => { results := [.lit (.bool true)], args := [d1, d2] }
  | _ => none }
def entryRowRow : OpenClaim := { program := "ytbihdlhgfnoejaadoor", sum := "fe7c6f5eb30b6a069d7c0882bf6b4dcfbc53ff6f948cd6bc6be2da0bc3ebe575", func := "portage/portagelaw15.EntryRow", spec := "entryRow", inPlace := ["internal/bytealg.IndexByteString", "internal/bytealg.IndexString"], unfollowed := true, recurses := true, named := ["unicode/utf8.first", "unicode/utf8.acceptRanges", "internal/bytealg.MaxLen"], apart := false, laid := [("unicode/utf8.acceptRanges", laid_unicode_utf8_acceptRanges), ("unicode/utf8.first", laid_unicode_utf8_first)] }
def EntryRowSaid : Prop := entryRowRow.holds Tryd.pinned (OpenSpec.ofChange entryRowSpec)

/-- ITS FALSE NEIGHBOUR: 'it returns false'. Refute it at one input. -/
def entryRowWrong : ChangeSpec := { name := "entryRow", fn := fun _ => fun
  | [d1, d2] => { results := [.lit (.bool false)], args := [d1, d2] }
  | _ => none }
def EntryRowWrongFalsely : Prop := entryRowRow.holds Tryd.pinned (OpenSpec.ofChange entryRowWrong)

/- THE SECOND FORM. 'bulk': how many values and letters a reading holds, each counted each time it is reached (what is shared counts as often as it is met; a slice's spare places count too). A statement '..UptoSaid' is the law's where the arguments, and the package variables that the reading takes, are together of bulk at most 1048576: NARROWER than '..Said'. Prove '..Said' where nothing that the law and all that it calls make is longer than what came in: it says more and counts as full. Else prove '..UptoSaid'. A law counts once. -/
mutual
def uptoBulk {H : Type} : DataW H → Nat
  | .lit (.string bytes) => bytes.length + 1
  | .lit _ => 1
  | .nil => 1
  | .ptr d => uptoBulk d + 1
  | .slice elems spare => uptoBulkAll elems + uptoBulkAll spare + 1
  | .agg parts => uptoBulkAll parts + 1
  | .iface _ d => uptoBulk d + 1
  | .map entries => uptoBulkEntries entries + 1
  | .held _ => 1
def uptoBulkAll {H : Type} : List (DataW H) → Nat
  | [] => 0
  | d :: r => uptoBulk d + uptoBulkAll r
def uptoBulkEntries {H : Type} : List (Lit × DataW H) → Nat
  | [] => 0
  | x :: r => uptoBulkEntry x + uptoBulkEntries r
def uptoBulkEntry {H : Type} : Lit × DataW H → Nat
  | (.string bytes, d) => bytes.length + uptoBulk d + 1
  | (_, d) => uptoBulk d + 1
 end
def uptoSmall : (H : Type) → List (DataW H) → Bool := fun _ ds => decide (uptoBulkAll ds ≤ 1048576)
def OpenSpec.upto (s : _root_.Go.ChangeSpec) : _root_.Go.OpenSpec := { _root_.Go.OpenSpec.ofChange s with cond := some uptoSmall }

/-- 'portagelaw19.DigestTurned', WHERE WHAT IT READS IS OF BULK AT MOST 1048576: true; the input reads as it did. -/
def digestTurnedUptoRow : OpenClaim := { program := "ytbihdlhgfnoejaadoor", sum := "fe7c6f5eb30b6a069d7c0882bf6b4dcfbc53ff6f948cd6bc6be2da0bc3ebe575", func := "portage/portagelaw19.DigestTurned", spec := "digestTurned", inPlace := ["internal/bytealg.IndexByteString", "internal/bytealg.IndexString"], unfollowed := true, recurses := true, named := ["unicode/utf8.first", "unicode/utf8.acceptRanges", "internal/bytealg.MaxLen"], apart := false, laid := [("unicode/utf8.acceptRanges", laid_unicode_utf8_acceptRanges), ("unicode/utf8.first", laid_unicode_utf8_first)], narrowed := true }
def DigestTurnedUptoSaid : Prop := digestTurnedUptoRow.holds Tryd.pinned (OpenSpec.upto digestTurnedSpec)

/-- 'portagelaw19.DigestForms', WHERE WHAT IT READS IS OF BULK AT MOST 1048576: true; the input reads as it did. -/
def digestFormsUptoRow : OpenClaim := { program := "ytbihdlhgfnoejaadoor", sum := "fe7c6f5eb30b6a069d7c0882bf6b4dcfbc53ff6f948cd6bc6be2da0bc3ebe575", func := "portage/portagelaw19.DigestForms", spec := "digestForms", inPlace := ["internal/bytealg.IndexByteString", "internal/bytealg.IndexString"], unfollowed := true, recurses := true, named := ["unicode/utf8.first", "unicode/utf8.acceptRanges", "internal/bytealg.MaxLen"], apart := false, laid := [("unicode/utf8.acceptRanges", laid_unicode_utf8_acceptRanges), ("unicode/utf8.first", laid_unicode_utf8_first)], narrowed := true }
def DigestFormsUptoSaid : Prop := digestFormsUptoRow.holds Tryd.pinned (OpenSpec.upto digestFormsSpec)

/-- 'portagelaw15.EntryMerges', WHERE WHAT IT READS IS OF BULK AT MOST 1048576: true; the input reads as it did. -/
def entryMergesUptoRow : OpenClaim := { program := "ytbihdlhgfnoejaadoor", sum := "fe7c6f5eb30b6a069d7c0882bf6b4dcfbc53ff6f948cd6bc6be2da0bc3ebe575", func := "portage/portagelaw15.EntryMerges", spec := "entryMerges", inPlace := ["internal/bytealg.IndexByteString", "internal/bytealg.IndexString"], unfollowed := true, recurses := true, named := ["unicode/utf8.first", "unicode/utf8.acceptRanges", "internal/bytealg.MaxLen"], apart := false, laid := [("unicode/utf8.acceptRanges", laid_unicode_utf8_acceptRanges), ("unicode/utf8.first", laid_unicode_utf8_first)], narrowed := true }
def EntryMergesUptoSaid : Prop := entryMergesUptoRow.holds Tryd.pinned (OpenSpec.upto entryMergesSpec)

/-- 'portagelaw15.EntryWins', WHERE WHAT IT READS IS OF BULK AT MOST 1048576: true; the input reads as it did. -/
def entryWinsUptoRow : OpenClaim := { program := "ytbihdlhgfnoejaadoor", sum := "fe7c6f5eb30b6a069d7c0882bf6b4dcfbc53ff6f948cd6bc6be2da0bc3ebe575", func := "portage/portagelaw15.EntryWins", spec := "entryWins", inPlace := ["internal/bytealg.IndexByteString", "internal/bytealg.IndexString"], unfollowed := true, recurses := true, named := ["unicode/utf8.first", "unicode/utf8.acceptRanges", "internal/bytealg.MaxLen"], apart := false, laid := [("unicode/utf8.acceptRanges", laid_unicode_utf8_acceptRanges), ("unicode/utf8.first", laid_unicode_utf8_first)], narrowed := true }
def EntryWinsUptoSaid : Prop := entryWinsUptoRow.holds Tryd.pinned (OpenSpec.upto entryWinsSpec)

/-- 'portagelaw15.EntryRow', WHERE WHAT IT READS IS OF BULK AT MOST 1048576: true; the input reads as it did. -/
def entryRowUptoRow : OpenClaim := { program := "ytbihdlhgfnoejaadoor", sum := "fe7c6f5eb30b6a069d7c0882bf6b4dcfbc53ff6f948cd6bc6be2da0bc3ebe575", func := "portage/portagelaw15.EntryRow", spec := "entryRow", inPlace := ["internal/bytealg.IndexByteString", "internal/bytealg.IndexString"], unfollowed := true, recurses := true, named := ["unicode/utf8.first", "unicode/utf8.acceptRanges", "internal/bytealg.MaxLen"], apart := false, laid := [("unicode/utf8.acceptRanges", laid_unicode_utf8_acceptRanges), ("unicode/utf8.first", laid_unicode_utf8_first)], narrowed := true }
def EntryRowUptoSaid : Prop := entryRowUptoRow.holds Tryd.pinned (OpenSpec.upto entryRowSpec)

end Rows
end Go.Proofs.YtbihdlhgfnoejaaDoor
