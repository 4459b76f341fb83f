/-
  NARROWER THAN 'FOR EVERY INPUT', by the rows' own cells (each row's printed sentence says how): Msgs: laid · MsgTurned: laid · MsgForms: laid · MsgUnlike: laid · MsgSums: laid · Peers: laid · PeerPull: laid · PeerForms: laid · PeerQuiet: laid · PeerWants: laid · PeerBoth: laid.
  DERIVED. THE GIVEN ROWS OF THIS SEAT. 11 by the template 'for every input the law returns true; each argument reads behind the call as it read before'; 0 by the template 'total and deterministic' (their statements: YtcapkjggnnakfaaGreatDoorTotals.lean).
  GIVEN WITH THE SEED: the statements are not yours to turn. If you find one false, say at which input.
  Laid BY PROGRAM, IN A SANDBOX (cutbox-rows.mjs): the forced cells as the released guide's own fill.sh prints them over the translation e858456f65a13596… (all of the seat's roots in one cut). By AI agents, Wed Nov 11 2026. No macro, syntax, notation, axiom, sorry.
-/
import Derived.Test.YtcapkjggnnakfaaGreatDoorChecked
import GoSem.PinnedTables
import GoSem.Claim
import GoSem.ClaimJoined
import GoSem.ClaimMapViews
import Derived.JoinedTies
import Derived.KernelRfl
namespace Go.Proofs.YtcapkjggnnakfaaGreatDoor
/- THE CELL 'sum', in the pinned program and in every row, IS THE sha256 OF THE DUMP (.gsa) THAT YtcapkjggnnakfaaGreatDoorProg.lean LOADS. Nothing in Lean hashes anything: it is a label: what it is worth is what the hold of that sum in a sandbox is worth. -/
noncomputable def Tryz.pinned : Pinned := { name := "ytcapkjggnnakfaagreatdoor", sum := "e858456f65a135963033ae907e720e347675d4ff6cf3939b74b9472b63fcb479", checked := Tryz.checked }
namespace Rows
def none {H : Type} : Left H := { results := [], args := [] }

/- WHAT THE LISTED PACKAGE-LEVEL VARIABLES READ AS WHEN THE CALL BEGINS. Each datum BY PROGRAM (the guide's laid-datum.mjs) off the statement by which the dump's own 'gosem.cut.vars' lays the variable. In a bare row this is a premise. The card (YtcapkjggnnakfaaGreatDoorCards.lean) ties it to the program's text. -/
def laid_unicode_utf8_acceptRanges {H : Type} : DataW H := .agg [.agg [.lit (.int .u8 128), .lit (.int .u8 191)], .agg [.lit (.int .u8 160), .lit (.int .u8 191)], .agg [.lit (.int .u8 128), .lit (.int .u8 159)], .agg [.lit (.int .u8 144), .lit (.int .u8 191)], .agg [.lit (.int .u8 128), .lit (.int .u8 143)], .agg [.lit (.int .u8 0), .lit (.int .u8 0)], .agg [.lit (.int .u8 0), .lit (.int .u8 0)], .agg [.lit (.int .u8 0), .lit (.int .u8 0)], .agg [.lit (.int .u8 0), .lit (.int .u8 0)], .agg [.lit (.int .u8 0), .lit (.int .u8 0)], .agg [.lit (.int .u8 0), .lit (.int .u8 0)], .agg [.lit (.int .u8 0), .lit (.int .u8 0)], .agg [.lit (.int .u8 0), .lit (.int .u8 0)], .agg [.lit (.int .u8 0), .lit (.int .u8 0)], .agg [.lit (.int .u8 0), .lit (.int .u8 0)], .agg [.lit (.int .u8 0), .lit (.int .u8 0)]]
/-- One of Go's own tables, pinned by name: the form's constant. -/
def laid_unicode_utf8_first : DataW Unit := Go.Pinned.utf8First

/-- 'portagelaw21.Msgs': WHATEVER THE INPUT: true; the input reads as it did. -/
def msgsSpec : ChangeSpec := { name := "msgs", fn := fun _ => fun
  | [d1, d2] => { results := [.lit (.bool true)], args := [d1, d2] }
  | _ => none }
def msgsRow : OpenClaim := { program := "ytcapkjggnnakfaagreatdoor", sum := "e858456f65a135963033ae907e720e347675d4ff6cf3939b74b9472b63fcb479", func := "portage/portagelaw21.Msgs", spec := "msgs", inPlace := ["internal/bytealg.IndexByteString", "internal/bytealg.IndexString", "internal/abi.NoEscape"], unfollowed := true, recurses := true, named := ["unicode/utf8.first", "unicode/utf8.acceptRanges", "internal/bytealg.MaxLen"], apart := false, laid := [("unicode/utf8.acceptRanges", laid_unicode_utf8_acceptRanges), ("unicode/utf8.first", laid_unicode_utf8_first)] }
def MsgsSaid : Prop := msgsRow.holds Tryz.pinned (OpenSpec.ofChange msgsSpec)

/-- ITS FALSE NEIGHBOUR: 'it returns false'. Refute it at one input. -/
def msgsWrong : ChangeSpec := { name := "msgs", fn := fun _ => fun
  | [d1, d2] => { results := [.lit (.bool false)], args := [d1, d2] }
  | _ => none }
def MsgsWrongFalsely : Prop := msgsRow.holds Tryz.pinned (OpenSpec.ofChange msgsWrong)

/-- 'portagelaw21.MsgTurned': WHATEVER THE INPUT: true; the input reads as it did. -/
def msgTurnedSpec : ChangeSpec := { name := "msgTurned", fn := fun _ => fun
  | [d1, d2, d3] => { results := [.lit (.bool true)], args := [d1, d2, d3] }
  | _ => none }
def msgTurnedRow : OpenClaim := { program := "ytcapkjggnnakfaagreatdoor", sum := "e858456f65a135963033ae907e720e347675d4ff6cf3939b74b9472b63fcb479", func := "portage/portagelaw21.MsgTurned", spec := "msgTurned", inPlace := ["internal/bytealg.IndexByteString", "internal/bytealg.IndexString", "internal/abi.NoEscape"], unfollowed := true, recurses := true, named := ["unicode/utf8.first", "unicode/utf8.acceptRanges", "internal/bytealg.MaxLen"], apart := false, laid := [("unicode/utf8.acceptRanges", laid_unicode_utf8_acceptRanges), ("unicode/utf8.first", laid_unicode_utf8_first)] }
def MsgTurnedSaid : Prop := msgTurnedRow.holds Tryz.pinned (OpenSpec.ofChange msgTurnedSpec)

/-- ITS FALSE NEIGHBOUR: 'it returns false'. Refute it at one input. -/
def msgTurnedWrong : ChangeSpec := { name := "msgTurned", fn := fun _ => fun
  | [d1, d2, d3] => { results := [.lit (.bool false)], args := [d1, d2, d3] }
  | _ => none }
def MsgTurnedWrongFalsely : Prop := msgTurnedRow.holds Tryz.pinned (OpenSpec.ofChange msgTurnedWrong)

/-- 'portagelaw21.MsgForms': WHATEVER THE INPUT: true; the input reads as it did. -/
def msgFormsSpec : ChangeSpec := { name := "msgForms", fn := fun _ => fun
  | [d1, d2] => { results := [.lit (.bool true)], args := [d1, d2] }
  | _ => none }
def msgFormsRow : OpenClaim := { program := "ytcapkjggnnakfaagreatdoor", sum := "e858456f65a135963033ae907e720e347675d4ff6cf3939b74b9472b63fcb479", func := "portage/portagelaw21.MsgForms", spec := "msgForms", inPlace := ["internal/bytealg.IndexByteString", "internal/bytealg.IndexString", "internal/abi.NoEscape"], unfollowed := true, recurses := true, named := ["unicode/utf8.first", "unicode/utf8.acceptRanges", "internal/bytealg.MaxLen"], apart := false, laid := [("unicode/utf8.acceptRanges", laid_unicode_utf8_acceptRanges), ("unicode/utf8.first", laid_unicode_utf8_first)] }
def MsgFormsSaid : Prop := msgFormsRow.holds Tryz.pinned (OpenSpec.ofChange msgFormsSpec)

/-- ITS FALSE NEIGHBOUR: 'it returns false'. Refute it at one input. -/
def msgFormsWrong : ChangeSpec := { name := "msgForms", fn := fun _ => fun
  | [d1, d2] => { results := [.lit (.bool false)], args := [d1, d2] }
  | _ => none }
def MsgFormsWrongFalsely : Prop := msgFormsRow.holds Tryz.pinned (OpenSpec.ofChange msgFormsWrong)

/-- 'portagelaw21.MsgUnlike': WHATEVER THE INPUT: true; the input reads as it did. -/
def msgUnlikeSpec : ChangeSpec := { name := "msgUnlike", fn := fun _ => fun
  | [d1, d2] => { results := [.lit (.bool true)], args := [d1, d2] }
  | _ => none }
def msgUnlikeRow : OpenClaim := { program := "ytcapkjggnnakfaagreatdoor", sum := "e858456f65a135963033ae907e720e347675d4ff6cf3939b74b9472b63fcb479", func := "portage/portagelaw21.MsgUnlike", spec := "msgUnlike", inPlace := ["internal/bytealg.IndexByteString", "internal/bytealg.IndexString", "internal/abi.NoEscape"], unfollowed := true, recurses := true, named := ["unicode/utf8.first", "unicode/utf8.acceptRanges", "internal/bytealg.MaxLen"], apart := false, laid := [("unicode/utf8.acceptRanges", laid_unicode_utf8_acceptRanges), ("unicode/utf8.first", laid_unicode_utf8_first)] }
def MsgUnlikeSaid : Prop := msgUnlikeRow.holds Tryz.pinned (OpenSpec.ofChange msgUnlikeSpec)

/-- ITS FALSE NEIGHBOUR: 'it returns false'. Refute it at one input. -/
def msgUnlikeWrong : ChangeSpec := { name := "msgUnlike", fn := fun _ => fun
  | [d1, d2] => { results := [.lit (.bool false)], args := [d1, d2] }
  | _ => none }
def MsgUnlikeWrongFalsely : Prop := msgUnlikeRow.holds Tryz.pinned (OpenSpec.ofChange msgUnlikeWrong)

/-- 'portagelaw21.MsgSums': WHATEVER THE INPUT: true; the input reads as it did. -/
def msgSumsSpec : ChangeSpec := { name := "msgSums", fn := fun _ => fun
  | [d1, d2] => { results := [.lit (.bool true)], args := [d1, d2] }
  | _ => none }
def msgSumsRow : OpenClaim := { program := "ytcapkjggnnakfaagreatdoor", sum := "e858456f65a135963033ae907e720e347675d4ff6cf3939b74b9472b63fcb479", func := "portage/portagelaw21.MsgSums", spec := "msgSums", inPlace := ["internal/bytealg.IndexByteString", "internal/bytealg.IndexString", "internal/abi.NoEscape"], unfollowed := true, recurses := true, named := ["unicode/utf8.first", "unicode/utf8.acceptRanges", "internal/bytealg.MaxLen"], apart := false, laid := [("unicode/utf8.acceptRanges", laid_unicode_utf8_acceptRanges), ("unicode/utf8.first", laid_unicode_utf8_first)] }
def MsgSumsSaid : Prop := msgSumsRow.holds Tryz.pinned (OpenSpec.ofChange msgSumsSpec)

/-- ITS FALSE NEIGHBOUR: 'it returns false'. Refute it at one input. -/
def msgSumsWrong : ChangeSpec := { name := "msgSums", fn := fun _ => fun
  | [d1, d2] => { results := [.lit (.bool false)], args := [d1, d2] }
  | _ => none }
def MsgSumsWrongFalsely : Prop := msgSumsRow.holds Tryz.pinned (OpenSpec.ofChange msgSumsWrong)

/-- 'portagelaw22.Peers': WHATEVER THE INPUT: true; the input reads as it did. -/
def peersSpec : ChangeSpec := { name := "peers", fn := fun _ => fun
  | [d1, d2, d3, d4] => { results := [.lit (.bool true)], args := [d1, d2, d3, d4] }
  | _ => none }
def peersRow : OpenClaim := { program := "ytcapkjggnnakfaagreatdoor", sum := "e858456f65a135963033ae907e720e347675d4ff6cf3939b74b9472b63fcb479", func := "portage/portagelaw22.Peers", spec := "peers", inPlace := ["internal/bytealg.IndexByteString", "internal/bytealg.IndexString"], unfollowed := true, recurses := true, named := ["unicode/utf8.first", "unicode/utf8.acceptRanges", "internal/bytealg.MaxLen"], apart := false, laid := [("unicode/utf8.acceptRanges", laid_unicode_utf8_acceptRanges), ("unicode/utf8.first", laid_unicode_utf8_first)] }
def PeersSaid : Prop := peersRow.holds Tryz.pinned (OpenSpec.ofChange peersSpec)

/-- ITS FALSE NEIGHBOUR: 'it returns false'. Refute it at one input. -/
def peersWrong : ChangeSpec := { name := "peers", fn := fun _ => fun
  | [d1, d2, d3, d4] => { results := [.lit (.bool false)], args := [d1, d2, d3, d4] }
  | _ => none }
def PeersWrongFalsely : Prop := peersRow.holds Tryz.pinned (OpenSpec.ofChange peersWrong)

/-- 'portagelaw22.PeerPull': WHATEVER THE INPUT: true; the input reads as it did. -/
def peerPullSpec : ChangeSpec := { name := "peerPull", fn := fun _ => fun
  | [d1, d2] => { results := [.lit (.bool true)], args := [d1, d2] }
  | _ => none }
def peerPullRow : OpenClaim := { program := "ytcapkjggnnakfaagreatdoor", sum := "e858456f65a135963033ae907e720e347675d4ff6cf3939b74b9472b63fcb479", func := "portage/portagelaw22.PeerPull", spec := "peerPull", inPlace := ["internal/bytealg.IndexByteString", "internal/bytealg.IndexString"], unfollowed := true, recurses := true, named := ["unicode/utf8.first", "unicode/utf8.acceptRanges", "internal/bytealg.MaxLen"], apart := false, laid := [("unicode/utf8.acceptRanges", laid_unicode_utf8_acceptRanges), ("unicode/utf8.first", laid_unicode_utf8_first)] }
def PeerPullSaid : Prop := peerPullRow.holds Tryz.pinned (OpenSpec.ofChange peerPullSpec)

/-- ITS FALSE NEIGHBOUR: 'it returns false'. Refute it at one input. -/
def peerPullWrong : ChangeSpec := { name := "peerPull", fn := fun _ => fun
  | [d1, d2] => { results := [.lit (.bool false)], args := [d1, d2] }
  | _ => none }
def PeerPullWrongFalsely : Prop := peerPullRow.holds Tryz.pinned (OpenSpec.ofChange peerPullWrong)

/-- 'portagelaw22.PeerForms': WHATEVER THE INPUT: true; the input reads as it did. -/
def peerFormsSpec : ChangeSpec := { name := "peerForms", fn := fun _ => fun
  | [d1, d2] => { results := [.lit (.bool true)], args := [d1, d2] }
  | _ => none }
def peerFormsRow : OpenClaim := { program := "ytcapkjggnnakfaagreatdoor", sum := "e858456f65a135963033ae907e720e347675d4ff6cf3939b74b9472b63fcb479", func := "portage/portagelaw22.PeerForms", spec := "peerForms", inPlace := ["internal/bytealg.IndexByteString", "internal/bytealg.IndexString"], unfollowed := true, recurses := true, named := ["unicode/utf8.first", "unicode/utf8.acceptRanges", "internal/bytealg.MaxLen"], apart := false, laid := [("unicode/utf8.acceptRanges", laid_unicode_utf8_acceptRanges), ("unicode/utf8.first", laid_unicode_utf8_first)] }
def PeerFormsSaid : Prop := peerFormsRow.holds Tryz.pinned (OpenSpec.ofChange peerFormsSpec)

/-- ITS FALSE NEIGHBOUR: 'it returns false'. Refute it at one input. -/
def peerFormsWrong : ChangeSpec := { name := "peerForms", fn := fun _ => fun
  | [d1, d2] => { results := [.lit (.bool false)], args := [d1, d2] }
  | _ => none }
def PeerFormsWrongFalsely : Prop := peerFormsRow.holds Tryz.pinned (OpenSpec.ofChange peerFormsWrong)

/-- 'portagelaw22.PeerQuiet': WHATEVER THE INPUT: true; the input reads as it did. -/
def peerQuietSpec : ChangeSpec := { name := "peerQuiet", fn := fun _ => fun
  | [d1, d2, d3] => { results := [.lit (.bool true)], args := [d1, d2, d3] }
  | _ => none }
def peerQuietRow : OpenClaim := { program := "ytcapkjggnnakfaagreatdoor", sum := "e858456f65a135963033ae907e720e347675d4ff6cf3939b74b9472b63fcb479", func := "portage/portagelaw22.PeerQuiet", spec := "peerQuiet", inPlace := ["internal/bytealg.IndexByteString", "internal/bytealg.IndexString"], unfollowed := true, recurses := true, named := ["unicode/utf8.first", "unicode/utf8.acceptRanges", "internal/bytealg.MaxLen"], apart := false, laid := [("unicode/utf8.acceptRanges", laid_unicode_utf8_acceptRanges), ("unicode/utf8.first", laid_unicode_utf8_first)] }
def PeerQuietSaid : Prop := peerQuietRow.holds Tryz.pinned (OpenSpec.ofChange peerQuietSpec)

/-- ITS FALSE NEIGHBOUR: 'it returns false'. Refute it at one input. -/
def peerQuietWrong : ChangeSpec := { name := "peerQuiet", fn := fun _ => fun
  | [d1, d2, d3] => { results := [.lit (.bool false)], args := [d1, d2, d3] }
  | _ => none }
def PeerQuietWrongFalsely : Prop := peerQuietRow.holds Tryz.pinned (OpenSpec.ofChange peerQuietWrong)

/-- 'portagelaw22.PeerWants': WHATEVER THE INPUT: true; the input reads as it did. -/
def peerWantsSpec : ChangeSpec := { name := "peerWants", fn := fun _ => fun
  | [d1, d2] => { results := [.lit (.bool true)], args := [d1, d2] }
  | _ => none }
def peerWantsRow : OpenClaim := { program := "ytcapkjggnnakfaagreatdoor", sum := "e858456f65a135963033ae907e720e347675d4ff6cf3939b74b9472b63fcb479", func := "portage/portagelaw22.PeerWants", spec := "peerWants", inPlace := ["internal/bytealg.IndexByteString", "internal/bytealg.IndexString"], unfollowed := true, recurses := true, named := ["unicode/utf8.first", "unicode/utf8.acceptRanges", "internal/bytealg.MaxLen"], apart := false, laid := [("unicode/utf8.acceptRanges", laid_unicode_utf8_acceptRanges), ("unicode/utf8.first", laid_unicode_utf8_first)] }
def PeerWantsSaid : Prop := peerWantsRow.holds Tryz.pinned (OpenSpec.ofChange peerWantsSpec)

/-- ITS FALSE NEIGHBOUR: 'it returns false'. Refute it at one input. -/
def peerWantsWrong : ChangeSpec := { name := "peerWants", fn := fun _ => fun
  | [d1, d2] => { results := [.lit (.bool false)], args := [d1, d2] }
  | _ => none }
def PeerWantsWrongFalsely : Prop := peerWantsRow.holds Tryz.pinned (OpenSpec.ofChange peerWantsWrong)

/-- 'portagelaw22.PeerBoth': WHATEVER THE INPUT: true; the input reads as it did. -/
def peerBothSpec : ChangeSpec := { name := "peerBoth", fn := fun _ => fun
  | [d1, d2] => { results := [.lit (.bool true)], args := [d1, d2] }
  | _ => none }
def peerBothRow : OpenClaim := { program := "ytcapkjggnnakfaagreatdoor", sum := "e858456f65a135963033ae907e720e347675d4ff6cf3939b74b9472b63fcb479", func := "portage/portagelaw22.PeerBoth", spec := "peerBoth", inPlace := ["internal/bytealg.IndexByteString", "internal/bytealg.IndexString"], unfollowed := true, recurses := true, named := ["unicode/utf8.first", "unicode/utf8.acceptRanges", "internal/bytealg.MaxLen"], apart := false, laid := [("unicode/utf8.acceptRanges", laid_unicode_utf8_acceptRanges), ("unicode/utf8.first", laid_unicode_utf8_first)] }
def PeerBothSaid : Prop := peerBothRow.holds Tryz.pinned (OpenSpec.ofChange peerBothSpec)

/-- ITS FALSE NEIGHBOUR: 'it returns false'. Refute it at one input. -/
def peerBothWrong : ChangeSpec := { name := "peerBoth", fn := fun _ => fun
  | [d1, d2] => { results := [.lit (.bool false)], args := [d1, d2] }
  | _ => none }
def PeerBothWrongFalsely : Prop := peerBothRow.holds Tryz.pinned (OpenSpec.ofChange peerBothWrong)

/- THE SECOND FORM. 'bulk': how many values and letters a reading holds, each counted each time it is reached (what is shared counts as often as it is met; a slice's spare places count too). A statement '..UptoSaid' is the law's where the arguments, and the package variables that the reading takes, are together of bulk at most 1048576: NARROWER than '..Said'. Prove '..Said' where nothing that the law and all that it calls make is longer than what came in: it says more and counts as full. Else prove '..UptoSaid'. A law counts once. -/
mutual
def uptoBulk {H : Type} : DataW H → Nat
  | .lit (.string bytes) => bytes.length + 1
  | .lit _ => 1
  | .nil => 1
  | .ptr d => uptoBulk d + 1
  | .slice elems spare => uptoBulkAll elems + uptoBulkAll spare + 1
  | .agg parts => uptoBulkAll parts + 1
  | .iface _ d => uptoBulk d + 1
  | .map entries => uptoBulkEntries entries + 1
  | .held _ => 1
def uptoBulkAll {H : Type} : List (DataW H) → Nat
  | [] => 0
  | d :: r => uptoBulk d + uptoBulkAll r
def uptoBulkEntries {H : Type} : List (Lit × DataW H) → Nat
  | [] => 0
  | x :: r => uptoBulkEntry x + uptoBulkEntries r
def uptoBulkEntry {H : Type} : Lit × DataW H → Nat
  | (.string bytes, d) => bytes.length + uptoBulk d + 1
  | (_, d) => uptoBulk d + 1
 end
def uptoSmall : (H : Type) → List (DataW H) → Bool := fun _ ds => decide (uptoBulkAll ds ≤ 1048576)
def OpenSpec.upto (s : _root_.Go.ChangeSpec) : _root_.Go.OpenSpec := { _root_.Go.OpenSpec.ofChange s with cond := some uptoSmall }

/-- 'portagelaw21.Msgs', WHERE WHAT IT READS IS OF BULK AT MOST 1048576: true; the input reads as it did. -/
def msgsUptoRow : OpenClaim := { program := "ytcapkjggnnakfaagreatdoor", sum := "e858456f65a135963033ae907e720e347675d4ff6cf3939b74b9472b63fcb479", func := "portage/portagelaw21.Msgs", spec := "msgs", inPlace := ["internal/bytealg.IndexByteString", "internal/bytealg.IndexString", "internal/abi.NoEscape"], unfollowed := true, recurses := true, named := ["unicode/utf8.first", "unicode/utf8.acceptRanges", "internal/bytealg.MaxLen"], apart := false, laid := [("unicode/utf8.acceptRanges", laid_unicode_utf8_acceptRanges), ("unicode/utf8.first", laid_unicode_utf8_first)], narrowed := true }
def MsgsUptoSaid : Prop := msgsUptoRow.holds Tryz.pinned (OpenSpec.upto msgsSpec)

/-- 'portagelaw21.MsgTurned', WHERE WHAT IT READS IS OF BULK AT MOST 1048576: true; the input reads as it did. -/
def msgTurnedUptoRow : OpenClaim := { program := "ytcapkjggnnakfaagreatdoor", sum := "e858456f65a135963033ae907e720e347675d4ff6cf3939b74b9472b63fcb479", func := "portage/portagelaw21.MsgTurned", spec := "msgTurned", inPlace := ["internal/bytealg.IndexByteString", "internal/bytealg.IndexString", "internal/abi.NoEscape"], unfollowed := true, recurses := true, named := ["unicode/utf8.first", "unicode/utf8.acceptRanges", "internal/bytealg.MaxLen"], apart := false, laid := [("unicode/utf8.acceptRanges", laid_unicode_utf8_acceptRanges), ("unicode/utf8.first", laid_unicode_utf8_first)], narrowed := true }
def MsgTurnedUptoSaid : Prop := msgTurnedUptoRow.holds Tryz.pinned (OpenSpec.upto msgTurnedSpec)

/-- 'portagelaw21.MsgForms', WHERE WHAT IT READS IS OF BULK AT MOST 1048576: true; the input reads as it did. -/
def msgFormsUptoRow : OpenClaim := { program := "ytcapkjggnnakfaagreatdoor", sum := "e858456f65a135963033ae907e720e347675d4ff6cf3939b74b9472b63fcb479", func := "portage/portagelaw21.MsgForms", spec := "msgForms", inPlace := ["internal/bytealg.IndexByteString", "internal/bytealg.IndexString", "internal/abi.NoEscape"], unfollowed := true, recurses := true, named := ["unicode/utf8.first", "unicode/utf8.acceptRanges", "internal/bytealg.MaxLen"], apart := false, laid := [("unicode/utf8.acceptRanges", laid_unicode_utf8_acceptRanges), ("unicode/utf8.first", laid_unicode_utf8_first)], narrowed := true }
def MsgFormsUptoSaid : Prop := msgFormsUptoRow.holds Tryz.pinned (OpenSpec.upto msgFormsSpec)

/-- 'portagelaw21.MsgUnlike', WHERE WHAT IT READS IS OF BULK AT MOST 1048576: true; the input reads as it did. -/
def msgUnlikeUptoRow : OpenClaim := { program := "ytcapkjggnnakfaagreatdoor", sum := "e858456f65a135963033ae907e720e347675d4ff6cf3939b74b9472b63fcb479", func := "portage/portagelaw21.MsgUnlike", spec := "msgUnlike", inPlace := ["internal/bytealg.IndexByteString", "internal/bytealg.IndexString", "internal/abi.NoEscape"], unfollowed := true, recurses := true, named := ["unicode/utf8.first", "unicode/utf8.acceptRanges", "internal/bytealg.MaxLen"], apart := false, laid := [("unicode/utf8.acceptRanges", laid_unicode_utf8_acceptRanges), ("unicode/utf8.first", laid_unicode_utf8_first)], narrowed := true }
def MsgUnlikeUptoSaid : Prop := msgUnlikeUptoRow.holds Tryz.pinned (OpenSpec.upto msgUnlikeSpec)

/-- 'portagelaw21.MsgSums', WHERE WHAT IT READS IS OF BULK AT MOST 1048576: true; the input reads as it did. -/
def msgSumsUptoRow : OpenClaim := { program := "ytcapkjggnnakfaagreatdoor", sum := "e858456f65a135963033ae907e720e347675d4ff6cf3939b74b9472b63fcb479", func := "portage/portagelaw21.MsgSums", spec := "msgSums", inPlace := ["internal/bytealg.IndexByteString", "internal/bytealg.IndexString", "internal/abi.NoEscape"], unfollowed := true, recurses := true, named := ["unicode/utf8.first", "unicode/utf8.acceptRanges", "internal/bytealg.MaxLen"], apart := false, laid := [("unicode/utf8.acceptRanges", laid_unicode_utf8_acceptRanges), ("unicode/utf8.first", laid_unicode_utf8_first)], narrowed := true }
def MsgSumsUptoSaid : Prop := msgSumsUptoRow.holds Tryz.pinned (OpenSpec.upto msgSumsSpec)

/-- 'portagelaw22.Peers', WHERE WHAT IT READS IS OF BULK AT MOST 1048576: true; the input reads as it did. -/
def peersUptoRow : OpenClaim := { program := "ytcapkjggnnakfaagreatdoor", sum := "e858456f65a135963033ae907e720e347675d4ff6cf3939b74b9472b63fcb479", func := "portage/portagelaw22.Peers", spec := "peers", inPlace := ["internal/bytealg.IndexByteString", "internal/bytealg.IndexString"], unfollowed := true, recurses := true, named := ["unicode/utf8.first", "unicode/utf8.acceptRanges", "internal/bytealg.MaxLen"], apart := false, laid := [("unicode/utf8.acceptRanges", laid_unicode_utf8_acceptRanges), ("unicode/utf8.first", laid_unicode_utf8_first)], narrowed := true }
def PeersUptoSaid : Prop := peersUptoRow.holds Tryz.pinned (OpenSpec.upto peersSpec)

/-- 'portagelaw22.PeerPull', WHERE WHAT IT READS IS OF BULK AT MOST 1048576: true; the input reads as it did. -/
def peerPullUptoRow : OpenClaim := { program := "ytcapkjggnnakfaagreatdoor", sum := "e858456f65a135963033ae907e720e347675d4ff6cf3939b74b9472b63fcb479", func := "portage/portagelaw22.PeerPull", spec := "peerPull", inPlace := ["internal/bytealg.IndexByteString", "internal/bytealg.IndexString"], unfollowed := true, recurses := true, named := ["unicode/utf8.first", "unicode/utf8.acceptRanges", "internal/bytealg.MaxLen"], apart := false, laid := [("unicode/utf8.acceptRanges", laid_unicode_utf8_acceptRanges), ("unicode/utf8.first", laid_unicode_utf8_first)], narrowed := true }
def PeerPullUptoSaid : Prop := peerPullUptoRow.holds Tryz.pinned (OpenSpec.upto peerPullSpec)

/-- 'portagelaw22.PeerForms', WHERE WHAT IT READS IS OF BULK AT MOST 1048576: true; the input reads as it did. -/
def peerFormsUptoRow : OpenClaim := { program := "ytcapkjggnnakfaagreatdoor", sum := "e858456f65a135963033ae907e720e347675d4ff6cf3939b74b9472b63fcb479", func := "portage/portagelaw22.PeerForms", spec := "peerForms", inPlace := ["internal/bytealg.IndexByteString", "internal/bytealg.IndexString"], unfollowed := true, recurses := true, named := ["unicode/utf8.first", "unicode/utf8.acceptRanges", "internal/bytealg.MaxLen"], apart := false, laid := [("unicode/utf8.acceptRanges", laid_unicode_utf8_acceptRanges), ("unicode/utf8.first", laid_unicode_utf8_first)], narrowed := true }
def PeerFormsUptoSaid : Prop := peerFormsUptoRow.holds Tryz.pinned (OpenSpec.upto peerFormsSpec)

/-- 'portagelaw22.PeerQuiet', WHERE WHAT IT READS IS OF BULK AT MOST 1048576: true; the input reads as it did. -/
def peerQuietUptoRow : OpenClaim := { program := "ytcapkjggnnakfaagreatdoor", sum := "e858456f65a135963033ae907e720e347675d4ff6cf3939b74b9472b63fcb479", func := "portage/portagelaw22.PeerQuiet", spec := "peerQuiet", inPlace := ["internal/bytealg.IndexByteString", "internal/bytealg.IndexString"], unfollowed := true, recurses := true, named := ["unicode/utf8.first", "unicode/utf8.acceptRanges", "internal/bytealg.MaxLen"], apart := false, laid := [("unicode/utf8.acceptRanges", laid_unicode_utf8_acceptRanges), ("unicode/utf8.first", laid_unicode_utf8_first)], narrowed := true }
def PeerQuietUptoSaid : Prop := peerQuietUptoRow.holds Tryz.pinned (OpenSpec.upto peerQuietSpec)

/-- 'portagelaw22.PeerWants', WHERE WHAT IT READS IS OF BULK AT MOST 1048576: true; the input reads as it did. -/
def peerWantsUptoRow : OpenClaim := { program := "ytcapkjggnnakfaagreatdoor", sum := "e858456f65a135963033ae907e720e347675d4ff6cf3939b74b9472b63fcb479", func := "portage/portagelaw22.PeerWants", spec := "peerWants", inPlace := ["internal/bytealg.IndexByteString", "internal/bytealg.IndexString"], unfollowed := true, recurses := true, named := ["unicode/utf8.first", "unicode/utf8.acceptRanges", "internal/bytealg.MaxLen"], apart := false, laid := [("unicode/utf8.acceptRanges", laid_unicode_utf8_acceptRanges), ("unicode/utf8.first", laid_unicode_utf8_first)], narrowed := true }
def PeerWantsUptoSaid : Prop := peerWantsUptoRow.holds Tryz.pinned (OpenSpec.upto peerWantsSpec)

/-- 'portagelaw22.PeerBoth', WHERE WHAT IT READS IS OF BULK AT MOST 1048576: true; the input reads as it did. -/
def peerBothUptoRow : OpenClaim := { program := "ytcapkjggnnakfaagreatdoor", sum := "e858456f65a135963033ae907e720e347675d4ff6cf3939b74b9472b63fcb479", func := "portage/portagelaw22.PeerBoth", spec := "peerBoth", inPlace := ["internal/bytealg.IndexByteString", "internal/bytealg.IndexString"], unfollowed := true, recurses := true, named := ["unicode/utf8.first", "unicode/utf8.acceptRanges", "internal/bytealg.MaxLen"], apart := false, laid := [("unicode/utf8.acceptRanges", laid_unicode_utf8_acceptRanges), ("unicode/utf8.first", laid_unicode_utf8_first)], narrowed := true }
def PeerBothUptoSaid : Prop := peerBothUptoRow.holds Tryz.pinned (OpenSpec.upto peerBothSpec)

end Rows
end Go.Proofs.YtcapkjggnnakfaaGreatDoor
