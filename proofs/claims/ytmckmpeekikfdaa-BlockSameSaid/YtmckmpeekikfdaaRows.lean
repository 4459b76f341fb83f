/-
  No cell of these rows narrows 'for every input' (looked for: loops, veiled, ifaces, maps, wideKeys, modest, calm, conditions, laid).
  DERIVED. THE GIVEN ROWS OF THIS SEAT. 6 by the template 'for every input the law returns true; each argument reads behind the call as it read before'; 0 by the template 'total and deterministic' (their statements: YtmckmpeekikfdaaTotals.lean).
  GIVEN WITH THE SEED: the statements are not yours to turn. If you find one false, say at which input.
  Laid BY PROGRAM, IN A SANDBOX (cutbox-rows.mjs): the forced cells as the released guide's own fill.sh prints them over the translation 9ede20dc6d159413… (all of the seat's roots in one cut). By AI agents, Wed Nov 11 2026. No macro, syntax, notation, axiom, sorry.
-/
import Derived.Test.YtmckmpeekikfdaaChecked
import GoSem.Claim
import GoSem.ClaimJoined
import GoSem.ClaimMapViews
import Derived.JoinedTies
import Derived.KernelRfl
namespace Go.Proofs.Ytmckmpeekikfdaa
/- THE CELL 'sum', in the pinned program and in every row, IS THE sha256 OF THE DUMP (.gsa) THAT YtmckmpeekikfdaaProg.lean LOADS. Nothing in Lean hashes anything: it is a label: what it is worth is what the hold of that sum in a sandbox is worth. -/
noncomputable def Try.pinned : Pinned := { name := "ytmckmpeekikfdaa", sum := "9ede20dc6d1594134243cec7012c443ef3af7168fd9286191c90d93ffb832f06", checked := Try.checked }
namespace Rows
def none {H : Type} : Left H := { results := [], args := [] }

/-- 'portagelaw8.BlockBack': WHATEVER THE INPUT: true; the input reads as it did. -/
def blockBackSpec : ChangeSpec := { name := "blockBack", fn := fun _ => fun
  | [d1, d2] => { results := [.lit (.bool true)], args := [d1, d2] }
  | _ => none }
def blockBackRow : OpenClaim := { program := "ytmckmpeekikfdaa", sum := "9ede20dc6d1594134243cec7012c443ef3af7168fd9286191c90d93ffb832f06", func := "portage/portagelaw8.BlockBack", spec := "blockBack", unfollowed := true, recurses := true, apart := false }
def BlockBackSaid : Prop := blockBackRow.holds Try.pinned (OpenSpec.ofChange blockBackSpec)

/-- ITS FALSE NEIGHBOUR: 'it returns false'. Refute it at one input. -/
def blockBackWrong : ChangeSpec := { name := "blockBack", fn := fun _ => fun
  | [d1, d2] => { results := [.lit (.bool false)], args := [d1, d2] }
  | _ => none }
def BlockBackWrongFalsely : Prop := blockBackRow.holds Try.pinned (OpenSpec.ofChange blockBackWrong)

/-- 'portagelaw8.BlockForms': WHATEVER THE INPUT: true; the input reads as it did. -/
def blockFormsSpec : ChangeSpec := { name := "blockForms", fn := fun _ => fun
  | [d1, d2] => { results := [.lit (.bool true)], args := [d1, d2] }
  | _ => none }
def blockFormsRow : OpenClaim := { program := "ytmckmpeekikfdaa", sum := "9ede20dc6d1594134243cec7012c443ef3af7168fd9286191c90d93ffb832f06", func := "portage/portagelaw8.BlockForms", spec := "blockForms", unfollowed := true, recurses := true, apart := false }
def BlockFormsSaid : Prop := blockFormsRow.holds Try.pinned (OpenSpec.ofChange blockFormsSpec)

/-- ITS FALSE NEIGHBOUR: 'it returns false'. Refute it at one input. -/
def blockFormsWrong : ChangeSpec := { name := "blockForms", fn := fun _ => fun
  | [d1, d2] => { results := [.lit (.bool false)], args := [d1, d2] }
  | _ => none }
def BlockFormsWrongFalsely : Prop := blockFormsRow.holds Try.pinned (OpenSpec.ofChange blockFormsWrong)

/-- 'portagelaw8.BlockSizes': WHATEVER THE INPUT: true; the input reads as it did. -/
def blockSizesSpec : ChangeSpec := { name := "blockSizes", fn := fun _ => fun
  | [d] => { results := [.lit (.bool true)], args := [d] }
  | _ => none }
def blockSizesRow : OpenClaim := { program := "ytmckmpeekikfdaa", sum := "9ede20dc6d1594134243cec7012c443ef3af7168fd9286191c90d93ffb832f06", func := "portage/portagelaw8.BlockSizes", spec := "blockSizes", unfollowed := true, recurses := true, apart := false }
def BlockSizesSaid : Prop := blockSizesRow.holds Try.pinned (OpenSpec.ofChange blockSizesSpec)

/-- ITS FALSE NEIGHBOUR: 'it returns false'. Refute it at one input. -/
def blockSizesWrong : ChangeSpec := { name := "blockSizes", fn := fun _ => fun
  | [d] => { results := [.lit (.bool false)], args := [d] }
  | _ => none }
def BlockSizesWrongFalsely : Prop := blockSizesRow.holds Try.pinned (OpenSpec.ofChange blockSizesWrong)

/-- 'portagelaw8.BlockSame': WHATEVER THE INPUT: true; the input reads as it did. -/
def blockSameSpec : ChangeSpec := { name := "blockSame", fn := fun _ => fun
  | [d] => { results := [.lit (.bool true)], args := [d] }
  | _ => none }
def blockSameRow : OpenClaim := { program := "ytmckmpeekikfdaa", sum := "9ede20dc6d1594134243cec7012c443ef3af7168fd9286191c90d93ffb832f06", func := "portage/portagelaw8.BlockSame", spec := "blockSame", unfollowed := true, recurses := true, apart := false }
def BlockSameSaid : Prop := blockSameRow.holds Try.pinned (OpenSpec.ofChange blockSameSpec)

/-- ITS FALSE NEIGHBOUR: 'it returns false'. Refute it at one input. -/
def blockSameWrong : ChangeSpec := { name := "blockSame", fn := fun _ => fun
  | [d] => { results := [.lit (.bool false)], args := [d] }
  | _ => none }
def BlockSameWrongFalsely : Prop := blockSameRow.holds Try.pinned (OpenSpec.ofChange blockSameWrong)

/-- 'portagelaw9.DeflateBack': WHATEVER THE INPUT: true; the input reads as it did. -/
def deflateBackSpec : ChangeSpec := { name := "deflateBack", fn := fun _ => fun
  | [d] => { results := [.lit (.bool true)], args := [d] }
  | _ => none }
def deflateBackRow : OpenClaim := { program := "ytmckmpeekikfdaa", sum := "9ede20dc6d1594134243cec7012c443ef3af7168fd9286191c90d93ffb832f06", func := "portage/portagelaw9.DeflateBack", spec := "deflateBack", unfollowed := true, recurses := true, apart := false }
def DeflateBackSaid : Prop := deflateBackRow.holds Try.pinned (OpenSpec.ofChange deflateBackSpec)

/-- ITS FALSE NEIGHBOUR: 'it returns false'. Refute it at one input. -/
def deflateBackWrong : ChangeSpec := { name := "deflateBack", fn := fun _ => fun
  | [d] => { results := [.lit (.bool false)], args := [d] }
  | _ => none }
def DeflateBackWrongFalsely : Prop := deflateBackRow.holds Try.pinned (OpenSpec.ofChange deflateBackWrong)

/-- 'portagelaw9.DeflateForms': WHATEVER THE INPUT: true; the input reads as it did. -/
def deflateFormsSpec : ChangeSpec := { name := "deflateForms", fn := fun _ => fun
  | [d1, d2] => { results := [.lit (.bool true)], args := [d1, d2] }
  | _ => none }
def deflateFormsRow : OpenClaim := { program := "ytmckmpeekikfdaa", sum := "9ede20dc6d1594134243cec7012c443ef3af7168fd9286191c90d93ffb832f06", func := "portage/portagelaw9.DeflateForms", spec := "deflateForms", unfollowed := true, recurses := true, apart := false }
def DeflateFormsSaid : Prop := deflateFormsRow.holds Try.pinned (OpenSpec.ofChange deflateFormsSpec)

/-- ITS FALSE NEIGHBOUR: 'it returns false'. Refute it at one input. -/
def deflateFormsWrong : ChangeSpec := { name := "deflateForms", fn := fun _ => fun
  | [d1, d2] => { results := [.lit (.bool false)], args := [d1, d2] }
  | _ => none }
def DeflateFormsWrongFalsely : Prop := deflateFormsRow.holds Try.pinned (OpenSpec.ofChange deflateFormsWrong)

/- THE SECOND FORM. 'bulk': how many values and letters a reading holds, each counted each time it is reached (what is shared counts as often as it is met; a slice's spare places count too). A statement '..UptoSaid' is the law's where the arguments, and the package variables that the reading takes, are together of bulk at most 1048576: NARROWER than '..Said'. Prove '..Said' where nothing that the law and all that it calls make is longer than what came in: it says more and counts as full. Else prove '..UptoSaid'. A law counts once. -/
mutual
def uptoBulk {H : Type} : DataW H → Nat
  | .lit (.string bytes) => bytes.length + 1
  | .lit _ => 1
  | .nil => 1
  | .ptr d => uptoBulk d + 1
  | .slice elems spare => uptoBulkAll elems + uptoBulkAll spare + 1
  | .agg parts => uptoBulkAll parts + 1
  | .iface _ d => uptoBulk d + 1
  | .map entries => uptoBulkEntries entries + 1
  | .held _ => 1
def uptoBulkAll {H : Type} : List (DataW H) → Nat
  | [] => 0
  | d :: r => uptoBulk d + uptoBulkAll r
def uptoBulkEntries {H : Type} : List (Lit × DataW H) → Nat
  | [] => 0
  | x :: r => uptoBulkEntry x + uptoBulkEntries r
def uptoBulkEntry {H : Type} : Lit × DataW H → Nat
  | (.string bytes, d) => bytes.length + uptoBulk d + 1
  | (_, d) => uptoBulk d + 1
 end
def uptoSmall : (H : Type) → List (DataW H) → Bool := fun _ ds => decide (uptoBulkAll ds ≤ 1048576)
def OpenSpec.upto (s : _root_.Go.ChangeSpec) : _root_.Go.OpenSpec := { _root_.Go.OpenSpec.ofChange s with cond := some uptoSmall }

/-- 'portagelaw8.BlockBack', WHERE WHAT IT READS IS OF BULK AT MOST 1048576: true; the input reads as it did. -/
def blockBackUptoRow : OpenClaim := { program := "ytmckmpeekikfdaa", sum := "9ede20dc6d1594134243cec7012c443ef3af7168fd9286191c90d93ffb832f06", func := "portage/portagelaw8.BlockBack", spec := "blockBack", unfollowed := true, recurses := true, apart := false, narrowed := true }
def BlockBackUptoSaid : Prop := blockBackUptoRow.holds Try.pinned (OpenSpec.upto blockBackSpec)

/-- 'portagelaw8.BlockForms', WHERE WHAT IT READS IS OF BULK AT MOST 1048576: true; the input reads as it did. -/
def blockFormsUptoRow : OpenClaim := { program := "ytmckmpeekikfdaa", sum := "9ede20dc6d1594134243cec7012c443ef3af7168fd9286191c90d93ffb832f06", func := "portage/portagelaw8.BlockForms", spec := "blockForms", unfollowed := true, recurses := true, apart := false, narrowed := true }
def BlockFormsUptoSaid : Prop := blockFormsUptoRow.holds Try.pinned (OpenSpec.upto blockFormsSpec)

/-- 'portagelaw8.BlockSizes', WHERE WHAT IT READS IS OF BULK AT MOST 1048576: true; the input reads as it did. -/
def blockSizesUptoRow : OpenClaim := { program := "ytmckmpeekikfdaa", sum := "9ede20dc6d1594134243cec7012c443ef3af7168fd9286191c90d93ffb832f06", func := "portage/portagelaw8.BlockSizes", spec := "blockSizes", unfollowed := true, recurses := true, apart := false, narrowed := true }
def BlockSizesUptoSaid : Prop := blockSizesUptoRow.holds Try.pinned (OpenSpec.upto blockSizesSpec)

/-- 'portagelaw8.BlockSame', WHERE WHAT IT READS IS OF BULK AT MOST 1048576: true; the input reads as it did. -/
def blockSameUptoRow : OpenClaim := { program := "ytmckmpeekikfdaa", sum := "9ede20dc6d1594134243cec7012c443ef3af7168fd9286191c90d93ffb832f06", func := "portage/portagelaw8.BlockSame", spec := "blockSame", unfollowed := true, recurses := true, apart := false, narrowed := true }
def BlockSameUptoSaid : Prop := blockSameUptoRow.holds Try.pinned (OpenSpec.upto blockSameSpec)

/-- 'portagelaw9.DeflateBack', WHERE WHAT IT READS IS OF BULK AT MOST 1048576: true; the input reads as it did. -/
def deflateBackUptoRow : OpenClaim := { program := "ytmckmpeekikfdaa", sum := "9ede20dc6d1594134243cec7012c443ef3af7168fd9286191c90d93ffb832f06", func := "portage/portagelaw9.DeflateBack", spec := "deflateBack", unfollowed := true, recurses := true, apart := false, narrowed := true }
def DeflateBackUptoSaid : Prop := deflateBackUptoRow.holds Try.pinned (OpenSpec.upto deflateBackSpec)

/-- 'portagelaw9.DeflateForms', WHERE WHAT IT READS IS OF BULK AT MOST 1048576: true; the input reads as it did. -/
def deflateFormsUptoRow : OpenClaim := { program := "ytmckmpeekikfdaa", sum := "9ede20dc6d1594134243cec7012c443ef3af7168fd9286191c90d93ffb832f06", func := "portage/portagelaw9.DeflateForms", spec := "deflateForms", unfollowed := true, recurses := true, apart := false, narrowed := true }
def DeflateFormsUptoSaid : Prop := deflateFormsUptoRow.holds Try.pinned (OpenSpec.upto deflateFormsSpec)

end Rows
end Go.Proofs.Ytmckmpeekikfdaa
