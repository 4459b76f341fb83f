/-
  No cell of these rows narrows 'for every input' (looked for: loops, veiled, ifaces, maps, wideKeys, modest, calm, conditions, laid).
  DERIVED. THE GIVEN ROWS OF THIS SEAT. 7 by the template 'for every input the law returns true; each argument reads behind the call as it read before'; 0 by the template 'total and deterministic' (their statements: YtolinppbhjljcaaTotals.lean).
  GIVEN WITH THE SEED: the statements are not yours to turn. If you find one false, say at which input.
  Laid BY PROGRAM, IN A SANDBOX (cutbox-rows.mjs): the forced cells as the released guide's own fill.sh prints them over the translation 29ed99cb2d2d1739… (all of the seat's roots in one cut). By AI agents, Wed Nov 11 2026. No macro, syntax, notation, axiom, sorry.
-/
import Derived.Test.YtolinppbhjljcaaChecked
import GoSem.Claim
import GoSem.ClaimJoined
import GoSem.ClaimMapViews
import Derived.JoinedTies
import Derived.KernelRfl
namespace Go.Proofs.Ytolinppbhjljcaa
/- THE CELL 'sum', in the pinned program and in every row, IS THE sha256 OF THE DUMP (.gsa) THAT YtolinppbhjljcaaProg.lean LOADS. Nothing in Lean hashes anything: it is a label: what it is worth is what the hold of that sum in a sandbox is worth. -/
noncomputable def Try.pinned : Pinned := { name := "ytolinppbhjljcaa", sum := "29ed99cb2d2d17394090e8602bb2e4a992fd721d70bcc418c12de40da1fad692", checked := Try.checked }
namespace Rows
def none {H : Type} : Left H := { results := [], args := [] }

/-- 'portagelaw7.Inflates': WHATEVER THE INPUT: true; the input reads as it did. -/
def inflatesSpec : ChangeSpec := { name := "inflates", fn := fun _ => fun
  | [d1, d2] => { results := [.lit (.bool true)], args := [d1, d2] }
  | _ => none }
def inflatesRow : OpenClaim := { program := "ytolinppbhjljcaa", sum := "29ed99cb2d2d17394090e8602bb2e4a992fd721d70bcc418c12de40da1fad692", func := "portage/portagelaw7.Inflates", spec := "inflates", unfollowed := true, recurses := true, apart := false }
def InflatesSaid : Prop := inflatesRow.holds Try.pinned (OpenSpec.ofChange inflatesSpec)

/-- ITS FALSE NEIGHBOUR: 'it returns false'. Refute it at one input. -/
def inflatesWrong : ChangeSpec := { name := "inflates", fn := fun _ => fun
  | [d1, d2] => { results := [.lit (.bool false)], args := [d1, d2] }
  | _ => none }
def InflatesWrongFalsely : Prop := inflatesRow.holds Try.pinned (OpenSpec.ofChange inflatesWrong)

/-- 'portagelaw7.InflateBound': WHATEVER THE INPUT: true; the input reads as it did. -/
def inflateBoundSpec : ChangeSpec := { name := "inflateBound", fn := fun _ => fun
  | [d1, d2, d3] => { results := [.lit (.bool true)], args := [d1, d2, d3] }
  | _ => none }
def inflateBoundRow : OpenClaim := { program := "ytolinppbhjljcaa", sum := "29ed99cb2d2d17394090e8602bb2e4a992fd721d70bcc418c12de40da1fad692", func := "portage/portagelaw7.InflateBound", spec := "inflateBound", unfollowed := true, recurses := true, apart := false }
def InflateBoundSaid : Prop := inflateBoundRow.holds Try.pinned (OpenSpec.ofChange inflateBoundSpec)

/-- ITS FALSE NEIGHBOUR: 'it returns false'. Refute it at one input. -/
def inflateBoundWrong : ChangeSpec := { name := "inflateBound", fn := fun _ => fun
  | [d1, d2, d3] => { results := [.lit (.bool false)], args := [d1, d2, d3] }
  | _ => none }
def InflateBoundWrongFalsely : Prop := inflateBoundRow.holds Try.pinned (OpenSpec.ofChange inflateBoundWrong)

/-- 'portagelaw7.InflateForms': WHATEVER THE INPUT: true; the input reads as it did. -/
def inflateFormsSpec : ChangeSpec := { name := "inflateForms", fn := fun _ => fun
  | [d] => { results := [.lit (.bool true)], args := [d] }
  | _ => none }
def inflateFormsRow : OpenClaim := { program := "ytolinppbhjljcaa", sum := "29ed99cb2d2d17394090e8602bb2e4a992fd721d70bcc418c12de40da1fad692", func := "portage/portagelaw7.InflateForms", spec := "inflateForms", unfollowed := true, recurses := true, apart := false }
def InflateFormsSaid : Prop := inflateFormsRow.holds Try.pinned (OpenSpec.ofChange inflateFormsSpec)

/-- ITS FALSE NEIGHBOUR: 'it returns false'. Refute it at one input. -/
def inflateFormsWrong : ChangeSpec := { name := "inflateForms", fn := fun _ => fun
  | [d] => { results := [.lit (.bool false)], args := [d] }
  | _ => none }
def InflateFormsWrongFalsely : Prop := inflateFormsRow.holds Try.pinned (OpenSpec.ofChange inflateFormsWrong)

/-- 'portagelaw7.InflateStored': WHATEVER THE INPUT: true; the input reads as it did. -/
def inflateStoredSpec : ChangeSpec := { name := "inflateStored", fn := fun _ => fun
  | [d1, d2, d3] => { results := [.lit (.bool true)], args := [d1, d2, d3] }
  | _ => none }
def inflateStoredRow : OpenClaim := { program := "ytolinppbhjljcaa", sum := "29ed99cb2d2d17394090e8602bb2e4a992fd721d70bcc418c12de40da1fad692", func := "portage/portagelaw7.InflateStored", spec := "inflateStored", unfollowed := true, recurses := true, apart := false }
def InflateStoredSaid : Prop := inflateStoredRow.holds Try.pinned (OpenSpec.ofChange inflateStoredSpec)

/-- ITS FALSE NEIGHBOUR: 'it returns false'. Refute it at one input. -/
def inflateStoredWrong : ChangeSpec := { name := "inflateStored", fn := fun _ => fun
  | [d1, d2, d3] => { results := [.lit (.bool false)], args := [d1, d2, d3] }
  | _ => none }
def InflateStoredWrongFalsely : Prop := inflateStoredRow.holds Try.pinned (OpenSpec.ofChange inflateStoredWrong)

/-- 'portagelaw7.InflateFar': WHATEVER THE INPUT: true; the input reads as it did. -/
def inflateFarSpec : ChangeSpec := { name := "inflateFar", fn := fun _ => fun
  | [d] => { results := [.lit (.bool true)], args := [d] }
  | _ => none }
def inflateFarRow : OpenClaim := { program := "ytolinppbhjljcaa", sum := "29ed99cb2d2d17394090e8602bb2e4a992fd721d70bcc418c12de40da1fad692", func := "portage/portagelaw7.InflateFar", spec := "inflateFar", unfollowed := true, recurses := true, apart := false }
def InflateFarSaid : Prop := inflateFarRow.holds Try.pinned (OpenSpec.ofChange inflateFarSpec)

/-- ITS FALSE NEIGHBOUR: 'it returns false'. Refute it at one input. -/
def inflateFarWrong : ChangeSpec := { name := "inflateFar", fn := fun _ => fun
  | [d] => { results := [.lit (.bool false)], args := [d] }
  | _ => none }
def InflateFarWrongFalsely : Prop := inflateFarRow.holds Try.pinned (OpenSpec.ofChange inflateFarWrong)

/-- 'portagelaw7.InflateTurned': WHATEVER THE INPUT: true; the input reads as it did. -/
def inflateTurnedSpec : ChangeSpec := { name := "inflateTurned", fn := fun _ => fun
  | [d1, d2, d3, d4] => { results := [.lit (.bool true)], args := [d1, d2, d3, d4] }
  | _ => none }
def inflateTurnedRow : OpenClaim := { program := "ytolinppbhjljcaa", sum := "29ed99cb2d2d17394090e8602bb2e4a992fd721d70bcc418c12de40da1fad692", func := "portage/portagelaw7.InflateTurned", spec := "inflateTurned", unfollowed := true, recurses := true, apart := false }
def InflateTurnedSaid : Prop := inflateTurnedRow.holds Try.pinned (OpenSpec.ofChange inflateTurnedSpec)

/-- ITS FALSE NEIGHBOUR: 'it returns false'. Refute it at one input. -/
def inflateTurnedWrong : ChangeSpec := { name := "inflateTurned", fn := fun _ => fun
  | [d1, d2, d3, d4] => { results := [.lit (.bool false)], args := [d1, d2, d3, d4] }
  | _ => none }
def InflateTurnedWrongFalsely : Prop := inflateTurnedRow.holds Try.pinned (OpenSpec.ofChange inflateTurnedWrong)

/-- 'portagelaw7.InflateDynamic': WHATEVER THE INPUT: true; the input reads as it did. -/
def inflateDynamicSpec : ChangeSpec := { name := "inflateDynamic", fn := fun _ => fun
  | [d] => { results := [.lit (.bool true)], args := [d] }
  | _ => none }
def inflateDynamicRow : OpenClaim := { program := "ytolinppbhjljcaa", sum := "29ed99cb2d2d17394090e8602bb2e4a992fd721d70bcc418c12de40da1fad692", func := "portage/portagelaw7.InflateDynamic", spec := "inflateDynamic", unfollowed := true, recurses := true, apart := false }
def InflateDynamicSaid : Prop := inflateDynamicRow.holds Try.pinned (OpenSpec.ofChange inflateDynamicSpec)

/-- ITS FALSE NEIGHBOUR: 'it returns false'. Refute it at one input. -/
def inflateDynamicWrong : ChangeSpec := { name := "inflateDynamic", fn := fun _ => fun
  | [d] => { results := [.lit (.bool false)], args := [d] }
  | _ => none }
def InflateDynamicWrongFalsely : Prop := inflateDynamicRow.holds Try.pinned (OpenSpec.ofChange inflateDynamicWrong)

/- THE SECOND FORM. 'bulk': how many values and letters a reading holds, each counted each time it is reached (what is shared counts as often as it is met; a slice's spare places count too). A statement '..UptoSaid' is the law's where the arguments, and the package variables that the reading takes, are together of bulk at most 1048576: NARROWER than '..Said'. Prove '..Said' where nothing that the law and all that it calls make is longer than what came in: it says more and counts as full. Else prove '..UptoSaid'. A law counts once. -/
mutual
def uptoBulk {H : Type} : DataW H → Nat
  | .lit (.string bytes) => bytes.length + 1
  | .lit _ => 1
  | .nil => 1
  | .ptr d => uptoBulk d + 1
  | .slice elems spare => uptoBulkAll elems + uptoBulkAll spare + 1
  | .agg parts => uptoBulkAll parts + 1
  | .iface _ d => uptoBulk d + 1
  | .map entries => uptoBulkEntries entries + 1
  | .held _ => 1
def uptoBulkAll {H : Type} : List (DataW H) → Nat
  | [] => 0
  | d :: r => uptoBulk d + uptoBulkAll r
def uptoBulkEntries {H : Type} : List (Lit × DataW H) → Nat
  | [] => 0
  | x :: r => uptoBulkEntry x + uptoBulkEntries r
def uptoBulkEntry {H : Type} : Lit × DataW H → Nat
  | (.string bytes, d) => bytes.length + uptoBulk d + 1
  | (_, d) => uptoBulk d + 1
 end
def uptoSmall : (H : Type) → List (DataW H) → Bool := fun _ ds => decide (uptoBulkAll ds ≤ 1048576)
def OpenSpec.upto (s : _root_.Go.ChangeSpec) : _root_.Go.OpenSpec := { _root_.Go.OpenSpec.ofChange s with cond := some uptoSmall }

/-- 'portagelaw7.Inflates', WHERE WHAT IT READS IS OF BULK AT MOST 1048576: true; the input reads as it did. -/
def inflatesUptoRow : OpenClaim := { program := "ytolinppbhjljcaa", sum := "29ed99cb2d2d17394090e8602bb2e4a992fd721d70bcc418c12de40da1fad692", func := "portage/portagelaw7.Inflates", spec := "inflates", unfollowed := true, recurses := true, apart := false, narrowed := true }
def InflatesUptoSaid : Prop := inflatesUptoRow.holds Try.pinned (OpenSpec.upto inflatesSpec)

/-- 'portagelaw7.InflateBound', WHERE WHAT IT READS IS OF BULK AT MOST 1048576: true; the input reads as it did. -/
def inflateBoundUptoRow : OpenClaim := { program := "ytolinppbhjljcaa", sum := "29ed99cb2d2d17394090e8602bb2e4a992fd721d70bcc418c12de40da1fad692", func := "portage/portagelaw7.InflateBound", spec := "inflateBound", unfollowed := true, recurses := true, apart := false, narrowed := true }
def InflateBoundUptoSaid : Prop := inflateBoundUptoRow.holds Try.pinned (OpenSpec.upto inflateBoundSpec)

/-- 'portagelaw7.InflateForms', WHERE WHAT IT READS IS OF BULK AT MOST 1048576: true; the input reads as it did. -/
def inflateFormsUptoRow : OpenClaim := { program := "ytolinppbhjljcaa", sum := "29ed99cb2d2d17394090e8602bb2e4a992fd721d70bcc418c12de40da1fad692", func := "portage/portagelaw7.InflateForms", spec := "inflateForms", unfollowed := true, recurses := true, apart := false, narrowed := true }
def InflateFormsUptoSaid : Prop := inflateFormsUptoRow.holds Try.pinned (OpenSpec.upto inflateFormsSpec)

/-- 'portagelaw7.InflateStored', WHERE WHAT IT READS IS OF BULK AT MOST 1048576: true; the input reads as it did. -/
def inflateStoredUptoRow : OpenClaim := { program := "ytolinppbhjljcaa", sum := "29ed99cb2d2d17394090e8602bb2e4a992fd721d70bcc418c12de40da1fad692", func := "portage/portagelaw7.InflateStored", spec := "inflateStored", unfollowed := true, recurses := true, apart := false, narrowed := true }
def InflateStoredUptoSaid : Prop := inflateStoredUptoRow.holds Try.pinned (OpenSpec.upto inflateStoredSpec)

/-- 'portagelaw7.InflateFar', WHERE WHAT IT READS IS OF BULK AT MOST 1048576: true; the input reads as it did. -/
def inflateFarUptoRow : OpenClaim := { program := "ytolinppbhjljcaa", sum := "29ed99cb2d2d17394090e8602bb2e4a992fd721d70bcc418c12de40da1fad692", func := "portage/portagelaw7.InflateFar", spec := "inflateFar", unfollowed := true, recurses := true, apart := false, narrowed := true }
def InflateFarUptoSaid : Prop := inflateFarUptoRow.holds Try.pinned (OpenSpec.upto inflateFarSpec)

/-- 'portagelaw7.InflateTurned', WHERE WHAT IT READS IS OF BULK AT MOST 1048576: true; the input reads as it did. -/
def inflateTurnedUptoRow : OpenClaim := { program := "ytolinppbhjljcaa", sum := "29ed99cb2d2d17394090e8602bb2e4a992fd721d70bcc418c12de40da1fad692", func := "portage/portagelaw7.InflateTurned", spec := "inflateTurned", unfollowed := true, recurses := true, apart := false, narrowed := true }
def InflateTurnedUptoSaid : Prop := inflateTurnedUptoRow.holds Try.pinned (OpenSpec.upto inflateTurnedSpec)

/-- 'portagelaw7.InflateDynamic', WHERE WHAT IT READS IS OF BULK AT MOST 1048576: true; the input reads as it did. -/
def inflateDynamicUptoRow : OpenClaim := { program := "ytolinppbhjljcaa", sum := "29ed99cb2d2d17394090e8602bb2e4a992fd721d70bcc418c12de40da1fad692", func := "portage/portagelaw7.InflateDynamic", spec := "inflateDynamic", unfollowed := true, recurses := true, apart := false, narrowed := true }
def InflateDynamicUptoSaid : Prop := inflateDynamicUptoRow.holds Try.pinned (OpenSpec.upto inflateDynamicSpec)

end Rows
end Go.Proofs.Ytolinppbhjljcaa
