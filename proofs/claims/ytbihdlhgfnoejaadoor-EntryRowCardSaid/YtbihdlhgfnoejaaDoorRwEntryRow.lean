/- For every row of numbers, portagelaw15.EntryRow says true: entries of one name, merged one by one, come to the greatest stamp and node. -/
import Derived.Test.YtbihdlhgfnoejaaDoorCards
import Derived.Test.YtbihdlhgfnoejaaDoorTie
import Derived.LaidMore
import Derived.Lay
import Derived.SevenTiedAt
import Derived.ProofKit
import Derived.OpenShut
import Derived.Stop.Joined
import Derived.Test.YtbihdlhgfnoejaaDoorK1
import Derived.Test.YtbihdlhgfnoejaaDoorC3
set_option maxRecDepth 100000
namespace Go.Proofs.YtbihdlhgfnoejaaDoor.entryRow
open Go.ChangeShapes Go.WideShapes Go.ChangeAt Go.RowKit
theorem own : ownKnob Tryd.prog.godebug = none := by kernel_rfl
theorem spec_eq (H : Type) (ds : List (DataW H)) (h : ds.length = [Ab.intsT, Ab.intT].length) : Rows.entryRowSpec.fn H ds = { results := [.lit (.bool true)], args := ds } := by
  match ds, h with
  | [d1, d2], _ => rfl
def laid : List (String × DataW Unit) := [("unicode/utf8.acceptRanges", Rows.laid_unicode_utf8_acceptRanges), ("unicode/utf8.first", Rows.laid_unicode_utf8_first)]
theorem lifted (os : Os) (started : os.Started) (H : Type) (enc : TypeId × Value → H) :
    ReturnsInHanded {} Tryd.checked os 7 .any (fun w args => (Rows.entryRowSpec.pre enc Tryd.prog Tryd.f7 Rows.entryRowRow.domain false w args ∧ laidMetH Tryd.prog laid w) ∧ sizedMet enc Tryd.prog Tryd.f7 (OpenSpec.ofChange Rows.entryRowSpec) false w args)
      (Rows.entryRowSpec.post enc Tryd.prog Tryd.f7 false true false false) := by
  refine returnsInHanded_of_change_and (C := Tryd.checked) (X := fun w _ => laidMetH Tryd.prog laid w) (fun _ _ _ hh h => h.of_heap hh) own started (by kernel_rfl) Tryd.func7
    (ChangeSpec.witness_shaped (enc := enc) (C := Tryd.checked) (os := os) (X := fun w _ => laidMetH Tryd.prog laid w) false (World.laidAll Tryd.prog os laid) #[.slice none 0 0, .int .i64 0] 8 (World.laidAll_os _ _ _)
      (World.shaped_of_ZipB (by kernel_rfl) (by kernel_rfl)) (by kernel_rfl) (by kernel_rfl) (by kernel_rfl)
      (by rw [MakeChecks.laidMetH_plain _ _ _ (by kernel_rfl)]; exact laidMet_laidAll _ (by kernel_rfl) (by kernel_rfl))) ?_
  intro W base args ds gs before hval hW hc hsz hL _
  exact Ab.law_row (C := Tryd.checked) Ab.Ln.lk rfl (f := 7) (fn := Tryd.f7) (key := 89) (by kernel_rfl) (tys := [Ab.intsT, Ab.intT]) (m := 8) (by kernel_rfl) (by kernel_rfl) (by kernel_rfl) (tb := 4) rfl Tryd.underlying4 (s := Rows.entryRowSpec) rfl spec_eq Ab.law_entryRow hval hW hsz
theorem said : Rows.EntryRowSaid :=
  OpenClaim.holds_of_wide 7 Tryd.f7 rfl rfl rfl rfl rfl rfl rfl ⟨rfl, rfl, rfl, rfl, rfl⟩ rfl rfl rfl rfl rfl (by kernel_rfl) Tryd.func7 (by kernel_rfl)
    (of_decide_eq_true (by kernel_rfl)) (by unfold Func.isWrapper; first | (rw [if_pos (by decide +kernel)]; kernel_rfl) | (rw [if_neg (by decide +kernel)]; exact ⟨rfl, rfl⟩))
    (fun os started H enc _ => lifted os started H enc)
theorem proved : Rows.EntryRowCardSaid :=
  Claim7.holds_tied_plain_at .later [] [.data, .pinned] true (true, "790ee5f555561e28bea65c3139c3e5d314b9c18eba7104d67e21425c60e38cba") false said (fun _ h => by cases h) (by kernel_rfl) (fun _ h => by cases h) entryRow_row_tie rfl ⟨rfl, rfl⟩ (by kernel_rfl) rfl
    (fun f fn hf hfn => by
      obtain rfl : f = 7 := Option.some.inj ((show Tryd.prog.funcNamed "portage/portagelaw15.EntryRow" = some 7 by kernel_rfl).symm.trans hf) |>.symm
      obtain rfl : fn = Tryd.f7 := (Option.some.inj (Tryd.func7.symm.trans hfn)).symm
      exact ⟨by kernel_rfl, fun j t ht => by
        rw [Tryd.params7] at ht
        have hm : t ∈ [22, 3] := by simpa using Array.mem_of_getElem? ht
        have hall : ([22, 3].all fun u => !Tryd.prog.wantsStandIn u) = true := by kernel_rfl
        exact (show Tryd.prog.wantsStandIn t = false by simpa using List.all_eq_true.1 hall t hm)⟩)
    (by kernel_rfl)
end Go.Proofs.YtbihdlhgfnoejaaDoor.entryRow
