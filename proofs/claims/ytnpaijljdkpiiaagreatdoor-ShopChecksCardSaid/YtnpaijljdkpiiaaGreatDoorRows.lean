/-
  NARROWER THAN 'FOR EVERY INPUT', by the rows' own cells (each row's printed sentence says how): ShopOrders: laid · ShopPlans: laid · ShopChecks: laid · ShopValid: laid · ShopShortest: laid · ShopFewer: laid.
  DERIVED. THE GIVEN ROWS OF THIS SEAT. 6 by the template 'for every input the law returns true; each argument reads behind the call as it read before'; 0 by the template 'total and deterministic' (their statements: YtnpaijljdkpiiaaGreatDoorTotals.lean).
  GIVEN WITH THE SEED: the statements are not yours to turn. If you find one false, say at which input.
  Laid BY PROGRAM, IN A SANDBOX (cutbox-rows.mjs): the forced cells as the released guide's own fill.sh prints them over the translation 4f365a071f9b905c… (all of the seat's roots in one cut). By AI agents, Wed Nov 11 2026. No macro, syntax, notation, axiom, sorry.
-/
import Derived.Test.YtnpaijljdkpiiaaGreatDoorChecked
import GoSem.PinnedTables
import GoSem.Claim
import GoSem.ClaimJoined
import GoSem.ClaimMapViews
import Derived.JoinedTies
import Derived.KernelRfl
namespace Go.Proofs.YtnpaijljdkpiiaaGreatDoor
/- THE CELL 'sum', in the pinned program and in every row, IS THE sha256 OF THE DUMP (.gsa) THAT YtnpaijljdkpiiaaGreatDoorProg.lean LOADS. Nothing in Lean hashes anything: it is a label: what it is worth is what the hold of that sum in a sandbox is worth. -/
noncomputable def Tryz.pinned : Pinned := { name := "ytnpaijljdkpiiaagreatdoor", sum := "4f365a071f9b905ceb98ac6075952fa2e63cb9aca009c54db519c789e3b1a734", checked := Tryz.checked }
namespace Rows
def none {H : Type} : Left H := { results := [], args := [] }

/- WHAT THE LISTED PACKAGE-LEVEL VARIABLES READ AS WHEN THE CALL BEGINS. Each datum BY PROGRAM (the guide's laid-datum.mjs) off the statement by which the dump's own 'gosem.cut.vars' lays the variable. In a bare row this is a premise. The card (YtnpaijljdkpiiaaGreatDoorCards.lean) ties it to the program's text. -/
def laid_unicode_utf8_acceptRanges {H : Type} : DataW H := .agg [.agg [.lit (.int .u8 128), .lit (.int .u8 191)], .agg [.lit (.int .u8 160), .lit (.int .u8 191)], .agg [.lit (.int .u8 128), .lit (.int .u8 159)], .agg [.lit (.int .u8 144), .lit (.int .u8 191)], .agg [.lit (.int .u8 128), .lit (.int .u8 143)], .agg [.lit (.int .u8 0), .lit (.int .u8 0)], .agg [.lit (.int .u8 0), .lit (.int .u8 0)], .agg [.lit (.int .u8 0), .lit (.int .u8 0)], .agg [.lit (.int .u8 0), .lit (.int .u8 0)], .agg [.lit (.int .u8 0), .lit (.int .u8 0)], .agg [.lit (.int .u8 0), .lit (.int .u8 0)], .agg [.lit (.int .u8 0), .lit (.int .u8 0)], .agg [.lit (.int .u8 0), .lit (.int .u8 0)], .agg [.lit (.int .u8 0), .lit (.int .u8 0)], .agg [.lit (.int .u8 0), .lit (.int .u8 0)], .agg [.lit (.int .u8 0), .lit (.int .u8 0)]]
/-- One of Go's own tables, pinned by name: the form's constant. -/
def laid_unicode_utf8_first : DataW Unit := Go.Pinned.utf8First

/-- 'shipyardlaw42.ShopOrders': WHATEVER THE INPUT: true; the input reads as it did. -/
def shopOrdersSpec : ChangeSpec := { name := "shopOrders", fn := fun _ => fun
  | [d] => { results := [.lit (.bool true)], args := [d] }
  | _ => none }
def shopOrdersRow : OpenClaim := { program := "ytnpaijljdkpiiaagreatdoor", sum := "4f365a071f9b905ceb98ac6075952fa2e63cb9aca009c54db519c789e3b1a734", func := "shipyard/shipyardlaw42.ShopOrders", spec := "shopOrders", inPlace := ["internal/bytealg.CountString", "internal/bytealg.IndexByteString", "internal/bytealg.IndexString"], unfollowed := true, recurses := true, named := ["unicode/utf8.first", "unicode/utf8.acceptRanges", "internal/bytealg.MaxLen"], apart := false, laid := [("unicode/utf8.acceptRanges", laid_unicode_utf8_acceptRanges), ("unicode/utf8.first", laid_unicode_utf8_first)] }
def ShopOrdersSaid : Prop := shopOrdersRow.holds Tryz.pinned (OpenSpec.ofChange shopOrdersSpec)

/-- ITS FALSE NEIGHBOUR: 'it returns false'. Refute it at one input. -/
def shopOrdersWrong : ChangeSpec := { name := "shopOrders", fn := fun _ => fun
  | [d] => { results := [.lit (.bool false)], args := [d] }
  | _ => none }
def ShopOrdersWrongFalsely : Prop := shopOrdersRow.holds Tryz.pinned (OpenSpec.ofChange shopOrdersWrong)

/-- 'shipyardlaw42.ShopPlans': WHATEVER THE INPUT: true; the input reads as it did. -/
def shopPlansSpec : ChangeSpec := { name := "shopPlans", fn := fun _ => fun
  | [d1, d2] => { results := [.lit (.bool true)], args := [d1, d2] }
  | _ => none }
def shopPlansRow : OpenClaim := { program := "ytnpaijljdkpiiaagreatdoor", sum := "4f365a071f9b905ceb98ac6075952fa2e63cb9aca009c54db519c789e3b1a734", func := "shipyard/shipyardlaw42.ShopPlans", spec := "shopPlans", inPlace := ["internal/bytealg.CountString", "internal/bytealg.IndexByteString", "internal/bytealg.IndexString"], unfollowed := true, recurses := true, named := ["unicode/utf8.first", "unicode/utf8.acceptRanges", "internal/bytealg.MaxLen"], apart := false, laid := [("unicode/utf8.acceptRanges", laid_unicode_utf8_acceptRanges), ("unicode/utf8.first", laid_unicode_utf8_first)] }
def ShopPlansSaid : Prop := shopPlansRow.holds Tryz.pinned (OpenSpec.ofChange shopPlansSpec)

/-- ITS FALSE NEIGHBOUR: 'it returns false'. Refute it at one input. -/
def shopPlansWrong : ChangeSpec := { name := "shopPlans", fn := fun _ => fun
  | [d1, d2] => { results := [.lit (.bool false)], args := [d1, d2] }
  | _ => none }
def ShopPlansWrongFalsely : Prop := shopPlansRow.holds Tryz.pinned (OpenSpec.ofChange shopPlansWrong)

/-- 'shipyardlaw42.ShopChecks': WHATEVER THE INPUT: true; the input reads as it did. -/
def shopChecksSpec : ChangeSpec := { name := "shopChecks", fn := fun _ => fun
  | [d1, d2, d3] => { results := [.lit (.bool true)], args := [d1, d2, d3] }
  | _ => none }
def shopChecksRow : OpenClaim := { program := "ytnpaijljdkpiiaagreatdoor", sum := "4f365a071f9b905ceb98ac6075952fa2e63cb9aca009c54db519c789e3b1a734", func := "shipyard/shipyardlaw42.ShopChecks", spec := "shopChecks", inPlace := ["internal/bytealg.CountString", "internal/bytealg.IndexByteString", "internal/bytealg.IndexString"], unfollowed := true, recurses := true, named := ["unicode/utf8.first", "unicode/utf8.acceptRanges", "internal/bytealg.MaxLen"], apart := false, laid := [("unicode/utf8.acceptRanges", laid_unicode_utf8_acceptRanges), ("unicode/utf8.first", laid_unicode_utf8_first)] }
def ShopChecksSaid : Prop := shopChecksRow.holds Tryz.pinned (OpenSpec.ofChange shopChecksSpec)

/-- ITS FALSE NEIGHBOUR: 'it returns false'. Refute it at one input. -/
def shopChecksWrong : ChangeSpec := { name := "shopChecks", fn := fun _ => fun
  | [d1, d2, d3] => { results := [.lit (.bool false)], args := [d1, d2, d3] }
  | _ => none }
def ShopChecksWrongFalsely : Prop := shopChecksRow.holds Tryz.pinned (OpenSpec.ofChange shopChecksWrong)

/-- 'shipyardlaw42.ShopValid': WHATEVER THE INPUT: true; the input reads as it did. -/
def shopValidSpec : ChangeSpec := { name := "shopValid", fn := fun _ => fun
  | [d1, d2] => { results := [.lit (.bool true)], args := [d1, d2] }
  | _ => none }
def shopValidRow : OpenClaim := { program := "ytnpaijljdkpiiaagreatdoor", sum := "4f365a071f9b905ceb98ac6075952fa2e63cb9aca009c54db519c789e3b1a734", func := "shipyard/shipyardlaw42.ShopValid", spec := "shopValid", inPlace := ["internal/bytealg.CountString", "internal/bytealg.IndexByteString", "internal/bytealg.IndexString"], unfollowed := true, recurses := true, named := ["unicode/utf8.first", "unicode/utf8.acceptRanges", "internal/bytealg.MaxLen"], apart := false, laid := [("unicode/utf8.acceptRanges", laid_unicode_utf8_acceptRanges), ("unicode/utf8.first", laid_unicode_utf8_first)] }
def ShopValidSaid : Prop := shopValidRow.holds Tryz.pinned (OpenSpec.ofChange shopValidSpec)

/-- ITS FALSE NEIGHBOUR: 'it returns false'. Refute it at one input. -/
def shopValidWrong : ChangeSpec := { name := "shopValid", fn := fun _ => fun
  | [d1, d2] => { results := [.lit (.bool false)], args := [d1, d2] }
  | _ => none }
def ShopValidWrongFalsely : Prop := shopValidRow.holds Tryz.pinned (OpenSpec.ofChange shopValidWrong)

/-- 'shipyardlaw42.ShopShortest': WHATEVER THE INPUT: true; the input reads as it did. -/
def shopShortestSpec : ChangeSpec := { name := "shopShortest", fn := fun _ => fun
  | [d1, d2, d3] => { results := [.lit (.bool true)], args := [d1, d2, d3] }
  | _ => none }
def shopShortestRow : OpenClaim := { program := "ytnpaijljdkpiiaagreatdoor", sum := "4f365a071f9b905ceb98ac6075952fa2e63cb9aca009c54db519c789e3b1a734", func := "shipyard/shipyardlaw42.ShopShortest", spec := "shopShortest", inPlace := ["internal/bytealg.CountString", "internal/bytealg.IndexByteString", "internal/bytealg.IndexString"], unfollowed := true, recurses := true, named := ["unicode/utf8.first", "unicode/utf8.acceptRanges", "internal/bytealg.MaxLen"], apart := false, laid := [("unicode/utf8.acceptRanges", laid_unicode_utf8_acceptRanges), ("unicode/utf8.first", laid_unicode_utf8_first)] }
def ShopShortestSaid : Prop := shopShortestRow.holds Tryz.pinned (OpenSpec.ofChange shopShortestSpec)

/-- ITS FALSE NEIGHBOUR: 'it returns false'. Refute it at one input. -/
def shopShortestWrong : ChangeSpec := { name := "shopShortest", fn := fun _ => fun
  | [d1, d2, d3] => { results := [.lit (.bool false)], args := [d1, d2, d3] }
  | _ => none }
def ShopShortestWrongFalsely : Prop := shopShortestRow.holds Tryz.pinned (OpenSpec.ofChange shopShortestWrong)

/-- 'shipyardlaw42.ShopFewer': WHATEVER THE INPUT: true; the input reads as it did. -/
def shopFewerSpec : ChangeSpec := { name := "shopFewer", fn := fun _ => fun
  | [d1, d2, d3] => { results := [.lit (.bool true)], args := [d1, d2, d3] }
  | _ => none }
def shopFewerRow : OpenClaim := { program := "ytnpaijljdkpiiaagreatdoor", sum := "4f365a071f9b905ceb98ac6075952fa2e63cb9aca009c54db519c789e3b1a734", func := "shipyard/shipyardlaw42.ShopFewer", spec := "shopFewer", inPlace := ["internal/bytealg.CountString", "internal/bytealg.IndexByteString", "internal/bytealg.IndexString"], unfollowed := true, recurses := true, named := ["unicode/utf8.first", "unicode/utf8.acceptRanges", "internal/bytealg.MaxLen"], apart := false, laid := [("unicode/utf8.acceptRanges", laid_unicode_utf8_acceptRanges), ("unicode/utf8.first", laid_unicode_utf8_first)] }
def ShopFewerSaid : Prop := shopFewerRow.holds Tryz.pinned (OpenSpec.ofChange shopFewerSpec)

/-- ITS FALSE NEIGHBOUR: 'it returns false'. Refute it at one input. -/
def shopFewerWrong : ChangeSpec := { name := "shopFewer", fn := fun _ => fun
  | [d1, d2, d3] => { results := [.lit (.bool false)], args := [d1, d2, d3] }
  | _ => none }
def ShopFewerWrongFalsely : Prop := shopFewerRow.holds Tryz.pinned (OpenSpec.ofChange shopFewerWrong)

/- THE SECOND FORM. 'bulk': how many values and letters a reading holds, each counted each time it is reached (what is shared counts as often as it is met; a slice's spare places count too). A statement '..UptoSaid' is the law's where the arguments, and the package variables that the reading takes, are together of bulk at most 1048576: NARROWER than '..Said'. Prove '..Said' where nothing that the law and all that it calls make is longer than what came in: it says more and counts as full. Else prove '..UptoSaid'. A law counts once. -/
mutual
def uptoBulk {H : Type} : DataW H → Nat
  | .lit (.string bytes) => bytes.length + 1
  | .lit _ => 1
  | .nil => 1
  | .ptr d => uptoBulk d + 1
  | .slice elems spare => uptoBulkAll elems + uptoBulkAll spare + 1
  | .agg parts => uptoBulkAll parts + 1
  | .iface _ d => uptoBulk d + 1
  | .map entries => uptoBulkEntries entries + 1
  | .held _ => 1
def uptoBulkAll {H : Type} : List (DataW H) → Nat
  | [] => 0
  | d :: r => uptoBulk d + uptoBulkAll r
def uptoBulkEntries {H : Type} : List (Lit × DataW H) → Nat
  | [] => 0
  | x :: r => uptoBulkEntry x + uptoBulkEntries r
def uptoBulkEntry {H : Type} : Lit × DataW H → Nat
  | (.string bytes, d) => bytes.length + uptoBulk d + 1
  | (_, d) => uptoBulk d + 1
 end
def uptoSmall : (H : Type) → List (DataW H) → Bool := fun _ ds => decide (uptoBulkAll ds ≤ 1048576)
def OpenSpec.upto (s : _root_.Go.ChangeSpec) : _root_.Go.OpenSpec := { _root_.Go.OpenSpec.ofChange s with cond := some uptoSmall }

/-- 'shipyardlaw42.ShopOrders', WHERE WHAT IT READS IS OF BULK AT MOST 1048576: true; the input reads as it did. -/
def shopOrdersUptoRow : OpenClaim := { program := "ytnpaijljdkpiiaagreatdoor", sum := "4f365a071f9b905ceb98ac6075952fa2e63cb9aca009c54db519c789e3b1a734", func := "shipyard/shipyardlaw42.ShopOrders", spec := "shopOrders", inPlace := ["internal/bytealg.CountString", "internal/bytealg.IndexByteString", "internal/bytealg.IndexString"], unfollowed := true, recurses := true, named := ["unicode/utf8.first", "unicode/utf8.acceptRanges", "internal/bytealg.MaxLen"], apart := false, laid := [("unicode/utf8.acceptRanges", laid_unicode_utf8_acceptRanges), ("unicode/utf8.first", laid_unicode_utf8_first)], narrowed := true }
def ShopOrdersUptoSaid : Prop := shopOrdersUptoRow.holds Tryz.pinned (OpenSpec.upto shopOrdersSpec)

/-- 'shipyardlaw42.ShopPlans', WHERE WHAT IT READS IS OF BULK AT MOST 1048576: true; the input reads as it did. -/
def shopPlansUptoRow : OpenClaim := { program := "ytnpaijljdkpiiaagreatdoor", sum := "4f365a071f9b905ceb98ac6075952fa2e63cb9aca009c54db519c789e3b1a734", func := "shipyard/shipyardlaw42.ShopPlans", spec := "shopPlans", inPlace := ["internal/bytealg.CountString", "internal/bytealg.IndexByteString", "internal/bytealg.IndexString"], unfollowed := true, recurses := true, named := ["unicode/utf8.first", "unicode/utf8.acceptRanges", "internal/bytealg.MaxLen"], apart := false, laid := [("unicode/utf8.acceptRanges", laid_unicode_utf8_acceptRanges), ("unicode/utf8.first", laid_unicode_utf8_first)], narrowed := true }
def ShopPlansUptoSaid : Prop := shopPlansUptoRow.holds Tryz.pinned (OpenSpec.upto shopPlansSpec)

/-- 'shipyardlaw42.ShopChecks', WHERE WHAT IT READS IS OF BULK AT MOST 1048576: true; the input reads as it did. -/
def shopChecksUptoRow : OpenClaim := { program := "ytnpaijljdkpiiaagreatdoor", sum := "4f365a071f9b905ceb98ac6075952fa2e63cb9aca009c54db519c789e3b1a734", func := "shipyard/shipyardlaw42.ShopChecks", spec := "shopChecks", inPlace := ["internal/bytealg.CountString", "internal/bytealg.IndexByteString", "internal/bytealg.IndexString"], unfollowed := true, recurses := true, named := ["unicode/utf8.first", "unicode/utf8.acceptRanges", "internal/bytealg.MaxLen"], apart := false, laid := [("unicode/utf8.acceptRanges", laid_unicode_utf8_acceptRanges), ("unicode/utf8.first", laid_unicode_utf8_first)], narrowed := true }
def ShopChecksUptoSaid : Prop := shopChecksUptoRow.holds Tryz.pinned (OpenSpec.upto shopChecksSpec)

/-- 'shipyardlaw42.ShopValid', WHERE WHAT IT READS IS OF BULK AT MOST 1048576: true; the input reads as it did. -/
def shopValidUptoRow : OpenClaim := { program := "ytnpaijljdkpiiaagreatdoor", sum := "4f365a071f9b905ceb98ac6075952fa2e63cb9aca009c54db519c789e3b1a734", func := "shipyard/shipyardlaw42.ShopValid", spec := "shopValid", inPlace := ["internal/bytealg.CountString", "internal/bytealg.IndexByteString", "internal/bytealg.IndexString"], unfollowed := true, recurses := true, named := ["unicode/utf8.first", "unicode/utf8.acceptRanges", "internal/bytealg.MaxLen"], apart := false, laid := [("unicode/utf8.acceptRanges", laid_unicode_utf8_acceptRanges), ("unicode/utf8.first", laid_unicode_utf8_first)], narrowed := true }
def ShopValidUptoSaid : Prop := shopValidUptoRow.holds Tryz.pinned (OpenSpec.upto shopValidSpec)

/-- 'shipyardlaw42.ShopShortest', WHERE WHAT IT READS IS OF BULK AT MOST 1048576: true; the input reads as it did. -/
def shopShortestUptoRow : OpenClaim := { program := "ytnpaijljdkpiiaagreatdoor", sum := "4f365a071f9b905ceb98ac6075952fa2e63cb9aca009c54db519c789e3b1a734", func := "shipyard/shipyardlaw42.ShopShortest", spec := "shopShortest", inPlace := ["internal/bytealg.CountString", "internal/bytealg.IndexByteString", "internal/bytealg.IndexString"], unfollowed := true, recurses := true, named := ["unicode/utf8.first", "unicode/utf8.acceptRanges", "internal/bytealg.MaxLen"], apart := false, laid := [("unicode/utf8.acceptRanges", laid_unicode_utf8_acceptRanges), ("unicode/utf8.first", laid_unicode_utf8_first)], narrowed := true }
def ShopShortestUptoSaid : Prop := shopShortestUptoRow.holds Tryz.pinned (OpenSpec.upto shopShortestSpec)

/-- 'shipyardlaw42.ShopFewer', WHERE WHAT IT READS IS OF BULK AT MOST 1048576: true; the input reads as it did. -/
def shopFewerUptoRow : OpenClaim := { program := "ytnpaijljdkpiiaagreatdoor", sum := "4f365a071f9b905ceb98ac6075952fa2e63cb9aca009c54db519c789e3b1a734", func := "shipyard/shipyardlaw42.ShopFewer", spec := "shopFewer", inPlace := ["internal/bytealg.CountString", "internal/bytealg.IndexByteString", "internal/bytealg.IndexString"], unfollowed := true, recurses := true, named := ["unicode/utf8.first", "unicode/utf8.acceptRanges", "internal/bytealg.MaxLen"], apart := false, laid := [("unicode/utf8.acceptRanges", laid_unicode_utf8_acceptRanges), ("unicode/utf8.first", laid_unicode_utf8_first)], narrowed := true }
def ShopFewerUptoSaid : Prop := shopFewerUptoRow.holds Tryz.pinned (OpenSpec.upto shopFewerSpec)

end Rows
end Go.Proofs.YtnpaijljdkpiiaaGreatDoor
