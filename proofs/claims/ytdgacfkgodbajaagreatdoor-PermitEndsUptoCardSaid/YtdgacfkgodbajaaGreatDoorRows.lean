/-
  NARROWER THAN 'FOR EVERY INPUT', by the rows' own cells (each row's printed sentence says how): PermitAdds: laid · PermitCovers: laid · PermitTests: laid · PermitGrows: laid · PermitGaps: laid · PermitEnds: laid · PermitOrder: laid.
  DERIVED. THE GIVEN ROWS OF THIS SEAT. 7 by the template 'for every input the law returns true; each argument reads behind the call as it read before'; 0 by the template 'total and deterministic' (their statements: YtdgacfkgodbajaaGreatDoorTotals.lean).
  GIVEN WITH THE SEED: the statements are not yours to turn. If you find one false, say at which input.
  Laid BY PROGRAM, IN A SANDBOX (cutbox-rows.mjs): the forced cells as the released guide's own fill.sh prints them over the translation b3629d69a43c4748… (all of the seat's roots in one cut). By AI agents, Wed Nov 11 2026. No macro, syntax, notation, axiom, sorry.
-/
import Derived.Test.YtdgacfkgodbajaaGreatDoorChecked
import GoSem.PinnedTables
import GoSem.Claim
import GoSem.ClaimJoined
import GoSem.ClaimMapViews
import Derived.JoinedTies
import Derived.KernelRfl
namespace Go.Proofs.YtdgacfkgodbajaaGreatDoor
/- THE CELL 'sum', in the pinned program and in every row, IS THE sha256 OF THE DUMP (.gsa) THAT YtdgacfkgodbajaaGreatDoorProg.lean LOADS. Nothing in Lean hashes anything: it is a label: what it is worth is what the hold of that sum in a sandbox is worth. -/
noncomputable def Tryz.pinned : Pinned := { name := "ytdgacfkgodbajaagreatdoor", sum := "b3629d69a43c4748e2789845d2b7610536e20e19245011a88b2759132c05472d", checked := Tryz.checked }
namespace Rows
def none {H : Type} : Left H := { results := [], args := [] }

/- WHAT THE LISTED PACKAGE-LEVEL VARIABLES READ AS WHEN THE CALL BEGINS. Each datum BY PROGRAM (the guide's laid-datum.mjs) off the statement by which the dump's own 'gosem.cut.vars' lays the variable. In a bare row this is a premise. The card (YtdgacfkgodbajaaGreatDoorCards.lean) ties it to the program's text. -/
def laid_unicode_utf8_acceptRanges {H : Type} : DataW H := .agg [.agg [.lit (.int .u8 128), .lit (.int .u8 191)], .agg [.lit (.int .u8 160), .lit (.int .u8 191)], .agg [.lit (.int .u8 128), .lit (.int .u8 159)], .agg [.lit (.int .u8 144), .lit (.int .u8 191)], .agg [.lit (.int .u8 128), .lit (.int .u8 143)], .agg [.lit (.int .u8 0), .lit (.int .u8 0)], .agg [.lit (.int .u8 0), .lit (.int .u8 0)], .agg [.lit (.int .u8 0), .lit (.int .u8 0)], .agg [.lit (.int .u8 0), .lit (.int .u8 0)], .agg [.lit (.int .u8 0), .lit (.int .u8 0)], .agg [.lit (.int .u8 0), .lit (.int .u8 0)], .agg [.lit (.int .u8 0), .lit (.int .u8 0)], .agg [.lit (.int .u8 0), .lit (.int .u8 0)], .agg [.lit (.int .u8 0), .lit (.int .u8 0)], .agg [.lit (.int .u8 0), .lit (.int .u8 0)], .agg [.lit (.int .u8 0), .lit (.int .u8 0)]]
/-- One of Go's own tables, pinned by name: the form's constant. -/
def laid_unicode_utf8_first : DataW Unit := Go.Pinned.utf8First

/-- 'shipyardlaw58.PermitAdds': WHATEVER THE INPUT: true; the input reads as it did. -/
def permitAddsSpec : ChangeSpec := { name := "permitAdds", fn := fun _ => fun
  | [d1, d2, d3] => { results := [.lit (.bool true)], args := [d1, d2, d3] }
  | _ => none }
def permitAddsRow : OpenClaim := { program := "ytdgacfkgodbajaagreatdoor", sum := "b3629d69a43c4748e2789845d2b7610536e20e19245011a88b2759132c05472d", func := "shipyard/shipyardlaw58.PermitAdds", spec := "permitAdds", inPlace := ["internal/bytealg.CountString", "internal/bytealg.IndexByteString", "internal/bytealg.IndexString", "slices.overlaps[shipyard/api.Permit]"], unfollowed := true, recurses := true, named := ["unicode/utf8.first", "unicode/utf8.acceptRanges", "internal/bytealg.MaxLen"], apart := false, laid := [("unicode/utf8.acceptRanges", laid_unicode_utf8_acceptRanges), ("unicode/utf8.first", laid_unicode_utf8_first)] }
def PermitAddsSaid : Prop := permitAddsRow.holds Tryz.pinned (OpenSpec.ofChange permitAddsSpec)

/-- ITS FALSE NEIGHBOUR: 'it returns false'. Refute it at one input. -/
def permitAddsWrong : ChangeSpec := { name := "permitAdds", fn := fun _ => fun
  | [d1, d2, d3] => { results := [.lit (.bool false)], args := [d1, d2, d3] }
  | _ => none }
def PermitAddsWrongFalsely : Prop := permitAddsRow.holds Tryz.pinned (OpenSpec.ofChange permitAddsWrong)

/-- 'shipyardlaw58.PermitCovers': WHATEVER THE INPUT: true; the input reads as it did. -/
def permitCoversSpec : ChangeSpec := { name := "permitCovers", fn := fun _ => fun
  | [d1, d2, d3] => { results := [.lit (.bool true)], args := [d1, d2, d3] }
  | _ => none }
def permitCoversRow : OpenClaim := { program := "ytdgacfkgodbajaagreatdoor", sum := "b3629d69a43c4748e2789845d2b7610536e20e19245011a88b2759132c05472d", func := "shipyard/shipyardlaw58.PermitCovers", spec := "permitCovers", inPlace := ["internal/bytealg.CountString", "internal/bytealg.IndexByteString", "internal/bytealg.IndexString", "slices.overlaps[shipyard/api.Permit]"], unfollowed := true, recurses := true, named := ["unicode/utf8.first", "unicode/utf8.acceptRanges", "internal/bytealg.MaxLen"], apart := false, laid := [("unicode/utf8.acceptRanges", laid_unicode_utf8_acceptRanges), ("unicode/utf8.first", laid_unicode_utf8_first)] }
def PermitCoversSaid : Prop := permitCoversRow.holds Tryz.pinned (OpenSpec.ofChange permitCoversSpec)

/-- ITS FALSE NEIGHBOUR: 'it returns false'. Refute it at one input. -/
def permitCoversWrong : ChangeSpec := { name := "permitCovers", fn := fun _ => fun
  | [d1, d2, d3] => { results := [.lit (.bool false)], args := [d1, d2, d3] }
  | _ => none }
def PermitCoversWrongFalsely : Prop := permitCoversRow.holds Tryz.pinned (OpenSpec.ofChange permitCoversWrong)

/-- 'shipyardlaw58.PermitTests': WHATEVER THE INPUT: true; the input reads as it did. -/
def permitTestsSpec : ChangeSpec := { name := "permitTests", fn := fun _ => fun
  | [d1, d2] => { results := [.lit (.bool true)], args := [d1, d2] }
  | _ => none }
def permitTestsRow : OpenClaim := { program := "ytdgacfkgodbajaagreatdoor", sum := "b3629d69a43c4748e2789845d2b7610536e20e19245011a88b2759132c05472d", func := "shipyard/shipyardlaw58.PermitTests", spec := "permitTests", inPlace := ["internal/bytealg.CountString", "internal/bytealg.IndexByteString", "internal/bytealg.IndexString", "slices.overlaps[shipyard/api.Permit]"], unfollowed := true, recurses := true, named := ["unicode/utf8.first", "unicode/utf8.acceptRanges", "internal/bytealg.MaxLen"], apart := false, laid := [("unicode/utf8.acceptRanges", laid_unicode_utf8_acceptRanges), ("unicode/utf8.first", laid_unicode_utf8_first)] }
def PermitTestsSaid : Prop := permitTestsRow.holds Tryz.pinned (OpenSpec.ofChange permitTestsSpec)

/-- ITS FALSE NEIGHBOUR: 'it returns false'. Refute it at one input. -/
def permitTestsWrong : ChangeSpec := { name := "permitTests", fn := fun _ => fun
  | [d1, d2] => { results := [.lit (.bool false)], args := [d1, d2] }
  | _ => none }
def PermitTestsWrongFalsely : Prop := permitTestsRow.holds Tryz.pinned (OpenSpec.ofChange permitTestsWrong)

/-- 'shipyardlaw58.PermitGrows': WHATEVER THE INPUT: true; the input reads as it did. -/
def permitGrowsSpec : ChangeSpec := { name := "permitGrows", fn := fun _ => fun
  | [d1, d2, d3] => { results := [.lit (.bool true)], args := [d1, d2, d3] }
  | _ => none }
def permitGrowsRow : OpenClaim := { program := "ytdgacfkgodbajaagreatdoor", sum := "b3629d69a43c4748e2789845d2b7610536e20e19245011a88b2759132c05472d", func := "shipyard/shipyardlaw58.PermitGrows", spec := "permitGrows", inPlace := ["internal/bytealg.CountString", "internal/bytealg.IndexByteString", "internal/bytealg.IndexString", "slices.overlaps[shipyard/api.Permit]"], unfollowed := true, recurses := true, named := ["unicode/utf8.first", "unicode/utf8.acceptRanges", "internal/bytealg.MaxLen"], apart := false, laid := [("unicode/utf8.acceptRanges", laid_unicode_utf8_acceptRanges), ("unicode/utf8.first", laid_unicode_utf8_first)] }
def PermitGrowsSaid : Prop := permitGrowsRow.holds Tryz.pinned (OpenSpec.ofChange permitGrowsSpec)

/-- ITS FALSE NEIGHBOUR: 'it returns false'. Refute it at one input. -/
def permitGrowsWrong : ChangeSpec := { name := "permitGrows", fn := fun _ => fun
  | [d1, d2, d3] => { results := [.lit (.bool false)], args := [d1, d2, d3] }
  | _ => none }
def PermitGrowsWrongFalsely : Prop := permitGrowsRow.holds Tryz.pinned (OpenSpec.ofChange permitGrowsWrong)

/-- 'shipyardlaw58.PermitGaps': WHATEVER THE INPUT: true; the input reads as it did. -/
def permitGapsSpec : ChangeSpec := { name := "permitGaps", fn := fun _ => fun
  | [d1, d2, d3] => { results := [.lit (.bool true)], args := [d1, d2, d3] }
  | _ => none }
def permitGapsRow : OpenClaim := { program := "ytdgacfkgodbajaagreatdoor", sum := "b3629d69a43c4748e2789845d2b7610536e20e19245011a88b2759132c05472d", func := "shipyard/shipyardlaw58.PermitGaps", spec := "permitGaps", inPlace := ["internal/bytealg.CountString", "internal/bytealg.IndexByteString", "internal/bytealg.IndexString", "slices.overlaps[shipyard/api.Permit]"], unfollowed := true, recurses := true, named := ["unicode/utf8.first", "unicode/utf8.acceptRanges", "internal/bytealg.MaxLen"], apart := false, laid := [("unicode/utf8.acceptRanges", laid_unicode_utf8_acceptRanges), ("unicode/utf8.first", laid_unicode_utf8_first)] }
def PermitGapsSaid : Prop := permitGapsRow.holds Tryz.pinned (OpenSpec.ofChange permitGapsSpec)

/-- ITS FALSE NEIGHBOUR: 'it returns false'. Refute it at one input. -/
def permitGapsWrong : ChangeSpec := { name := "permitGaps", fn := fun _ => fun
  | [d1, d2, d3] => { results := [.lit (.bool false)], args := [d1, d2, d3] }
  | _ => none }
def PermitGapsWrongFalsely : Prop := permitGapsRow.holds Tryz.pinned (OpenSpec.ofChange permitGapsWrong)

/-- 'shipyardlaw58.PermitEnds': WHATEVER THE INPUT: true; the input reads as it did. -/
def permitEndsSpec : ChangeSpec := { name := "permitEnds", fn := fun _ => fun
  | [d] => { results := [.lit (.bool true)], args := [d] }
  | _ => none }
def permitEndsRow : OpenClaim := { program := "ytdgacfkgodbajaagreatdoor", sum := "b3629d69a43c4748e2789845d2b7610536e20e19245011a88b2759132c05472d", func := "shipyard/shipyardlaw58.PermitEnds", spec := "permitEnds", inPlace := ["internal/bytealg.CountString", "internal/bytealg.IndexByteString", "internal/bytealg.IndexString", "slices.overlaps[shipyard/api.Permit]"], unfollowed := true, recurses := true, named := ["unicode/utf8.first", "unicode/utf8.acceptRanges", "internal/bytealg.MaxLen"], apart := false, laid := [("unicode/utf8.acceptRanges", laid_unicode_utf8_acceptRanges), ("unicode/utf8.first", laid_unicode_utf8_first)] }
def PermitEndsSaid : Prop := permitEndsRow.holds Tryz.pinned (OpenSpec.ofChange permitEndsSpec)

/-- ITS FALSE NEIGHBOUR: 'it returns false'. Refute it at one input. -/
def permitEndsWrong : ChangeSpec := { name := "permitEnds", fn := fun _ => fun
  | [d] => { results := [.lit (.bool false)], args := [d] }
  | _ => none }
def PermitEndsWrongFalsely : Prop := permitEndsRow.holds Tryz.pinned (OpenSpec.ofChange permitEndsWrong)

/-- 'shipyardlaw58.PermitOrder': WHATEVER THE INPUT: true; the input reads as it did. -/
def permitOrderSpec : ChangeSpec := { name := "permitOrder", fn := fun _ => fun
  | [d1, d2] => { results := [.lit (.bool true)], args := [d1, d2] }
  | _ => none }
def permitOrderRow : OpenClaim := { program := "ytdgacfkgodbajaagreatdoor", sum := "b3629d69a43c4748e2789845d2b7610536e20e19245011a88b2759132c05472d", func := "shipyard/shipyardlaw58.PermitOrder", spec := "permitOrder", inPlace := ["internal/bytealg.CountString", "internal/bytealg.IndexByteString", "internal/bytealg.IndexString", "slices.overlaps[shipyard/api.Permit]"], unfollowed := true, recurses := true, named := ["unicode/utf8.first", "unicode/utf8.acceptRanges", "internal/bytealg.MaxLen"], apart := false, laid := [("unicode/utf8.acceptRanges", laid_unicode_utf8_acceptRanges), ("unicode/utf8.first", laid_unicode_utf8_first)] }
def PermitOrderSaid : Prop := permitOrderRow.holds Tryz.pinned (OpenSpec.ofChange permitOrderSpec)

/-- ITS FALSE NEIGHBOUR: 'it returns false'. Refute it at one input. -/
def permitOrderWrong : ChangeSpec := { name := "permitOrder", fn := fun _ => fun
  | [d1, d2] => { results := [.lit (.bool false)], args := [d1, d2] }
  | _ => none }
def PermitOrderWrongFalsely : Prop := permitOrderRow.holds Tryz.pinned (OpenSpec.ofChange permitOrderWrong)

/- THE SECOND FORM. 'bulk': how many values and letters a reading holds, each counted each time it is reached (what is shared counts as often as it is met; a slice's spare places count too). A statement '..UptoSaid' is the law's where the arguments, and the package variables that the reading takes, are together of bulk at most 1048576: NARROWER than '..Said'. Prove '..Said' where nothing that the law and all that it calls make is longer than what came in: it says more and counts as full. Else prove '..UptoSaid'. A law counts once. -/
mutual
def uptoBulk {H : Type} : DataW H → Nat
  | .lit (.string bytes) => bytes.length + 1
  | .lit _ => 1
  | .nil => 1
  | .ptr d => uptoBulk d + 1
  | .slice elems spare => uptoBulkAll elems + uptoBulkAll spare + 1
  | .agg parts => uptoBulkAll parts + 1
  | .iface _ d => uptoBulk d + 1
  | .map entries => uptoBulkEntries entries + 1
  | .held _ => 1
def uptoBulkAll {H : Type} : List (DataW H) → Nat
  | [] => 0
  | d :: r => uptoBulk d + uptoBulkAll r
def uptoBulkEntries {H : Type} : List (Lit × DataW H) → Nat
  | [] => 0
  | x :: r => uptoBulkEntry x + uptoBulkEntries r
def uptoBulkEntry {H : Type} : Lit × DataW H → Nat
  | (.string bytes, d) => bytes.length + uptoBulk d + 1
  | (_, d) => uptoBulk d + 1
 end
def uptoSmall : (H : Type) → List (DataW H) → Bool := fun _ ds => decide (uptoBulkAll ds ≤ 1048576)
def OpenSpec.upto (s : _root_.Go.ChangeSpec) : _root_.Go.OpenSpec := { _root_.Go.OpenSpec.ofChange s with cond := some uptoSmall }

/-- 'shipyardlaw58.PermitAdds', WHERE WHAT IT READS IS OF BULK AT MOST 1048576: true; the input reads as it did. -/
def permitAddsUptoRow : OpenClaim := { program := "ytdgacfkgodbajaagreatdoor", sum := "b3629d69a43c4748e2789845d2b7610536e20e19245011a88b2759132c05472d", func := "shipyard/shipyardlaw58.PermitAdds", spec := "permitAdds", inPlace := ["internal/bytealg.CountString", "internal/bytealg.IndexByteString", "internal/bytealg.IndexString", "slices.overlaps[shipyard/api.Permit]"], unfollowed := true, recurses := true, named := ["unicode/utf8.first", "unicode/utf8.acceptRanges", "internal/bytealg.MaxLen"], apart := false, laid := [("unicode/utf8.acceptRanges", laid_unicode_utf8_acceptRanges), ("unicode/utf8.first", laid_unicode_utf8_first)], narrowed := true }
def PermitAddsUptoSaid : Prop := permitAddsUptoRow.holds Tryz.pinned (OpenSpec.upto permitAddsSpec)

/-- 'shipyardlaw58.PermitCovers', WHERE WHAT IT READS IS OF BULK AT MOST 1048576: true; the input reads as it did. -/
def permitCoversUptoRow : OpenClaim := { program := "ytdgacfkgodbajaagreatdoor", sum := "b3629d69a43c4748e2789845d2b7610536e20e19245011a88b2759132c05472d", func := "shipyard/shipyardlaw58.PermitCovers", spec := "permitCovers", inPlace := ["internal/bytealg.CountString", "internal/bytealg.IndexByteString", "internal/bytealg.IndexString", "slices.overlaps[shipyard/api.Permit]"], unfollowed := true, recurses := true, named := ["unicode/utf8.first", "unicode/utf8.acceptRanges", "internal/bytealg.MaxLen"], apart := false, laid := [("unicode/utf8.acceptRanges", laid_unicode_utf8_acceptRanges), ("unicode/utf8.first", laid_unicode_utf8_first)], narrowed := true }
def PermitCoversUptoSaid : Prop := permitCoversUptoRow.holds Tryz.pinned (OpenSpec.upto permitCoversSpec)

/-- 'shipyardlaw58.PermitTests', WHERE WHAT IT READS IS OF BULK AT MOST 1048576: true; the input reads as it did. -/
def permitTestsUptoRow : OpenClaim := { program := "ytdgacfkgodbajaagreatdoor", sum := "b3629d69a43c4748e2789845d2b7610536e20e19245011a88b2759132c05472d", func := "shipyard/shipyardlaw58.PermitTests", spec := "permitTests", inPlace := ["internal/bytealg.CountString", "internal/bytealg.IndexByteString", "internal/bytealg.IndexString", "slices.overlaps[shipyard/api.Permit]"], unfollowed := true, recurses := true, named := ["unicode/utf8.first", "unicode/utf8.acceptRanges", "internal/bytealg.MaxLen"], apart := false, laid := [("unicode/utf8.acceptRanges", laid_unicode_utf8_acceptRanges), ("unicode/utf8.first", laid_unicode_utf8_first)], narrowed := true }
def PermitTestsUptoSaid : Prop := permitTestsUptoRow.holds Tryz.pinned (OpenSpec.upto permitTestsSpec)

/-- 'shipyardlaw58.PermitGrows', WHERE WHAT IT READS IS OF BULK AT MOST 1048576: true; the input reads as it did. -/
def permitGrowsUptoRow : OpenClaim := { program := "ytdgacfkgodbajaagreatdoor", sum := "b3629d69a43c4748e2789845d2b7610536e20e19245011a88b2759132c05472d", func := "shipyard/shipyardlaw58.PermitGrows", spec := "permitGrows", inPlace := ["internal/bytealg.CountString", "internal/bytealg.IndexByteString", "internal/bytealg.IndexString", "slices.overlaps[shipyard/api.Permit]"], unfollowed := true, recurses := true, named := ["unicode/utf8.first", "unicode/utf8.acceptRanges", "internal/bytealg.MaxLen"], apart := false, laid := [("unicode/utf8.acceptRanges", laid_unicode_utf8_acceptRanges), ("unicode/utf8.first", laid_unicode_utf8_first)], narrowed := true }
def PermitGrowsUptoSaid : Prop := permitGrowsUptoRow.holds Tryz.pinned (OpenSpec.upto permitGrowsSpec)

/-- 'shipyardlaw58.PermitGaps', WHERE WHAT IT READS IS OF BULK AT MOST 1048576: true; the input reads as it did. -/
def permitGapsUptoRow : OpenClaim := { program := "ytdgacfkgodbajaagreatdoor", sum := "b3629d69a43c4748e2789845d2b7610536e20e19245011a88b2759132c05472d", func := "shipyard/shipyardlaw58.PermitGaps", spec := "permitGaps", inPlace := ["internal/bytealg.CountString", "internal/bytealg.IndexByteString", "internal/bytealg.IndexString", "slices.overlaps[shipyard/api.Permit]"], unfollowed := true, recurses := true, named := ["unicode/utf8.first", "unicode/utf8.acceptRanges", "internal/bytealg.MaxLen"], apart := false, laid := [("unicode/utf8.acceptRanges", laid_unicode_utf8_acceptRanges), ("unicode/utf8.first", laid_unicode_utf8_first)], narrowed := true }
def PermitGapsUptoSaid : Prop := permitGapsUptoRow.holds Tryz.pinned (OpenSpec.upto permitGapsSpec)

/-- 'shipyardlaw58.PermitEnds', WHERE WHAT IT READS IS OF BULK AT MOST 1048576: true; the input reads as it did. -/
def permitEndsUptoRow : OpenClaim := { program := "ytdgacfkgodbajaagreatdoor", sum := "b3629d69a43c4748e2789845d2b7610536e20e19245011a88b2759132c05472d", func := "shipyard/shipyardlaw58.PermitEnds", spec := "permitEnds", inPlace := ["internal/bytealg.CountString", "internal/bytealg.IndexByteString", "internal/bytealg.IndexString", "slices.overlaps[shipyard/api.Permit]"], unfollowed := true, recurses := true, named := ["unicode/utf8.first", "unicode/utf8.acceptRanges", "internal/bytealg.MaxLen"], apart := false, laid := [("unicode/utf8.acceptRanges", laid_unicode_utf8_acceptRanges), ("unicode/utf8.first", laid_unicode_utf8_first)], narrowed := true }
def PermitEndsUptoSaid : Prop := permitEndsUptoRow.holds Tryz.pinned (OpenSpec.upto permitEndsSpec)

/-- 'shipyardlaw58.PermitOrder', WHERE WHAT IT READS IS OF BULK AT MOST 1048576: true; the input reads as it did. -/
def permitOrderUptoRow : OpenClaim := { program := "ytdgacfkgodbajaagreatdoor", sum := "b3629d69a43c4748e2789845d2b7610536e20e19245011a88b2759132c05472d", func := "shipyard/shipyardlaw58.PermitOrder", spec := "permitOrder", inPlace := ["internal/bytealg.CountString", "internal/bytealg.IndexByteString", "internal/bytealg.IndexString", "slices.overlaps[shipyard/api.Permit]"], unfollowed := true, recurses := true, named := ["unicode/utf8.first", "unicode/utf8.acceptRanges", "internal/bytealg.MaxLen"], apart := false, laid := [("unicode/utf8.acceptRanges", laid_unicode_utf8_acceptRanges), ("unicode/utf8.first", laid_unicode_utf8_first)], narrowed := true }
def PermitOrderUptoSaid : Prop := permitOrderUptoRow.holds Tryz.pinned (OpenSpec.upto permitOrderSpec)

end Rows
end Go.Proofs.YtdgacfkgodbajaaGreatDoor
