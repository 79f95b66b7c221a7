/-
  NARROWER THAN 'FOR EVERY INPUT', by the rows' own cells (each row's printed sentence says how): BayChecks: laid · BayLong: laid · BayFits: laid · BayAreas: laid · BayApart: laid · BayGrows: laid.
  DERIVED. THE GIVEN ROWS OF THIS SEAT. 6 by the template 'for every input the law returns true; each argument reads behind the call as it read before'; 0 by the template 'total and deterministic' (their statements: YtjlblefjcapljaaDoorTotals.lean).
  GIVEN WITH THE SEED: the statements are not yours to turn. If you find one false, say at which input.
  Laid BY PROGRAM, IN A SANDBOX (cutbox-rows.mjs): the forced cells as the released guide's own fill.sh prints them over the translation 6f64fdb3d61ef978… (all of the seat's roots in one cut). By AI agents, Wed Nov 11 2026. No macro, syntax, notation, axiom, sorry.
-/
import Derived.Test.YtjlblefjcapljaaDoorChecked
import GoSem.PinnedTables
import GoSem.Claim
import GoSem.ClaimJoined
import GoSem.ClaimMapViews
import Derived.JoinedTies
import Derived.KernelRfl
namespace Go.Proofs.YtjlblefjcapljaaDoor
/- THE CELL 'sum', in the pinned program and in every row, IS THE sha256 OF THE DUMP (.gsa) THAT YtjlblefjcapljaaDoorProg.lean LOADS. Nothing in Lean hashes anything: it is a label: what it is worth is what the hold of that sum in a sandbox is worth. -/
noncomputable def Tryd.pinned : Pinned := { name := "ytjlblefjcapljaadoor", sum := "6f64fdb3d61ef978f37c7f9c45b59c878f1a6259f5ec9e2f50e5e3788cf08c01", checked := Tryd.checked }
namespace Rows
def none {H : Type} : Left H := { results := [], args := [] }

/- WHAT THE LISTED PACKAGE-LEVEL VARIABLES READ AS WHEN THE CALL BEGINS. Each datum BY PROGRAM (the guide's laid-datum.mjs) off the statement by which the dump's own 'gosem.cut.vars' lays the variable. In a bare row this is a premise. The card (YtjlblefjcapljaaDoorCards.lean) ties it to the program's text. -/
def laid_unicode_utf8_acceptRanges {H : Type} : DataW H := .agg [.agg [.lit (.int .u8 128), .lit (.int .u8 191)], .agg [.lit (.int .u8 160), .lit (.int .u8 191)], .agg [.lit (.int .u8 128), .lit (.int .u8 159)], .agg [.lit (.int .u8 144), .lit (.int .u8 191)], .agg [.lit (.int .u8 128), .lit (.int .u8 143)], .agg [.lit (.int .u8 0), .lit (.int .u8 0)], .agg [.lit (.int .u8 0), .lit (.int .u8 0)], .agg [.lit (.int .u8 0), .lit (.int .u8 0)], .agg [.lit (.int .u8 0), .lit (.int .u8 0)], .agg [.lit (.int .u8 0), .lit (.int .u8 0)], .agg [.lit (.int .u8 0), .lit (.int .u8 0)], .agg [.lit (.int .u8 0), .lit (.int .u8 0)], .agg [.lit (.int .u8 0), .lit (.int .u8 0)], .agg [.lit (.int .u8 0), .lit (.int .u8 0)], .agg [.lit (.int .u8 0), .lit (.int .u8 0)], .agg [.lit (.int .u8 0), .lit (.int .u8 0)]]
/-- One of Go's own tables, pinned by name: the form's constant. -/
def laid_unicode_utf8_first : DataW Unit := Go.Pinned.utf8First

/-- 'shipyardlaw41.BayChecks': WHATEVER THE INPUT: true; the input reads as it did. -/
def bayChecksSpec : ChangeSpec := { name := "bayChecks", fn := fun _ => fun
  | [d1, d2] => { results := [.lit (.bool true)], args := [d1, d2] }
  | _ => none }
def bayChecksRow : OpenClaim := { program := "ytjlblefjcapljaadoor", sum := "6f64fdb3d61ef978f37c7f9c45b59c878f1a6259f5ec9e2f50e5e3788cf08c01", func := "shipyard/shipyardlaw41.BayChecks", spec := "bayChecks", inPlace := ["internal/bytealg.CountString", "internal/bytealg.IndexByteString", "internal/bytealg.IndexString"], unfollowed := true, recurses := true, named := ["unicode/utf8.first", "unicode/utf8.acceptRanges", "internal/bytealg.MaxLen"], apart := false, laid := [("unicode/utf8.acceptRanges", laid_unicode_utf8_acceptRanges), ("unicode/utf8.first", laid_unicode_utf8_first)] }
def BayChecksSaid : Prop := bayChecksRow.holds Tryd.pinned (OpenSpec.ofChange bayChecksSpec)

/-- ITS FALSE NEIGHBOUR: 'it returns false'. Refute it at one input. -/
def bayChecksWrong : ChangeSpec := { name := "bayChecks", fn := fun _ => fun
  | [d1, d2] => { results := [.lit (.bool false)], args := [d1, d2] }
  | _ => none }
def BayChecksWrongFalsely : Prop := bayChecksRow.holds Tryd.pinned (OpenSpec.ofChange bayChecksWrong)

/-- 'shipyardlaw41.BayLong': WHATEVER THE INPUT: true; the input reads as it did. -/
def bayLongSpec : ChangeSpec := { name := "bayLong", fn := fun _ => fun
  | [d1, d2, d3] => { results := [.lit (.bool true)], args := [d1, d2, d3] }
  | _ => none }
def bayLongRow : OpenClaim := { program := "ytjlblefjcapljaadoor", sum := "6f64fdb3d61ef978f37c7f9c45b59c878f1a6259f5ec9e2f50e5e3788cf08c01", func := "shipyard/shipyardlaw41.BayLong", spec := "bayLong", inPlace := ["internal/bytealg.CountString", "internal/bytealg.IndexByteString", "internal/bytealg.IndexString"], unfollowed := true, recurses := true, named := ["unicode/utf8.first", "unicode/utf8.acceptRanges", "internal/bytealg.MaxLen"], apart := false, laid := [("unicode/utf8.acceptRanges", laid_unicode_utf8_acceptRanges), ("unicode/utf8.first", laid_unicode_utf8_first)] }
def BayLongSaid : Prop := bayLongRow.holds Tryd.pinned (OpenSpec.ofChange bayLongSpec)

/-- ITS FALSE NEIGHBOUR: 'it returns false'. Refute it at one input. -/
def bayLongWrong : ChangeSpec := { name := "bayLong", fn := fun _ => fun
  | [d1, d2, d3] => { results := [.lit (.bool false)], args := [d1, d2, d3] }
  | _ => none }
def BayLongWrongFalsely : Prop := bayLongRow.holds Tryd.pinned (OpenSpec.ofChange bayLongWrong)

/-- 'shipyardlaw41.BayFits': WHATEVER THE INPUT: true; the input reads as it did. -/
def bayFitsSpec : ChangeSpec := { name := "bayFits", fn := fun _ => fun
  | [d1, d2, d3] => { results := [.lit (.bool true)], args := [d1, d2, d3] }
  | _ => none }
def bayFitsRow : OpenClaim := { program := "ytjlblefjcapljaadoor", sum := "6f64fdb3d61ef978f37c7f9c45b59c878f1a6259f5ec9e2f50e5e3788cf08c01", func := "shipyard/shipyardlaw41.BayFits", spec := "bayFits", inPlace := ["internal/bytealg.CountString", "internal/bytealg.IndexByteString", "internal/bytealg.IndexString"], unfollowed := true, recurses := true, named := ["unicode/utf8.first", "unicode/utf8.acceptRanges", "internal/bytealg.MaxLen"], apart := false, laid := [("unicode/utf8.acceptRanges", laid_unicode_utf8_acceptRanges), ("unicode/utf8.first", laid_unicode_utf8_first)] }
def BayFitsSaid : Prop := bayFitsRow.holds Tryd.pinned (OpenSpec.ofChange bayFitsSpec)

/-- ITS FALSE NEIGHBOUR: 'it returns false'. Refute it at one input. -/
def bayFitsWrong : ChangeSpec := { name := "bayFits", fn := fun _ => fun
  | [d1, d2, d3] => { results := [.lit (.bool false)], args := [d1, d2, d3] }
  | _ => none }
def BayFitsWrongFalsely : Prop := bayFitsRow.holds Tryd.pinned (OpenSpec.ofChange bayFitsWrong)

/-- 'shipyardlaw41.BayAreas': WHATEVER THE INPUT: true; the input reads as it did. -/
def bayAreasSpec : ChangeSpec := { name := "bayAreas", fn := fun _ => fun
  | [d1, d2, d3] => { results := [.lit (.bool true)], args := [d1, d2, d3] }
  | _ => none }
def bayAreasRow : OpenClaim := { program := "ytjlblefjcapljaadoor", sum := "6f64fdb3d61ef978f37c7f9c45b59c878f1a6259f5ec9e2f50e5e3788cf08c01", func := "shipyard/shipyardlaw41.BayAreas", spec := "bayAreas", inPlace := ["internal/bytealg.CountString", "internal/bytealg.IndexByteString", "internal/bytealg.IndexString"], unfollowed := true, recurses := true, named := ["unicode/utf8.first", "unicode/utf8.acceptRanges", "internal/bytealg.MaxLen"], apart := false, laid := [("unicode/utf8.acceptRanges", laid_unicode_utf8_acceptRanges), ("unicode/utf8.first", laid_unicode_utf8_first)] }
def BayAreasSaid : Prop := bayAreasRow.holds Tryd.pinned (OpenSpec.ofChange bayAreasSpec)

/-- ITS FALSE NEIGHBOUR: 'it returns false'. Refute it at one input. -/
def bayAreasWrong : ChangeSpec := { name := "bayAreas", fn := fun _ => fun
  | [d1, d2, d3] => { results := [.lit (.bool false)], args := [d1, d2, d3] }
  | _ => none }
def BayAreasWrongFalsely : Prop := bayAreasRow.holds Tryd.pinned (OpenSpec.ofChange bayAreasWrong)

/-- 'shipyardlaw41.BayApart': WHATEVER THE INPUT: true; the input reads as it did. -/
def bayApartSpec : ChangeSpec := { name := "bayApart", fn := fun _ => fun
  | [d1, d2, d3] => { results := [.lit (.bool true)], args := [d1, d2, d3] }
  | _ => none }
def bayApartRow : OpenClaim := { program := "ytjlblefjcapljaadoor", sum := "6f64fdb3d61ef978f37c7f9c45b59c878f1a6259f5ec9e2f50e5e3788cf08c01", func := "shipyard/shipyardlaw41.BayApart", spec := "bayApart", inPlace := ["internal/bytealg.CountString", "internal/bytealg.IndexByteString", "internal/bytealg.IndexString"], unfollowed := true, recurses := true, named := ["unicode/utf8.first", "unicode/utf8.acceptRanges", "internal/bytealg.MaxLen"], apart := false, laid := [("unicode/utf8.acceptRanges", laid_unicode_utf8_acceptRanges), ("unicode/utf8.first", laid_unicode_utf8_first)] }
def BayApartSaid : Prop := bayApartRow.holds Tryd.pinned (OpenSpec.ofChange bayApartSpec)

/-- ITS FALSE NEIGHBOUR: 'it returns false'. Refute it at one input. -/
def bayApartWrong : ChangeSpec := { name := "bayApart", fn := fun _ => fun
  | [d1, d2, d3] => { results := [.lit (.bool false)], args := [d1, d2, d3] }
  | _ => none }
def BayApartWrongFalsely : Prop := bayApartRow.holds Tryd.pinned (OpenSpec.ofChange bayApartWrong)

/-- 'shipyardlaw41.BayGrows': WHATEVER THE INPUT: true; the input reads as it did. -/
def bayGrowsSpec : ChangeSpec := { name := "bayGrows", fn := fun _ => fun
  | [d1, d2, d3] => { results := [.lit (.bool true)], args := [d1, d2, d3] }
  | _ => none }
def bayGrowsRow : OpenClaim := { program := "ytjlblefjcapljaadoor", sum := "6f64fdb3d61ef978f37c7f9c45b59c878f1a6259f5ec9e2f50e5e3788cf08c01", func := "shipyard/shipyardlaw41.BayGrows", spec := "bayGrows", inPlace := ["internal/bytealg.CountString", "internal/bytealg.IndexByteString", "internal/bytealg.IndexString"], unfollowed := true, recurses := true, named := ["unicode/utf8.first", "unicode/utf8.acceptRanges", "internal/bytealg.MaxLen"], apart := false, laid := [("unicode/utf8.acceptRanges", laid_unicode_utf8_acceptRanges), ("unicode/utf8.first", laid_unicode_utf8_first)] }
def BayGrowsSaid : Prop := bayGrowsRow.holds Tryd.pinned (OpenSpec.ofChange bayGrowsSpec)

/-- ITS FALSE NEIGHBOUR: 'it returns false'. Refute it at one input. -/
def bayGrowsWrong : ChangeSpec := { name := "bayGrows", fn := fun _ => fun
  | [d1, d2, d3] => { results := [.lit (.bool false)], args := [d1, d2, d3] }
  | _ => none }
def BayGrowsWrongFalsely : Prop := bayGrowsRow.holds Tryd.pinned (OpenSpec.ofChange bayGrowsWrong)

/- THE SECOND FORM. 'bulk': how many values and letters a reading holds, each counted each time it is reached (what is shared counts as often as it is met; a slice's spare places count too). A statement '..UptoSaid' is the law's where the arguments, and the package variables that the reading takes, are together of bulk at most 1048576: NARROWER than '..Said'. Prove '..Said' where nothing that the law and all that it calls make is longer than what came in: it says more and counts as full. Else prove '..UptoSaid'. A law counts once. -/
mutual
def uptoBulk {H : Type} : DataW H → Nat
  | .lit (.string bytes) => bytes.length + 1
  | .lit _ => 1
  | .nil => 1
  | .ptr d => uptoBulk d + 1
  | .slice elems spare => uptoBulkAll elems + uptoBulkAll spare + 1
  | .agg parts => uptoBulkAll parts + 1
  | .iface _ d => uptoBulk d + 1
  | .map entries => uptoBulkEntries entries + 1
  | .held _ => 1
def uptoBulkAll {H : Type} : List (DataW H) → Nat
  | [] => 0
  | d :: r => uptoBulk d + uptoBulkAll r
def uptoBulkEntries {H : Type} : List (Lit × DataW H) → Nat
  | [] => 0
  | x :: r => uptoBulkEntry x + uptoBulkEntries r
def uptoBulkEntry {H : Type} : Lit × DataW H → Nat
  | (.string bytes, d) => bytes.length + uptoBulk d + 1
  | (_, d) => uptoBulk d + 1
 end
def uptoSmall : (H : Type) → List (DataW H) → Bool := fun _ ds => decide (uptoBulkAll ds ≤ 1048576)
def OpenSpec.upto (s : _root_.Go.ChangeSpec) : _root_.Go.OpenSpec := { _root_.Go.OpenSpec.ofChange s with cond := some uptoSmall }

/-- 'shipyardlaw41.BayChecks', WHERE WHAT IT READS IS OF BULK AT MOST 1048576: true; the input reads as it did. -/
def bayChecksUptoRow : OpenClaim := { program := "ytjlblefjcapljaadoor", sum := "6f64fdb3d61ef978f37c7f9c45b59c878f1a6259f5ec9e2f50e5e3788cf08c01", func := "shipyard/shipyardlaw41.BayChecks", spec := "bayChecks", inPlace := ["internal/bytealg.CountString", "internal/bytealg.IndexByteString", "internal/bytealg.IndexString"], unfollowed := true, recurses := true, named := ["unicode/utf8.first", "unicode/utf8.acceptRanges", "internal/bytealg.MaxLen"], apart := false, laid := [("unicode/utf8.acceptRanges", laid_unicode_utf8_acceptRanges), ("unicode/utf8.first", laid_unicode_utf8_first)], narrowed := true }
def BayChecksUptoSaid : Prop := bayChecksUptoRow.holds Tryd.pinned (OpenSpec.upto bayChecksSpec)

/-- 'shipyardlaw41.BayLong', WHERE WHAT IT READS IS OF BULK AT MOST 1048576: true; the input reads as it did. -/
def bayLongUptoRow : OpenClaim := { program := "ytjlblefjcapljaadoor", sum := "6f64fdb3d61ef978f37c7f9c45b59c878f1a6259f5ec9e2f50e5e3788cf08c01", func := "shipyard/shipyardlaw41.BayLong", spec := "bayLong", inPlace := ["internal/bytealg.CountString", "internal/bytealg.IndexByteString", "internal/bytealg.IndexString"], unfollowed := true, recurses := true, named := ["unicode/utf8.first", "unicode/utf8.acceptRanges", "internal/bytealg.MaxLen"], apart := false, laid := [("unicode/utf8.acceptRanges", laid_unicode_utf8_acceptRanges), ("unicode/utf8.first", laid_unicode_utf8_first)], narrowed := true }
def BayLongUptoSaid : Prop := bayLongUptoRow.holds Tryd.pinned (OpenSpec.upto bayLongSpec)

/-- 'shipyardlaw41.BayFits', WHERE WHAT IT READS IS OF BULK AT MOST 1048576: true; the input reads as it did. -/
def bayFitsUptoRow : OpenClaim := { program := "ytjlblefjcapljaadoor", sum := "6f64fdb3d61ef978f37c7f9c45b59c878f1a6259f5ec9e2f50e5e3788cf08c01", func := "shipyard/shipyardlaw41.BayFits", spec := "bayFits", inPlace := ["internal/bytealg.CountString", "internal/bytealg.IndexByteString", "internal/bytealg.IndexString"], unfollowed := true, recurses := true, named := ["unicode/utf8.first", "unicode/utf8.acceptRanges", "internal/bytealg.MaxLen"], apart := false, laid := [("unicode/utf8.acceptRanges", laid_unicode_utf8_acceptRanges), ("unicode/utf8.first", laid_unicode_utf8_first)], narrowed := true }
def BayFitsUptoSaid : Prop := bayFitsUptoRow.holds Tryd.pinned (OpenSpec.upto bayFitsSpec)

/-- 'shipyardlaw41.BayAreas', WHERE WHAT IT READS IS OF BULK AT MOST 1048576: true; the input reads as it did. -/
def bayAreasUptoRow : OpenClaim := { program := "ytjlblefjcapljaadoor", sum := "6f64fdb3d61ef978f37c7f9c45b59c878f1a6259f5ec9e2f50e5e3788cf08c01", func := "shipyard/shipyardlaw41.BayAreas", spec := "bayAreas", inPlace := ["internal/bytealg.CountString", "internal/bytealg.IndexByteString", "internal/bytealg.IndexString"], unfollowed := true, recurses := true, named := ["unicode/utf8.first", "unicode/utf8.acceptRanges", "internal/bytealg.MaxLen"], apart := false, laid := [("unicode/utf8.acceptRanges", laid_unicode_utf8_acceptRanges), ("unicode/utf8.first", laid_unicode_utf8_first)], narrowed := true }
def BayAreasUptoSaid : Prop := bayAreasUptoRow.holds Tryd.pinned (OpenSpec.upto bayAreasSpec)

/-- 'shipyardlaw41.BayApart', WHERE WHAT IT READS IS OF BULK AT MOST 1048576: true; the input reads as it did. -/
def bayApartUptoRow : OpenClaim := { program := "ytjlblefjcapljaadoor", sum := "6f64fdb3d61ef978f37c7f9c45b59c878f1a6259f5ec9e2f50e5e3788cf08c01", func := "shipyard/shipyardlaw41.BayApart", spec := "bayApart", inPlace := ["internal/bytealg.CountString", "internal/bytealg.IndexByteString", "internal/bytealg.IndexString"], unfollowed := true, recurses := true, named := ["unicode/utf8.first", "unicode/utf8.acceptRanges", "internal/bytealg.MaxLen"], apart := false, laid := [("unicode/utf8.acceptRanges", laid_unicode_utf8_acceptRanges), ("unicode/utf8.first", laid_unicode_utf8_first)], narrowed := true }
def BayApartUptoSaid : Prop := bayApartUptoRow.holds Tryd.pinned (OpenSpec.upto bayApartSpec)

/-- 'shipyardlaw41.BayGrows', WHERE WHAT IT READS IS OF BULK AT MOST 1048576: true; the input reads as it did. -/
def bayGrowsUptoRow : OpenClaim := { program := "ytjlblefjcapljaadoor", sum := "6f64fdb3d61ef978f37c7f9c45b59c878f1a6259f5ec9e2f50e5e3788cf08c01", func := "shipyard/shipyardlaw41.BayGrows", spec := "bayGrows", inPlace := ["internal/bytealg.CountString", "internal/bytealg.IndexByteString", "internal/bytealg.IndexString"], unfollowed := true, recurses := true, named := ["unicode/utf8.first", "unicode/utf8.acceptRanges", "internal/bytealg.MaxLen"], apart := false, laid := [("unicode/utf8.acceptRanges", laid_unicode_utf8_acceptRanges), ("unicode/utf8.first", laid_unicode_utf8_first)], narrowed := true }
def BayGrowsUptoSaid : Prop := bayGrowsUptoRow.holds Tryd.pinned (OpenSpec.upto bayGrowsSpec)

end Rows
end Go.Proofs.YtjlblefjcapljaaDoor
