/-
  NARROWER THAN 'FOR EVERY INPUT', by the rows' own cells (each row's printed sentence says how): DockChecks: laid · DockTimes: laid · DockFits: laid · DockDelays: laid · DockFirst: laid · DockTogether: laid · DockLater: laid.
  DERIVED. THE GIVEN ROWS OF THIS SEAT. 7 by the template 'for every input the law returns true; each argument reads behind the call as it read before'; 0 by the template 'total and deterministic' (their statements: YtadpljebgkfeoaaGreatDoorTotals.lean).
  GIVEN WITH THE SEED: the statements are not yours to turn. If you find one false, say at which input.
  Laid BY PROGRAM, IN A SANDBOX (cutbox-rows.mjs): the forced cells as the released guide's own fill.sh prints them over the translation 7852963e1704fee9… (all of the seat's roots in one cut). By AI agents, Wed Nov 11 2026. No macro, syntax, notation, axiom, sorry.
-/
import Derived.Test.YtadpljebgkfeoaaGreatDoorChecked
import GoSem.PinnedTables
import GoSem.Claim
import GoSem.ClaimJoined
import GoSem.ClaimMapViews
import Derived.JoinedTies
import Derived.KernelRfl
namespace Go.Proofs.YtadpljebgkfeoaaGreatDoor
/- THE CELL 'sum', in the pinned program and in every row, IS THE sha256 OF THE DUMP (.gsa) THAT YtadpljebgkfeoaaGreatDoorProg.lean LOADS. Nothing in Lean hashes anything: it is a label: what it is worth is what the hold of that sum in a sandbox is worth. -/
noncomputable def Tryz.pinned : Pinned := { name := "ytadpljebgkfeoaagreatdoor", sum := "7852963e1704fee961f14139c06226587ec63ae904afb897cae50104026e8263", checked := Tryz.checked }
namespace Rows
def none {H : Type} : Left H := { results := [], args := [] }

/- WHAT THE LISTED PACKAGE-LEVEL VARIABLES READ AS WHEN THE CALL BEGINS. Each datum BY PROGRAM (the guide's laid-datum.mjs) off the statement by which the dump's own 'gosem.cut.vars' lays the variable. In a bare row this is a premise. The card (YtadpljebgkfeoaaGreatDoorCards.lean) ties it to the program's text. -/
def laid_unicode_utf8_acceptRanges {H : Type} : DataW H := .agg [.agg [.lit (.int .u8 128), .lit (.int .u8 191)], .agg [.lit (.int .u8 160), .lit (.int .u8 191)], .agg [.lit (.int .u8 128), .lit (.int .u8 159)], .agg [.lit (.int .u8 144), .lit (.int .u8 191)], .agg [.lit (.int .u8 128), .lit (.int .u8 143)], .agg [.lit (.int .u8 0), .lit (.int .u8 0)], .agg [.lit (.int .u8 0), .lit (.int .u8 0)], .agg [.lit (.int .u8 0), .lit (.int .u8 0)], .agg [.lit (.int .u8 0), .lit (.int .u8 0)], .agg [.lit (.int .u8 0), .lit (.int .u8 0)], .agg [.lit (.int .u8 0), .lit (.int .u8 0)], .agg [.lit (.int .u8 0), .lit (.int .u8 0)], .agg [.lit (.int .u8 0), .lit (.int .u8 0)], .agg [.lit (.int .u8 0), .lit (.int .u8 0)], .agg [.lit (.int .u8 0), .lit (.int .u8 0)], .agg [.lit (.int .u8 0), .lit (.int .u8 0)]]
/-- One of Go's own tables, pinned by name: the form's constant. -/
def laid_unicode_utf8_first : DataW Unit := Go.Pinned.utf8First

/-- 'shipyardlaw53.DockChecks': WHATEVER THE INPUT: true; the input reads as it did. -/
def dockChecksSpec : ChangeSpec := { name := "dockChecks", fn := fun _ => fun
  | [d1, d2] => { results := [.lit (.bool true)], args := [d1, d2] }
  | _ => none }
def dockChecksRow : OpenClaim := { program := "ytadpljebgkfeoaagreatdoor", sum := "7852963e1704fee961f14139c06226587ec63ae904afb897cae50104026e8263", func := "shipyard/shipyardlaw53.DockChecks", spec := "dockChecks", inPlace := ["internal/bytealg.CountString", "internal/bytealg.IndexByteString", "internal/bytealg.IndexString"], unfollowed := true, recurses := true, named := ["unicode/utf8.first", "unicode/utf8.acceptRanges", "internal/bytealg.MaxLen"], apart := false, laid := [("unicode/utf8.acceptRanges", laid_unicode_utf8_acceptRanges), ("unicode/utf8.first", laid_unicode_utf8_first)] }
def DockChecksSaid : Prop := dockChecksRow.holds Tryz.pinned (OpenSpec.ofChange dockChecksSpec)

/-- ITS FALSE NEIGHBOUR: 'it returns false'. Refute it at one input. -/
def dockChecksWrong : ChangeSpec := { name := "dockChecks", fn := fun _ => fun
  | [d1, d2] => { results := [.lit (.bool false)], args := [d1, d2] }
  | _ => none }
def DockChecksWrongFalsely : Prop := dockChecksRow.holds Tryz.pinned (OpenSpec.ofChange dockChecksWrong)

/-- 'shipyardlaw53.DockTimes': WHATEVER THE INPUT: true; the input reads as it did. -/
def dockTimesSpec : ChangeSpec := { name := "dockTimes", fn := fun _ => fun
  | [d1, d2, d3] => { results := [.lit (.bool true)], args := [d1, d2, d3] }
  | _ => none }
def dockTimesRow : OpenClaim := { program := "ytadpljebgkfeoaagreatdoor", sum := "7852963e1704fee961f14139c06226587ec63ae904afb897cae50104026e8263", func := "shipyard/shipyardlaw53.DockTimes", spec := "dockTimes", inPlace := ["internal/bytealg.CountString", "internal/bytealg.IndexByteString", "internal/bytealg.IndexString"], unfollowed := true, recurses := true, named := ["unicode/utf8.first", "unicode/utf8.acceptRanges", "internal/bytealg.MaxLen"], apart := false, laid := [("unicode/utf8.acceptRanges", laid_unicode_utf8_acceptRanges), ("unicode/utf8.first", laid_unicode_utf8_first)] }
def DockTimesSaid : Prop := dockTimesRow.holds Tryz.pinned (OpenSpec.ofChange dockTimesSpec)

/-- ITS FALSE NEIGHBOUR: 'it returns false'. Refute it at one input. -/
def dockTimesWrong : ChangeSpec := { name := "dockTimes", fn := fun _ => fun
  | [d1, d2, d3] => { results := [.lit (.bool false)], args := [d1, d2, d3] }
  | _ => none }
def DockTimesWrongFalsely : Prop := dockTimesRow.holds Tryz.pinned (OpenSpec.ofChange dockTimesWrong)

/-- 'shipyardlaw53.DockFits': WHATEVER THE INPUT: true; the input reads as it did. -/
def dockFitsSpec : ChangeSpec := { name := "dockFits", fn := fun _ => fun
  | [d1, d2, d3] => { results := [.lit (.bool true)], args := [d1, d2, d3] }
  | _ => none }
def dockFitsRow : OpenClaim := { program := "ytadpljebgkfeoaagreatdoor", sum := "7852963e1704fee961f14139c06226587ec63ae904afb897cae50104026e8263", func := "shipyard/shipyardlaw53.DockFits", spec := "dockFits", inPlace := ["internal/bytealg.CountString", "internal/bytealg.IndexByteString", "internal/bytealg.IndexString"], unfollowed := true, recurses := true, named := ["unicode/utf8.first", "unicode/utf8.acceptRanges", "internal/bytealg.MaxLen"], apart := false, laid := [("unicode/utf8.acceptRanges", laid_unicode_utf8_acceptRanges), ("unicode/utf8.first", laid_unicode_utf8_first)] }
def DockFitsSaid : Prop := dockFitsRow.holds Tryz.pinned (OpenSpec.ofChange dockFitsSpec)

/-- ITS FALSE NEIGHBOUR: 'it returns false'. Refute it at one input. -/
def dockFitsWrong : ChangeSpec := { name := "dockFits", fn := fun _ => fun
  | [d1, d2, d3] => { results := [.lit (.bool false)], args := [d1, d2, d3] }
  | _ => none }
def DockFitsWrongFalsely : Prop := dockFitsRow.holds Tryz.pinned (OpenSpec.ofChange dockFitsWrong)

/-- 'shipyardlaw53.DockDelays': WHATEVER THE INPUT: true; the input reads as it did. -/
def dockDelaysSpec : ChangeSpec := { name := "dockDelays", fn := fun _ => fun
  | [d1, d2, d3] => { results := [.lit (.bool true)], args := [d1, d2, d3] }
  | _ => none }
def dockDelaysRow : OpenClaim := { program := "ytadpljebgkfeoaagreatdoor", sum := "7852963e1704fee961f14139c06226587ec63ae904afb897cae50104026e8263", func := "shipyard/shipyardlaw53.DockDelays", spec := "dockDelays", inPlace := ["internal/bytealg.CountString", "internal/bytealg.IndexByteString", "internal/bytealg.IndexString"], unfollowed := true, recurses := true, named := ["unicode/utf8.first", "unicode/utf8.acceptRanges", "internal/bytealg.MaxLen"], apart := false, laid := [("unicode/utf8.acceptRanges", laid_unicode_utf8_acceptRanges), ("unicode/utf8.first", laid_unicode_utf8_first)] }
def DockDelaysSaid : Prop := dockDelaysRow.holds Tryz.pinned (OpenSpec.ofChange dockDelaysSpec)

/-- ITS FALSE NEIGHBOUR: 'it returns false'. Refute it at one input. -/
def dockDelaysWrong : ChangeSpec := { name := "dockDelays", fn := fun _ => fun
  | [d1, d2, d3] => { results := [.lit (.bool false)], args := [d1, d2, d3] }
  | _ => none }
def DockDelaysWrongFalsely : Prop := dockDelaysRow.holds Tryz.pinned (OpenSpec.ofChange dockDelaysWrong)

/-- 'shipyardlaw53.DockFirst': WHATEVER THE INPUT: true; the input reads as it did. -/
def dockFirstSpec : ChangeSpec := { name := "dockFirst", fn := fun _ => fun
  | [d1, d2, d3] => { results := [.lit (.bool true)], args := [d1, d2, d3] }
  | _ => none }
def dockFirstRow : OpenClaim := { program := "ytadpljebgkfeoaagreatdoor", sum := "7852963e1704fee961f14139c06226587ec63ae904afb897cae50104026e8263", func := "shipyard/shipyardlaw53.DockFirst", spec := "dockFirst", inPlace := ["internal/bytealg.CountString", "internal/bytealg.IndexByteString", "internal/bytealg.IndexString"], unfollowed := true, recurses := true, named := ["unicode/utf8.first", "unicode/utf8.acceptRanges", "internal/bytealg.MaxLen"], apart := false, laid := [("unicode/utf8.acceptRanges", laid_unicode_utf8_acceptRanges), ("unicode/utf8.first", laid_unicode_utf8_first)] }
def DockFirstSaid : Prop := dockFirstRow.holds Tryz.pinned (OpenSpec.ofChange dockFirstSpec)

/-- ITS FALSE NEIGHBOUR: 'it returns false'. Refute it at one input. -/
def dockFirstWrong : ChangeSpec := { name := "dockFirst", fn := fun _ => fun
  | [d1, d2, d3] => { results := [.lit (.bool false)], args := [d1, d2, d3] }
  | _ => none }
def DockFirstWrongFalsely : Prop := dockFirstRow.holds Tryz.pinned (OpenSpec.ofChange dockFirstWrong)

/-- 'shipyardlaw53.DockTogether': WHATEVER THE INPUT: true; the input reads as it did. -/
def dockTogetherSpec : ChangeSpec := { name := "dockTogether", fn := fun _ => fun
  | [d] => { results := [.lit (.bool true)], args := [d] }
  | _ => none }
def dockTogetherRow : OpenClaim := { program := "ytadpljebgkfeoaagreatdoor", sum := "7852963e1704fee961f14139c06226587ec63ae904afb897cae50104026e8263", func := "shipyard/shipyardlaw53.DockTogether", spec := "dockTogether", inPlace := ["internal/bytealg.CountString", "internal/bytealg.IndexByteString", "internal/bytealg.IndexString"], unfollowed := true, recurses := true, named := ["unicode/utf8.first", "unicode/utf8.acceptRanges", "internal/bytealg.MaxLen"], apart := false, laid := [("unicode/utf8.acceptRanges", laid_unicode_utf8_acceptRanges), ("unicode/utf8.first", laid_unicode_utf8_first)] }
def DockTogetherSaid : Prop := dockTogetherRow.holds Tryz.pinned (OpenSpec.ofChange dockTogetherSpec)

/-- ITS FALSE NEIGHBOUR: 'it returns false'. Refute it at one input. -/
def dockTogetherWrong : ChangeSpec := { name := "dockTogether", fn := fun _ => fun
  | [d] => { results := [.lit (.bool false)], args := [d] }
  | _ => none }
def DockTogetherWrongFalsely : Prop := dockTogetherRow.holds Tryz.pinned (OpenSpec.ofChange dockTogetherWrong)

/-- 'shipyardlaw53.DockLater': WHATEVER THE INPUT: true; the input reads as it did. -/
def dockLaterSpec : ChangeSpec := { name := "dockLater", fn := fun _ => fun
  | [d1, d2, d3] => { results := [.lit (.bool true)], args := [d1, d2, d3] }
  | _ => none }
def dockLaterRow : OpenClaim := { program := "ytadpljebgkfeoaagreatdoor", sum := "7852963e1704fee961f14139c06226587ec63ae904afb897cae50104026e8263", func := "shipyard/shipyardlaw53.DockLater", spec := "dockLater", inPlace := ["internal/bytealg.CountString", "internal/bytealg.IndexByteString", "internal/bytealg.IndexString"], unfollowed := true, recurses := true, named := ["unicode/utf8.first", "unicode/utf8.acceptRanges", "internal/bytealg.MaxLen"], apart := false, laid := [("unicode/utf8.acceptRanges", laid_unicode_utf8_acceptRanges), ("unicode/utf8.first", laid_unicode_utf8_first)] }
def DockLaterSaid : Prop := dockLaterRow.holds Tryz.pinned (OpenSpec.ofChange dockLaterSpec)

/-- ITS FALSE NEIGHBOUR: 'it returns false'. Refute it at one input. -/
def dockLaterWrong : ChangeSpec := { name := "dockLater", fn := fun _ => fun
  | [d1, d2, d3] => { results := [.lit (.bool false)], args := [d1, d2, d3] }
  | _ => none }
def DockLaterWrongFalsely : Prop := dockLaterRow.holds Tryz.pinned (OpenSpec.ofChange dockLaterWrong)

/- THE SECOND FORM. 'bulk': how many values and letters a reading holds, each counted each time it is reached (what is shared counts as often as it is met; a slice's spare places count too). A statement '..UptoSaid' is the law's where the arguments, and the package variables that the reading takes, are together of bulk at most 1048576: NARROWER than '..Said'. Prove '..Said' where nothing that the law and all that it calls make is longer than what came in: it says more and counts as full. Else prove '..UptoSaid'. A law counts once. -/
mutual
def uptoBulk {H : Type} : DataW H → Nat
  | .lit (.string bytes) => bytes.length + 1
  | .lit _ => 1
  | .nil => 1
  | .ptr d => uptoBulk d + 1
  | .slice elems spare => uptoBulkAll elems + uptoBulkAll spare + 1
  | .agg parts => uptoBulkAll parts + 1
  | .iface _ d => uptoBulk d + 1
  | .map entries => uptoBulkEntries entries + 1
  | .held _ => 1
def uptoBulkAll {H : Type} : List (DataW H) → Nat
  | [] => 0
  | d :: r => uptoBulk d + uptoBulkAll r
def uptoBulkEntries {H : Type} : List (Lit × DataW H) → Nat
  | [] => 0
  | x :: r => uptoBulkEntry x + uptoBulkEntries r
def uptoBulkEntry {H : Type} : Lit × DataW H → Nat
  | (.string bytes, d) => bytes.length + uptoBulk d + 1
  | (_, d) => uptoBulk d + 1
 end
def uptoSmall : (H : Type) → List (DataW H) → Bool := fun _ ds => decide (uptoBulkAll ds ≤ 1048576)
def OpenSpec.upto (s : _root_.Go.ChangeSpec) : _root_.Go.OpenSpec := { _root_.Go.OpenSpec.ofChange s with cond := some uptoSmall }

/-- 'shipyardlaw53.DockChecks', WHERE WHAT IT READS IS OF BULK AT MOST 1048576: true; the input reads as it did. -/
def dockChecksUptoRow : OpenClaim := { program := "ytadpljebgkfeoaagreatdoor", sum := "7852963e1704fee961f14139c06226587ec63ae904afb897cae50104026e8263", func := "shipyard/shipyardlaw53.DockChecks", spec := "dockChecks", inPlace := ["internal/bytealg.CountString", "internal/bytealg.IndexByteString", "internal/bytealg.IndexString"], unfollowed := true, recurses := true, named := ["unicode/utf8.first", "unicode/utf8.acceptRanges", "internal/bytealg.MaxLen"], apart := false, laid := [("unicode/utf8.acceptRanges", laid_unicode_utf8_acceptRanges), ("unicode/utf8.first", laid_unicode_utf8_first)], narrowed := true }
def DockChecksUptoSaid : Prop := dockChecksUptoRow.holds Tryz.pinned (OpenSpec.upto dockChecksSpec)

/-- 'shipyardlaw53.DockTimes', WHERE WHAT IT READS IS OF BULK AT MOST 1048576: true; the input reads as it did. -/
def dockTimesUptoRow : OpenClaim := { program := "ytadpljebgkfeoaagreatdoor", sum := "7852963e1704fee961f14139c06226587ec63ae904afb897cae50104026e8263", func := "shipyard/shipyardlaw53.DockTimes", spec := "dockTimes", inPlace := ["internal/bytealg.CountString", "internal/bytealg.IndexByteString", "internal/bytealg.IndexString"], unfollowed := true, recurses := true, named := ["unicode/utf8.first", "unicode/utf8.acceptRanges", "internal/bytealg.MaxLen"], apart := false, laid := [("unicode/utf8.acceptRanges", laid_unicode_utf8_acceptRanges), ("unicode/utf8.first", laid_unicode_utf8_first)], narrowed := true }
def DockTimesUptoSaid : Prop := dockTimesUptoRow.holds Tryz.pinned (OpenSpec.upto dockTimesSpec)

/-- 'shipyardlaw53.DockFits', WHERE WHAT IT READS IS OF BULK AT MOST 1048576: true; the input reads as it did. -/
def dockFitsUptoRow : OpenClaim := { program := "ytadpljebgkfeoaagreatdoor", sum := "7852963e1704fee961f14139c06226587ec63ae904afb897cae50104026e8263", func := "shipyard/shipyardlaw53.DockFits", spec := "dockFits", inPlace := ["internal/bytealg.CountString", "internal/bytealg.IndexByteString", "internal/bytealg.IndexString"], unfollowed := true, recurses := true, named := ["unicode/utf8.first", "unicode/utf8.acceptRanges", "internal/bytealg.MaxLen"], apart := false, laid := [("unicode/utf8.acceptRanges", laid_unicode_utf8_acceptRanges), ("unicode/utf8.first", laid_unicode_utf8_first)], narrowed := true }
def DockFitsUptoSaid : Prop := dockFitsUptoRow.holds Tryz.pinned (OpenSpec.upto dockFitsSpec)

/-- 'shipyardlaw53.DockDelays', WHERE WHAT IT READS IS OF BULK AT MOST 1048576: true; the input reads as it did. -/
def dockDelaysUptoRow : OpenClaim := { program := "ytadpljebgkfeoaagreatdoor", sum := "7852963e1704fee961f14139c06226587ec63ae904afb897cae50104026e8263", func := "shipyard/shipyardlaw53.DockDelays", spec := "dockDelays", inPlace := ["internal/bytealg.CountString", "internal/bytealg.IndexByteString", "internal/bytealg.IndexString"], unfollowed := true, recurses := true, named := ["unicode/utf8.first", "unicode/utf8.acceptRanges", "internal/bytealg.MaxLen"], apart := false, laid := [("unicode/utf8.acceptRanges", laid_unicode_utf8_acceptRanges), ("unicode/utf8.first", laid_unicode_utf8_first)], narrowed := true }
def DockDelaysUptoSaid : Prop := dockDelaysUptoRow.holds Tryz.pinned (OpenSpec.upto dockDelaysSpec)

/-- 'shipyardlaw53.DockFirst', WHERE WHAT IT READS IS OF BULK AT MOST 1048576: true; the input reads as it did. -/
def dockFirstUptoRow : OpenClaim := { program := "ytadpljebgkfeoaagreatdoor", sum := "7852963e1704fee961f14139c06226587ec63ae904afb897cae50104026e8263", func := "shipyard/shipyardlaw53.DockFirst", spec := "dockFirst", inPlace := ["internal/bytealg.CountString", "internal/bytealg.IndexByteString", "internal/bytealg.IndexString"], unfollowed := true, recurses := true, named := ["unicode/utf8.first", "unicode/utf8.acceptRanges", "internal/bytealg.MaxLen"], apart := false, laid := [("unicode/utf8.acceptRanges", laid_unicode_utf8_acceptRanges), ("unicode/utf8.first", laid_unicode_utf8_first)], narrowed := true }
def DockFirstUptoSaid : Prop := dockFirstUptoRow.holds Tryz.pinned (OpenSpec.upto dockFirstSpec)

/-- 'shipyardlaw53.DockTogether', WHERE WHAT IT READS IS OF BULK AT MOST 1048576: true; the input reads as it did. -/
def dockTogetherUptoRow : OpenClaim := { program := "ytadpljebgkfeoaagreatdoor", sum := "7852963e1704fee961f14139c06226587ec63ae904afb897cae50104026e8263", func := "shipyard/shipyardlaw53.DockTogether", spec := "dockTogether", inPlace := ["internal/bytealg.CountString", "internal/bytealg.IndexByteString", "internal/bytealg.IndexString"], unfollowed := true, recurses := true, named := ["unicode/utf8.first", "unicode/utf8.acceptRanges", "internal/bytealg.MaxLen"], apart := false, laid := [("unicode/utf8.acceptRanges", laid_unicode_utf8_acceptRanges), ("unicode/utf8.first", laid_unicode_utf8_first)], narrowed := true }
def DockTogetherUptoSaid : Prop := dockTogetherUptoRow.holds Tryz.pinned (OpenSpec.upto dockTogetherSpec)

/-- 'shipyardlaw53.DockLater', WHERE WHAT IT READS IS OF BULK AT MOST 1048576: true; the input reads as it did. -/
def dockLaterUptoRow : OpenClaim := { program := "ytadpljebgkfeoaagreatdoor", sum := "7852963e1704fee961f14139c06226587ec63ae904afb897cae50104026e8263", func := "shipyard/shipyardlaw53.DockLater", spec := "dockLater", inPlace := ["internal/bytealg.CountString", "internal/bytealg.IndexByteString", "internal/bytealg.IndexString"], unfollowed := true, recurses := true, named := ["unicode/utf8.first", "unicode/utf8.acceptRanges", "internal/bytealg.MaxLen"], apart := false, laid := [("unicode/utf8.acceptRanges", laid_unicode_utf8_acceptRanges), ("unicode/utf8.first", laid_unicode_utf8_first)], narrowed := true }
def DockLaterUptoSaid : Prop := dockLaterUptoRow.holds Tryz.pinned (OpenSpec.upto dockLaterSpec)

end Rows
end Go.Proofs.YtadpljebgkfeoaaGreatDoor
