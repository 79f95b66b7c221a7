/-
  NARROWER THAN 'FOR EVERY INPUT', by the rows' own cells (each row's printed sentence says how): WeldlogNews: laid · WeldlogChecks: laid · WeldlogWelds: laid · WeldlogInspects: laid · WeldlogLife: laid · WeldlogKeeps: laid.
  DERIVED. THE GIVEN ROWS OF THIS SEAT. 6 by the template 'for every input the law returns true; each argument reads behind the call as it read before'; 0 by the template 'total and deterministic' (their statements: YtkdbckbdiboebaaDoorTotals.lean).
  GIVEN WITH THE SEED: the statements are not yours to turn. If you find one false, say at which input.
  Laid BY PROGRAM, IN A SANDBOX (cutbox-rows.mjs): the forced cells as the released guide's own fill.sh prints them over the translation fb9c25dd9045d572… (all of the seat's roots in one cut). By AI agents, Wed Nov 11 2026. No macro, syntax, notation, axiom, sorry.
-/
import Derived.Test.YtkdbckbdiboebaaDoorChecked
import GoSem.PinnedTables
import GoSem.Claim
import GoSem.ClaimJoined
import GoSem.ClaimMapViews
import Derived.JoinedTies
import Derived.KernelRfl
namespace Go.Proofs.YtkdbckbdiboebaaDoor
/- THE CELL 'sum', in the pinned program and in every row, IS THE sha256 OF THE DUMP (.gsa) THAT YtkdbckbdiboebaaDoorProg.lean LOADS. Nothing in Lean hashes anything: it is a label: what it is worth is what the hold of that sum in a sandbox is worth. -/
noncomputable def Tryd.pinned : Pinned := { name := "ytkdbckbdiboebaadoor", sum := "fb9c25dd9045d57278db8e46a55c5cd4e7c02ecac147bb5b838ac0e45d99e17c", checked := Tryd.checked }
namespace Rows
def none {H : Type} : Left H := { results := [], args := [] }

/- WHAT THE LISTED PACKAGE-LEVEL VARIABLES READ AS WHEN THE CALL BEGINS. Each datum BY PROGRAM (the guide's laid-datum.mjs) off the statement by which the dump's own 'gosem.cut.vars' lays the variable. In a bare row this is a premise. The card (YtkdbckbdiboebaaDoorCards.lean) ties it to the program's text. -/
def laid_unicode_utf8_acceptRanges {H : Type} : DataW H := .agg [.agg [.lit (.int .u8 128), .lit (.int .u8 191)], .agg [.lit (.int .u8 160), .lit (.int .u8 191)], .agg [.lit (.int .u8 128), .lit (.int .u8 159)], .agg [.lit (.int .u8 144), .lit (.int .u8 191)], .agg [.lit (.int .u8 128), .lit (.int .u8 143)], .agg [.lit (.int .u8 0), .lit (.int .u8 0)], .agg [.lit (.int .u8 0), .lit (.int .u8 0)], .agg [.lit (.int .u8 0), .lit (.int .u8 0)], .agg [.lit (.int .u8 0), .lit (.int .u8 0)], .agg [.lit (.int .u8 0), .lit (.int .u8 0)], .agg [.lit (.int .u8 0), .lit (.int .u8 0)], .agg [.lit (.int .u8 0), .lit (.int .u8 0)], .agg [.lit (.int .u8 0), .lit (.int .u8 0)], .agg [.lit (.int .u8 0), .lit (.int .u8 0)], .agg [.lit (.int .u8 0), .lit (.int .u8 0)], .agg [.lit (.int .u8 0), .lit (.int .u8 0)]]
/-- One of Go's own tables, pinned by name: the form's constant. -/
def laid_unicode_utf8_first : DataW Unit := Go.Pinned.utf8First

/-- 'shipyardlaw36.WeldlogNews': WHATEVER THE INPUT: true; the input reads as it did. -/
def weldlogNewsSpec : ChangeSpec := { name := "weldlogNews", fn := fun _ => fun
  | [d1, d2, d3] => { results := [.lit (.bool true)], args := [d1, d2, d3] }
  | _ => none }
def weldlogNewsRow : OpenClaim := { program := "ytkdbckbdiboebaadoor", sum := "fb9c25dd9045d57278db8e46a55c5cd4e7c02ecac147bb5b838ac0e45d99e17c", func := "shipyard/shipyardlaw36.WeldlogNews", spec := "weldlogNews", inPlace := ["internal/bytealg.CountString", "internal/bytealg.IndexByteString", "internal/bytealg.IndexString"], unfollowed := true, recurses := true, named := ["unicode/utf8.first", "unicode/utf8.acceptRanges", "internal/bytealg.MaxLen"], apart := false, laid := [("unicode/utf8.acceptRanges", laid_unicode_utf8_acceptRanges), ("unicode/utf8.first", laid_unicode_utf8_first)] }
def WeldlogNewsSaid : Prop := weldlogNewsRow.holds Tryd.pinned (OpenSpec.ofChange weldlogNewsSpec)

/-- ITS FALSE NEIGHBOUR: 'it returns false'. Refute it at one input. -/
def weldlogNewsWrong : ChangeSpec := { name := "weldlogNews", fn := fun _ => fun
  | [d1, d2, d3] => { results := [.lit (.bool false)], args := [d1, d2, d3] }
  | _ => none }
def WeldlogNewsWrongFalsely : Prop := weldlogNewsRow.holds Tryd.pinned (OpenSpec.ofChange weldlogNewsWrong)

/-- 'shipyardlaw36.WeldlogChecks': WHATEVER THE INPUT: true; the input reads as it did. -/
def weldlogChecksSpec : ChangeSpec := { name := "weldlogChecks", fn := fun _ => fun
  | [d1, d2] => { results := [.lit (.bool true)], args := [d1, d2] }
  | _ => none }
def weldlogChecksRow : OpenClaim := { program := "ytkdbckbdiboebaadoor", sum := "fb9c25dd9045d57278db8e46a55c5cd4e7c02ecac147bb5b838ac0e45d99e17c", func := "shipyard/shipyardlaw36.WeldlogChecks", spec := "weldlogChecks", inPlace := ["internal/bytealg.CountString", "internal/bytealg.IndexByteString", "internal/bytealg.IndexString"], unfollowed := true, recurses := true, named := ["unicode/utf8.first", "unicode/utf8.acceptRanges", "internal/bytealg.MaxLen"], apart := false, laid := [("unicode/utf8.acceptRanges", laid_unicode_utf8_acceptRanges), ("unicode/utf8.first", laid_unicode_utf8_first)] }
def WeldlogChecksSaid : Prop := weldlogChecksRow.holds Tryd.pinned (OpenSpec.ofChange weldlogChecksSpec)

/-- ITS FALSE NEIGHBOUR: 'it returns false'. Refute it at one input. -/
def weldlogChecksWrong : ChangeSpec := { name := "weldlogChecks", fn := fun _ => fun
  | [d1, d2] => { results := [.lit (.bool false)], args := [d1, d2] }
  | _ => none }
def WeldlogChecksWrongFalsely : Prop := weldlogChecksRow.holds Tryd.pinned (OpenSpec.ofChange weldlogChecksWrong)

/-- 'shipyardlaw36.WeldlogWelds': WHATEVER THE INPUT: true; the input reads as it did. -/
def weldlogWeldsSpec : ChangeSpec := { name := "weldlogWelds", fn := fun _ => fun
  | [d1, d2] => { results := [.lit (.bool true)], args := [d1, d2] }
  | _ => none }
def weldlogWeldsRow : OpenClaim := { program := "ytkdbckbdiboebaadoor", sum := "fb9c25dd9045d57278db8e46a55c5cd4e7c02ecac147bb5b838ac0e45d99e17c", func := "shipyard/shipyardlaw36.WeldlogWelds", spec := "weldlogWelds", inPlace := ["internal/bytealg.CountString", "internal/bytealg.IndexByteString", "internal/bytealg.IndexString"], unfollowed := true, recurses := true, named := ["unicode/utf8.first", "unicode/utf8.acceptRanges", "internal/bytealg.MaxLen"], apart := false, laid := [("unicode/utf8.acceptRanges", laid_unicode_utf8_acceptRanges), ("unicode/utf8.first", laid_unicode_utf8_first)] }
def WeldlogWeldsSaid : Prop := weldlogWeldsRow.holds Tryd.pinned (OpenSpec.ofChange weldlogWeldsSpec)

/-- ITS FALSE NEIGHBOUR: 'it returns false'. Refute it at one input. -/
def weldlogWeldsWrong : ChangeSpec := { name := "weldlogWelds", fn := fun _ => fun
  | [d1, d2] => { results := [.lit (.bool false)], args := [d1, d2] }
  | _ => none }
def WeldlogWeldsWrongFalsely : Prop := weldlogWeldsRow.holds Tryd.pinned (OpenSpec.ofChange weldlogWeldsWrong)

/-- 'shipyardlaw36.WeldlogInspects': WHATEVER THE INPUT: true; the input reads as it did. -/
def weldlogInspectsSpec : ChangeSpec := { name := "weldlogInspects", fn := fun _ => fun
  | [d1, d2, d3] => { results := [.lit (.bool true)], args := [d1, d2, d3] }
  | _ => none }
def weldlogInspectsRow : OpenClaim := { program := "ytkdbckbdiboebaadoor", sum := "fb9c25dd9045d57278db8e46a55c5cd4e7c02ecac147bb5b838ac0e45d99e17c", func := "shipyard/shipyardlaw36.WeldlogInspects", spec := "weldlogInspects", inPlace := ["internal/bytealg.CountString", "internal/bytealg.IndexByteString", "internal/bytealg.IndexString"], unfollowed := true, recurses := true, named := ["unicode/utf8.first", "unicode/utf8.acceptRanges", "internal/bytealg.MaxLen"], apart := false, laid := [("unicode/utf8.acceptRanges", laid_unicode_utf8_acceptRanges), ("unicode/utf8.first", laid_unicode_utf8_first)] }
def WeldlogInspectsSaid : Prop := weldlogInspectsRow.holds Tryd.pinned (OpenSpec.ofChange weldlogInspectsSpec)

/-- ITS FALSE NEIGHBOUR: 'it returns false'. Refute it at one input. -/
def weldlogInspectsWrong : ChangeSpec := { name := "weldlogInspects", fn := fun _ => fun
  | [d1, d2, d3] => { results := [.lit (.bool false)], args := [d1, d2, d3] }
  | _ => none }
def WeldlogInspectsWrongFalsely : Prop := weldlogInspectsRow.holds Tryd.pinned (OpenSpec.ofChange weldlogInspectsWrong)

/-- 'shipyardlaw36.WeldlogLife': WHATEVER THE INPUT: true; the input reads as it did. -/
def weldlogLifeSpec : ChangeSpec := { name := "weldlogLife", fn := fun _ => fun
  | [d1, d2] => { results := [.lit (.bool true)], args := [d1, d2] }
  | _ => none }
def weldlogLifeRow : OpenClaim := { program := "ytkdbckbdiboebaadoor", sum := "fb9c25dd9045d57278db8e46a55c5cd4e7c02ecac147bb5b838ac0e45d99e17c", func := "shipyard/shipyardlaw36.WeldlogLife", spec := "weldlogLife", inPlace := ["internal/bytealg.CountString", "internal/bytealg.IndexByteString", "internal/bytealg.IndexString"], unfollowed := true, recurses := true, named := ["unicode/utf8.first", "unicode/utf8.acceptRanges", "internal/bytealg.MaxLen"], apart := false, laid := [("unicode/utf8.acceptRanges", laid_unicode_utf8_acceptRanges), ("unicode/utf8.first", laid_unicode_utf8_first)] }
def WeldlogLifeSaid : Prop := weldlogLifeRow.holds Tryd.pinned (OpenSpec.ofChange weldlogLifeSpec)

/-- ITS FALSE NEIGHBOUR: 'it returns false'. Refute it at one input. -/
def weldlogLifeWrong : ChangeSpec := { name := "weldlogLife", fn := fun _ => fun
  | [d1, d2] => { results := [.lit (.bool false)], args := [d1, d2] }
  | _ => none }
def WeldlogLifeWrongFalsely : Prop := weldlogLifeRow.holds Tryd.pinned (OpenSpec.ofChange weldlogLifeWrong)

/-- 'shipyardlaw36.WeldlogKeeps': WHATEVER THE INPUT: true; the input reads as it did. -/
def weldlogKeepsSpec : ChangeSpec := { name := "weldlogKeeps", fn := fun _ => fun
  | [d1, d2, d3] => { results := [.lit (.bool true)], args := [d1, d2, d3] }
  | _ => none }
def weldlogKeepsRow : OpenClaim := { program := "ytkdbckbdiboebaadoor", sum := "fb9c25dd9045d57278db8e46a55c5cd4e7c02ecac147bb5b838ac0e45d99e17c", func := "shipyard/shipyardlaw36.WeldlogKeeps", spec := "weldlogKeeps", inPlace := ["internal/bytealg.CountString", "internal/bytealg.IndexByteString", "internal/bytealg.IndexString"], unfollowed := true, recurses := true, named := ["unicode/utf8.first", "unicode/utf8.acceptRanges", "internal/bytealg.MaxLen"], apart := false, laid := [("unicode/utf8.acceptRanges", laid_unicode_utf8_acceptRanges), ("unicode/utf8.first", laid_unicode_utf8_first)] }
def WeldlogKeepsSaid : Prop := weldlogKeepsRow.holds Tryd.pinned (OpenSpec.ofChange weldlogKeepsSpec)

/-- ITS FALSE NEIGHBOUR: 'it returns false'. Refute it at one input. -/
def weldlogKeepsWrong : ChangeSpec := { name := "weldlogKeeps", fn := fun _ => fun
  | [d1, d2, d3] => { results := [.lit (.bool false)], args := [d1, d2, d3] }
  | _ => none }
def WeldlogKeepsWrongFalsely : Prop := weldlogKeepsRow.holds Tryd.pinned (OpenSpec.ofChange weldlogKeepsWrong)

/- THE SECOND FORM. 'bulk': how many values and letters a reading holds, each counted each time it is reached (what is shared counts as often as it is met; a slice's spare places count too). A statement '..UptoSaid' is the law's where the arguments, and the package variables that the reading takes, are together of bulk at most 1048576: NARROWER than '..Said'. Prove '..Said' where nothing that the law and all that it calls make is longer than what came in: it says more and counts as full. Else prove '..UptoSaid'. A law counts once. -/
mutual
def uptoBulk {H : Type} : DataW H → Nat
  | .lit (.string bytes) => bytes.length + 1
  | .lit _ => 1
  | .nil => 1
  | .ptr d => uptoBulk d + 1
  | .slice elems spare => uptoBulkAll elems + uptoBulkAll spare + 1
  | .agg parts => uptoBulkAll parts + 1
  | .iface _ d => uptoBulk d + 1
  | .map entries => uptoBulkEntries entries + 1
  | .held _ => 1
def uptoBulkAll {H : Type} : List (DataW H) → Nat
  | [] => 0
  | d :: r => uptoBulk d + uptoBulkAll r
def uptoBulkEntries {H : Type} : List (Lit × DataW H) → Nat
  | [] => 0
  | x :: r => uptoBulkEntry x + uptoBulkEntries r
def uptoBulkEntry {H : Type} : Lit × DataW H → Nat
  | (.string bytes, d) => bytes.length + uptoBulk d + 1
  | (_, d) => uptoBulk d + 1
 end
def uptoSmall : (H : Type) → List (DataW H) → Bool := fun _ ds => decide (uptoBulkAll ds ≤ 1048576)
def OpenSpec.upto (s : _root_.Go.ChangeSpec) : _root_.Go.OpenSpec := { _root_.Go.OpenSpec.ofChange s with cond := some uptoSmall }

/-- 'shipyardlaw36.WeldlogNews', WHERE WHAT IT READS IS OF BULK AT MOST 1048576: true; the input reads as it did. -/
def weldlogNewsUptoRow : OpenClaim := { program := "ytkdbckbdiboebaadoor", sum := "fb9c25dd9045d57278db8e46a55c5cd4e7c02ecac147bb5b838ac0e45d99e17c", func := "shipyard/shipyardlaw36.WeldlogNews", spec := "weldlogNews", inPlace := ["internal/bytealg.CountString", "internal/bytealg.IndexByteString", "internal/bytealg.IndexString"], unfollowed := true, recurses := true, named := ["unicode/utf8.first", "unicode/utf8.acceptRanges", "internal/bytealg.MaxLen"], apart := false, laid := [("unicode/utf8.acceptRanges", laid_unicode_utf8_acceptRanges), ("unicode/utf8.first", laid_unicode_utf8_first)], narrowed := true }
def WeldlogNewsUptoSaid : Prop := weldlogNewsUptoRow.holds Tryd.pinned (OpenSpec.upto weldlogNewsSpec)

/-- 'shipyardlaw36.WeldlogChecks', WHERE WHAT IT READS IS OF BULK AT MOST 1048576: true; the input reads as it did. -/
def weldlogChecksUptoRow : OpenClaim := { program := "ytkdbckbdiboebaadoor", sum := "fb9c25dd9045d57278db8e46a55c5cd4e7c02ecac147bb5b838ac0e45d99e17c", func := "shipyard/shipyardlaw36.WeldlogChecks", spec := "weldlogChecks", inPlace := ["internal/bytealg.CountString", "internal/bytealg.IndexByteString", "internal/bytealg.IndexString"], unfollowed := true, recurses := true, named := ["unicode/utf8.first", "unicode/utf8.acceptRanges", "internal/bytealg.MaxLen"], apart := false, laid := [("unicode/utf8.acceptRanges", laid_unicode_utf8_acceptRanges), ("unicode/utf8.first", laid_unicode_utf8_first)], narrowed := true }
def WeldlogChecksUptoSaid : Prop := weldlogChecksUptoRow.holds Tryd.pinned (OpenSpec.upto weldlogChecksSpec)

/-- 'shipyardlaw36.WeldlogWelds', WHERE WHAT IT READS IS OF BULK AT MOST 1048576: true; the input reads as it did. -/
def weldlogWeldsUptoRow : OpenClaim := { program := "ytkdbckbdiboebaadoor", sum := "fb9c25dd9045d57278db8e46a55c5cd4e7c02ecac147bb5b838ac0e45d99e17c", func := "shipyard/shipyardlaw36.WeldlogWelds", spec := "weldlogWelds", inPlace := ["internal/bytealg.CountString", "internal/bytealg.IndexByteString", "internal/bytealg.IndexString"], unfollowed := true, recurses := true, named := ["unicode/utf8.first", "unicode/utf8.acceptRanges", "internal/bytealg.MaxLen"], apart := false, laid := [("unicode/utf8.acceptRanges", laid_unicode_utf8_acceptRanges), ("unicode/utf8.first", laid_unicode_utf8_first)], narrowed := true }
def WeldlogWeldsUptoSaid : Prop := weldlogWeldsUptoRow.holds Tryd.pinned (OpenSpec.upto weldlogWeldsSpec)

/-- 'shipyardlaw36.WeldlogInspects', WHERE WHAT IT READS IS OF BULK AT MOST 1048576: true; the input reads as it did. -/
def weldlogInspectsUptoRow : OpenClaim := { program := "ytkdbckbdiboebaadoor", sum := "fb9c25dd9045d57278db8e46a55c5cd4e7c02ecac147bb5b838ac0e45d99e17c", func := "shipyard/shipyardlaw36.WeldlogInspects", spec := "weldlogInspects", inPlace := ["internal/bytealg.CountString", "internal/bytealg.IndexByteString", "internal/bytealg.IndexString"], unfollowed := true, recurses := true, named := ["unicode/utf8.first", "unicode/utf8.acceptRanges", "internal/bytealg.MaxLen"], apart := false, laid := [("unicode/utf8.acceptRanges", laid_unicode_utf8_acceptRanges), ("unicode/utf8.first", laid_unicode_utf8_first)], narrowed := true }
def WeldlogInspectsUptoSaid : Prop := weldlogInspectsUptoRow.holds Tryd.pinned (OpenSpec.upto weldlogInspectsSpec)

/-- 'shipyardlaw36.WeldlogLife', WHERE WHAT IT READS IS OF BULK AT MOST 1048576: true; the input reads as it did. -/
def weldlogLifeUptoRow : OpenClaim := { program := "ytkdbckbdiboebaadoor", sum := "fb9c25dd9045d57278db8e46a55c5cd4e7c02ecac147bb5b838ac0e45d99e17c", func := "shipyard/shipyardlaw36.WeldlogLife", spec := "weldlogLife", inPlace := ["internal/bytealg.CountString", "internal/bytealg.IndexByteString", "internal/bytealg.IndexString"], unfollowed := true, recurses := true, named := ["unicode/utf8.first", "unicode/utf8.acceptRanges", "internal/bytealg.MaxLen"], apart := false, laid := [("unicode/utf8.acceptRanges", laid_unicode_utf8_acceptRanges), ("unicode/utf8.first", laid_unicode_utf8_first)], narrowed := true }
def WeldlogLifeUptoSaid : Prop := weldlogLifeUptoRow.holds Tryd.pinned (OpenSpec.upto weldlogLifeSpec)

/-- 'shipyardlaw36.WeldlogKeeps', WHERE WHAT IT READS IS OF BULK AT MOST 1048576: true; the input reads as it did. -/
def weldlogKeepsUptoRow : OpenClaim := { program := "ytkdbckbdiboebaadoor", sum := "fb9c25dd9045d57278db8e46a55c5cd4e7c02ecac147bb5b838ac0e45d99e17c", func := "shipyard/shipyardlaw36.WeldlogKeeps", spec := "weldlogKeeps", inPlace := ["internal/bytealg.CountString", "internal/bytealg.IndexByteString", "internal/bytealg.IndexString"], unfollowed := true, recurses := true, named := ["unicode/utf8.first", "unicode/utf8.acceptRanges", "internal/bytealg.MaxLen"], apart := false, laid := [("unicode/utf8.acceptRanges", laid_unicode_utf8_acceptRanges), ("unicode/utf8.first", laid_unicode_utf8_first)], narrowed := true }
def WeldlogKeepsUptoSaid : Prop := weldlogKeepsUptoRow.holds Tryd.pinned (OpenSpec.upto weldlogKeepsSpec)

end Rows
end Go.Proofs.YtkdbckbdiboebaaDoor
