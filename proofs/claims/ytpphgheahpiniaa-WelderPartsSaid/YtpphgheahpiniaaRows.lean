/-
  No cell of these rows narrows 'for every input' (looked for: loops, veiled, ifaces, maps, wideKeys, modest, calm, conditions, laid).
  DERIVED. THE GIVEN ROWS OF THIS SEAT. 8 by the template 'for every input the law returns true; each argument reads behind the call as it read before'; 0 by the template 'total and deterministic' (their statements: YtpphgheahpiniaaTotals.lean).
  GIVEN WITH THE SEED: the statements are not yours to turn. If you find one false, say at which input.
  Laid BY PROGRAM, IN A SANDBOX (cutbox-rows.mjs): the forced cells as the released guide's own fill.sh prints them over the translation 3c7d0adf4785b049… (all of the seat's roots in one cut). By AI agents, Wed Nov 11 2026. No macro, syntax, notation, axiom, sorry.
-/
import Derived.Test.YtpphgheahpiniaaChecked
import GoSem.Claim
import GoSem.ClaimJoined
import GoSem.ClaimMapViews
import Derived.JoinedTies
import Derived.KernelRfl
namespace Go.Proofs.Ytpphgheahpiniaa
/- THE CELL 'sum', in the pinned program and in every row, IS THE sha256 OF THE DUMP (.gsa) THAT YtpphgheahpiniaaProg.lean LOADS. Nothing in Lean hashes anything: it is a label: what it is worth is what the hold of that sum in a sandbox is worth. -/
noncomputable def Try.pinned : Pinned := { name := "ytpphgheahpiniaa", sum := "3c7d0adf4785b0498560fc7c915f1a780fcfd90a850cd6e6e92de4989585cb12", checked := Try.checked }
namespace Rows
def none {H : Type} : Left H := { results := [], args := [] }

/-- 'shipyardlaw32.WelderChecks': WHATEVER THE INPUT: true; the input reads as it did. -/
def welderChecksSpec : ChangeSpec := { name := "welderChecks", fn := fun _ => fun
  | [d] => { results := [.lit (.bool true)], args := [d] }
  | _ => none }
def welderChecksRow : OpenClaim := { program := "ytpphgheahpiniaa", sum := "3c7d0adf4785b0498560fc7c915f1a780fcfd90a850cd6e6e92de4989585cb12", func := "shipyard/shipyardlaw32.WelderChecks", spec := "welderChecks", unfollowed := true, recurses := true, apart := false }
def WelderChecksSaid : Prop := welderChecksRow.holds Try.pinned (OpenSpec.ofChange welderChecksSpec)

/-- ITS FALSE NEIGHBOUR: 'it returns false'. Refute it at one input. -/
def welderChecksWrong : ChangeSpec := { name := "welderChecks", fn := fun _ => fun
  | [d] => { results := [.lit (.bool false)], args := [d] }
  | _ => none }
def WelderChecksWrongFalsely : Prop := welderChecksRow.holds Try.pinned (OpenSpec.ofChange welderChecksWrong)

/-- 'shipyardlaw32.WelderAsks': WHATEVER THE INPUT: true; the input reads as it did. -/
def welderAsksSpec : ChangeSpec := { name := "welderAsks", fn := fun _ => fun
  | [d1, d2] => { results := [.lit (.bool true)], args := [d1, d2] }
  | _ => none }
def welderAsksRow : OpenClaim := { program := "ytpphgheahpiniaa", sum := "3c7d0adf4785b0498560fc7c915f1a780fcfd90a850cd6e6e92de4989585cb12", func := "shipyard/shipyardlaw32.WelderAsks", spec := "welderAsks", unfollowed := true, recurses := true, apart := false }
def WelderAsksSaid : Prop := welderAsksRow.holds Try.pinned (OpenSpec.ofChange welderAsksSpec)

/-- ITS FALSE NEIGHBOUR: 'it returns false'. Refute it at one input. -/
def welderAsksWrong : ChangeSpec := { name := "welderAsks", fn := fun _ => fun
  | [d1, d2] => { results := [.lit (.bool false)], args := [d1, d2] }
  | _ => none }
def WelderAsksWrongFalsely : Prop := welderAsksRow.holds Try.pinned (OpenSpec.ofChange welderAsksWrong)

/-- 'shipyardlaw32.WelderRenews': WHATEVER THE INPUT: true; the input reads as it did. -/
def welderRenewsSpec : ChangeSpec := { name := "welderRenews", fn := fun _ => fun
  | [d1, d2] => { results := [.lit (.bool true)], args := [d1, d2] }
  | _ => none }
def welderRenewsRow : OpenClaim := { program := "ytpphgheahpiniaa", sum := "3c7d0adf4785b0498560fc7c915f1a780fcfd90a850cd6e6e92de4989585cb12", func := "shipyard/shipyardlaw32.WelderRenews", spec := "welderRenews", unfollowed := true, recurses := true, apart := false }
def WelderRenewsSaid : Prop := welderRenewsRow.holds Try.pinned (OpenSpec.ofChange welderRenewsSpec)

/-- ITS FALSE NEIGHBOUR: 'it returns false'. Refute it at one input. -/
def welderRenewsWrong : ChangeSpec := { name := "welderRenews", fn := fun _ => fun
  | [d1, d2] => { results := [.lit (.bool false)], args := [d1, d2] }
  | _ => none }
def WelderRenewsWrongFalsely : Prop := welderRenewsRow.holds Try.pinned (OpenSpec.ofChange welderRenewsWrong)

/-- 'shipyardlaw32.WelderLapses': WHATEVER THE INPUT: true; the input reads as it did. -/
def welderLapsesSpec : ChangeSpec := { name := "welderLapses", fn := fun _ => fun
  | [d1, d2, d3] => { results := [.lit (.bool true)], args := [d1, d2, d3] }
  | _ => none }
def welderLapsesRow : OpenClaim := { program := "ytpphgheahpiniaa", sum := "3c7d0adf4785b0498560fc7c915f1a780fcfd90a850cd6e6e92de4989585cb12", func := "shipyard/shipyardlaw32.WelderLapses", spec := "welderLapses", unfollowed := true, recurses := true, apart := false }
def WelderLapsesSaid : Prop := welderLapsesRow.holds Try.pinned (OpenSpec.ofChange welderLapsesSpec)

/-- ITS FALSE NEIGHBOUR: 'it returns false'. Refute it at one input. -/
def welderLapsesWrong : ChangeSpec := { name := "welderLapses", fn := fun _ => fun
  | [d1, d2, d3] => { results := [.lit (.bool false)], args := [d1, d2, d3] }
  | _ => none }
def WelderLapsesWrongFalsely : Prop := welderLapsesRow.holds Try.pinned (OpenSpec.ofChange welderLapsesWrong)

/-- 'shipyardlaw32.WelderKeeps': WHATEVER THE INPUT: true; the input reads as it did. -/
def welderKeepsSpec : ChangeSpec := { name := "welderKeeps", fn := fun _ => fun
  | [d1, d2, d3] => { results := [.lit (.bool true)], args := [d1, d2, d3] }
  | _ => none }
def welderKeepsRow : OpenClaim := { program := "ytpphgheahpiniaa", sum := "3c7d0adf4785b0498560fc7c915f1a780fcfd90a850cd6e6e92de4989585cb12", func := "shipyard/shipyardlaw32.WelderKeeps", spec := "welderKeeps", unfollowed := true, recurses := true, apart := false }
def WelderKeepsSaid : Prop := welderKeepsRow.holds Try.pinned (OpenSpec.ofChange welderKeepsSpec)

/-- ITS FALSE NEIGHBOUR: 'it returns false'. Refute it at one input. -/
def welderKeepsWrong : ChangeSpec := { name := "welderKeeps", fn := fun _ => fun
  | [d1, d2, d3] => { results := [.lit (.bool false)], args := [d1, d2, d3] }
  | _ => none }
def WelderKeepsWrongFalsely : Prop := welderKeepsRow.holds Try.pinned (OpenSpec.ofChange welderKeepsWrong)

/-- 'shipyardlaw32.WelderGaps': WHATEVER THE INPUT: true; the input reads as it did. -/
def welderGapsSpec : ChangeSpec := { name := "welderGaps", fn := fun _ => fun
  | [d1, d2, d3] => { results := [.lit (.bool true)], args := [d1, d2, d3] }
  | _ => none }
def welderGapsRow : OpenClaim := { program := "ytpphgheahpiniaa", sum := "3c7d0adf4785b0498560fc7c915f1a780fcfd90a850cd6e6e92de4989585cb12", func := "shipyard/shipyardlaw32.WelderGaps", spec := "welderGaps", unfollowed := true, recurses := true, apart := false }
def WelderGapsSaid : Prop := welderGapsRow.holds Try.pinned (OpenSpec.ofChange welderGapsSpec)

/-- ITS FALSE NEIGHBOUR: 'it returns false'. Refute it at one input. -/
def welderGapsWrong : ChangeSpec := { name := "welderGaps", fn := fun _ => fun
  | [d1, d2, d3] => { results := [.lit (.bool false)], args := [d1, d2, d3] }
  | _ => none }
def WelderGapsWrongFalsely : Prop := welderGapsRow.holds Try.pinned (OpenSpec.ofChange welderGapsWrong)

/-- 'shipyardlaw32.WelderFirst': WHATEVER THE INPUT: true; the input reads as it did. -/
def welderFirstSpec : ChangeSpec := { name := "welderFirst", fn := fun _ => fun
  | [d1, d2, d3] => { results := [.lit (.bool true)], args := [d1, d2, d3] }
  | _ => none }
def welderFirstRow : OpenClaim := { program := "ytpphgheahpiniaa", sum := "3c7d0adf4785b0498560fc7c915f1a780fcfd90a850cd6e6e92de4989585cb12", func := "shipyard/shipyardlaw32.WelderFirst", spec := "welderFirst", unfollowed := true, recurses := true, apart := false }
def WelderFirstSaid : Prop := welderFirstRow.holds Try.pinned (OpenSpec.ofChange welderFirstSpec)

/-- ITS FALSE NEIGHBOUR: 'it returns false'. Refute it at one input. -/
def welderFirstWrong : ChangeSpec := { name := "welderFirst", fn := fun _ => fun
  | [d1, d2, d3] => { results := [.lit (.bool false)], args := [d1, d2, d3] }
  | _ => none }
def WelderFirstWrongFalsely : Prop := welderFirstRow.holds Try.pinned (OpenSpec.ofChange welderFirstWrong)

/-- 'shipyardlaw32.WelderParts': WHATEVER THE INPUT: true; the input reads as it did. -/
def welderPartsSpec : ChangeSpec := { name := "welderParts", fn := fun _ => fun
  | [d1, d2, d3] => { results := [.lit (.bool true)], args := [d1, d2, d3] }
  | _ => none }
def welderPartsRow : OpenClaim := { program := "ytpphgheahpiniaa", sum := "3c7d0adf4785b0498560fc7c915f1a780fcfd90a850cd6e6e92de4989585cb12", func := "shipyard/shipyardlaw32.WelderParts", spec := "welderParts", unfollowed := true, recurses := true, apart := false }
def WelderPartsSaid : Prop := welderPartsRow.holds Try.pinned (OpenSpec.ofChange welderPartsSpec)

/-- ITS FALSE NEIGHBOUR: 'it returns false'. Refute it at one input. -/
def welderPartsWrong : ChangeSpec := { name := "welderParts", fn := fun _ => fun
  | [d1, d2, d3] => { results := [.lit (.bool false)], args := [d1, d2, d3] }
  | _ => none }
def WelderPartsWrongFalsely : Prop := welderPartsRow.holds Try.pinned (OpenSpec.ofChange welderPartsWrong)

/- THE SECOND FORM. 'bulk': how many values and letters a reading holds, each counted each time it is reached (what is shared counts as often as it is met; a slice's spare places count too). A statement '..UptoSaid' is the law's where the arguments, and the package variables that the reading takes, are together of bulk at most 1048576: NARROWER than '..Said'. Prove '..Said' where nothing that the law and all that it calls make is longer than what came in: it says more and counts as full. Else prove '..UptoSaid'. A law counts once. -/
mutual
def uptoBulk {H : Type} : DataW H → Nat
  | .lit (.string bytes) => bytes.length + 1
  | .lit _ => 1
  | .nil => 1
  | .ptr d => uptoBulk d + 1
  | .slice elems spare => uptoBulkAll elems + uptoBulkAll spare + 1
  | .agg parts => uptoBulkAll parts + 1
  | .iface _ d => uptoBulk d + 1
  | .map entries => uptoBulkEntries entries + 1
  | .held _ => 1
def uptoBulkAll {H : Type} : List (DataW H) → Nat
  | [] => 0
  | d :: r => uptoBulk d + uptoBulkAll r
def uptoBulkEntries {H : Type} : List (Lit × DataW H) → Nat
  | [] => 0
  | x :: r => uptoBulkEntry x + uptoBulkEntries r
def uptoBulkEntry {H : Type} : Lit × DataW H → Nat
  | (.string bytes, d) => bytes.length + uptoBulk d + 1
  | (_, d) => uptoBulk d + 1
 end
def uptoSmall : (H : Type) → List (DataW H) → Bool := fun _ ds => decide (uptoBulkAll ds ≤ 1048576)
def OpenSpec.upto (s : _root_.Go.ChangeSpec) : _root_.Go.OpenSpec := { _root_.Go.OpenSpec.ofChange s with cond := some uptoSmall }

/-- 'shipyardlaw32.WelderChecks', WHERE WHAT IT READS IS OF BULK AT MOST 1048576: true; the input reads as it did. -/
def welderChecksUptoRow : OpenClaim := { program := "ytpphgheahpiniaa", sum := "3c7d0adf4785b0498560fc7c915f1a780fcfd90a850cd6e6e92de4989585cb12", func := "shipyard/shipyardlaw32.WelderChecks", spec := "welderChecks", unfollowed := true, recurses := true, apart := false, narrowed := true }
def WelderChecksUptoSaid : Prop := welderChecksUptoRow.holds Try.pinned (OpenSpec.upto welderChecksSpec)

/-- 'shipyardlaw32.WelderAsks', WHERE WHAT IT READS IS OF BULK AT MOST 1048576: true; the input reads as it did. -/
def welderAsksUptoRow : OpenClaim := { program := "ytpphgheahpiniaa", sum := "3c7d0adf4785b0498560fc7c915f1a780fcfd90a850cd6e6e92de4989585cb12", func := "shipyard/shipyardlaw32.WelderAsks", spec := "welderAsks", unfollowed := true, recurses := true, apart := false, narrowed := true }
def WelderAsksUptoSaid : Prop := welderAsksUptoRow.holds Try.pinned (OpenSpec.upto welderAsksSpec)

/-- 'shipyardlaw32.WelderRenews', WHERE WHAT IT READS IS OF BULK AT MOST 1048576: true; the input reads as it did. -/
def welderRenewsUptoRow : OpenClaim := { program := "ytpphgheahpiniaa", sum := "3c7d0adf4785b0498560fc7c915f1a780fcfd90a850cd6e6e92de4989585cb12", func := "shipyard/shipyardlaw32.WelderRenews", spec := "welderRenews", unfollowed := true, recurses := true, apart := false, narrowed := true }
def WelderRenewsUptoSaid : Prop := welderRenewsUptoRow.holds Try.pinned (OpenSpec.upto welderRenewsSpec)

/-- 'shipyardlaw32.WelderLapses', WHERE WHAT IT READS IS OF BULK AT MOST 1048576: true; the input reads as it did. -/
def welderLapsesUptoRow : OpenClaim := { program := "ytpphgheahpiniaa", sum := "3c7d0adf4785b0498560fc7c915f1a780fcfd90a850cd6e6e92de4989585cb12", func := "shipyard/shipyardlaw32.WelderLapses", spec := "welderLapses", unfollowed := true, recurses := true, apart := false, narrowed := true }
def WelderLapsesUptoSaid : Prop := welderLapsesUptoRow.holds Try.pinned (OpenSpec.upto welderLapsesSpec)

/-- 'shipyardlaw32.WelderKeeps', WHERE WHAT IT READS IS OF BULK AT MOST 1048576: true; the input reads as it did. -/
def welderKeepsUptoRow : OpenClaim := { program := "ytpphgheahpiniaa", sum := "3c7d0adf4785b0498560fc7c915f1a780fcfd90a850cd6e6e92de4989585cb12", func := "shipyard/shipyardlaw32.WelderKeeps", spec := "welderKeeps", unfollowed := true, recurses := true, apart := false, narrowed := true }
def WelderKeepsUptoSaid : Prop := welderKeepsUptoRow.holds Try.pinned (OpenSpec.upto welderKeepsSpec)

/-- 'shipyardlaw32.WelderGaps', WHERE WHAT IT READS IS OF BULK AT MOST 1048576: true; the input reads as it did. -/
def welderGapsUptoRow : OpenClaim := { program := "ytpphgheahpiniaa", sum := "3c7d0adf4785b0498560fc7c915f1a780fcfd90a850cd6e6e92de4989585cb12", func := "shipyard/shipyardlaw32.WelderGaps", spec := "welderGaps", unfollowed := true, recurses := true, apart := false, narrowed := true }
def WelderGapsUptoSaid : Prop := welderGapsUptoRow.holds Try.pinned (OpenSpec.upto welderGapsSpec)

/-- 'shipyardlaw32.WelderFirst', WHERE WHAT IT READS IS OF BULK AT MOST 1048576: true; the input reads as it did. -/
def welderFirstUptoRow : OpenClaim := { program := "ytpphgheahpiniaa", sum := "3c7d0adf4785b0498560fc7c915f1a780fcfd90a850cd6e6e92de4989585cb12", func := "shipyard/shipyardlaw32.WelderFirst", spec := "welderFirst", unfollowed := true, recurses := true, apart := false, narrowed := true }
def WelderFirstUptoSaid : Prop := welderFirstUptoRow.holds Try.pinned (OpenSpec.upto welderFirstSpec)

/-- 'shipyardlaw32.WelderParts', WHERE WHAT IT READS IS OF BULK AT MOST 1048576: true; the input reads as it did. -/
def welderPartsUptoRow : OpenClaim := { program := "ytpphgheahpiniaa", sum := "3c7d0adf4785b0498560fc7c915f1a780fcfd90a850cd6e6e92de4989585cb12", func := "shipyard/shipyardlaw32.WelderParts", spec := "welderParts", unfollowed := true, recurses := true, apart := false, narrowed := true }
def WelderPartsUptoSaid : Prop := welderPartsUptoRow.holds Try.pinned (OpenSpec.upto welderPartsSpec)

end Rows
end Go.Proofs.Ytpphgheahpiniaa
