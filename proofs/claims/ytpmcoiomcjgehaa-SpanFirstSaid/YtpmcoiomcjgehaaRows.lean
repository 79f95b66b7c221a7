/-
  No cell of these rows narrows 'for every input' (looked for: loops, veiled, ifaces, maps, wideKeys, modest, calm, conditions, laid).
  DERIVED. THE GIVEN ROWS OF THIS SEAT. 8 by the template 'for every input the law returns true; each argument reads behind the call as it read before'; 0 by the template 'total and deterministic' (their statements: YtpmcoiomcjgehaaTotals.lean).
  GIVEN WITH THE SEED: the statements are not yours to turn. If you find one false, say at which input.
  Laid BY PROGRAM, IN A SANDBOX (cutbox-rows.mjs): the forced cells as the released guide's own fill.sh prints them over the translation 4bb6f7f829bb7914… (all of the seat's roots in one cut). By AI agents, Wed Nov 11 2026. No macro, syntax, notation, axiom, sorry.
-/
import Derived.Test.YtpmcoiomcjgehaaChecked
import GoSem.Claim
import GoSem.ClaimJoined
import GoSem.ClaimMapViews
import Derived.JoinedTies
import Derived.KernelRfl
namespace Go.Proofs.Ytpmcoiomcjgehaa
/- THE CELL 'sum', in the pinned program and in every row, IS THE sha256 OF THE DUMP (.gsa) THAT YtpmcoiomcjgehaaProg.lean LOADS. Nothing in Lean hashes anything: it is a label: what it is worth is what the hold of that sum in a sandbox is worth. -/
noncomputable def Try.pinned : Pinned := { name := "ytpmcoiomcjgehaa", sum := "4bb6f7f829bb791426e7b0691b3de2014982f64eb5b4b75211b46c9b1662b773", checked := Try.checked }
namespace Rows
def none {H : Type} : Left H := { results := [], args := [] }

/-- 'shipyardlaw08.SpanNormals': WHATEVER THE INPUT: true; the input reads as it did. -/
def spanNormalsSpec : ChangeSpec := { name := "spanNormals", fn := fun _ => fun
  | [d1, d2] => { results := [.lit (.bool true)], args := [d1, d2] }
  | _ => none }
def spanNormalsRow : OpenClaim := { program := "ytpmcoiomcjgehaa", sum := "4bb6f7f829bb791426e7b0691b3de2014982f64eb5b4b75211b46c9b1662b773", func := "shipyard/shipyardlaw08.SpanNormals", spec := "spanNormals", unfollowed := true, recurses := true, apart := false }
def SpanNormalsSaid : Prop := spanNormalsRow.holds Try.pinned (OpenSpec.ofChange spanNormalsSpec)

/-- ITS FALSE NEIGHBOUR: 'it returns false'. Refute it at one input. -/
def spanNormalsWrong : ChangeSpec := { name := "spanNormals", fn := fun _ => fun
  | [d1, d2] => { results := [.lit (.bool false)], args := [d1, d2] }
  | _ => none }
def SpanNormalsWrongFalsely : Prop := spanNormalsRow.holds Try.pinned (OpenSpec.ofChange spanNormalsWrong)

/-- 'shipyardlaw08.SpanGaps': WHATEVER THE INPUT: true; the input reads as it did. -/
def spanGapsSpec : ChangeSpec := { name := "spanGaps", fn := fun _ => fun
  | [d1, d2] => { results := [.lit (.bool true)], args := [d1, d2] }
  | _ => none }
def spanGapsRow : OpenClaim := { program := "ytpmcoiomcjgehaa", sum := "4bb6f7f829bb791426e7b0691b3de2014982f64eb5b4b75211b46c9b1662b773", func := "shipyard/shipyardlaw08.SpanGaps", spec := "spanGaps", unfollowed := true, recurses := true, apart := false }
def SpanGapsSaid : Prop := spanGapsRow.holds Try.pinned (OpenSpec.ofChange spanGapsSpec)

/-- ITS FALSE NEIGHBOUR: 'it returns false'. Refute it at one input. -/
def spanGapsWrong : ChangeSpec := { name := "spanGaps", fn := fun _ => fun
  | [d1, d2] => { results := [.lit (.bool false)], args := [d1, d2] }
  | _ => none }
def SpanGapsWrongFalsely : Prop := spanGapsRow.holds Try.pinned (OpenSpec.ofChange spanGapsWrong)

/-- 'shipyardlaw08.SpanFits': WHATEVER THE INPUT: true; the input reads as it did. -/
def spanFitsSpec : ChangeSpec := { name := "spanFits", fn := fun _ => fun
  | [d1, d2, d3] => { results := [.lit (.bool true)], args := [d1, d2, d3] }
  | _ => none }
def spanFitsRow : OpenClaim := { program := "ytpmcoiomcjgehaa", sum := "4bb6f7f829bb791426e7b0691b3de2014982f64eb5b4b75211b46c9b1662b773", func := "shipyard/shipyardlaw08.SpanFits", spec := "spanFits", unfollowed := true, recurses := true, apart := false }
def SpanFitsSaid : Prop := spanFitsRow.holds Try.pinned (OpenSpec.ofChange spanFitsSpec)

/-- ITS FALSE NEIGHBOUR: 'it returns false'. Refute it at one input. -/
def spanFitsWrong : ChangeSpec := { name := "spanFits", fn := fun _ => fun
  | [d1, d2, d3] => { results := [.lit (.bool false)], args := [d1, d2, d3] }
  | _ => none }
def SpanFitsWrongFalsely : Prop := spanFitsRow.holds Try.pinned (OpenSpec.ofChange spanFitsWrong)

/-- 'shipyardlaw08.SpanFirst': WHATEVER THE INPUT: true; the input reads as it did. -/
def spanFirstSpec : ChangeSpec := { name := "spanFirst", fn := fun _ => fun
  | [d] => { results := [.lit (.bool true)], args := [d] }
  | _ => none }
def spanFirstRow : OpenClaim := { program := "ytpmcoiomcjgehaa", sum := "4bb6f7f829bb791426e7b0691b3de2014982f64eb5b4b75211b46c9b1662b773", func := "shipyard/shipyardlaw08.SpanFirst", spec := "spanFirst", unfollowed := true, recurses := true, apart := false }
def SpanFirstSaid : Prop := spanFirstRow.holds Try.pinned (OpenSpec.ofChange spanFirstSpec)

/-- ITS FALSE NEIGHBOUR: 'it returns false'. Refute it at one input. -/
def spanFirstWrong : ChangeSpec := { name := "spanFirst", fn := fun _ => fun
  | [d] => { results := [.lit (.bool false)], args := [d] }
  | _ => none }
def SpanFirstWrongFalsely : Prop := spanFirstRow.holds Try.pinned (OpenSpec.ofChange spanFirstWrong)

/-- 'shipyardlaw08.SpanSets': WHATEVER THE INPUT: true; the input reads as it did. -/
def spanSetsSpec : ChangeSpec := { name := "spanSets", fn := fun _ => fun
  | [d1, d2] => { results := [.lit (.bool true)], args := [d1, d2] }
  | _ => none }
def spanSetsRow : OpenClaim := { program := "ytpmcoiomcjgehaa", sum := "4bb6f7f829bb791426e7b0691b3de2014982f64eb5b4b75211b46c9b1662b773", func := "shipyard/shipyardlaw08.SpanSets", spec := "spanSets", unfollowed := true, recurses := true, apart := false }
def SpanSetsSaid : Prop := spanSetsRow.holds Try.pinned (OpenSpec.ofChange spanSetsSpec)

/-- ITS FALSE NEIGHBOUR: 'it returns false'. Refute it at one input. -/
def spanSetsWrong : ChangeSpec := { name := "spanSets", fn := fun _ => fun
  | [d1, d2] => { results := [.lit (.bool false)], args := [d1, d2] }
  | _ => none }
def SpanSetsWrongFalsely : Prop := spanSetsRow.holds Try.pinned (OpenSpec.ofChange spanSetsWrong)

/-- 'shipyardlaw08.SpanMembers': WHATEVER THE INPUT: true; the input reads as it did. -/
def spanMembersSpec : ChangeSpec := { name := "spanMembers", fn := fun _ => fun
  | [d1, d2, d3] => { results := [.lit (.bool true)], args := [d1, d2, d3] }
  | _ => none }
def spanMembersRow : OpenClaim := { program := "ytpmcoiomcjgehaa", sum := "4bb6f7f829bb791426e7b0691b3de2014982f64eb5b4b75211b46c9b1662b773", func := "shipyard/shipyardlaw08.SpanMembers", spec := "spanMembers", unfollowed := true, recurses := true, apart := false }
def SpanMembersSaid : Prop := spanMembersRow.holds Try.pinned (OpenSpec.ofChange spanMembersSpec)

/-- ITS FALSE NEIGHBOUR: 'it returns false'. Refute it at one input. -/
def spanMembersWrong : ChangeSpec := { name := "spanMembers", fn := fun _ => fun
  | [d1, d2, d3] => { results := [.lit (.bool false)], args := [d1, d2, d3] }
  | _ => none }
def SpanMembersWrongFalsely : Prop := spanMembersRow.holds Try.pinned (OpenSpec.ofChange spanMembersWrong)

/-- 'shipyardlaw08.SpanNumbers': WHATEVER THE INPUT: true; the input reads as it did. -/
def spanNumbersSpec : ChangeSpec := { name := "spanNumbers", fn := fun _ => fun
  | [d1, d2] => { results := [.lit (.bool true)], args := [d1, d2] }
  | _ => none }
def spanNumbersRow : OpenClaim := { program := "ytpmcoiomcjgehaa", sum := "4bb6f7f829bb791426e7b0691b3de2014982f64eb5b4b75211b46c9b1662b773", func := "shipyard/shipyardlaw08.SpanNumbers", spec := "spanNumbers", unfollowed := true, recurses := true, apart := false }
def SpanNumbersSaid : Prop := spanNumbersRow.holds Try.pinned (OpenSpec.ofChange spanNumbersSpec)

/-- ITS FALSE NEIGHBOUR: 'it returns false'. Refute it at one input. -/
def spanNumbersWrong : ChangeSpec := { name := "spanNumbers", fn := fun _ => fun
  | [d1, d2] => { results := [.lit (.bool false)], args := [d1, d2] }
  | _ => none }
def SpanNumbersWrongFalsely : Prop := spanNumbersRow.holds Try.pinned (OpenSpec.ofChange spanNumbersWrong)

/-- 'shipyardlaw08.SpanShares': WHATEVER THE INPUT: true; the input reads as it did. -/
def spanSharesSpec : ChangeSpec := { name := "spanShares", fn := fun _ => fun
  | [d1, d2] => { results := [.lit (.bool true)], args := [d1, d2] }
  | _ => none }
def spanSharesRow : OpenClaim := { program := "ytpmcoiomcjgehaa", sum := "4bb6f7f829bb791426e7b0691b3de2014982f64eb5b4b75211b46c9b1662b773", func := "shipyard/shipyardlaw08.SpanShares", spec := "spanShares", unfollowed := true, recurses := true, apart := false }
def SpanSharesSaid : Prop := spanSharesRow.holds Try.pinned (OpenSpec.ofChange spanSharesSpec)

/-- ITS FALSE NEIGHBOUR: 'it returns false'. Refute it at one input. -/
def spanSharesWrong : ChangeSpec := { name := "spanShares", fn := fun _ => fun
  | [d1, d2] => { results := [.lit (.bool false)], args := [d1, d2] }
  | _ => none }
def SpanSharesWrongFalsely : Prop := spanSharesRow.holds Try.pinned (OpenSpec.ofChange spanSharesWrong)

/- THE SECOND FORM. 'bulk': how many values and letters a reading holds, each counted each time it is reached (what is shared counts as often as it is met; a slice's spare places count too). A statement '..UptoSaid' is the law's where the arguments, and the package variables that the reading takes, are together of bulk at most 1048576: NARROWER than '..Said'. Prove '..Said' where nothing that the law and all that it calls make is longer than what came in: it says more and counts as full. Else prove '..UptoSaid'. A law counts once. -/
mutual
def uptoBulk {H : Type} : DataW H → Nat
  | .lit (.string bytes) => bytes.length + 1
  | .lit _ => 1
  | .nil => 1
  | .ptr d => uptoBulk d + 1
  | .slice elems spare => uptoBulkAll elems + uptoBulkAll spare + 1
  | .agg parts => uptoBulkAll parts + 1
  | .iface _ d => uptoBulk d + 1
  | .map entries => uptoBulkEntries entries + 1
  | .held _ => 1
def uptoBulkAll {H : Type} : List (DataW H) → Nat
  | [] => 0
  | d :: r => uptoBulk d + uptoBulkAll r
def uptoBulkEntries {H : Type} : List (Lit × DataW H) → Nat
  | [] => 0
  | x :: r => uptoBulkEntry x + uptoBulkEntries r
def uptoBulkEntry {H : Type} : Lit × DataW H → Nat
  | (.string bytes, d) => bytes.length + uptoBulk d + 1
  | (_, d) => uptoBulk d + 1
 end
def uptoSmall : (H : Type) → List (DataW H) → Bool := fun _ ds => decide (uptoBulkAll ds ≤ 1048576)
def OpenSpec.upto (s : _root_.Go.ChangeSpec) : _root_.Go.OpenSpec := { _root_.Go.OpenSpec.ofChange s with cond := some uptoSmall }

/-- 'shipyardlaw08.SpanNormals', WHERE WHAT IT READS IS OF BULK AT MOST 1048576: true; the input reads as it did. -/
def spanNormalsUptoRow : OpenClaim := { program := "ytpmcoiomcjgehaa", sum := "4bb6f7f829bb791426e7b0691b3de2014982f64eb5b4b75211b46c9b1662b773", func := "shipyard/shipyardlaw08.SpanNormals", spec := "spanNormals", unfollowed := true, recurses := true, apart := false, narrowed := true }
def SpanNormalsUptoSaid : Prop := spanNormalsUptoRow.holds Try.pinned (OpenSpec.upto spanNormalsSpec)

/-- 'shipyardlaw08.SpanGaps', WHERE WHAT IT READS IS OF BULK AT MOST 1048576: true; the input reads as it did. -/
def spanGapsUptoRow : OpenClaim := { program := "ytpmcoiomcjgehaa", sum := "4bb6f7f829bb791426e7b0691b3de2014982f64eb5b4b75211b46c9b1662b773", func := "shipyard/shipyardlaw08.SpanGaps", spec := "spanGaps", unfollowed := true, recurses := true, apart := false, narrowed := true }
def SpanGapsUptoSaid : Prop := spanGapsUptoRow.holds Try.pinned (OpenSpec.upto spanGapsSpec)

/-- 'shipyardlaw08.SpanFits', WHERE WHAT IT READS IS OF BULK AT MOST 1048576: true; the input reads as it did. -/
def spanFitsUptoRow : OpenClaim := { program := "ytpmcoiomcjgehaa", sum := "4bb6f7f829bb791426e7b0691b3de2014982f64eb5b4b75211b46c9b1662b773", func := "shipyard/shipyardlaw08.SpanFits", spec := "spanFits", unfollowed := true, recurses := true, apart := false, narrowed := true }
def SpanFitsUptoSaid : Prop := spanFitsUptoRow.holds Try.pinned (OpenSpec.upto spanFitsSpec)

/-- 'shipyardlaw08.SpanFirst', WHERE WHAT IT READS IS OF BULK AT MOST 1048576: true; the input reads as it did. -/
def spanFirstUptoRow : OpenClaim := { program := "ytpmcoiomcjgehaa", sum := "4bb6f7f829bb791426e7b0691b3de2014982f64eb5b4b75211b46c9b1662b773", func := "shipyard/shipyardlaw08.SpanFirst", spec := "spanFirst", unfollowed := true, recurses := true, apart := false, narrowed := true }
def SpanFirstUptoSaid : Prop := spanFirstUptoRow.holds Try.pinned (OpenSpec.upto spanFirstSpec)

/-- 'shipyardlaw08.SpanSets', WHERE WHAT IT READS IS OF BULK AT MOST 1048576: true; the input reads as it did. -/
def spanSetsUptoRow : OpenClaim := { program := "ytpmcoiomcjgehaa", sum := "4bb6f7f829bb791426e7b0691b3de2014982f64eb5b4b75211b46c9b1662b773", func := "shipyard/shipyardlaw08.SpanSets", spec := "spanSets", unfollowed := true, recurses := true, apart := false, narrowed := true }
def SpanSetsUptoSaid : Prop := spanSetsUptoRow.holds Try.pinned (OpenSpec.upto spanSetsSpec)

/-- 'shipyardlaw08.SpanMembers', WHERE WHAT IT READS IS OF BULK AT MOST 1048576: true; the input reads as it did. -/
def spanMembersUptoRow : OpenClaim := { program := "ytpmcoiomcjgehaa", sum := "4bb6f7f829bb791426e7b0691b3de2014982f64eb5b4b75211b46c9b1662b773", func := "shipyard/shipyardlaw08.SpanMembers", spec := "spanMembers", unfollowed := true, recurses := true, apart := false, narrowed := true }
def SpanMembersUptoSaid : Prop := spanMembersUptoRow.holds Try.pinned (OpenSpec.upto spanMembersSpec)

/-- 'shipyardlaw08.SpanNumbers', WHERE WHAT IT READS IS OF BULK AT MOST 1048576: true; the input reads as it did. -/
def spanNumbersUptoRow : OpenClaim := { program := "ytpmcoiomcjgehaa", sum := "4bb6f7f829bb791426e7b0691b3de2014982f64eb5b4b75211b46c9b1662b773", func := "shipyard/shipyardlaw08.SpanNumbers", spec := "spanNumbers", unfollowed := true, recurses := true, apart := false, narrowed := true }
def SpanNumbersUptoSaid : Prop := spanNumbersUptoRow.holds Try.pinned (OpenSpec.upto spanNumbersSpec)

/-- 'shipyardlaw08.SpanShares', WHERE WHAT IT READS IS OF BULK AT MOST 1048576: true; the input reads as it did. -/
def spanSharesUptoRow : OpenClaim := { program := "ytpmcoiomcjgehaa", sum := "4bb6f7f829bb791426e7b0691b3de2014982f64eb5b4b75211b46c9b1662b773", func := "shipyard/shipyardlaw08.SpanShares", spec := "spanShares", unfollowed := true, recurses := true, apart := false, narrowed := true }
def SpanSharesUptoSaid : Prop := spanSharesUptoRow.holds Try.pinned (OpenSpec.upto spanSharesSpec)

end Rows
end Go.Proofs.Ytpmcoiomcjgehaa
