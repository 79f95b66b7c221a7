/-
  No cell of these rows narrows 'for every input' (looked for: loops, veiled, ifaces, maps, wideKeys, modest, calm, conditions, laid).
  DERIVED. THE GIVEN ROWS OF THIS SEAT. 6 by the template 'for every input the law returns true; each argument reads behind the call as it read before'; 0 by the template 'total and deterministic' (their statements: YtkgaiaapkcgdkaaTotals.lean).
  GIVEN WITH THE SEED: the statements are not yours to turn. If you find one false, say at which input.
  Laid BY PROGRAM, IN A SANDBOX (cutbox-rows.mjs): the forced cells as the released guide's own fill.sh prints them over the translation 483852860efde0b9… (all of the seat's roots in one cut). By AI agents, Wed Nov 11 2026. No macro, syntax, notation, axiom, sorry.
-/
import Derived.Test.YtkgaiaapkcgdkaaChecked
import GoSem.Claim
import GoSem.ClaimJoined
import GoSem.ClaimMapViews
import Derived.JoinedTies
import Derived.KernelRfl
namespace Go.Proofs.Ytkgaiaapkcgdkaa
/- THE CELL 'sum', in the pinned program and in every row, IS THE sha256 OF THE DUMP (.gsa) THAT YtkgaiaapkcgdkaaProg.lean LOADS. Nothing in Lean hashes anything: it is a label: what it is worth is what the hold of that sum in a sandbox is worth. -/
noncomputable def Try.pinned : Pinned := { name := "ytkgaiaapkcgdkaa", sum := "483852860efde0b9cd397f4bb5bf336401bb85510ca37f5953e57b3db6af0afa", checked := Try.checked }
namespace Rows
def none {H : Type} : Left H := { results := [], args := [] }

/-- 'shipyardlaw28.RemnantFrees': WHATEVER THE INPUT: true; the input reads as it did. -/
def remnantFreesSpec : ChangeSpec := { name := "remnantFrees", fn := fun _ => fun
  | [d] => { results := [.lit (.bool true)], args := [d] }
  | _ => none }
def remnantFreesRow : OpenClaim := { program := "ytkgaiaapkcgdkaa", sum := "483852860efde0b9cd397f4bb5bf336401bb85510ca37f5953e57b3db6af0afa", func := "shipyard/shipyardlaw28.RemnantFrees", spec := "remnantFrees", unfollowed := true, recurses := true, apart := false }
def RemnantFreesSaid : Prop := remnantFreesRow.holds Try.pinned (OpenSpec.ofChange remnantFreesSpec)

/-- ITS FALSE NEIGHBOUR: 'it returns false'. Refute it at one input. -/
def remnantFreesWrong : ChangeSpec := { name := "remnantFrees", fn := fun _ => fun
  | [d] => { results := [.lit (.bool false)], args := [d] }
  | _ => none }
def RemnantFreesWrongFalsely : Prop := remnantFreesRow.holds Try.pinned (OpenSpec.ofChange remnantFreesWrong)

/-- 'shipyardlaw28.RemnantLargest': WHATEVER THE INPUT: true; the input reads as it did. -/
def remnantLargestSpec : ChangeSpec := { name := "remnantLargest", fn := fun _ => fun
  | [d] => { results := [.lit (.bool true)], args := [d] }
  | _ => none }
def remnantLargestRow : OpenClaim := { program := "ytkgaiaapkcgdkaa", sum := "483852860efde0b9cd397f4bb5bf336401bb85510ca37f5953e57b3db6af0afa", func := "shipyard/shipyardlaw28.RemnantLargest", spec := "remnantLargest", unfollowed := true, recurses := true, apart := false }
def RemnantLargestSaid : Prop := remnantLargestRow.holds Try.pinned (OpenSpec.ofChange remnantLargestSpec)

/-- ITS FALSE NEIGHBOUR: 'it returns false'. Refute it at one input. -/
def remnantLargestWrong : ChangeSpec := { name := "remnantLargest", fn := fun _ => fun
  | [d] => { results := [.lit (.bool false)], args := [d] }
  | _ => none }
def RemnantLargestWrongFalsely : Prop := remnantLargestRow.holds Try.pinned (OpenSpec.ofChange remnantLargestWrong)

/-- 'shipyardlaw28.RemnantMaximal': WHATEVER THE INPUT: true; the input reads as it did. -/
def remnantMaximalSpec : ChangeSpec := { name := "remnantMaximal", fn := fun _ => fun
  | [d1, d2] => { results := [.lit (.bool true)], args := [d1, d2] }
  | _ => none }
def remnantMaximalRow : OpenClaim := { program := "ytkgaiaapkcgdkaa", sum := "483852860efde0b9cd397f4bb5bf336401bb85510ca37f5953e57b3db6af0afa", func := "shipyard/shipyardlaw28.RemnantMaximal", spec := "remnantMaximal", unfollowed := true, recurses := true, apart := false }
def RemnantMaximalSaid : Prop := remnantMaximalRow.holds Try.pinned (OpenSpec.ofChange remnantMaximalSpec)

/-- ITS FALSE NEIGHBOUR: 'it returns false'. Refute it at one input. -/
def remnantMaximalWrong : ChangeSpec := { name := "remnantMaximal", fn := fun _ => fun
  | [d1, d2] => { results := [.lit (.bool false)], args := [d1, d2] }
  | _ => none }
def RemnantMaximalWrongFalsely : Prop := remnantMaximalRow.holds Try.pinned (OpenSpec.ofChange remnantMaximalWrong)

/-- 'shipyardlaw28.RemnantGreatest': WHATEVER THE INPUT: true; the input reads as it did. -/
def remnantGreatestSpec : ChangeSpec := { name := "remnantGreatest", fn := fun _ => fun
  | [d1, d2] => { results := [.lit (.bool true)], args := [d1, d2] }
  | _ => none }
def remnantGreatestRow : OpenClaim := { program := "ytkgaiaapkcgdkaa", sum := "483852860efde0b9cd397f4bb5bf336401bb85510ca37f5953e57b3db6af0afa", func := "shipyard/shipyardlaw28.RemnantGreatest", spec := "remnantGreatest", unfollowed := true, recurses := true, apart := false }
def RemnantGreatestSaid : Prop := remnantGreatestRow.holds Try.pinned (OpenSpec.ofChange remnantGreatestSpec)

/-- ITS FALSE NEIGHBOUR: 'it returns false'. Refute it at one input. -/
def remnantGreatestWrong : ChangeSpec := { name := "remnantGreatest", fn := fun _ => fun
  | [d1, d2] => { results := [.lit (.bool false)], args := [d1, d2] }
  | _ => none }
def RemnantGreatestWrongFalsely : Prop := remnantGreatestRow.holds Try.pinned (OpenSpec.ofChange remnantGreatestWrong)

/-- 'shipyardlaw28.RemnantWhole': WHATEVER THE INPUT: true; the input reads as it did. -/
def remnantWholeSpec : ChangeSpec := { name := "remnantWhole", fn := fun _ => fun
  | [d1, d2, d3] => { results := [.lit (.bool true)], args := [d1, d2, d3] }
  | _ => none }
def remnantWholeRow : OpenClaim := { program := "ytkgaiaapkcgdkaa", sum := "483852860efde0b9cd397f4bb5bf336401bb85510ca37f5953e57b3db6af0afa", func := "shipyard/shipyardlaw28.RemnantWhole", spec := "remnantWhole", unfollowed := true, recurses := true, apart := false }
def RemnantWholeSaid : Prop := remnantWholeRow.holds Try.pinned (OpenSpec.ofChange remnantWholeSpec)

/-- ITS FALSE NEIGHBOUR: 'it returns false'. Refute it at one input. -/
def remnantWholeWrong : ChangeSpec := { name := "remnantWhole", fn := fun _ => fun
  | [d1, d2, d3] => { results := [.lit (.bool false)], args := [d1, d2, d3] }
  | _ => none }
def RemnantWholeWrongFalsely : Prop := remnantWholeRow.holds Try.pinned (OpenSpec.ofChange remnantWholeWrong)

/-- 'shipyardlaw28.RemnantMore': WHATEVER THE INPUT: true; the input reads as it did. -/
def remnantMoreSpec : ChangeSpec := { name := "remnantMore", fn := fun _ => fun
  | [d1, d2] => { results := [.lit (.bool true)], args := [d1, d2] }
  | _ => none }
def remnantMoreRow : OpenClaim := { program := "ytkgaiaapkcgdkaa", sum := "483852860efde0b9cd397f4bb5bf336401bb85510ca37f5953e57b3db6af0afa", func := "shipyard/shipyardlaw28.RemnantMore", spec := "remnantMore", unfollowed := true, recurses := true, apart := false }
def RemnantMoreSaid : Prop := remnantMoreRow.holds Try.pinned (OpenSpec.ofChange remnantMoreSpec)

/-- ITS FALSE NEIGHBOUR: 'it returns false'. Refute it at one input. -/
def remnantMoreWrong : ChangeSpec := { name := "remnantMore", fn := fun _ => fun
  | [d1, d2] => { results := [.lit (.bool false)], args := [d1, d2] }
  | _ => none }
def RemnantMoreWrongFalsely : Prop := remnantMoreRow.holds Try.pinned (OpenSpec.ofChange remnantMoreWrong)

/- THE SECOND FORM. 'bulk': how many values and letters a reading holds, each counted each time it is reached (what is shared counts as often as it is met; a slice's spare places count too). A statement '..UptoSaid' is the law's where the arguments, and the package variables that the reading takes, are together of bulk at most 1048576: NARROWER than '..Said'. Prove '..Said' where nothing that the law and all that it calls make is longer than what came in: it says more and counts as full. Else prove '..UptoSaid'. A law counts once. -/
mutual
def uptoBulk {H : Type} : DataW H → Nat
  | .lit (.string bytes) => bytes.length + 1
  | .lit _ => 1
  | .nil => 1
  | .ptr d => uptoBulk d + 1
  | .slice elems spare => uptoBulkAll elems + uptoBulkAll spare + 1
  | .agg parts => uptoBulkAll parts + 1
  | .iface _ d => uptoBulk d + 1
  | .map entries => uptoBulkEntries entries + 1
  | .held _ => 1
def uptoBulkAll {H : Type} : List (DataW H) → Nat
  | [] => 0
  | d :: r => uptoBulk d + uptoBulkAll r
def uptoBulkEntries {H : Type} : List (Lit × DataW H) → Nat
  | [] => 0
  | x :: r => uptoBulkEntry x + uptoBulkEntries r
def uptoBulkEntry {H : Type} : Lit × DataW H → Nat
  | (.string bytes, d) => bytes.length + uptoBulk d + 1
  | (_, d) => uptoBulk d + 1
 end
def uptoSmall : (H : Type) → List (DataW H) → Bool := fun _ ds => decide (uptoBulkAll ds ≤ 1048576)
def OpenSpec.upto (s : _root_.Go.ChangeSpec) : _root_.Go.OpenSpec := { _root_.Go.OpenSpec.ofChange s with cond := some uptoSmall }

/-- 'shipyardlaw28.RemnantFrees', WHERE WHAT IT READS IS OF BULK AT MOST 1048576: true; the input reads as it did. -/
def remnantFreesUptoRow : OpenClaim := { program := "ytkgaiaapkcgdkaa", sum := "483852860efde0b9cd397f4bb5bf336401bb85510ca37f5953e57b3db6af0afa", func := "shipyard/shipyardlaw28.RemnantFrees", spec := "remnantFrees", unfollowed := true, recurses := true, apart := false, narrowed := true }
def RemnantFreesUptoSaid : Prop := remnantFreesUptoRow.holds Try.pinned (OpenSpec.upto remnantFreesSpec)

/-- 'shipyardlaw28.RemnantLargest', WHERE WHAT IT READS IS OF BULK AT MOST 1048576: true; the input reads as it did. -/
def remnantLargestUptoRow : OpenClaim := { program := "ytkgaiaapkcgdkaa", sum := "483852860efde0b9cd397f4bb5bf336401bb85510ca37f5953e57b3db6af0afa", func := "shipyard/shipyardlaw28.RemnantLargest", spec := "remnantLargest", unfollowed := true, recurses := true, apart := false, narrowed := true }
def RemnantLargestUptoSaid : Prop := remnantLargestUptoRow.holds Try.pinned (OpenSpec.upto remnantLargestSpec)

/-- 'shipyardlaw28.RemnantMaximal', WHERE WHAT IT READS IS OF BULK AT MOST 1048576: true; the input reads as it did. -/
def remnantMaximalUptoRow : OpenClaim := { program := "ytkgaiaapkcgdkaa", sum := "483852860efde0b9cd397f4bb5bf336401bb85510ca37f5953e57b3db6af0afa", func := "shipyard/shipyardlaw28.RemnantMaximal", spec := "remnantMaximal", unfollowed := true, recurses := true, apart := false, narrowed := true }
def RemnantMaximalUptoSaid : Prop := remnantMaximalUptoRow.holds Try.pinned (OpenSpec.upto remnantMaximalSpec)

/-- 'shipyardlaw28.RemnantGreatest', WHERE WHAT IT READS IS OF BULK AT MOST 1048576: true; the input reads as it did. -/
def remnantGreatestUptoRow : OpenClaim := { program := "ytkgaiaapkcgdkaa", sum := "483852860efde0b9cd397f4bb5bf336401bb85510ca37f5953e57b3db6af0afa", func := "shipyard/shipyardlaw28.RemnantGreatest", spec := "remnantGreatest", unfollowed := true, recurses := true, apart := false, narrowed := true }
def RemnantGreatestUptoSaid : Prop := remnantGreatestUptoRow.holds Try.pinned (OpenSpec.upto remnantGreatestSpec)

/-- 'shipyardlaw28.RemnantWhole', WHERE WHAT IT READS IS OF BULK AT MOST 1048576: true; the input reads as it did. -/
def remnantWholeUptoRow : OpenClaim := { program := "ytkgaiaapkcgdkaa", sum := "483852860efde0b9cd397f4bb5bf336401bb85510ca37f5953e57b3db6af0afa", func := "shipyard/shipyardlaw28.RemnantWhole", spec := "remnantWhole", unfollowed := true, recurses := true, apart := false, narrowed := true }
def RemnantWholeUptoSaid : Prop := remnantWholeUptoRow.holds Try.pinned (OpenSpec.upto remnantWholeSpec)

/-- 'shipyardlaw28.RemnantMore', WHERE WHAT IT READS IS OF BULK AT MOST 1048576: true; the input reads as it did. -/
def remnantMoreUptoRow : OpenClaim := { program := "ytkgaiaapkcgdkaa", sum := "483852860efde0b9cd397f4bb5bf336401bb85510ca37f5953e57b3db6af0afa", func := "shipyard/shipyardlaw28.RemnantMore", spec := "remnantMore", unfollowed := true, recurses := true, apart := false, narrowed := true }
def RemnantMoreUptoSaid : Prop := remnantMoreUptoRow.holds Try.pinned (OpenSpec.upto remnantMoreSpec)

end Rows
end Go.Proofs.Ytkgaiaapkcgdkaa
