/-
  DERIVED. GIVEN WITH THE SEED: THE CARDS: each row of YtadpljebgkfeoaaGreatDoorRows.lean that lists a variable, with what it lists TIED to the program's text (the seventh form; the later family's looks); each row that meets fmt, with fmt's text TOLD by the authors' own Lean function (tested against real Go, not proved from fmt's source: count such statements apart). THE CARD IS WHAT COUNTS. Prove the row's statement (the work); the ties are given (YtadpljebgkfeoaaGreatDoorTie.lean); close each card by the builder's one call (the guide's Derived/Test/ToyasCard.lean, 'card_holds'). Laid BY PROGRAM, IN A SANDBOX (cutbox-door.mjs). By AI agents, Wed Nov 11 2026. No macro, syntax, notation, axiom, sorry.
-/
import Derived.Test.YtadpljebgkfeoaaGreatDoorRows
import GoSem.ClaimSeven
namespace Go.Proofs.YtadpljebgkfeoaaGreatDoor
namespace Rows

/-- THE TIED CARD OF 'shipyardlaw53.DockChecks'. -/
def dockChecksCard : Claim7 := { stood := { row := dockChecksRow, standIns := [], harness := (true, "c7d1384e3ab2d6fed169c35b17f81f2fe84fdb05dc4b702eec80aadcd9cc0552"), looks := false }, kinds := [], alts := [], laidByText := true, laidKinds := [.data, .pinned], laidTests := true, laidLooks := .later }
def DockChecksCardSaid : Prop := Claim7.holds Tryz.pinned (.plain (OpenSpec.ofChange dockChecksSpec)) dockChecksCard

/-- THE TIED CARD OF 'shipyardlaw53.DockTimes'. -/
def dockTimesCard : Claim7 := { stood := { row := dockTimesRow, standIns := [], harness := (true, "c7d1384e3ab2d6fed169c35b17f81f2fe84fdb05dc4b702eec80aadcd9cc0552"), looks := false }, kinds := [], alts := [], laidByText := true, laidKinds := [.data, .pinned], laidTests := true, laidLooks := .later }
def DockTimesCardSaid : Prop := Claim7.holds Tryz.pinned (.plain (OpenSpec.ofChange dockTimesSpec)) dockTimesCard

/-- THE TIED CARD OF 'shipyardlaw53.DockFits'. -/
def dockFitsCard : Claim7 := { stood := { row := dockFitsRow, standIns := [], harness := (true, "c7d1384e3ab2d6fed169c35b17f81f2fe84fdb05dc4b702eec80aadcd9cc0552"), looks := false }, kinds := [], alts := [], laidByText := true, laidKinds := [.data, .pinned], laidTests := true, laidLooks := .later }
def DockFitsCardSaid : Prop := Claim7.holds Tryz.pinned (.plain (OpenSpec.ofChange dockFitsSpec)) dockFitsCard

/-- THE TIED CARD OF 'shipyardlaw53.DockDelays'. -/
def dockDelaysCard : Claim7 := { stood := { row := dockDelaysRow, standIns := [], harness := (true, "c7d1384e3ab2d6fed169c35b17f81f2fe84fdb05dc4b702eec80aadcd9cc0552"), looks := false }, kinds := [], alts := [], laidByText := true, laidKinds := [.data, .pinned], laidTests := true, laidLooks := .later }
def DockDelaysCardSaid : Prop := Claim7.holds Tryz.pinned (.plain (OpenSpec.ofChange dockDelaysSpec)) dockDelaysCard

/-- THE TIED CARD OF 'shipyardlaw53.DockFirst'. -/
def dockFirstCard : Claim7 := { stood := { row := dockFirstRow, standIns := [], harness := (true, "c7d1384e3ab2d6fed169c35b17f81f2fe84fdb05dc4b702eec80aadcd9cc0552"), looks := false }, kinds := [], alts := [], laidByText := true, laidKinds := [.data, .pinned], laidTests := true, laidLooks := .later }
def DockFirstCardSaid : Prop := Claim7.holds Tryz.pinned (.plain (OpenSpec.ofChange dockFirstSpec)) dockFirstCard

/-- THE TIED CARD OF 'shipyardlaw53.DockTogether'. -/
def dockTogetherCard : Claim7 := { stood := { row := dockTogetherRow, standIns := [], harness := (true, "c7d1384e3ab2d6fed169c35b17f81f2fe84fdb05dc4b702eec80aadcd9cc0552"), looks := false }, kinds := [], alts := [], laidByText := true, laidKinds := [.data, .pinned], laidTests := true, laidLooks := .later }
def DockTogetherCardSaid : Prop := Claim7.holds Tryz.pinned (.plain (OpenSpec.ofChange dockTogetherSpec)) dockTogetherCard

/-- THE TIED CARD OF 'shipyardlaw53.DockLater'. -/
def dockLaterCard : Claim7 := { stood := { row := dockLaterRow, standIns := [], harness := (true, "c7d1384e3ab2d6fed169c35b17f81f2fe84fdb05dc4b702eec80aadcd9cc0552"), looks := false }, kinds := [], alts := [], laidByText := true, laidKinds := [.data, .pinned], laidTests := true, laidLooks := .later }
def DockLaterCardSaid : Prop := Claim7.holds Tryz.pinned (.plain (OpenSpec.ofChange dockLaterSpec)) dockLaterCard

/-- THE SECOND FORM's CARD OF 'shipyardlaw53.DockChecks'. -/
def dockChecksUptoCard : Claim7 := { stood := { row := dockChecksUptoRow, standIns := [], harness := (true, "c7d1384e3ab2d6fed169c35b17f81f2fe84fdb05dc4b702eec80aadcd9cc0552"), looks := false }, kinds := [], alts := [], laidByText := true, laidKinds := [.data, .pinned], laidTests := true, laidLooks := .later }
def DockChecksUptoCardSaid : Prop := Claim7.holds Tryz.pinned (.plain (OpenSpec.upto dockChecksSpec)) dockChecksUptoCard

/-- THE SECOND FORM's CARD OF 'shipyardlaw53.DockTimes'. -/
def dockTimesUptoCard : Claim7 := { stood := { row := dockTimesUptoRow, standIns := [], harness := (true, "c7d1384e3ab2d6fed169c35b17f81f2fe84fdb05dc4b702eec80aadcd9cc0552"), looks := false }, kinds := [], alts := [], laidByText := true, laidKinds := [.data, .pinned], laidTests := true, laidLooks := .later }
def DockTimesUptoCardSaid : Prop := Claim7.holds Tryz.pinned (.plain (OpenSpec.upto dockTimesSpec)) dockTimesUptoCard

/-- THE SECOND FORM's CARD OF 'shipyardlaw53.DockFits'. -/
def dockFitsUptoCard : Claim7 := { stood := { row := dockFitsUptoRow, standIns := [], harness := (true, "c7d1384e3ab2d6fed169c35b17f81f2fe84fdb05dc4b702eec80aadcd9cc0552"), looks := false }, kinds := [], alts := [], laidByText := true, laidKinds := [.data, .pinned], laidTests := true, laidLooks := .later }
def DockFitsUptoCardSaid : Prop := Claim7.holds Tryz.pinned (.plain (OpenSpec.upto dockFitsSpec)) dockFitsUptoCard

/-- THE SECOND FORM's CARD OF 'shipyardlaw53.DockDelays'. -/
def dockDelaysUptoCard : Claim7 := { stood := { row := dockDelaysUptoRow, standIns := [], harness := (true, "c7d1384e3ab2d6fed169c35b17f81f2fe84fdb05dc4b702eec80aadcd9cc0552"), looks := false }, kinds := [], alts := [], laidByText := true, laidKinds := [.data, .pinned], laidTests := true, laidLooks := .later }
def DockDelaysUptoCardSaid : Prop := Claim7.holds Tryz.pinned (.plain (OpenSpec.upto dockDelaysSpec)) dockDelaysUptoCard

/-- THE SECOND FORM's CARD OF 'shipyardlaw53.DockFirst'. -/
def dockFirstUptoCard : Claim7 := { stood := { row := dockFirstUptoRow, standIns := [], harness := (true, "c7d1384e3ab2d6fed169c35b17f81f2fe84fdb05dc4b702eec80aadcd9cc0552"), looks := false }, kinds := [], alts := [], laidByText := true, laidKinds := [.data, .pinned], laidTests := true, laidLooks := .later }
def DockFirstUptoCardSaid : Prop := Claim7.holds Tryz.pinned (.plain (OpenSpec.upto dockFirstSpec)) dockFirstUptoCard

/-- THE SECOND FORM's CARD OF 'shipyardlaw53.DockTogether'. -/
def dockTogetherUptoCard : Claim7 := { stood := { row := dockTogetherUptoRow, standIns := [], harness := (true, "c7d1384e3ab2d6fed169c35b17f81f2fe84fdb05dc4b702eec80aadcd9cc0552"), looks := false }, kinds := [], alts := [], laidByText := true, laidKinds := [.data, .pinned], laidTests := true, laidLooks := .later }
def DockTogetherUptoCardSaid : Prop := Claim7.holds Tryz.pinned (.plain (OpenSpec.upto dockTogetherSpec)) dockTogetherUptoCard

/-- THE SECOND FORM's CARD OF 'shipyardlaw53.DockLater'. -/
def dockLaterUptoCard : Claim7 := { stood := { row := dockLaterUptoRow, standIns := [], harness := (true, "c7d1384e3ab2d6fed169c35b17f81f2fe84fdb05dc4b702eec80aadcd9cc0552"), looks := false }, kinds := [], alts := [], laidByText := true, laidKinds := [.data, .pinned], laidTests := true, laidLooks := .later }
def DockLaterUptoCardSaid : Prop := Claim7.holds Tryz.pinned (.plain (OpenSpec.upto dockLaterSpec)) dockLaterUptoCard
end Rows
end Go.Proofs.YtadpljebgkfeoaaGreatDoor
