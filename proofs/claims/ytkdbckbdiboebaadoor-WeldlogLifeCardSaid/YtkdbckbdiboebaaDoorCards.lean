/-
  DERIVED. GIVEN WITH THE SEED: THE CARDS: each row of YtkdbckbdiboebaaDoorRows.lean that lists a variable, with what it lists TIED to the program's text (the seventh form; the later family's looks); each row that meets fmt, with fmt's text TOLD by the authors' own Lean function (tested against real Go, not proved from fmt's source: count such statements apart). THE CARD IS WHAT COUNTS. Prove the row's statement (the work); the ties are given (YtkdbckbdiboebaaDoorTie.lean); close each card by the builder's one call (the guide's Derived/Test/ToyasCard.lean, 'card_holds'). Laid BY PROGRAM, IN A SANDBOX (cutbox-door.mjs). By AI agents, Wed Nov 11 2026. No macro, syntax, notation, axiom, sorry.
-/
import Derived.Test.YtkdbckbdiboebaaDoorRows
import GoSem.ClaimSeven
namespace Go.Proofs.YtkdbckbdiboebaaDoor
namespace Rows

/-- THE TIED CARD OF 'shipyardlaw36.WeldlogNews'. -/
def weldlogNewsCard : Claim7 := { stood := { row := weldlogNewsRow, standIns := [], harness := (true, "3dca2d9c0afafb58f9f48af4b1fdc770af8c176704d39f7f832fb78faea9fb7f"), looks := false }, kinds := [], alts := [], laidByText := true, laidKinds := [.data, .pinned], laidTests := true, laidLooks := .later }
def WeldlogNewsCardSaid : Prop := Claim7.holds Tryd.pinned (.plain (OpenSpec.ofChange weldlogNewsSpec)) weldlogNewsCard

/-- THE TIED CARD OF 'shipyardlaw36.WeldlogChecks'. -/
def weldlogChecksCard : Claim7 := { stood := { row := weldlogChecksRow, standIns := [], harness := (true, "3dca2d9c0afafb58f9f48af4b1fdc770af8c176704d39f7f832fb78faea9fb7f"), looks := false }, kinds := [], alts := [], laidByText := true, laidKinds := [.data, .pinned], laidTests := true, laidLooks := .later }
def WeldlogChecksCardSaid : Prop := Claim7.holds Tryd.pinned (.plain (OpenSpec.ofChange weldlogChecksSpec)) weldlogChecksCard

/-- THE TIED CARD OF 'shipyardlaw36.WeldlogWelds'. -/
def weldlogWeldsCard : Claim7 := { stood := { row := weldlogWeldsRow, standIns := [], harness := (true, "3dca2d9c0afafb58f9f48af4b1fdc770af8c176704d39f7f832fb78faea9fb7f"), looks := false }, kinds := [], alts := [], laidByText := true, laidKinds := [.data, .pinned], laidTests := true, laidLooks := .later }
def WeldlogWeldsCardSaid : Prop := Claim7.holds Tryd.pinned (.plain (OpenSpec.ofChange weldlogWeldsSpec)) weldlogWeldsCard

/-- THE TIED CARD OF 'shipyardlaw36.WeldlogInspects'. -/
def weldlogInspectsCard : Claim7 := { stood := { row := weldlogInspectsRow, standIns := [], harness := (true, "3dca2d9c0afafb58f9f48af4b1fdc770af8c176704d39f7f832fb78faea9fb7f"), looks := false }, kinds := [], alts := [], laidByText := true, laidKinds := [.data, .pinned], laidTests := true, laidLooks := .later }
def WeldlogInspectsCardSaid : Prop := Claim7.holds Tryd.pinned (.plain (OpenSpec.ofChange weldlogInspectsSpec)) weldlogInspectsCard

/-- THE TIED CARD OF 'shipyardlaw36.WeldlogLife'. -/
def weldlogLifeCard : Claim7 := { stood := { row := weldlogLifeRow, standIns := [], harness := (true, "3dca2d9c0afafb58f9f48af4b1fdc770af8c176704d39f7f832fb78faea9fb7f"), looks := false }, kinds := [], alts := [], laidByText := true, laidKinds := [.data, .pinned], laidTests := true, laidLooks := .later }
def WeldlogLifeCardSaid : Prop := Claim7.holds Tryd.pinned (.plain (OpenSpec.ofChange weldlogLifeSpec)) weldlogLifeCard

/-- THE TIED CARD OF 'shipyardlaw36.WeldlogKeeps'. -/
def weldlogKeepsCard : Claim7 := { stood := { row := weldlogKeepsRow, standIns := [], harness := (true, "3dca2d9c0afafb58f9f48af4b1fdc770af8c176704d39f7f832fb78faea9fb7f"), looks := false }, kinds := [], alts := [], laidByText := true, laidKinds := [.data, .pinned], laidTests := true, laidLooks := .later }
def WeldlogKeepsCardSaid : Prop := Claim7.holds Tryd.pinned (.plain (OpenSpec.ofChange weldlogKeepsSpec)) weldlogKeepsCard

/-- THE SECOND FORM's CARD OF 'shipyardlaw36.WeldlogNews'. -/
def weldlogNewsUptoCard : Claim7 := { stood := { row := weldlogNewsUptoRow, standIns := [], harness := (true, "3dca2d9c0afafb58f9f48af4b1fdc770af8c176704d39f7f832fb78faea9fb7f"), looks := false }, kinds := [], alts := [], laidByText := true, laidKinds := [.data, .pinned], laidTests := true, laidLooks := .later }
def WeldlogNewsUptoCardSaid : Prop := Claim7.holds Tryd.pinned (.plain (OpenSpec.upto weldlogNewsSpec)) weldlogNewsUptoCard

/-- THE SECOND FORM's CARD OF 'shipyardlaw36.WeldlogChecks'. -/
def weldlogChecksUptoCard : Claim7 := { stood := { row := weldlogChecksUptoRow, standIns := [], harness := (true, "3dca2d9c0afafb58f9f48af4b1fdc770af8c176704d39f7f832fb78faea9fb7f"), looks := false }, kinds := [], alts := [], laidByText := true, laidKinds := [.data, .pinned], laidTests := true, laidLooks := .later }
def WeldlogChecksUptoCardSaid : Prop := Claim7.holds Tryd.pinned (.plain (OpenSpec.upto weldlogChecksSpec)) weldlogChecksUptoCard

/-- THE SECOND FORM's CARD OF 'shipyardlaw36.WeldlogWelds'. -/
def weldlogWeldsUptoCard : Claim7 := { stood := { row := weldlogWeldsUptoRow, standIns := [], harness := (true, "3dca2d9c0afafb58f9f48af4b1fdc770af8c176704d39f7f832fb78faea9fb7f"), looks := false }, kinds := [], alts := [], laidByText := true, laidKinds := [.data, .pinned], laidTests := true, laidLooks := .later }
def WeldlogWeldsUptoCardSaid : Prop := Claim7.holds Tryd.pinned (.plain (OpenSpec.upto weldlogWeldsSpec)) weldlogWeldsUptoCard

/-- THE SECOND FORM's CARD OF 'shipyardlaw36.WeldlogInspects'. -/
def weldlogInspectsUptoCard : Claim7 := { stood := { row := weldlogInspectsUptoRow, standIns := [], harness := (true, "3dca2d9c0afafb58f9f48af4b1fdc770af8c176704d39f7f832fb78faea9fb7f"), looks := false }, kinds := [], alts := [], laidByText := true, laidKinds := [.data, .pinned], laidTests := true, laidLooks := .later }
def WeldlogInspectsUptoCardSaid : Prop := Claim7.holds Tryd.pinned (.plain (OpenSpec.upto weldlogInspectsSpec)) weldlogInspectsUptoCard

/-- THE SECOND FORM's CARD OF 'shipyardlaw36.WeldlogLife'. -/
def weldlogLifeUptoCard : Claim7 := { stood := { row := weldlogLifeUptoRow, standIns := [], harness := (true, "3dca2d9c0afafb58f9f48af4b1fdc770af8c176704d39f7f832fb78faea9fb7f"), looks := false }, kinds := [], alts := [], laidByText := true, laidKinds := [.data, .pinned], laidTests := true, laidLooks := .later }
def WeldlogLifeUptoCardSaid : Prop := Claim7.holds Tryd.pinned (.plain (OpenSpec.upto weldlogLifeSpec)) weldlogLifeUptoCard

/-- THE SECOND FORM's CARD OF 'shipyardlaw36.WeldlogKeeps'. -/
def weldlogKeepsUptoCard : Claim7 := { stood := { row := weldlogKeepsUptoRow, standIns := [], harness := (true, "3dca2d9c0afafb58f9f48af4b1fdc770af8c176704d39f7f832fb78faea9fb7f"), looks := false }, kinds := [], alts := [], laidByText := true, laidKinds := [.data, .pinned], laidTests := true, laidLooks := .later }
def WeldlogKeepsUptoCardSaid : Prop := Claim7.holds Tryd.pinned (.plain (OpenSpec.upto weldlogKeepsSpec)) weldlogKeepsUptoCard
end Rows
end Go.Proofs.YtkdbckbdiboebaaDoor
