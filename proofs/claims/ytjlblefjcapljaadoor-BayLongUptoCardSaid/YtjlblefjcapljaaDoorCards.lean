/-
  DERIVED. GIVEN WITH THE SEED: THE CARDS: each row of YtjlblefjcapljaaDoorRows.lean that lists a variable, with what it lists TIED to the program's text (the seventh form; the later family's looks); each row that meets fmt, with fmt's text TOLD by the authors' own Lean function (tested against real Go, not proved from fmt's source: count such statements apart). THE CARD IS WHAT COUNTS. Prove the row's statement (the work); the ties are given (YtjlblefjcapljaaDoorTie.lean); close each card by the builder's one call (the guide's Derived/Test/ToyasCard.lean, 'card_holds'). Laid BY PROGRAM, IN A SANDBOX (cutbox-door.mjs). By AI agents, Wed Nov 11 2026. No macro, syntax, notation, axiom, sorry.
-/
import Derived.Test.YtjlblefjcapljaaDoorRows
import GoSem.ClaimSeven
namespace Go.Proofs.YtjlblefjcapljaaDoor
namespace Rows

/-- THE TIED CARD OF 'shipyardlaw41.BayChecks'. -/
def bayChecksCard : Claim7 := { stood := { row := bayChecksRow, standIns := [], harness := (true, "4c99449655adeaea483a3651e2e6bfe784ce10bae97a76436fce4e70960fb143"), looks := false }, kinds := [], alts := [], laidByText := true, laidKinds := [.data, .pinned], laidTests := true, laidLooks := .later }
def BayChecksCardSaid : Prop := Claim7.holds Tryd.pinned (.plain (OpenSpec.ofChange bayChecksSpec)) bayChecksCard

/-- THE TIED CARD OF 'shipyardlaw41.BayLong'. -/
def bayLongCard : Claim7 := { stood := { row := bayLongRow, standIns := [], harness := (true, "4c99449655adeaea483a3651e2e6bfe784ce10bae97a76436fce4e70960fb143"), looks := false }, kinds := [], alts := [], laidByText := true, laidKinds := [.data, .pinned], laidTests := true, laidLooks := .later }
def BayLongCardSaid : Prop := Claim7.holds Tryd.pinned (.plain (OpenSpec.ofChange bayLongSpec)) bayLongCard

/-- THE TIED CARD OF 'shipyardlaw41.BayFits'. -/
def bayFitsCard : Claim7 := { stood := { row := bayFitsRow, standIns := [], harness := (true, "4c99449655adeaea483a3651e2e6bfe784ce10bae97a76436fce4e70960fb143"), looks := false }, kinds := [], alts := [], laidByText := true, laidKinds := [.data, .pinned], laidTests := true, laidLooks := .later }
def BayFitsCardSaid : Prop := Claim7.holds Tryd.pinned (.plain (OpenSpec.ofChange bayFitsSpec)) bayFitsCard

/-- THE TIED CARD OF 'shipyardlaw41.BayAreas'. -/
def bayAreasCard : Claim7 := { stood := { row := bayAreasRow, standIns := [], harness := (true, "4c99449655adeaea483a3651e2e6bfe784ce10bae97a76436fce4e70960fb143"), looks := false }, kinds := [], alts := [], laidByText := true, laidKinds := [.data, .pinned], laidTests := true, laidLooks := .later }
def BayAreasCardSaid : Prop := Claim7.holds Tryd.pinned (.plain (OpenSpec.ofChange bayAreasSpec)) bayAreasCard

/-- THE TIED CARD OF 'shipyardlaw41.BayApart'. -/
def bayApartCard : Claim7 := { stood := { row := bayApartRow, standIns := [], harness := (true, "4c99449655adeaea483a3651e2e6bfe784ce10bae97a76436fce4e70960fb143"), looks := false }, kinds := [], alts := [], laidByText := true, laidKinds := [.data, .pinned], laidTests := true, laidLooks := .later }
def BayApartCardSaid : Prop := Claim7.holds Tryd.pinned (.plain (OpenSpec.ofChange bayApartSpec)) bayApartCard

/-- THE TIED CARD OF 'shipyardlaw41.BayGrows'. -/
def bayGrowsCard : Claim7 := { stood := { row := bayGrowsRow, standIns := [], harness := (true, "4c99449655adeaea483a3651e2e6bfe784ce10bae97a76436fce4e70960fb143"), looks := false }, kinds := [], alts := [], laidByText := true, laidKinds := [.data, .pinned], laidTests := true, laidLooks := .later }
def BayGrowsCardSaid : Prop := Claim7.holds Tryd.pinned (.plain (OpenSpec.ofChange bayGrowsSpec)) bayGrowsCard

/-- THE SECOND FORM's CARD OF 'shipyardlaw41.BayChecks'. -/
def bayChecksUptoCard : Claim7 := { stood := { row := bayChecksUptoRow, standIns := [], harness := (true, "4c99449655adeaea483a3651e2e6bfe784ce10bae97a76436fce4e70960fb143"), looks := false }, kinds := [], alts := [], laidByText := true, laidKinds := [.data, .pinned], laidTests := true, laidLooks := .later }
def BayChecksUptoCardSaid : Prop := Claim7.holds Tryd.pinned (.plain (OpenSpec.upto bayChecksSpec)) bayChecksUptoCard

/-- THE SECOND FORM's CARD OF 'shipyardlaw41.BayLong'. -/
def bayLongUptoCard : Claim7 := { stood := { row := bayLongUptoRow, standIns := [], harness := (true, "4c99449655adeaea483a3651e2e6bfe784ce10bae97a76436fce4e70960fb143"), looks := false }, kinds := [], alts := [], laidByText := true, laidKinds := [.data, .pinned], laidTests := true, laidLooks := .later }
def BayLongUptoCardSaid : Prop := Claim7.holds Tryd.pinned (.plain (OpenSpec.upto bayLongSpec)) bayLongUptoCard

/-- THE SECOND FORM's CARD OF 'shipyardlaw41.BayFits'. -/
def bayFitsUptoCard : Claim7 := { stood := { row := bayFitsUptoRow, standIns := [], harness := (true, "4c99449655adeaea483a3651e2e6bfe784ce10bae97a76436fce4e70960fb143"), looks := false }, kinds := [], alts := [], laidByText := true, laidKinds := [.data, .pinned], laidTests := true, laidLooks := .later }
def BayFitsUptoCardSaid : Prop := Claim7.holds Tryd.pinned (.plain (OpenSpec.upto bayFitsSpec)) bayFitsUptoCard

/-- THE SECOND FORM's CARD OF 'shipyardlaw41.BayAreas'. -/
def bayAreasUptoCard : Claim7 := { stood := { row := bayAreasUptoRow, standIns := [], harness := (true, "4c99449655adeaea483a3651e2e6bfe784ce10bae97a76436fce4e70960fb143"), looks := false }, kinds := [], alts := [], laidByText := true, laidKinds := [.data, .pinned], laidTests := true, laidLooks := .later }
def BayAreasUptoCardSaid : Prop := Claim7.holds Tryd.pinned (.plain (OpenSpec.upto bayAreasSpec)) bayAreasUptoCard

/-- THE SECOND FORM's CARD OF 'shipyardlaw41.BayApart'. -/
def bayApartUptoCard : Claim7 := { stood := { row := bayApartUptoRow, standIns := [], harness := (true, "4c99449655adeaea483a3651e2e6bfe784ce10bae97a76436fce4e70960fb143"), looks := false }, kinds := [], alts := [], laidByText := true, laidKinds := [.data, .pinned], laidTests := true, laidLooks := .later }
def BayApartUptoCardSaid : Prop := Claim7.holds Tryd.pinned (.plain (OpenSpec.upto bayApartSpec)) bayApartUptoCard

/-- THE SECOND FORM's CARD OF 'shipyardlaw41.BayGrows'. -/
def bayGrowsUptoCard : Claim7 := { stood := { row := bayGrowsUptoRow, standIns := [], harness := (true, "4c99449655adeaea483a3651e2e6bfe784ce10bae97a76436fce4e70960fb143"), looks := false }, kinds := [], alts := [], laidByText := true, laidKinds := [.data, .pinned], laidTests := true, laidLooks := .later }
def BayGrowsUptoCardSaid : Prop := Claim7.holds Tryd.pinned (.plain (OpenSpec.upto bayGrowsSpec)) bayGrowsUptoCard
end Rows
end Go.Proofs.YtjlblefjcapljaaDoor
