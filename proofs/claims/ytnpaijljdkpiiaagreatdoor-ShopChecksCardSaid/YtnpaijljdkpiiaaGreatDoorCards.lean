/-
  DERIVED. GIVEN WITH THE SEED: THE CARDS: each row of YtnpaijljdkpiiaaGreatDoorRows.lean that lists a variable, with what it lists TIED to the program's text (the seventh form; the later family's looks); each row that meets fmt, with fmt's text TOLD by the authors' own Lean function (tested against real Go, not proved from fmt's source: count such statements apart). THE CARD IS WHAT COUNTS. Prove the row's statement (the work); the ties are given (YtnpaijljdkpiiaaGreatDoorTie.lean); close each card by the builder's one call (the guide's Derived/Test/ToyasCard.lean, 'card_holds'). Laid BY PROGRAM, IN A SANDBOX (cutbox-door.mjs). By AI agents, Wed Nov 11 2026. No macro, syntax, notation, axiom, sorry.
-/
import Derived.Test.YtnpaijljdkpiiaaGreatDoorRows
import GoSem.ClaimSeven
namespace Go.Proofs.YtnpaijljdkpiiaaGreatDoor
namespace Rows

/-- THE TIED CARD OF 'shipyardlaw42.ShopOrders'. -/
def shopOrdersCard : Claim7 := { stood := { row := shopOrdersRow, standIns := [], harness := (true, "5d82d133f8c620677c5e7663bf14e0585844e5e515b29b1903a5dc2c47285c59"), looks := false }, kinds := [], alts := [], laidByText := true, laidKinds := [.data, .pinned], laidTests := true, laidLooks := .later }
def ShopOrdersCardSaid : Prop := Claim7.holds Tryz.pinned (.plain (OpenSpec.ofChange shopOrdersSpec)) shopOrdersCard

/-- THE TIED CARD OF 'shipyardlaw42.ShopPlans'. -/
def shopPlansCard : Claim7 := { stood := { row := shopPlansRow, standIns := [], harness := (true, "5d82d133f8c620677c5e7663bf14e0585844e5e515b29b1903a5dc2c47285c59"), looks := false }, kinds := [], alts := [], laidByText := true, laidKinds := [.data, .pinned], laidTests := true, laidLooks := .later }
def ShopPlansCardSaid : Prop := Claim7.holds Tryz.pinned (.plain (OpenSpec.ofChange shopPlansSpec)) shopPlansCard

/-- THE TIED CARD OF 'shipyardlaw42.ShopChecks'. -/
def shopChecksCard : Claim7 := { stood := { row := shopChecksRow, standIns := [], harness := (true, "5d82d133f8c620677c5e7663bf14e0585844e5e515b29b1903a5dc2c47285c59"), looks := false }, kinds := [], alts := [], laidByText := true, laidKinds := [.data, .pinned], laidTests := true, laidLooks := .later }
def ShopChecksCardSaid : Prop := Claim7.holds Tryz.pinned (.plain (OpenSpec.ofChange shopChecksSpec)) shopChecksCard

/-- THE TIED CARD OF 'shipyardlaw42.ShopValid'. -/
def shopValidCard : Claim7 := { stood := { row := shopValidRow, standIns := [], harness := (true, "5d82d133f8c620677c5e7663bf14e0585844e5e515b29b1903a5dc2c47285c59"), looks := false }, kinds := [], alts := [], laidByText := true, laidKinds := [.data, .pinned], laidTests := true, laidLooks := .later }
def ShopValidCardSaid : Prop := Claim7.holds Tryz.pinned (.plain (OpenSpec.ofChange shopValidSpec)) shopValidCard

/-- THE TIED CARD OF 'shipyardlaw42.ShopShortest'. -/
def shopShortestCard : Claim7 := { stood := { row := shopShortestRow, standIns := [], harness := (true, "5d82d133f8c620677c5e7663bf14e0585844e5e515b29b1903a5dc2c47285c59"), looks := false }, kinds := [], alts := [], laidByText := true, laidKinds := [.data, .pinned], laidTests := true, laidLooks := .later }
def ShopShortestCardSaid : Prop := Claim7.holds Tryz.pinned (.plain (OpenSpec.ofChange shopShortestSpec)) shopShortestCard

/-- THE TIED CARD OF 'shipyardlaw42.ShopFewer'. -/
def shopFewerCard : Claim7 := { stood := { row := shopFewerRow, standIns := [], harness := (true, "5d82d133f8c620677c5e7663bf14e0585844e5e515b29b1903a5dc2c47285c59"), looks := false }, kinds := [], alts := [], laidByText := true, laidKinds := [.data, .pinned], laidTests := true, laidLooks := .later }
def ShopFewerCardSaid : Prop := Claim7.holds Tryz.pinned (.plain (OpenSpec.ofChange shopFewerSpec)) shopFewerCard

/-- THE SECOND FORM's CARD OF 'shipyardlaw42.ShopOrders'. -/
def shopOrdersUptoCard : Claim7 := { stood := { row := shopOrdersUptoRow, standIns := [], harness := (true, "5d82d133f8c620677c5e7663bf14e0585844e5e515b29b1903a5dc2c47285c59"), looks := false }, kinds := [], alts := [], laidByText := true, laidKinds := [.data, .pinned], laidTests := true, laidLooks := .later }
def ShopOrdersUptoCardSaid : Prop := Claim7.holds Tryz.pinned (.plain (OpenSpec.upto shopOrdersSpec)) shopOrdersUptoCard

/-- THE SECOND FORM's CARD OF 'shipyardlaw42.ShopPlans'. -/
def shopPlansUptoCard : Claim7 := { stood := { row := shopPlansUptoRow, standIns := [], harness := (true, "5d82d133f8c620677c5e7663bf14e0585844e5e515b29b1903a5dc2c47285c59"), looks := false }, kinds := [], alts := [], laidByText := true, laidKinds := [.data, .pinned], laidTests := true, laidLooks := .later }
def ShopPlansUptoCardSaid : Prop := Claim7.holds Tryz.pinned (.plain (OpenSpec.upto shopPlansSpec)) shopPlansUptoCard

/-- THE SECOND FORM's CARD OF 'shipyardlaw42.ShopChecks'. -/
def shopChecksUptoCard : Claim7 := { stood := { row := shopChecksUptoRow, standIns := [], harness := (true, "5d82d133f8c620677c5e7663bf14e0585844e5e515b29b1903a5dc2c47285c59"), looks := false }, kinds := [], alts := [], laidByText := true, laidKinds := [.data, .pinned], laidTests := true, laidLooks := .later }
def ShopChecksUptoCardSaid : Prop := Claim7.holds Tryz.pinned (.plain (OpenSpec.upto shopChecksSpec)) shopChecksUptoCard

/-- THE SECOND FORM's CARD OF 'shipyardlaw42.ShopValid'. -/
def shopValidUptoCard : Claim7 := { stood := { row := shopValidUptoRow, standIns := [], harness := (true, "5d82d133f8c620677c5e7663bf14e0585844e5e515b29b1903a5dc2c47285c59"), looks := false }, kinds := [], alts := [], laidByText := true, laidKinds := [.data, .pinned], laidTests := true, laidLooks := .later }
def ShopValidUptoCardSaid : Prop := Claim7.holds Tryz.pinned (.plain (OpenSpec.upto shopValidSpec)) shopValidUptoCard

/-- THE SECOND FORM's CARD OF 'shipyardlaw42.ShopShortest'. -/
def shopShortestUptoCard : Claim7 := { stood := { row := shopShortestUptoRow, standIns := [], harness := (true, "5d82d133f8c620677c5e7663bf14e0585844e5e515b29b1903a5dc2c47285c59"), looks := false }, kinds := [], alts := [], laidByText := true, laidKinds := [.data, .pinned], laidTests := true, laidLooks := .later }
def ShopShortestUptoCardSaid : Prop := Claim7.holds Tryz.pinned (.plain (OpenSpec.upto shopShortestSpec)) shopShortestUptoCard

/-- THE SECOND FORM's CARD OF 'shipyardlaw42.ShopFewer'. -/
def shopFewerUptoCard : Claim7 := { stood := { row := shopFewerUptoRow, standIns := [], harness := (true, "5d82d133f8c620677c5e7663bf14e0585844e5e515b29b1903a5dc2c47285c59"), looks := false }, kinds := [], alts := [], laidByText := true, laidKinds := [.data, .pinned], laidTests := true, laidLooks := .later }
def ShopFewerUptoCardSaid : Prop := Claim7.holds Tryz.pinned (.plain (OpenSpec.upto shopFewerSpec)) shopFewerUptoCard
end Rows
end Go.Proofs.YtnpaijljdkpiiaaGreatDoor
