/-
  DERIVED. GIVEN WITH THE SEED: THE CARDS: each row of YtdgacfkgodbajaaGreatDoorRows.lean that lists a variable, with what it lists TIED to the program's text (the seventh form; the later family's looks); each row that meets fmt, with fmt's text TOLD by the authors' own Lean function (tested against real Go, not proved from fmt's source: count such statements apart). THE CARD IS WHAT COUNTS. Prove the row's statement (the work); the ties are given (YtdgacfkgodbajaaGreatDoorTie.lean); close each card by the builder's one call (the guide's Derived/Test/ToyasCard.lean, 'card_holds'). Laid BY PROGRAM, IN A SANDBOX (cutbox-door.mjs). By AI agents, Wed Nov 11 2026. No macro, syntax, notation, axiom, sorry.
-/
import Derived.Test.YtdgacfkgodbajaaGreatDoorRows
import GoSem.ClaimSeven
namespace Go.Proofs.YtdgacfkgodbajaaGreatDoor
namespace Rows

/-- THE TIED CARD OF 'shipyardlaw58.PermitAdds'. -/
def permitAddsCard : Claim7 := { stood := { row := permitAddsRow, standIns := [], harness := (true, "22a0de1b01213af7ac542f47b3ee0768e7e8d64141e16da82f51665d507544ef"), looks := false }, kinds := [], alts := [], laidByText := true, laidKinds := [.data, .pinned], laidTests := true, laidLooks := .later }
def PermitAddsCardSaid : Prop := Claim7.holds Tryz.pinned (.plain (OpenSpec.ofChange permitAddsSpec)) permitAddsCard

/-- THE TIED CARD OF 'shipyardlaw58.PermitCovers'. -/
def permitCoversCard : Claim7 := { stood := { row := permitCoversRow, standIns := [], harness := (true, "22a0de1b01213af7ac542f47b3ee0768e7e8d64141e16da82f51665d507544ef"), looks := false }, kinds := [], alts := [], laidByText := true, laidKinds := [.data, .pinned], laidTests := true, laidLooks := .later }
def PermitCoversCardSaid : Prop := Claim7.holds Tryz.pinned (.plain (OpenSpec.ofChange permitCoversSpec)) permitCoversCard

/-- THE TIED CARD OF 'shipyardlaw58.PermitTests'. -/
def permitTestsCard : Claim7 := { stood := { row := permitTestsRow, standIns := [], harness := (true, "22a0de1b01213af7ac542f47b3ee0768e7e8d64141e16da82f51665d507544ef"), looks := false }, kinds := [], alts := [], laidByText := true, laidKinds := [.data, .pinned], laidTests := true, laidLooks := .later }
def PermitTestsCardSaid : Prop := Claim7.holds Tryz.pinned (.plain (OpenSpec.ofChange permitTestsSpec)) permitTestsCard

/-- THE TIED CARD OF 'shipyardlaw58.PermitGrows'. -/
def permitGrowsCard : Claim7 := { stood := { row := permitGrowsRow, standIns := [], harness := (true, "22a0de1b01213af7ac542f47b3ee0768e7e8d64141e16da82f51665d507544ef"), looks := false }, kinds := [], alts := [], laidByText := true, laidKinds := [.data, .pinned], laidTests := true, laidLooks := .later }
def PermitGrowsCardSaid : Prop := Claim7.holds Tryz.pinned (.plain (OpenSpec.ofChange permitGrowsSpec)) permitGrowsCard

/-- THE TIED CARD OF 'shipyardlaw58.PermitGaps'. -/
def permitGapsCard : Claim7 := { stood := { row := permitGapsRow, standIns := [], harness := (true, "22a0de1b01213af7ac542f47b3ee0768e7e8d64141e16da82f51665d507544ef"), looks := false }, kinds := [], alts := [], laidByText := true, laidKinds := [.data, .pinned], laidTests := true, laidLooks := .later }
def PermitGapsCardSaid : Prop := Claim7.holds Tryz.pinned (.plain (OpenSpec.ofChange permitGapsSpec)) permitGapsCard

/-- THE TIED CARD OF 'shipyardlaw58.PermitEnds'. -/
def permitEndsCard : Claim7 := { stood := { row := permitEndsRow, standIns := [], harness := (true, "22a0de1b01213af7ac542f47b3ee0768e7e8d64141e16da82f51665d507544ef"), looks := false }, kinds := [], alts := [], laidByText := true, laidKinds := [.data, .pinned], laidTests := true, laidLooks := .later }
def PermitEndsCardSaid : Prop := Claim7.holds Tryz.pinned (.plain (OpenSpec.ofChange permitEndsSpec)) permitEndsCard

/-- THE TIED CARD OF 'shipyardlaw58.PermitOrder'. -/
def permitOrderCard : Claim7 := { stood := { row := permitOrderRow, standIns := [], harness := (true, "22a0de1b01213af7ac542f47b3ee0768e7e8d64141e16da82f51665d507544ef"), looks := false }, kinds := [], alts := [], laidByText := true, laidKinds := [.data, .pinned], laidTests := true, laidLooks := .later }
def PermitOrderCardSaid : Prop := Claim7.holds Tryz.pinned (.plain (OpenSpec.ofChange permitOrderSpec)) permitOrderCard

/-- THE SECOND FORM's CARD OF 'shipyardlaw58.PermitAdds'. -/
def permitAddsUptoCard : Claim7 := { stood := { row := permitAddsUptoRow, standIns := [], harness := (true, "22a0de1b01213af7ac542f47b3ee0768e7e8d64141e16da82f51665d507544ef"), looks := false }, kinds := [], alts := [], laidByText := true, laidKinds := [.data, .pinned], laidTests := true, laidLooks := .later }
def PermitAddsUptoCardSaid : Prop := Claim7.holds Tryz.pinned (.plain (OpenSpec.upto permitAddsSpec)) permitAddsUptoCard

/-- THE SECOND FORM's CARD OF 'shipyardlaw58.PermitCovers'. -/
def permitCoversUptoCard : Claim7 := { stood := { row := permitCoversUptoRow, standIns := [], harness := (true, "22a0de1b01213af7ac542f47b3ee0768e7e8d64141e16da82f51665d507544ef"), looks := false }, kinds := [], alts := [], laidByText := true, laidKinds := [.data, .pinned], laidTests := true, laidLooks := .later }
def PermitCoversUptoCardSaid : Prop := Claim7.holds Tryz.pinned (.plain (OpenSpec.upto permitCoversSpec)) permitCoversUptoCard

/-- THE SECOND FORM's CARD OF 'shipyardlaw58.PermitTests'. -/
def permitTestsUptoCard : Claim7 := { stood := { row := permitTestsUptoRow, standIns := [], harness := (true, "22a0de1b01213af7ac542f47b3ee0768e7e8d64141e16da82f51665d507544ef"), looks := false }, kinds := [], alts := [], laidByText := true, laidKinds := [.data, .pinned], laidTests := true, laidLooks := .later }
def PermitTestsUptoCardSaid : Prop := Claim7.holds Tryz.pinned (.plain (OpenSpec.upto permitTestsSpec)) permitTestsUptoCard

/-- THE SECOND FORM's CARD OF 'shipyardlaw58.PermitGrows'. -/
def permitGrowsUptoCard : Claim7 := { stood := { row := permitGrowsUptoRow, standIns := [], harness := (true, "22a0de1b01213af7ac542f47b3ee0768e7e8d64141e16da82f51665d507544ef"), looks := false }, kinds := [], alts := [], laidByText := true, laidKinds := [.data, .pinned], laidTests := true, laidLooks := .later }
def PermitGrowsUptoCardSaid : Prop := Claim7.holds Tryz.pinned (.plain (OpenSpec.upto permitGrowsSpec)) permitGrowsUptoCard

/-- THE SECOND FORM's CARD OF 'shipyardlaw58.PermitGaps'. -/
def permitGapsUptoCard : Claim7 := { stood := { row := permitGapsUptoRow, standIns := [], harness := (true, "22a0de1b01213af7ac542f47b3ee0768e7e8d64141e16da82f51665d507544ef"), looks := false }, kinds := [], alts := [], laidByText := true, laidKinds := [.data, .pinned], laidTests := true, laidLooks := .later }
def PermitGapsUptoCardSaid : Prop := Claim7.holds Tryz.pinned (.plain (OpenSpec.upto permitGapsSpec)) permitGapsUptoCard

/-- THE SECOND FORM's CARD OF 'shipyardlaw58.PermitEnds'. -/
def permitEndsUptoCard : Claim7 := { stood := { row := permitEndsUptoRow, standIns := [], harness := (true, "22a0de1b01213af7ac542f47b3ee0768e7e8d64141e16da82f51665d507544ef"), looks := false }, kinds := [], alts := [], laidByText := true, laidKinds := [.data, .pinned], laidTests := true, laidLooks := .later }
def PermitEndsUptoCardSaid : Prop := Claim7.holds Tryz.pinned (.plain (OpenSpec.upto permitEndsSpec)) permitEndsUptoCard

/-- THE SECOND FORM's CARD OF 'shipyardlaw58.PermitOrder'. -/
def permitOrderUptoCard : Claim7 := { stood := { row := permitOrderUptoRow, standIns := [], harness := (true, "22a0de1b01213af7ac542f47b3ee0768e7e8d64141e16da82f51665d507544ef"), looks := false }, kinds := [], alts := [], laidByText := true, laidKinds := [.data, .pinned], laidTests := true, laidLooks := .later }
def PermitOrderUptoCardSaid : Prop := Claim7.holds Tryz.pinned (.plain (OpenSpec.upto permitOrderSpec)) permitOrderUptoCard
end Rows
end Go.Proofs.YtdgacfkgodbajaaGreatDoor
