/-
  DERIVED. GIVEN WITH THE SEED: THE CARDS: each row of YtpblmeojgboagaaGreatDoorRows.lean that lists a variable, with what it lists TIED to the program's text (the seventh form; the later family's looks); each row that meets fmt, with fmt's text TOLD by the authors' own Lean function (tested against real Go, not proved from fmt's source: count such statements apart). THE CARD IS WHAT COUNTS. Prove the row's statement (the work); the ties are given (YtpblmeojgboagaaGreatDoorTie.lean); close each card by the builder's one call (the guide's Derived/Test/ToyasCard.lean, 'card_holds'). Laid BY PROGRAM, IN A SANDBOX (cutbox-door.mjs). By AI agents, Wed Nov 11 2026. No macro, syntax, notation, axiom, sorry.
-/
import Derived.Test.YtpblmeojgboagaaGreatDoorRows
import GoSem.ClaimSeven
namespace Go.Proofs.YtpblmeojgboagaaGreatDoor
namespace Rows

/-- THE TIED CARD OF 'laws.FnExactFormatWorld'. -/
def fnExactFormatWorldCard : Claim7 := { stood := { row := fnExactFormatWorldRow, standIns := [], harness := (true, "18bb5f23afae1b98a99f7b3d0b4a2849e90a5d40e351a094c57832adc72e3403"), looks := false }, kinds := [], alts := [], laidByText := true, laidKinds := [.data, .data, .data], laidTests := true, laidLooks := .later }
def FnExactFormatWorldCardSaid : Prop := Claim7.holds Tryz.pinned (.plain (OpenSpec.ofChange fnExactFormatWorldSpec)) fnExactFormatWorldCard

/-- THE TIED CARD OF 'laws.FnExactGuessesLeft'. -/
def fnExactGuessesLeftCard : Claim7 := { stood := { row := fnExactGuessesLeftRow, standIns := [], harness := (true, "18bb5f23afae1b98a99f7b3d0b4a2849e90a5d40e351a094c57832adc72e3403"), looks := false }, kinds := [], alts := [], laidByText := true, laidKinds := [.data, .pinned], laidTests := true, laidLooks := .later }
def FnExactGuessesLeftCardSaid : Prop := Claim7.holds Tryz.pinned (.plain (OpenSpec.ofChange fnExactGuessesLeftSpec)) fnExactGuessesLeftCard

/-- THE TIED CARD OF 'laws.FnExactAuditWorld'. -/
def fnExactAuditWorldCard : Claim7 := { stood := { row := fnExactAuditWorldRow, standIns := [], harness := (true, "18bb5f23afae1b98a99f7b3d0b4a2849e90a5d40e351a094c57832adc72e3403"), looks := false }, kinds := [], alts := [], laidByText := true, laidKinds := [.data, .pinned], laidTests := true, laidLooks := .later }
def FnExactAuditWorldCardSaid : Prop := Claim7.holds Tryz.pinned (.plain (OpenSpec.ofChange fnExactAuditWorldSpec)) fnExactAuditWorldCard

/-- THE SECOND FORM's CARD OF 'laws.FnExactFormatWorld'. -/
def fnExactFormatWorldUptoCard : Claim7 := { stood := { row := fnExactFormatWorldUptoRow, standIns := [], harness := (true, "18bb5f23afae1b98a99f7b3d0b4a2849e90a5d40e351a094c57832adc72e3403"), looks := false }, kinds := [], alts := [], laidByText := true, laidKinds := [.data, .data, .data], laidTests := true, laidLooks := .later }
def FnExactFormatWorldUptoCardSaid : Prop := Claim7.holds Tryz.pinned (.plain (OpenSpec.upto fnExactFormatWorldSpec)) fnExactFormatWorldUptoCard

/-- THE SECOND FORM's CARD OF 'laws.FnExactGuessesLeft'. -/
def fnExactGuessesLeftUptoCard : Claim7 := { stood := { row := fnExactGuessesLeftUptoRow, standIns := [], harness := (true, "18bb5f23afae1b98a99f7b3d0b4a2849e90a5d40e351a094c57832adc72e3403"), looks := false }, kinds := [], alts := [], laidByText := true, laidKinds := [.data, .pinned], laidTests := true, laidLooks := .later }
def FnExactGuessesLeftUptoCardSaid : Prop := Claim7.holds Tryz.pinned (.plain (OpenSpec.upto fnExactGuessesLeftSpec)) fnExactGuessesLeftUptoCard

/-- THE SECOND FORM's CARD OF 'laws.FnExactAuditWorld'. -/
def fnExactAuditWorldUptoCard : Claim7 := { stood := { row := fnExactAuditWorldUptoRow, standIns := [], harness := (true, "18bb5f23afae1b98a99f7b3d0b4a2849e90a5d40e351a094c57832adc72e3403"), looks := false }, kinds := [], alts := [], laidByText := true, laidKinds := [.data, .pinned], laidTests := true, laidLooks := .later }
def FnExactAuditWorldUptoCardSaid : Prop := Claim7.holds Tryz.pinned (.plain (OpenSpec.upto fnExactAuditWorldSpec)) fnExactAuditWorldUptoCard
end Rows
end Go.Proofs.YtpblmeojgboagaaGreatDoor
