/-
  DERIVED. GIVEN WITH THE SEED: THE CARDS: each row of YtahdlpfokhapfaaGreatDoorRows.lean that lists a variable, with what it lists TIED to the program's text (the seventh form; the later family's looks); each row that meets fmt, with fmt's text TOLD by the authors' own Lean function (tested against real Go, not proved from fmt's source: count such statements apart). THE CARD IS WHAT COUNTS. Prove the row's statement (the work); the ties are given (YtahdlpfokhapfaaGreatDoorTie.lean); close each card by the builder's one call (the guide's Derived/Test/ToyasCard.lean, 'card_holds'). Laid BY PROGRAM, IN A SANDBOX (cutbox-door.mjs). By AI agents, Wed Nov 11 2026. No macro, syntax, notation, axiom, sorry.
-/
import Derived.Test.YtahdlpfokhapfaaGreatDoorRows
import GoSem.ClaimSeven
namespace Go.Proofs.YtahdlpfokhapfaaGreatDoor
namespace Rows

/-- THE TIED CARD OF 'laws.FnRecoveries'. -/
def fnRecoveriesCard : Claim7 := { stood := { row := fnRecoveriesRow, standIns := [], harness := (true, "b8bb4ae892372f0fba7bbea7bd03766cbeeece7a32a5152374b59c9fc533c736"), looks := false }, kinds := [], alts := [], laidByText := true, laidKinds := [.data, .pinned], laidTests := true, laidLooks := .later }
def FnRecoveriesCardSaid : Prop := Claim7.holds Tryz.pinned (.plain (OpenSpec.ofChange fnRecoveriesSpec)) fnRecoveriesCard

/-- THE TIED CARD OF 'laws.FnAuditDetects'. -/
def fnAuditDetectsCard : Claim7 := { stood := { row := fnAuditDetectsRow, standIns := [], harness := (true, "b8bb4ae892372f0fba7bbea7bd03766cbeeece7a32a5152374b59c9fc533c736"), looks := false }, kinds := [], alts := [], laidByText := true, laidKinds := [.data, .pinned], laidTests := true, laidLooks := .later }
def FnAuditDetectsCardSaid : Prop := Claim7.holds Tryz.pinned (.plain (OpenSpec.ofChange fnAuditDetectsSpec)) fnAuditDetectsCard

/-- THE SECOND FORM's CARD OF 'laws.FnRecoveries'. -/
def fnRecoveriesUptoCard : Claim7 := { stood := { row := fnRecoveriesUptoRow, standIns := [], harness := (true, "b8bb4ae892372f0fba7bbea7bd03766cbeeece7a32a5152374b59c9fc533c736"), looks := false }, kinds := [], alts := [], laidByText := true, laidKinds := [.data, .pinned], laidTests := true, laidLooks := .later }
def FnRecoveriesUptoCardSaid : Prop := Claim7.holds Tryz.pinned (.plain (OpenSpec.upto fnRecoveriesSpec)) fnRecoveriesUptoCard

/-- THE SECOND FORM's CARD OF 'laws.FnAuditDetects'. -/
def fnAuditDetectsUptoCard : Claim7 := { stood := { row := fnAuditDetectsUptoRow, standIns := [], harness := (true, "b8bb4ae892372f0fba7bbea7bd03766cbeeece7a32a5152374b59c9fc533c736"), looks := false }, kinds := [], alts := [], laidByText := true, laidKinds := [.data, .pinned], laidTests := true, laidLooks := .later }
def FnAuditDetectsUptoCardSaid : Prop := Claim7.holds Tryz.pinned (.plain (OpenSpec.upto fnAuditDetectsSpec)) fnAuditDetectsUptoCard
end Rows
end Go.Proofs.YtahdlpfokhapfaaGreatDoor
