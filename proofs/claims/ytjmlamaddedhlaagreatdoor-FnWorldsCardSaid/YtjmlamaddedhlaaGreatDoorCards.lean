/-
  DERIVED. GIVEN WITH THE SEED: THE CARDS: each row of YtjmlamaddedhlaaGreatDoorRows.lean that lists a variable, with what it lists TIED to the program's text (the seventh form; the later family's looks); each row that meets fmt, with fmt's text TOLD by the authors' own Lean function (tested against real Go, not proved from fmt's source: count such statements apart). THE CARD IS WHAT COUNTS. Prove the row's statement (the work); the ties are given (YtjmlamaddedhlaaGreatDoorTie.lean); close each card by the builder's one call (the guide's Derived/Test/ToyasCard.lean, 'card_holds'). Laid BY PROGRAM, IN A SANDBOX (cutbox-door.mjs). By AI agents, Wed Nov 11 2026. No macro, syntax, notation, axiom, sorry.
-/
import Derived.Test.YtjmlamaddedhlaaGreatDoorRows
import GoSem.ClaimSeven
namespace Go.Proofs.YtjmlamaddedhlaaGreatDoor
namespace Rows

/-- THE TIED CARD OF 'laws.FnWorlds'. -/
def fnWorldsCard : Claim7 := { stood := { row := fnWorldsRow, standIns := [], harness := (true, "77cfc90b831676db516d78fd66c010dde674a509d65970312980be753cd2cdab"), looks := false }, kinds := [], alts := [], laidByText := true, laidKinds := [.data, .pinned], laidTests := true, laidLooks := .later }
def FnWorldsCardSaid : Prop := Claim7.holds Tryz.pinned (.plain (OpenSpec.ofChange fnWorldsSpec)) fnWorldsCard

/-- THE TIED CARD OF 'laws.FnRecoveries'. -/
def fnRecoveriesCard : Claim7 := { stood := { row := fnRecoveriesRow, standIns := [], harness := (true, "77cfc90b831676db516d78fd66c010dde674a509d65970312980be753cd2cdab"), looks := false }, kinds := [], alts := [], laidByText := true, laidKinds := [.data, .pinned], laidTests := true, laidLooks := .later }
def FnRecoveriesCardSaid : Prop := Claim7.holds Tryz.pinned (.plain (OpenSpec.ofChange fnRecoveriesSpec)) fnRecoveriesCard

/-- THE SECOND FORM's CARD OF 'laws.FnWorlds'. -/
def fnWorldsUptoCard : Claim7 := { stood := { row := fnWorldsUptoRow, standIns := [], harness := (true, "77cfc90b831676db516d78fd66c010dde674a509d65970312980be753cd2cdab"), looks := false }, kinds := [], alts := [], laidByText := true, laidKinds := [.data, .pinned], laidTests := true, laidLooks := .later }
def FnWorldsUptoCardSaid : Prop := Claim7.holds Tryz.pinned (.plain (OpenSpec.upto fnWorldsSpec)) fnWorldsUptoCard

/-- THE SECOND FORM's CARD OF 'laws.FnRecoveries'. -/
def fnRecoveriesUptoCard : Claim7 := { stood := { row := fnRecoveriesUptoRow, standIns := [], harness := (true, "77cfc90b831676db516d78fd66c010dde674a509d65970312980be753cd2cdab"), looks := false }, kinds := [], alts := [], laidByText := true, laidKinds := [.data, .pinned], laidTests := true, laidLooks := .later }
def FnRecoveriesUptoCardSaid : Prop := Claim7.holds Tryz.pinned (.plain (OpenSpec.upto fnRecoveriesSpec)) fnRecoveriesUptoCard
end Rows
end Go.Proofs.YtjmlamaddedhlaaGreatDoor
