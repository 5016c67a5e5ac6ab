/-
  DERIVED. GIVEN WITH THE SEED: THE CARDS: each row of YtaaefkcjgkpckaaGreatDoorRows.lean that lists a variable, with what it lists TIED to the program's text (the seventh form; the later family's looks); each row that meets fmt, with fmt's text TOLD by the authors' own Lean function (tested against real Go, not proved from fmt's source: count such statements apart). THE CARD IS WHAT COUNTS. Prove the row's statement (the work); the ties are given (YtaaefkcjgkpckaaGreatDoorTie.lean); close each card by the builder's one call (the guide's Derived/Test/ToyasCard.lean, 'card_holds'). Laid BY PROGRAM, IN A SANDBOX (cutbox-door.mjs). By AI agents, Wed Nov 11 2026. No macro, syntax, notation, axiom, sorry.
-/
import Derived.Test.YtaaefkcjgkpckaaGreatDoorRows
import GoSem.ClaimSeven
namespace Go.Proofs.YtaaefkcjgkpckaaGreatDoor
namespace Rows

/-- THE TIED CARD OF 'laws.FnGuessLimits'. -/
def fnGuessLimitsCard : Claim7 := { stood := { row := fnGuessLimitsRow, standIns := [], harness := (true, "7229c991c6a4c80cc651af29dcef5daac8117a5ea3f8192ace99f6df4f54e170"), looks := true }, kinds := [], alts := [], laidByText := true, laidKinds := [.data, .pinned], laidTests := true, laidLooks := .later }
def FnGuessLimitsCardSaid : Prop := Claim7.holds Tryz.pinned (.plain (OpenSpec.ofChange fnGuessLimitsSpec)) fnGuessLimitsCard

/-- THE TIED CARD OF 'laws.FnAuditDetects'. -/
def fnAuditDetectsCard : Claim7 := { stood := { row := fnAuditDetectsRow, standIns := [], harness := (true, "7229c991c6a4c80cc651af29dcef5daac8117a5ea3f8192ace99f6df4f54e170"), looks := true }, kinds := [], alts := [], laidByText := true, laidKinds := [.data, .pinned], laidTests := true, laidLooks := .later }
def FnAuditDetectsCardSaid : Prop := Claim7.holds Tryz.pinned (.plain (OpenSpec.ofChange fnAuditDetectsSpec)) fnAuditDetectsCard

/-- THE TIED CARD OF 'laws.FnThieves'. -/
def fnThievesCard : Claim7 := { stood := { row := fnThievesRow, standIns := [], harness := (true, "7229c991c6a4c80cc651af29dcef5daac8117a5ea3f8192ace99f6df4f54e170"), looks := true }, kinds := [], alts := [], laidByText := true, laidKinds := [.data, .data, .data, .data, .sentinel, .sentinel, .pinned], laidTests := true, laidLooks := .later }
def FnThievesCardSaid : Prop := Claim7.holds Tryz.pinned (.plain (OpenSpec.ofChange fnThievesSpec)) fnThievesCard

/-- THE SECOND FORM's CARD OF 'laws.FnGuessLimits'. -/
def fnGuessLimitsUptoCard : Claim7 := { stood := { row := fnGuessLimitsUptoRow, standIns := [], harness := (true, "7229c991c6a4c80cc651af29dcef5daac8117a5ea3f8192ace99f6df4f54e170"), looks := true }, kinds := [], alts := [], laidByText := true, laidKinds := [.data, .pinned], laidTests := true, laidLooks := .later }
def FnGuessLimitsUptoCardSaid : Prop := Claim7.holds Tryz.pinned (.plain (OpenSpec.upto fnGuessLimitsSpec)) fnGuessLimitsUptoCard

/-- THE SECOND FORM's CARD OF 'laws.FnAuditDetects'. -/
def fnAuditDetectsUptoCard : Claim7 := { stood := { row := fnAuditDetectsUptoRow, standIns := [], harness := (true, "7229c991c6a4c80cc651af29dcef5daac8117a5ea3f8192ace99f6df4f54e170"), looks := true }, kinds := [], alts := [], laidByText := true, laidKinds := [.data, .pinned], laidTests := true, laidLooks := .later }
def FnAuditDetectsUptoCardSaid : Prop := Claim7.holds Tryz.pinned (.plain (OpenSpec.upto fnAuditDetectsSpec)) fnAuditDetectsUptoCard

/-- THE SECOND FORM's CARD OF 'laws.FnThieves'. -/
def fnThievesUptoCard : Claim7 := { stood := { row := fnThievesUptoRow, standIns := [], harness := (true, "7229c991c6a4c80cc651af29dcef5daac8117a5ea3f8192ace99f6df4f54e170"), looks := true }, kinds := [], alts := [], laidByText := true, laidKinds := [.data, .data, .data, .data, .sentinel, .sentinel, .pinned], laidTests := true, laidLooks := .later }
def FnThievesUptoCardSaid : Prop := Claim7.holds Tryz.pinned (.plain (OpenSpec.upto fnThievesSpec)) fnThievesUptoCard
end Rows
end Go.Proofs.YtaaefkcjgkpckaaGreatDoor
