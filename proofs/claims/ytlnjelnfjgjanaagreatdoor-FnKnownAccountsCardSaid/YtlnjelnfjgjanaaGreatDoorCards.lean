/-
  DERIVED. GIVEN WITH THE SEED: THE CARDS: each row of YtlnjelnfjgjanaaGreatDoorRows.lean that lists a variable, with what it lists TIED to the program's text (the seventh form; the later family's looks); each row that meets fmt, with fmt's text TOLD by the authors' own Lean function (tested against real Go, not proved from fmt's source: count such statements apart). THE CARD IS WHAT COUNTS. Prove the row's statement (the work); the ties are given (YtlnjelnfjgjanaaGreatDoorTie.lean); close each card by the builder's one call (the guide's Derived/Test/ToyasCard.lean, 'card_holds'). Laid BY PROGRAM, IN A SANDBOX (cutbox-door.mjs). By AI agents, Wed Nov 11 2026. No macro, syntax, notation, axiom, sorry.
-/
import Derived.Test.YtlnjelnfjgjanaaGreatDoorRows
import GoSem.ClaimSeven
namespace Go.Proofs.YtlnjelnfjgjanaaGreatDoor
namespace Rows

/-- THE TIED CARD OF 'laws.FnKnownAccounts'. -/
def fnKnownAccountsCard : Claim7 := { stood := { row := fnKnownAccountsRow, standIns := [], harness := (true, "04552c208df7a688b8d70d358bb3ff27cf76e58849474492317948941665e08c"), looks := true }, kinds := [], alts := [], laidByText := true, laidKinds := [.data, .data, .data, .data, .sentinel, .sentinel, .pinned], laidTests := true, laidLooks := .later }
def FnKnownAccountsCardSaid : Prop := Claim7.holds Tryz.pinned (.plain (OpenSpec.ofChange fnKnownAccountsSpec)) fnKnownAccountsCard

/-- THE TIED CARD OF 'laws.FnSettles'. -/
def fnSettlesCard : Claim7 := { stood := { row := fnSettlesRow, standIns := [], harness := (true, "04552c208df7a688b8d70d358bb3ff27cf76e58849474492317948941665e08c"), looks := true }, kinds := [], alts := [], laidByText := true, laidKinds := [.data, .pinned], laidTests := true, laidLooks := .later }
def FnSettlesCardSaid : Prop := Claim7.holds Tryz.pinned (.plain (OpenSpec.ofChange fnSettlesSpec)) fnSettlesCard

/-- THE SECOND FORM's CARD OF 'laws.FnKnownAccounts'. -/
def fnKnownAccountsUptoCard : Claim7 := { stood := { row := fnKnownAccountsUptoRow, standIns := [], harness := (true, "04552c208df7a688b8d70d358bb3ff27cf76e58849474492317948941665e08c"), looks := true }, kinds := [], alts := [], laidByText := true, laidKinds := [.data, .data, .data, .data, .sentinel, .sentinel, .pinned], laidTests := true, laidLooks := .later }
def FnKnownAccountsUptoCardSaid : Prop := Claim7.holds Tryz.pinned (.plain (OpenSpec.upto fnKnownAccountsSpec)) fnKnownAccountsUptoCard

/-- THE SECOND FORM's CARD OF 'laws.FnSettles'. -/
def fnSettlesUptoCard : Claim7 := { stood := { row := fnSettlesUptoRow, standIns := [], harness := (true, "04552c208df7a688b8d70d358bb3ff27cf76e58849474492317948941665e08c"), looks := true }, kinds := [], alts := [], laidByText := true, laidKinds := [.data, .pinned], laidTests := true, laidLooks := .later }
def FnSettlesUptoCardSaid : Prop := Claim7.holds Tryz.pinned (.plain (OpenSpec.upto fnSettlesSpec)) fnSettlesUptoCard
end Rows
end Go.Proofs.YtlnjelnfjgjanaaGreatDoor
