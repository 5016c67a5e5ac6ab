/-
  DERIVED. GIVEN WITH THE SEED: THE CARDS: each row of YtajiimgjfnnjlaaGreatDoorRows.lean that lists a variable, with what it lists TIED to the program's text (the seventh form; the later family's looks); each row that meets fmt, with fmt's text TOLD by the authors' own Lean function (tested against real Go, not proved from fmt's source: count such statements apart). THE CARD IS WHAT COUNTS. Prove the row's statement (the work); the ties are given (YtajiimgjfnnjlaaGreatDoorTie.lean); close each card by the builder's one call (the guide's Derived/Test/ToyasCard.lean, 'card_holds'). Laid BY PROGRAM, IN A SANDBOX (cutbox-door.mjs). By AI agents, Wed Nov 11 2026. No macro, syntax, notation, axiom, sorry.
-/
import Derived.Test.YtajiimgjfnnjlaaGreatDoorRows
import GoSem.ClaimSeven
namespace Go.Proofs.YtajiimgjfnnjlaaGreatDoor
namespace Rows

/-- THE TIED CARD OF 'laws.FnExactUsableLogins'. -/
def fnExactUsableLoginsCard : Claim7 := { stood := { row := fnExactUsableLoginsRow, standIns := [], harness := (true, "fd74dba14164f47246ec72443a0a4f356427cc45661142bdd92aa8f1607bc185"), looks := true }, kinds := [], alts := [], laidByText := true, laidKinds := [.data, .data, .data, .data, .sentinel, .sentinel, .pinned], laidTests := true, laidLooks := .later }
def FnExactUsableLoginsCardSaid : Prop := Claim7.holds Tryz.pinned (.plain (OpenSpec.ofChange fnExactUsableLoginsSpec)) fnExactUsableLoginsCard

/-- THE SECOND FORM's CARD OF 'laws.FnExactUsableLogins'. -/
def fnExactUsableLoginsUptoCard : Claim7 := { stood := { row := fnExactUsableLoginsUptoRow, standIns := [], harness := (true, "fd74dba14164f47246ec72443a0a4f356427cc45661142bdd92aa8f1607bc185"), looks := true }, kinds := [], alts := [], laidByText := true, laidKinds := [.data, .data, .data, .data, .sentinel, .sentinel, .pinned], laidTests := true, laidLooks := .later }
def FnExactUsableLoginsUptoCardSaid : Prop := Claim7.holds Tryz.pinned (.plain (OpenSpec.upto fnExactUsableLoginsSpec)) fnExactUsableLoginsUptoCard
end Rows
end Go.Proofs.YtajiimgjfnnjlaaGreatDoor
