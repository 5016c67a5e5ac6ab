/-
  DERIVED. GIVEN WITH THE SEED: THE CARDS: each row of YtfllllgehgablaaGreatDoorRows.lean that lists a variable, with what it lists TIED to the program's text (the seventh form; the later family's looks); each row that meets fmt, with fmt's text TOLD by the authors' own Lean function (tested against real Go, not proved from fmt's source: count such statements apart). THE CARD IS WHAT COUNTS. Prove the row's statement (the work); the ties are given (YtfllllgehgablaaGreatDoorTie.lean); close each card by the builder's one call (the guide's Derived/Test/ToyasCard.lean, 'card_holds'). Laid BY PROGRAM, IN A SANDBOX (cutbox-door.mjs). By AI agents, Wed Nov 11 2026. No macro, syntax, notation, axiom, sorry.
-/
import Derived.Test.YtfllllgehgablaaGreatDoorRows
import GoSem.ClaimSeven
namespace Go.Proofs.YtfllllgehgablaaGreatDoor
namespace Rows

/-- THE TIED CARD OF 'laws.FnOldAnswers'. -/
def fnOldAnswersCard : Claim7 := { stood := { row := fnOldAnswersRow, standIns := [], harness := (true, "734c698adf96095aa5e17296697c15cfc86cef84e6b17322e124d521d68892ce"), looks := false }, kinds := [], alts := [], laidByText := true, laidKinds := [.data, .pinned], laidTests := true, laidLooks := .later }
def FnOldAnswersCardSaid : Prop := Claim7.holds Tryz.pinned (.plain (OpenSpec.ofChange fnOldAnswersSpec)) fnOldAnswersCard

/-- THE TIED CARD OF 'laws.FnPushes'. -/
def fnPushesCard : Claim7 := { stood := { row := fnPushesRow, standIns := [], harness := (true, "734c698adf96095aa5e17296697c15cfc86cef84e6b17322e124d521d68892ce"), looks := false }, kinds := [], alts := [], laidByText := true, laidKinds := [.data, .pinned], laidTests := true, laidLooks := .later }
def FnPushesCardSaid : Prop := Claim7.holds Tryz.pinned (.plain (OpenSpec.ofChange fnPushesSpec)) fnPushesCard

/-- THE SECOND FORM's CARD OF 'laws.FnOldAnswers'. -/
def fnOldAnswersUptoCard : Claim7 := { stood := { row := fnOldAnswersUptoRow, standIns := [], harness := (true, "734c698adf96095aa5e17296697c15cfc86cef84e6b17322e124d521d68892ce"), looks := false }, kinds := [], alts := [], laidByText := true, laidKinds := [.data, .pinned], laidTests := true, laidLooks := .later }
def FnOldAnswersUptoCardSaid : Prop := Claim7.holds Tryz.pinned (.plain (OpenSpec.upto fnOldAnswersSpec)) fnOldAnswersUptoCard

/-- THE SECOND FORM's CARD OF 'laws.FnPushes'. -/
def fnPushesUptoCard : Claim7 := { stood := { row := fnPushesUptoRow, standIns := [], harness := (true, "734c698adf96095aa5e17296697c15cfc86cef84e6b17322e124d521d68892ce"), looks := false }, kinds := [], alts := [], laidByText := true, laidKinds := [.data, .pinned], laidTests := true, laidLooks := .later }
def FnPushesUptoCardSaid : Prop := Claim7.holds Tryz.pinned (.plain (OpenSpec.upto fnPushesSpec)) fnPushesUptoCard
end Rows
end Go.Proofs.YtfllllgehgablaaGreatDoor
