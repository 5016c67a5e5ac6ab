/-
  DERIVED. GIVEN WITH THE SEED: THE CARDS: each row of YtehmmnigkcmhoaaGreatDoorRows.lean that lists a variable, with what it lists TIED to the program's text (the seventh form; the later family's looks); each row that meets fmt, with fmt's text TOLD by the authors' own Lean function (tested against real Go, not proved from fmt's source: count such statements apart). THE CARD IS WHAT COUNTS. Prove the row's statement (the work); the ties are given (YtehmmnigkcmhoaaGreatDoorTie.lean); close each card by the builder's one call (the guide's Derived/Test/ToyasCard.lean, 'card_holds'). Laid BY PROGRAM, IN A SANDBOX (cutbox-door.mjs). By AI agents, Wed Nov 11 2026. No macro, syntax, notation, axiom, sorry.
-/
import Derived.Test.YtehmmnigkcmhoaaGreatDoorRows
import GoSem.ClaimSeven
namespace Go.Proofs.YtehmmnigkcmhoaaGreatDoor
namespace Rows

/-- THE TIED CARD OF 'laws.FnExactRecoverWorld'. -/
def fnExactRecoverWorldCard : Claim7 := { stood := { row := fnExactRecoverWorldRow, standIns := [], harness := (true, "affdbc4b5cda2013f3fe27f88de37604e4a4e3fc2965de7943f14b439c5eeca9"), looks := false }, kinds := [], alts := [], laidByText := true, laidKinds := [.data, .pinned], laidTests := true, laidLooks := .later }
def FnExactRecoverWorldCardSaid : Prop := Claim7.holds Tryz.pinned (.plain (OpenSpec.ofChange fnExactRecoverWorldSpec)) fnExactRecoverWorldCard

/-- THE TIED CARD OF 'laws.FnExactGuessWorld'. -/
def fnExactGuessWorldCard : Claim7 := { stood := { row := fnExactGuessWorldRow, standIns := [], harness := (true, "affdbc4b5cda2013f3fe27f88de37604e4a4e3fc2965de7943f14b439c5eeca9"), looks := false }, kinds := [], alts := [], laidByText := true, laidKinds := [.data, .pinned], laidTests := true, laidLooks := .later }
def FnExactGuessWorldCardSaid : Prop := Claim7.holds Tryz.pinned (.plain (OpenSpec.ofChange fnExactGuessWorldSpec)) fnExactGuessWorldCard

/-- THE SECOND FORM's CARD OF 'laws.FnExactRecoverWorld'. -/
def fnExactRecoverWorldUptoCard : Claim7 := { stood := { row := fnExactRecoverWorldUptoRow, standIns := [], harness := (true, "affdbc4b5cda2013f3fe27f88de37604e4a4e3fc2965de7943f14b439c5eeca9"), looks := false }, kinds := [], alts := [], laidByText := true, laidKinds := [.data, .pinned], laidTests := true, laidLooks := .later }
def FnExactRecoverWorldUptoCardSaid : Prop := Claim7.holds Tryz.pinned (.plain (OpenSpec.upto fnExactRecoverWorldSpec)) fnExactRecoverWorldUptoCard

/-- THE SECOND FORM's CARD OF 'laws.FnExactGuessWorld'. -/
def fnExactGuessWorldUptoCard : Claim7 := { stood := { row := fnExactGuessWorldUptoRow, standIns := [], harness := (true, "affdbc4b5cda2013f3fe27f88de37604e4a4e3fc2965de7943f14b439c5eeca9"), looks := false }, kinds := [], alts := [], laidByText := true, laidKinds := [.data, .pinned], laidTests := true, laidLooks := .later }
def FnExactGuessWorldUptoCardSaid : Prop := Claim7.holds Tryz.pinned (.plain (OpenSpec.upto fnExactGuessWorldSpec)) fnExactGuessWorldUptoCard
end Rows
end Go.Proofs.YtehmmnigkcmhoaaGreatDoor
