/-
  DERIVED. GIVEN WITH THE SEED: THE CARDS: each row of YtiojlennpdmapaaGreatDoorRows.lean that lists a variable, with what it lists TIED to the program's text (the seventh form; the later family's looks); each row that meets fmt, with fmt's text TOLD by the authors' own Lean function (tested against real Go, not proved from fmt's source: count such statements apart). THE CARD IS WHAT COUNTS. Prove the row's statement (the work); the ties are given (YtiojlennpdmapaaGreatDoorTie.lean); close each card by the builder's one call (the guide's Derived/Test/ToyasCard.lean, 'card_holds'). Laid BY PROGRAM, IN A SANDBOX (cutbox-door.mjs). By AI agents, Wed Nov 11 2026. No macro, syntax, notation, axiom, sorry.
-/
import Derived.Test.YtiojlennpdmapaaGreatDoorRows
import GoSem.ClaimSeven
namespace Go.Proofs.YtiojlennpdmapaaGreatDoor
namespace Rows

/-- THE TIED CARD OF 'laws.FnExactRollBackWorld'. -/
def fnExactRollBackWorldCard : Claim7 := { stood := { row := fnExactRollBackWorldRow, standIns := [], harness := (true, "284ec7997cf8ab75239d91e310a0e504b678f011cc23deb3ff1f8166a576f296"), looks := false }, kinds := [], alts := [], laidByText := true, laidKinds := [.data, .pinned], laidTests := true, laidLooks := .later }
def FnExactRollBackWorldCardSaid : Prop := Claim7.holds Tryz.pinned (.plain (OpenSpec.ofChange fnExactRollBackWorldSpec)) fnExactRollBackWorldCard

/-- THE TIED CARD OF 'laws.FnExactRenewWorld'. -/
def fnExactRenewWorldCard : Claim7 := { stood := { row := fnExactRenewWorldRow, standIns := [], harness := (true, "284ec7997cf8ab75239d91e310a0e504b678f011cc23deb3ff1f8166a576f296"), looks := false }, kinds := [], alts := [], laidByText := true, laidKinds := [.data, .pinned], laidTests := true, laidLooks := .later }
def FnExactRenewWorldCardSaid : Prop := Claim7.holds Tryz.pinned (.plain (OpenSpec.ofChange fnExactRenewWorldSpec)) fnExactRenewWorldCard

/-- THE TIED CARD OF 'laws.FnExactEditBundle'. -/
def fnExactEditBundleCard : Claim7 := { stood := { row := fnExactEditBundleRow, standIns := [], harness := (true, "284ec7997cf8ab75239d91e310a0e504b678f011cc23deb3ff1f8166a576f296"), looks := false }, kinds := [], alts := [], laidByText := true, laidKinds := [.data, .pinned], laidTests := true, laidLooks := .later }
def FnExactEditBundleCardSaid : Prop := Claim7.holds Tryz.pinned (.plain (OpenSpec.ofChange fnExactEditBundleSpec)) fnExactEditBundleCard

/-- THE SECOND FORM's CARD OF 'laws.FnExactRollBackWorld'. -/
def fnExactRollBackWorldUptoCard : Claim7 := { stood := { row := fnExactRollBackWorldUptoRow, standIns := [], harness := (true, "284ec7997cf8ab75239d91e310a0e504b678f011cc23deb3ff1f8166a576f296"), looks := false }, kinds := [], alts := [], laidByText := true, laidKinds := [.data, .pinned], laidTests := true, laidLooks := .later }
def FnExactRollBackWorldUptoCardSaid : Prop := Claim7.holds Tryz.pinned (.plain (OpenSpec.upto fnExactRollBackWorldSpec)) fnExactRollBackWorldUptoCard

/-- THE SECOND FORM's CARD OF 'laws.FnExactRenewWorld'. -/
def fnExactRenewWorldUptoCard : Claim7 := { stood := { row := fnExactRenewWorldUptoRow, standIns := [], harness := (true, "284ec7997cf8ab75239d91e310a0e504b678f011cc23deb3ff1f8166a576f296"), looks := false }, kinds := [], alts := [], laidByText := true, laidKinds := [.data, .pinned], laidTests := true, laidLooks := .later }
def FnExactRenewWorldUptoCardSaid : Prop := Claim7.holds Tryz.pinned (.plain (OpenSpec.upto fnExactRenewWorldSpec)) fnExactRenewWorldUptoCard

/-- THE SECOND FORM's CARD OF 'laws.FnExactEditBundle'. -/
def fnExactEditBundleUptoCard : Claim7 := { stood := { row := fnExactEditBundleUptoRow, standIns := [], harness := (true, "284ec7997cf8ab75239d91e310a0e504b678f011cc23deb3ff1f8166a576f296"), looks := false }, kinds := [], alts := [], laidByText := true, laidKinds := [.data, .pinned], laidTests := true, laidLooks := .later }
def FnExactEditBundleUptoCardSaid : Prop := Claim7.holds Tryz.pinned (.plain (OpenSpec.upto fnExactEditBundleSpec)) fnExactEditBundleUptoCard
end Rows
end Go.Proofs.YtiojlennpdmapaaGreatDoor
