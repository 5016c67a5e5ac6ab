/-
  DERIVED. GIVEN WITH THE SEED: THE CARDS: each row of YtffpnfmhcpcaaaaGreatDoorRows.lean that lists a variable, with what it lists TIED to the program's text (the seventh form; the later family's looks); each row that meets fmt, with fmt's text TOLD by the authors' own Lean function (tested against real Go, not proved from fmt's source: count such statements apart). THE CARD IS WHAT COUNTS. Prove the row's statement (the work); the ties are given (YtffpnfmhcpcaaaaGreatDoorTie.lean); close each card by the builder's one call (the guide's Derived/Test/ToyasCard.lean, 'card_holds'). Laid BY PROGRAM, IN A SANDBOX (cutbox-door.mjs). By AI agents, Wed Nov 11 2026. No macro, syntax, notation, axiom, sorry.
-/
import Derived.Test.YtffpnfmhcpcaaaaGreatDoorRows
import GoSem.ClaimSeven
namespace Go.Proofs.YtffpnfmhcpcaaaaGreatDoor
namespace Rows

/-- THE TIED CARD OF 'laws.FnExactPushBundle'. -/
def fnExactPushBundleCard : Claim7 := { stood := { row := fnExactPushBundleRow, standIns := [], harness := (true, "e423eaad37f227f64f1adb19d7fab6c89e6f50ec44488cea072d7da7c16268f6"), looks := false }, kinds := [], alts := [], laidByText := true, laidKinds := [.data, .pinned], laidTests := true, laidLooks := .later }
def FnExactPushBundleCardSaid : Prop := Claim7.holds Tryz.pinned (.plain (OpenSpec.ofChange fnExactPushBundleSpec)) fnExactPushBundleCard

/-- THE TIED CARD OF 'laws.FnExactSettleWorld'. -/
def fnExactSettleWorldCard : Claim7 := { stood := { row := fnExactSettleWorldRow, standIns := [], harness := (true, "e423eaad37f227f64f1adb19d7fab6c89e6f50ec44488cea072d7da7c16268f6"), looks := false }, kinds := [], alts := [], laidByText := true, laidKinds := [.data, .pinned], laidTests := true, laidLooks := .later }
def FnExactSettleWorldCardSaid : Prop := Claim7.holds Tryz.pinned (.plain (OpenSpec.ofChange fnExactSettleWorldSpec)) fnExactSettleWorldCard

/-- THE SECOND FORM's CARD OF 'laws.FnExactPushBundle'. -/
def fnExactPushBundleUptoCard : Claim7 := { stood := { row := fnExactPushBundleUptoRow, standIns := [], harness := (true, "e423eaad37f227f64f1adb19d7fab6c89e6f50ec44488cea072d7da7c16268f6"), looks := false }, kinds := [], alts := [], laidByText := true, laidKinds := [.data, .pinned], laidTests := true, laidLooks := .later }
def FnExactPushBundleUptoCardSaid : Prop := Claim7.holds Tryz.pinned (.plain (OpenSpec.upto fnExactPushBundleSpec)) fnExactPushBundleUptoCard

/-- THE SECOND FORM's CARD OF 'laws.FnExactSettleWorld'. -/
def fnExactSettleWorldUptoCard : Claim7 := { stood := { row := fnExactSettleWorldUptoRow, standIns := [], harness := (true, "e423eaad37f227f64f1adb19d7fab6c89e6f50ec44488cea072d7da7c16268f6"), looks := false }, kinds := [], alts := [], laidByText := true, laidKinds := [.data, .pinned], laidTests := true, laidLooks := .later }
def FnExactSettleWorldUptoCardSaid : Prop := Claim7.holds Tryz.pinned (.plain (OpenSpec.upto fnExactSettleWorldSpec)) fnExactSettleWorldUptoCard
end Rows
end Go.Proofs.YtffpnfmhcpcaaaaGreatDoor
