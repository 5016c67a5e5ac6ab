/-
  DERIVED. GIVEN WITH THE SEED: THE CARDS: each row of YtaicmnffahjdgaaDoorRows.lean that lists a variable, with what it lists TIED to the program's text (the seventh form; the later family's looks); each row that meets fmt, with fmt's text TOLD by the authors' own Lean function (tested against real Go, not proved from fmt's source: count such statements apart). THE CARD IS WHAT COUNTS. Prove the row's statement (the work); the ties are given (YtaicmnffahjdgaaDoorTie.lean); close each card by the builder's one call (the guide's Derived/Test/ToyasCard.lean, 'card_holds'). Laid BY PROGRAM, IN A SANDBOX (cutbox-door.mjs). By AI agents, Wed Nov 11 2026. No macro, syntax, notation, axiom, sorry.
-/
import Derived.Test.YtaicmnffahjdgaaDoorRows
import GoSem.ClaimSeven
namespace Go.Proofs.YtaicmnffahjdgaaDoor
namespace Rows

/-- THE TIED CARD OF 'laws.FnExactFormatAccount'. -/
def fnExactFormatAccountCard : Claim7 := { stood := { row := fnExactFormatAccountRow, standIns := [], harness := (true, "fcb75614c238a0193b4ec7c1f57d5d6f029f8700f75322dae6908fee819797d5"), looks := false }, kinds := [], alts := [], laidByText := true, laidKinds := [.data, .data, .data], laidTests := true, laidLooks := .later }
def FnExactFormatAccountCardSaid : Prop := Claim7.holds Tryd.pinned (.plain (OpenSpec.ofChange fnExactFormatAccountSpec)) fnExactFormatAccountCard

/-- THE TIED CARD OF 'laws.FnExactFormatHost'. -/
def fnExactFormatHostCard : Claim7 := { stood := { row := fnExactFormatHostRow, standIns := [], harness := (true, "fcb75614c238a0193b4ec7c1f57d5d6f029f8700f75322dae6908fee819797d5"), looks := false }, kinds := [], alts := [], laidByText := true, laidKinds := [.data, .data, .data], laidTests := true, laidLooks := .later }
def FnExactFormatHostCardSaid : Prop := Claim7.holds Tryd.pinned (.plain (OpenSpec.ofChange fnExactFormatHostSpec)) fnExactFormatHostCard

/-- THE TIED CARD OF 'laws.FnExactFormatMail'. -/
def fnExactFormatMailCard : Claim7 := { stood := { row := fnExactFormatMailRow, standIns := [], harness := (true, "fcb75614c238a0193b4ec7c1f57d5d6f029f8700f75322dae6908fee819797d5"), looks := false }, kinds := [], alts := [], laidByText := true, laidKinds := [.data, .data, .data], laidTests := true, laidLooks := .later }
def FnExactFormatMailCardSaid : Prop := Claim7.holds Tryd.pinned (.plain (OpenSpec.ofChange fnExactFormatMailSpec)) fnExactFormatMailCard

/-- THE TIED CARD OF 'laws.FnExactFormatLogEntries'. -/
def fnExactFormatLogEntriesCard : Claim7 := { stood := { row := fnExactFormatLogEntriesRow, standIns := [], harness := (true, "fcb75614c238a0193b4ec7c1f57d5d6f029f8700f75322dae6908fee819797d5"), looks := false }, kinds := [], alts := [], laidByText := true, laidKinds := [.data, .data, .data], laidTests := true, laidLooks := .later }
def FnExactFormatLogEntriesCardSaid : Prop := Claim7.holds Tryd.pinned (.plain (OpenSpec.ofChange fnExactFormatLogEntriesSpec)) fnExactFormatLogEntriesCard

/-- THE TIED CARD OF 'laws.FnExactFormatDevice'. -/
def fnExactFormatDeviceCard : Claim7 := { stood := { row := fnExactFormatDeviceRow, standIns := [], harness := (true, "fcb75614c238a0193b4ec7c1f57d5d6f029f8700f75322dae6908fee819797d5"), looks := false }, kinds := [], alts := [], laidByText := true, laidKinds := [.data, .data, .data], laidTests := true, laidLooks := .later }
def FnExactFormatDeviceCardSaid : Prop := Claim7.holds Tryd.pinned (.plain (OpenSpec.ofChange fnExactFormatDeviceSpec)) fnExactFormatDeviceCard

/-- THE TIED CARD OF 'laws.FnExactFormatSite'. -/
def fnExactFormatSiteCard : Claim7 := { stood := { row := fnExactFormatSiteRow, standIns := [], harness := (true, "fcb75614c238a0193b4ec7c1f57d5d6f029f8700f75322dae6908fee819797d5"), looks := false }, kinds := [], alts := [], laidByText := true, laidKinds := [.data, .data, .data], laidTests := true, laidLooks := .later }
def FnExactFormatSiteCardSaid : Prop := Claim7.holds Tryd.pinned (.plain (OpenSpec.ofChange fnExactFormatSiteSpec)) fnExactFormatSiteCard

/-- THE SECOND FORM's CARD OF 'laws.FnExactFormatAccount'. -/
def fnExactFormatAccountUptoCard : Claim7 := { stood := { row := fnExactFormatAccountUptoRow, standIns := [], harness := (true, "fcb75614c238a0193b4ec7c1f57d5d6f029f8700f75322dae6908fee819797d5"), looks := false }, kinds := [], alts := [], laidByText := true, laidKinds := [.data, .data, .data], laidTests := true, laidLooks := .later }
def FnExactFormatAccountUptoCardSaid : Prop := Claim7.holds Tryd.pinned (.plain (OpenSpec.upto fnExactFormatAccountSpec)) fnExactFormatAccountUptoCard

/-- THE SECOND FORM's CARD OF 'laws.FnExactFormatHost'. -/
def fnExactFormatHostUptoCard : Claim7 := { stood := { row := fnExactFormatHostUptoRow, standIns := [], harness := (true, "fcb75614c238a0193b4ec7c1f57d5d6f029f8700f75322dae6908fee819797d5"), looks := false }, kinds := [], alts := [], laidByText := true, laidKinds := [.data, .data, .data], laidTests := true, laidLooks := .later }
def FnExactFormatHostUptoCardSaid : Prop := Claim7.holds Tryd.pinned (.plain (OpenSpec.upto fnExactFormatHostSpec)) fnExactFormatHostUptoCard

/-- THE SECOND FORM's CARD OF 'laws.FnExactFormatMail'. -/
def fnExactFormatMailUptoCard : Claim7 := { stood := { row := fnExactFormatMailUptoRow, standIns := [], harness := (true, "fcb75614c238a0193b4ec7c1f57d5d6f029f8700f75322dae6908fee819797d5"), looks := false }, kinds := [], alts := [], laidByText := true, laidKinds := [.data, .data, .data], laidTests := true, laidLooks := .later }
def FnExactFormatMailUptoCardSaid : Prop := Claim7.holds Tryd.pinned (.plain (OpenSpec.upto fnExactFormatMailSpec)) fnExactFormatMailUptoCard

/-- THE SECOND FORM's CARD OF 'laws.FnExactFormatLogEntries'. -/
def fnExactFormatLogEntriesUptoCard : Claim7 := { stood := { row := fnExactFormatLogEntriesUptoRow, standIns := [], harness := (true, "fcb75614c238a0193b4ec7c1f57d5d6f029f8700f75322dae6908fee819797d5"), looks := false }, kinds := [], alts := [], laidByText := true, laidKinds := [.data, .data, .data], laidTests := true, laidLooks := .later }
def FnExactFormatLogEntriesUptoCardSaid : Prop := Claim7.holds Tryd.pinned (.plain (OpenSpec.upto fnExactFormatLogEntriesSpec)) fnExactFormatLogEntriesUptoCard

/-- THE SECOND FORM's CARD OF 'laws.FnExactFormatDevice'. -/
def fnExactFormatDeviceUptoCard : Claim7 := { stood := { row := fnExactFormatDeviceUptoRow, standIns := [], harness := (true, "fcb75614c238a0193b4ec7c1f57d5d6f029f8700f75322dae6908fee819797d5"), looks := false }, kinds := [], alts := [], laidByText := true, laidKinds := [.data, .data, .data], laidTests := true, laidLooks := .later }
def FnExactFormatDeviceUptoCardSaid : Prop := Claim7.holds Tryd.pinned (.plain (OpenSpec.upto fnExactFormatDeviceSpec)) fnExactFormatDeviceUptoCard

/-- THE SECOND FORM's CARD OF 'laws.FnExactFormatSite'. -/
def fnExactFormatSiteUptoCard : Claim7 := { stood := { row := fnExactFormatSiteUptoRow, standIns := [], harness := (true, "fcb75614c238a0193b4ec7c1f57d5d6f029f8700f75322dae6908fee819797d5"), looks := false }, kinds := [], alts := [], laidByText := true, laidKinds := [.data, .data, .data], laidTests := true, laidLooks := .later }
def FnExactFormatSiteUptoCardSaid : Prop := Claim7.holds Tryd.pinned (.plain (OpenSpec.upto fnExactFormatSiteSpec)) fnExactFormatSiteUptoCard
end Rows
end Go.Proofs.YtaicmnffahjdgaaDoor
