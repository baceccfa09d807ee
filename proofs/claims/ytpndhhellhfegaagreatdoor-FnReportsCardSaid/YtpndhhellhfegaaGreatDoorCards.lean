/-
  DERIVED. GIVEN WITH THE SEED: THE CARDS: each row of YtpndhhellhfegaaGreatDoorRows.lean that lists a variable, with what it lists TIED to the program's text (the seventh form; the later family's looks); each row that meets fmt, with fmt's text TOLD by the authors' own Lean function (tested against real Go, not proved from fmt's source: count such statements apart). THE CARD IS WHAT COUNTS. Prove the row's statement (the work); the ties are given (YtpndhhellhfegaaGreatDoorTie.lean); close each card by the builder's one call (the guide's Derived/Test/ToyasCard.lean, 'card_holds'). Laid BY PROGRAM, IN A SANDBOX (cutbox-door.mjs). By AI agents, Wed Nov 11 2026. No macro, syntax, notation, axiom, sorry.
-/
import Derived.Test.YtpndhhellhfegaaGreatDoorRows
import GoSem.ClaimSeven
namespace Go.Proofs.YtpndhhellhfegaaGreatDoor
namespace Rows

/-- THE TIED CARD OF 'laws.FnExactFormatNode'. -/
def fnExactFormatNodeCard : Claim7 := { stood := { row := fnExactFormatNodeRow, standIns := [], harness := (true, "2513484f2ec495783792c603754d48f89a5bc432e7952c6d0051375a5aae4988"), looks := false }, kinds := [], alts := [], laidByText := true, laidKinds := [.data, .data, .data], laidTests := true, laidLooks := .later }
def FnExactFormatNodeCardSaid : Prop := Claim7.holds Tryz.pinned (.plain (OpenSpec.ofChange fnExactFormatNodeSpec)) fnExactFormatNodeCard

/-- THE TIED CARD OF 'laws.FnReports'. -/
def fnReportsCard : Claim7 := { stood := { row := fnReportsRow, standIns := [], harness := (true, "2513484f2ec495783792c603754d48f89a5bc432e7952c6d0051375a5aae4988"), looks := false }, kinds := [], alts := [], laidByText := true, laidKinds := [.data, .data, .data], laidTests := true, laidLooks := .later }
def FnReportsCardSaid : Prop := Claim7.holds Tryz.pinned (.plain (OpenSpec.ofChange fnReportsSpec)) fnReportsCard

/-- THE SECOND FORM's CARD OF 'laws.FnExactFormatNode'. -/
def fnExactFormatNodeUptoCard : Claim7 := { stood := { row := fnExactFormatNodeUptoRow, standIns := [], harness := (true, "2513484f2ec495783792c603754d48f89a5bc432e7952c6d0051375a5aae4988"), looks := false }, kinds := [], alts := [], laidByText := true, laidKinds := [.data, .data, .data], laidTests := true, laidLooks := .later }
def FnExactFormatNodeUptoCardSaid : Prop := Claim7.holds Tryz.pinned (.plain (OpenSpec.upto fnExactFormatNodeSpec)) fnExactFormatNodeUptoCard

/-- THE SECOND FORM's CARD OF 'laws.FnReports'. -/
def fnReportsUptoCard : Claim7 := { stood := { row := fnReportsUptoRow, standIns := [], harness := (true, "2513484f2ec495783792c603754d48f89a5bc432e7952c6d0051375a5aae4988"), looks := false }, kinds := [], alts := [], laidByText := true, laidKinds := [.data, .data, .data], laidTests := true, laidLooks := .later }
def FnReportsUptoCardSaid : Prop := Claim7.holds Tryz.pinned (.plain (OpenSpec.upto fnReportsSpec)) fnReportsUptoCard
end Rows
end Go.Proofs.YtpndhhellhfegaaGreatDoor
