/-
  DERIVED. GIVEN WITH THE SEED: THE CARDS: each row of YtbolikomoenmaaaDoorRows.lean that lists a variable, with what it lists TIED to the program's text (the seventh form; the later family's looks); each row that meets fmt, with fmt's text TOLD by the authors' own Lean function (tested against real Go, not proved from fmt's source: count such statements apart). THE CARD IS WHAT COUNTS. Prove the row's statement (the work); the ties are given (YtbolikomoenmaaaDoorTie.lean); close each card by the builder's one call (the guide's Derived/Test/ToyasCard.lean, 'card_holds'). Laid BY PROGRAM, IN A SANDBOX (cutbox-door.mjs). By AI agents, Wed Nov 11 2026. No macro, syntax, notation, axiom, sorry.
-/
import Derived.Test.YtbolikomoenmaaaDoorRows
import GoSem.ClaimSeven
namespace Go.Proofs.YtbolikomoenmaaaDoor
namespace Rows

/-- THE TIED CARD OF 'posthouselaw8.QuotaFitsIsUsed'. -/
def quotaFitsIsUsedCard : Claim7 := { stood := { row := quotaFitsIsUsedRow, standIns := [], harness := (true, "619fbabfa9816083a72f8d146373917fe31c619e3119463fd0e6c6858a7f9517"), looks := false }, kinds := [], alts := [], laidByText := true, laidKinds := [.data, .pinned], laidTests := true, laidLooks := .later }
def QuotaFitsIsUsedCardSaid : Prop := Claim7.holds Tryd.pinned (.plain (OpenSpec.ofChange quotaFitsIsUsedSpec)) quotaFitsIsUsedCard

/-- THE TIED CARD OF 'posthouselaw8.QuotaRemovingExcessSuffices'. -/
def quotaRemovingExcessSufficesCard : Claim7 := { stood := { row := quotaRemovingExcessSufficesRow, standIns := [], harness := (true, "619fbabfa9816083a72f8d146373917fe31c619e3119463fd0e6c6858a7f9517"), looks := false }, kinds := [], alts := [], laidByText := true, laidKinds := [.data, .pinned], laidTests := true, laidLooks := .later }
def QuotaRemovingExcessSufficesCardSaid : Prop := Claim7.holds Tryd.pinned (.plain (OpenSpec.ofChange quotaRemovingExcessSufficesSpec)) quotaRemovingExcessSufficesCard

/-- THE TIED CARD OF 'posthouselaw8.QuotaSizesAreThoseOfWrite'. -/
def quotaSizesAreThoseOfWriteCard : Claim7 := { stood := { row := quotaSizesAreThoseOfWriteRow, standIns := [], harness := (true, "619fbabfa9816083a72f8d146373917fe31c619e3119463fd0e6c6858a7f9517"), looks := false }, kinds := [], alts := [], laidByText := true, laidKinds := [.data, .pinned], laidTests := true, laidLooks := .later }
def QuotaSizesAreThoseOfWriteCardSaid : Prop := Claim7.holds Tryd.pinned (.plain (OpenSpec.ofChange quotaSizesAreThoseOfWriteSpec)) quotaSizesAreThoseOfWriteCard

/-- THE SECOND FORM's CARD OF 'posthouselaw8.QuotaFitsIsUsed'. -/
def quotaFitsIsUsedUptoCard : Claim7 := { stood := { row := quotaFitsIsUsedUptoRow, standIns := [], harness := (true, "619fbabfa9816083a72f8d146373917fe31c619e3119463fd0e6c6858a7f9517"), looks := false }, kinds := [], alts := [], laidByText := true, laidKinds := [.data, .pinned], laidTests := true, laidLooks := .later }
def QuotaFitsIsUsedUptoCardSaid : Prop := Claim7.holds Tryd.pinned (.plain (OpenSpec.upto quotaFitsIsUsedSpec)) quotaFitsIsUsedUptoCard

/-- THE SECOND FORM's CARD OF 'posthouselaw8.QuotaRemovingExcessSuffices'. -/
def quotaRemovingExcessSufficesUptoCard : Claim7 := { stood := { row := quotaRemovingExcessSufficesUptoRow, standIns := [], harness := (true, "619fbabfa9816083a72f8d146373917fe31c619e3119463fd0e6c6858a7f9517"), looks := false }, kinds := [], alts := [], laidByText := true, laidKinds := [.data, .pinned], laidTests := true, laidLooks := .later }
def QuotaRemovingExcessSufficesUptoCardSaid : Prop := Claim7.holds Tryd.pinned (.plain (OpenSpec.upto quotaRemovingExcessSufficesSpec)) quotaRemovingExcessSufficesUptoCard

/-- THE SECOND FORM's CARD OF 'posthouselaw8.QuotaSizesAreThoseOfWrite'. -/
def quotaSizesAreThoseOfWriteUptoCard : Claim7 := { stood := { row := quotaSizesAreThoseOfWriteUptoRow, standIns := [], harness := (true, "619fbabfa9816083a72f8d146373917fe31c619e3119463fd0e6c6858a7f9517"), looks := false }, kinds := [], alts := [], laidByText := true, laidKinds := [.data, .pinned], laidTests := true, laidLooks := .later }
def QuotaSizesAreThoseOfWriteUptoCardSaid : Prop := Claim7.holds Tryd.pinned (.plain (OpenSpec.upto quotaSizesAreThoseOfWriteSpec)) quotaSizesAreThoseOfWriteUptoCard
end Rows
end Go.Proofs.YtbolikomoenmaaaDoor
