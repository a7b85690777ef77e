/-
  DERIVED. GIVEN WITH THE SEED: THE CARDS: each row of YtikhmdmajhhmhaaDoorRows.lean that lists a variable, with what it lists TIED to the program's text (the seventh form; the later family's looks); each row that meets fmt, with fmt's text TOLD by the authors' own Lean function (tested against real Go, not proved from fmt's source: count such statements apart). THE CARD IS WHAT COUNTS. Prove the row's statement (the work); the ties are given (YtikhmdmajhhmhaaDoorTie.lean); close each card by the builder's one call (the guide's Derived/Test/ToyasCard.lean, 'card_holds'). Laid BY PROGRAM, IN A SANDBOX (cutbox-door.mjs). By AI agents, Wed Nov 11 2026. No macro, syntax, notation, axiom, sorry.
-/
import Derived.Test.YtikhmdmajhhmhaaDoorRows
import GoSem.ClaimSeven
namespace Go.Proofs.YtikhmdmajhhmhaaDoor
namespace Rows

/-- THE TIED CARD OF 'posthouselaw8.ResyncChangesAddUp'. -/
def resyncChangesAddUpCard : Claim7 := { stood := { row := resyncChangesAddUpRow, standIns := [], harness := (true, "0a7e2dd90c1e36be912b75edb6433b02d03d6ed4696443c52f404022b1d96138"), looks := false }, kinds := [], alts := [], laidByText := true, laidKinds := [.data, .pinned], laidTests := true, laidLooks := .later }
def ResyncChangesAddUpCardSaid : Prop := Claim7.holds Tryd.pinned (.plain (OpenSpec.ofChange resyncChangesAddUpSpec)) resyncChangesAddUpCard

/-- THE TIED CARD OF 'posthouselaw8.ResyncTellsOneChange'. -/
def resyncTellsOneChangeCard : Claim7 := { stood := { row := resyncTellsOneChangeRow, standIns := [], harness := (true, "0a7e2dd90c1e36be912b75edb6433b02d03d6ed4696443c52f404022b1d96138"), looks := false }, kinds := [], alts := [], laidByText := true, laidKinds := [.data, .pinned], laidTests := true, laidLooks := .later }
def ResyncTellsOneChangeCardSaid : Prop := Claim7.holds Tryd.pinned (.plain (OpenSpec.ofChange resyncTellsOneChangeSpec)) resyncTellsOneChangeCard

/-- THE SECOND FORM's CARD OF 'posthouselaw8.ResyncChangesAddUp'. -/
def resyncChangesAddUpUptoCard : Claim7 := { stood := { row := resyncChangesAddUpUptoRow, standIns := [], harness := (true, "0a7e2dd90c1e36be912b75edb6433b02d03d6ed4696443c52f404022b1d96138"), looks := false }, kinds := [], alts := [], laidByText := true, laidKinds := [.data, .pinned], laidTests := true, laidLooks := .later }
def ResyncChangesAddUpUptoCardSaid : Prop := Claim7.holds Tryd.pinned (.plain (OpenSpec.upto resyncChangesAddUpSpec)) resyncChangesAddUpUptoCard

/-- THE SECOND FORM's CARD OF 'posthouselaw8.ResyncTellsOneChange'. -/
def resyncTellsOneChangeUptoCard : Claim7 := { stood := { row := resyncTellsOneChangeUptoRow, standIns := [], harness := (true, "0a7e2dd90c1e36be912b75edb6433b02d03d6ed4696443c52f404022b1d96138"), looks := false }, kinds := [], alts := [], laidByText := true, laidKinds := [.data, .pinned], laidTests := true, laidLooks := .later }
def ResyncTellsOneChangeUptoCardSaid : Prop := Claim7.holds Tryd.pinned (.plain (OpenSpec.upto resyncTellsOneChangeSpec)) resyncTellsOneChangeUptoCard
end Rows
end Go.Proofs.YtikhmdmajhhmhaaDoor
