/-
  DERIVED. GIVEN WITH THE SEED: THE CARDS: each row of YtbnmddippoiabaaDoorRows.lean that lists a variable, with what it lists TIED to the program's text (the seventh form; the later family's looks); each row that meets fmt, with fmt's text TOLD by the authors' own Lean function (tested against real Go, not proved from fmt's source: count such statements apart). THE CARD IS WHAT COUNTS. Prove the row's statement (the work); the ties are given (YtbnmddippoiabaaDoorTie.lean); close each card by the builder's one call (the guide's Derived/Test/ToyasCard.lean, 'card_holds'). Laid BY PROGRAM, IN A SANDBOX (cutbox-door.mjs). By AI agents, Wed Nov 11 2026. No macro, syntax, notation, axiom, sorry.
-/
import Derived.Test.YtbnmddippoiabaaDoorRows
import GoSem.ClaimSeven
namespace Go.Proofs.YtbnmddippoiabaaDoor
namespace Rows

/-- THE TIED CARD OF 'posthouselaw8.OfflineMatchesSpec'. -/
def offlineMatchesSpecCard : Claim7 := { stood := { row := offlineMatchesSpecRow, standIns := [], harness := (true, "c68af1907f6562017c1db1418c8ee97c64c6c71f2fda525031da09aa62acece2"), looks := false }, kinds := [], alts := [], laidByText := true, laidKinds := [.data, .pinned], laidTests := true, laidLooks := .later }
def OfflineMatchesSpecCardSaid : Prop := Claim7.holds Tryd.pinned (.plain (OpenSpec.ofChange offlineMatchesSpecSpec)) offlineMatchesSpecCard

/-- THE TIED CARD OF 'posthouselaw8.OfflineClientsCommute'. -/
def offlineClientsCommuteCard : Claim7 := { stood := { row := offlineClientsCommuteRow, standIns := [], harness := (true, "c68af1907f6562017c1db1418c8ee97c64c6c71f2fda525031da09aa62acece2"), looks := false }, kinds := [], alts := [], laidByText := true, laidKinds := [.data, .pinned], laidTests := true, laidLooks := .later }
def OfflineClientsCommuteCardSaid : Prop := Claim7.holds Tryd.pinned (.plain (OpenSpec.ofChange offlineClientsCommuteSpec)) offlineClientsCommuteCard

/-- THE TIED CARD OF 'posthouselaw8.OfflineRemovesOnlyWhatWasSeen'. -/
def offlineRemovesOnlyWhatWasSeenCard : Claim7 := { stood := { row := offlineRemovesOnlyWhatWasSeenRow, standIns := [], harness := (true, "c68af1907f6562017c1db1418c8ee97c64c6c71f2fda525031da09aa62acece2"), looks := false }, kinds := [], alts := [], laidByText := true, laidKinds := [.data, .pinned], laidTests := true, laidLooks := .later }
def OfflineRemovesOnlyWhatWasSeenCardSaid : Prop := Claim7.holds Tryd.pinned (.plain (OpenSpec.ofChange offlineRemovesOnlyWhatWasSeenSpec)) offlineRemovesOnlyWhatWasSeenCard

/-- THE TIED CARD OF 'posthouselaw8.OfflineReportsAll'. -/
def offlineReportsAllCard : Claim7 := { stood := { row := offlineReportsAllRow, standIns := [], harness := (true, "c68af1907f6562017c1db1418c8ee97c64c6c71f2fda525031da09aa62acece2"), looks := false }, kinds := [], alts := [], laidByText := true, laidKinds := [.data, .pinned], laidTests := true, laidLooks := .later }
def OfflineReportsAllCardSaid : Prop := Claim7.holds Tryd.pinned (.plain (OpenSpec.ofChange offlineReportsAllSpec)) offlineReportsAllCard

/-- THE SECOND FORM's CARD OF 'posthouselaw8.OfflineMatchesSpec'. -/
def offlineMatchesSpecUptoCard : Claim7 := { stood := { row := offlineMatchesSpecUptoRow, standIns := [], harness := (true, "c68af1907f6562017c1db1418c8ee97c64c6c71f2fda525031da09aa62acece2"), looks := false }, kinds := [], alts := [], laidByText := true, laidKinds := [.data, .pinned], laidTests := true, laidLooks := .later }
def OfflineMatchesSpecUptoCardSaid : Prop := Claim7.holds Tryd.pinned (.plain (OpenSpec.upto offlineMatchesSpecSpec)) offlineMatchesSpecUptoCard

/-- THE SECOND FORM's CARD OF 'posthouselaw8.OfflineClientsCommute'. -/
def offlineClientsCommuteUptoCard : Claim7 := { stood := { row := offlineClientsCommuteUptoRow, standIns := [], harness := (true, "c68af1907f6562017c1db1418c8ee97c64c6c71f2fda525031da09aa62acece2"), looks := false }, kinds := [], alts := [], laidByText := true, laidKinds := [.data, .pinned], laidTests := true, laidLooks := .later }
def OfflineClientsCommuteUptoCardSaid : Prop := Claim7.holds Tryd.pinned (.plain (OpenSpec.upto offlineClientsCommuteSpec)) offlineClientsCommuteUptoCard

/-- THE SECOND FORM's CARD OF 'posthouselaw8.OfflineRemovesOnlyWhatWasSeen'. -/
def offlineRemovesOnlyWhatWasSeenUptoCard : Claim7 := { stood := { row := offlineRemovesOnlyWhatWasSeenUptoRow, standIns := [], harness := (true, "c68af1907f6562017c1db1418c8ee97c64c6c71f2fda525031da09aa62acece2"), looks := false }, kinds := [], alts := [], laidByText := true, laidKinds := [.data, .pinned], laidTests := true, laidLooks := .later }
def OfflineRemovesOnlyWhatWasSeenUptoCardSaid : Prop := Claim7.holds Tryd.pinned (.plain (OpenSpec.upto offlineRemovesOnlyWhatWasSeenSpec)) offlineRemovesOnlyWhatWasSeenUptoCard

/-- THE SECOND FORM's CARD OF 'posthouselaw8.OfflineReportsAll'. -/
def offlineReportsAllUptoCard : Claim7 := { stood := { row := offlineReportsAllUptoRow, standIns := [], harness := (true, "c68af1907f6562017c1db1418c8ee97c64c6c71f2fda525031da09aa62acece2"), looks := false }, kinds := [], alts := [], laidByText := true, laidKinds := [.data, .pinned], laidTests := true, laidLooks := .later }
def OfflineReportsAllUptoCardSaid : Prop := Claim7.holds Tryd.pinned (.plain (OpenSpec.upto offlineReportsAllSpec)) offlineReportsAllUptoCard
end Rows
end Go.Proofs.YtbnmddippoiabaaDoor
