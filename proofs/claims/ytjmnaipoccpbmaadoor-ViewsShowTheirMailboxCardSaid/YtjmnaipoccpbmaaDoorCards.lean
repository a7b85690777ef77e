/-
  DERIVED. GIVEN WITH THE SEED: THE CARDS: each row of YtjmnaipoccpbmaaDoorRows.lean that lists a variable, with what it lists TIED to the program's text (the seventh form; the later family's looks); each row that meets fmt, with fmt's text TOLD by the authors' own Lean function (tested against real Go, not proved from fmt's source: count such statements apart). THE CARD IS WHAT COUNTS. Prove the row's statement (the work); the ties are given (YtjmnaipoccpbmaaDoorTie.lean); close each card by the builder's one call (the guide's Derived/Test/ToyasCard.lean, 'card_holds'). Laid BY PROGRAM, IN A SANDBOX (cutbox-door.mjs). By AI agents, Wed Nov 11 2026. No macro, syntax, notation, axiom, sorry.
-/
import Derived.Test.YtjmnaipoccpbmaaDoorRows
import GoSem.ClaimSeven
namespace Go.Proofs.YtjmnaipoccpbmaaDoor
namespace Rows

/-- THE TIED CARD OF 'posthouselaw8.ViewsShowTheirMailbox'. -/
def viewsShowTheirMailboxCard : Claim7 := { stood := { row := viewsShowTheirMailboxRow, standIns := [], harness := (true, "1f08bea3537a56fcf5f1426c7fb15077c5d353956287b5e63bd90196eacd54d7"), looks := false }, kinds := [], alts := [], laidByText := true, laidKinds := [.data, .pinned], laidTests := true, laidLooks := .later }
def ViewsShowTheirMailboxCardSaid : Prop := Claim7.holds Tryd.pinned (.plain (OpenSpec.ofChange viewsShowTheirMailboxSpec)) viewsShowTheirMailboxCard

/-- THE TIED CARD OF 'posthouselaw8.ResyncTellsOneChange'. -/
def resyncTellsOneChangeCard : Claim7 := { stood := { row := resyncTellsOneChangeRow, standIns := [], harness := (true, "1f08bea3537a56fcf5f1426c7fb15077c5d353956287b5e63bd90196eacd54d7"), looks := false }, kinds := [], alts := [], laidByText := true, laidKinds := [.data, .pinned], laidTests := true, laidLooks := .later }
def ResyncTellsOneChangeCardSaid : Prop := Claim7.holds Tryd.pinned (.plain (OpenSpec.ofChange resyncTellsOneChangeSpec)) resyncTellsOneChangeCard

/-- THE TIED CARD OF 'posthouselaw8.ResyncCatchesUp'. -/
def resyncCatchesUpCard : Claim7 := { stood := { row := resyncCatchesUpRow, standIns := [], harness := (true, "1f08bea3537a56fcf5f1426c7fb15077c5d353956287b5e63bd90196eacd54d7"), looks := false }, kinds := [], alts := [], laidByText := true, laidKinds := [.data, .pinned], laidTests := true, laidLooks := .later }
def ResyncCatchesUpCardSaid : Prop := Claim7.holds Tryd.pinned (.plain (OpenSpec.ofChange resyncCatchesUpSpec)) resyncCatchesUpCard

/-- THE SECOND FORM's CARD OF 'posthouselaw8.ViewsShowTheirMailbox'. -/
def viewsShowTheirMailboxUptoCard : Claim7 := { stood := { row := viewsShowTheirMailboxUptoRow, standIns := [], harness := (true, "1f08bea3537a56fcf5f1426c7fb15077c5d353956287b5e63bd90196eacd54d7"), looks := false }, kinds := [], alts := [], laidByText := true, laidKinds := [.data, .pinned], laidTests := true, laidLooks := .later }
def ViewsShowTheirMailboxUptoCardSaid : Prop := Claim7.holds Tryd.pinned (.plain (OpenSpec.upto viewsShowTheirMailboxSpec)) viewsShowTheirMailboxUptoCard

/-- THE SECOND FORM's CARD OF 'posthouselaw8.ResyncTellsOneChange'. -/
def resyncTellsOneChangeUptoCard : Claim7 := { stood := { row := resyncTellsOneChangeUptoRow, standIns := [], harness := (true, "1f08bea3537a56fcf5f1426c7fb15077c5d353956287b5e63bd90196eacd54d7"), looks := false }, kinds := [], alts := [], laidByText := true, laidKinds := [.data, .pinned], laidTests := true, laidLooks := .later }
def ResyncTellsOneChangeUptoCardSaid : Prop := Claim7.holds Tryd.pinned (.plain (OpenSpec.upto resyncTellsOneChangeSpec)) resyncTellsOneChangeUptoCard

/-- THE SECOND FORM's CARD OF 'posthouselaw8.ResyncCatchesUp'. -/
def resyncCatchesUpUptoCard : Claim7 := { stood := { row := resyncCatchesUpUptoRow, standIns := [], harness := (true, "1f08bea3537a56fcf5f1426c7fb15077c5d353956287b5e63bd90196eacd54d7"), looks := false }, kinds := [], alts := [], laidByText := true, laidKinds := [.data, .pinned], laidTests := true, laidLooks := .later }
def ResyncCatchesUpUptoCardSaid : Prop := Claim7.holds Tryd.pinned (.plain (OpenSpec.upto resyncCatchesUpSpec)) resyncCatchesUpUptoCard
end Rows
end Go.Proofs.YtjmnaipoccpbmaaDoor
