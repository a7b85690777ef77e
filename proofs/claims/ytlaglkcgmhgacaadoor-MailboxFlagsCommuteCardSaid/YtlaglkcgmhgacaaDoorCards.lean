/-
  DERIVED. GIVEN WITH THE SEED: THE CARDS: each row of YtlaglkcgmhgacaaDoorRows.lean that lists a variable, with what it lists TIED to the program's text (the seventh form; the later family's looks); each row that meets fmt, with fmt's text TOLD by the authors' own Lean function (tested against real Go, not proved from fmt's source: count such statements apart). THE CARD IS WHAT COUNTS. Prove the row's statement (the work); the ties are given (YtlaglkcgmhgacaaDoorTie.lean); close each card by the builder's one call (the guide's Derived/Test/ToyasCard.lean, 'card_holds'). Laid BY PROGRAM, IN A SANDBOX (cutbox-door.mjs). By AI agents, Wed Nov 11 2026. No macro, syntax, notation, axiom, sorry.
-/
import Derived.Test.YtlaglkcgmhgacaaDoorRows
import GoSem.ClaimSeven
namespace Go.Proofs.YtlaglkcgmhgacaaDoor
namespace Rows

/-- THE TIED CARD OF 'posthouselaw8.MailboxMatchesSpec'. -/
def mailboxMatchesSpecCard : Claim7 := { stood := { row := mailboxMatchesSpecRow, standIns := [], harness := (true, "4ccc611696a012c28975025a351e532731a126341951d6d73c0230dbd9cab128"), looks := false }, kinds := [], alts := [], laidByText := true, laidKinds := [.data, .pinned], laidTests := true, laidLooks := .later }
def MailboxMatchesSpecCardSaid : Prop := Claim7.holds Tryd.pinned (.plain (OpenSpec.ofChange mailboxMatchesSpecSpec)) mailboxMatchesSpecCard

/-- THE TIED CARD OF 'posthouselaw8.MailboxNumbersRise'. -/
def mailboxNumbersRiseCard : Claim7 := { stood := { row := mailboxNumbersRiseRow, standIns := [], harness := (true, "4ccc611696a012c28975025a351e532731a126341951d6d73c0230dbd9cab128"), looks := false }, kinds := [], alts := [], laidByText := true, laidKinds := [.data, .pinned], laidTests := true, laidLooks := .later }
def MailboxNumbersRiseCardSaid : Prop := Claim7.holds Tryd.pinned (.plain (OpenSpec.ofChange mailboxNumbersRiseSpec)) mailboxNumbersRiseCard

/-- THE TIED CARD OF 'posthouselaw8.MailboxFlagsCommute'. -/
def mailboxFlagsCommuteCard : Claim7 := { stood := { row := mailboxFlagsCommuteRow, standIns := [], harness := (true, "4ccc611696a012c28975025a351e532731a126341951d6d73c0230dbd9cab128"), looks := false }, kinds := [], alts := [], laidByText := true, laidKinds := [.data, .pinned], laidTests := true, laidLooks := .later }
def MailboxFlagsCommuteCardSaid : Prop := Claim7.holds Tryd.pinned (.plain (OpenSpec.ofChange mailboxFlagsCommuteSpec)) mailboxFlagsCommuteCard

/-- THE SECOND FORM's CARD OF 'posthouselaw8.MailboxMatchesSpec'. -/
def mailboxMatchesSpecUptoCard : Claim7 := { stood := { row := mailboxMatchesSpecUptoRow, standIns := [], harness := (true, "4ccc611696a012c28975025a351e532731a126341951d6d73c0230dbd9cab128"), looks := false }, kinds := [], alts := [], laidByText := true, laidKinds := [.data, .pinned], laidTests := true, laidLooks := .later }
def MailboxMatchesSpecUptoCardSaid : Prop := Claim7.holds Tryd.pinned (.plain (OpenSpec.upto mailboxMatchesSpecSpec)) mailboxMatchesSpecUptoCard

/-- THE SECOND FORM's CARD OF 'posthouselaw8.MailboxNumbersRise'. -/
def mailboxNumbersRiseUptoCard : Claim7 := { stood := { row := mailboxNumbersRiseUptoRow, standIns := [], harness := (true, "4ccc611696a012c28975025a351e532731a126341951d6d73c0230dbd9cab128"), looks := false }, kinds := [], alts := [], laidByText := true, laidKinds := [.data, .pinned], laidTests := true, laidLooks := .later }
def MailboxNumbersRiseUptoCardSaid : Prop := Claim7.holds Tryd.pinned (.plain (OpenSpec.upto mailboxNumbersRiseSpec)) mailboxNumbersRiseUptoCard

/-- THE SECOND FORM's CARD OF 'posthouselaw8.MailboxFlagsCommute'. -/
def mailboxFlagsCommuteUptoCard : Claim7 := { stood := { row := mailboxFlagsCommuteUptoRow, standIns := [], harness := (true, "4ccc611696a012c28975025a351e532731a126341951d6d73c0230dbd9cab128"), looks := false }, kinds := [], alts := [], laidByText := true, laidKinds := [.data, .pinned], laidTests := true, laidLooks := .later }
def MailboxFlagsCommuteUptoCardSaid : Prop := Claim7.holds Tryd.pinned (.plain (OpenSpec.upto mailboxFlagsCommuteSpec)) mailboxFlagsCommuteUptoCard
end Rows
end Go.Proofs.YtlaglkcgmhgacaaDoor
