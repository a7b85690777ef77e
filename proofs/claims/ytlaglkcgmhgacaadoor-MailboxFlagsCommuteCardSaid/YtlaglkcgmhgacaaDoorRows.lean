/-
  NARROWER THAN 'FOR EVERY INPUT', by the rows' own cells (each row's printed sentence says how): MailboxMatchesSpec: laid · MailboxNumbersRise: laid · MailboxFlagsCommute: laid.
  DERIVED. THE GIVEN ROWS OF THIS SEAT. 3 by the template 'for every input the law returns true; each argument reads behind the call as it read before'; 0 by the template 'total and deterministic' (their statements: YtlaglkcgmhgacaaDoorTotals.lean).
  GIVEN WITH THE SEED: the statements are not yours to turn. If you find one false, say at which input.
  Laid BY PROGRAM, IN A SANDBOX (cutbox-rows.mjs): the forced cells as the released guide's own fill.sh prints them over the translation 537c0903e96b26b8… (all of the seat's roots in one cut). By AI agents, Wed Nov 11 2026. No macro, syntax, notation, axiom, sorry.
-/
import Derived.Test.YtlaglkcgmhgacaaDoorChecked
import GoSem.PinnedTables
import GoSem.Claim
import GoSem.ClaimJoined
import GoSem.ClaimMapViews
import Derived.JoinedTies
import Derived.KernelRfl
namespace Go.Proofs.YtlaglkcgmhgacaaDoor
/- THE CELL 'sum', in the pinned program and in every row, IS THE sha256 OF THE DUMP (.gsa) THAT YtlaglkcgmhgacaaDoorProg.lean LOADS. Nothing in Lean hashes anything: it is a label: what it is worth is what the hold of that sum in a sandbox is worth. -/
noncomputable def Tryd.pinned : Pinned := { name := "ytlaglkcgmhgacaadoor", sum := "537c0903e96b26b8d204f02fbb6484bfbb809acad52d54f604f91f3a635016de", checked := Tryd.checked }
namespace Rows
def none {H : Type} : Left H := { results := [], args := [] }

/- WHAT THE LISTED PACKAGE-LEVEL VARIABLES READ AS WHEN THE CALL BEGINS. Each datum BY PROGRAM (the guide's laid-datum.mjs) off the statement by which the dump's own 'gosem.cut.vars' lays the variable. In a bare row this is a premise. The card (YtlaglkcgmhgacaaDoorCards.lean) ties it to the program's text. -/
def laid_unicode_utf8_acceptRanges {H : Type} : DataW H := .agg [.agg [.lit (.int .u8 128), .lit (.int .u8 191)], .agg [.lit (.int .u8 160), .lit (.int .u8 191)], .agg [.lit (.int .u8 128), .lit (.int .u8 159)], .agg [.lit (.int .u8 144), .lit (.int .u8 191)], .agg [.lit (.int .u8 128), .lit (.int .u8 143)], .agg [.lit (.int .u8 0), .lit (.int .u8 0)], .agg [.lit (.int .u8 0), .lit (.int .u8 0)], .agg [.lit (.int .u8 0), .lit (.int .u8 0)], .agg [.lit (.int .u8 0), .lit (.int .u8 0)], .agg [.lit (.int .u8 0), .lit (.int .u8 0)], .agg [.lit (.int .u8 0), .lit (.int .u8 0)], .agg [.lit (.int .u8 0), .lit (.int .u8 0)], .agg [.lit (.int .u8 0), .lit (.int .u8 0)], .agg [.lit (.int .u8 0), .lit (.int .u8 0)], .agg [.lit (.int .u8 0), .lit (.int .u8 0)], .agg [.lit (.int .u8 0), .lit (.int .u8 0)]]
/-- One of Go's own tables, pinned by name: the form's constant. -/
def laid_unicode_utf8_first : DataW Unit := Go.Pinned.utf8First

/-- 'posthouselaw8.MailboxMatchesSpec': WHATEVER THE INPUT: true; the input reads as it did. -/
def mailboxMatchesSpecSpec : ChangeSpec := { name := "mailboxMatchesSpec", fn := fun _ => fun
  | [d1, d2] => { results := [.lit (.bool true)], args := [d1, d2] }
  | _ => none }
def mailboxMatchesSpecRow : OpenClaim := { program := "ytlaglkcgmhgacaadoor", sum := "537c0903e96b26b8d204f02fbb6484bfbb809acad52d54f604f91f3a635016de", func := "posthouse/posthouselaw8.MailboxMatchesSpec", spec := "mailboxMatchesSpec", inPlace := ["internal/bytealg.IndexByteString", "internal/bytealg.IndexString"], unfollowed := true, recurses := true, named := ["unicode/utf8.first", "unicode/utf8.acceptRanges", "internal/bytealg.MaxLen"], apart := false, laid := [("unicode/utf8.acceptRanges", laid_unicode_utf8_acceptRanges), ("unicode/utf8.first", laid_unicode_utf8_first)] }
def MailboxMatchesSpecSaid : Prop := mailboxMatchesSpecRow.holds Tryd.pinned (OpenSpec.ofChange mailboxMatchesSpecSpec)

/-- ITS FALSE NEIGHBOUR: 'it returns false'. Refute it at one input. -/
def mailboxMatchesSpecWrong : ChangeSpec := { name := "mailboxMatchesSpec", fn := fun _ => fun
  | [d1, d2] => { results := [.lit (.bool false)], args := [d1, d2] }
  | _ => none }
def MailboxMatchesSpecWrongFalsely : Prop := mailboxMatchesSpecRow.holds Tryd.pinned (OpenSpec.ofChange mailboxMatchesSpecWrong)

/-- 'posthouselaw8.MailboxNumbersRise': WHATEVER THE INPUT: true; the input reads as it did. -/
def mailboxNumbersRiseSpec : ChangeSpec := { name := "mailboxNumbersRise", fn := fun _ => fun
  | [d1, d2] => { results := [.lit (.bool true)], args := [d1, d2] }
  | _ => none }
def mailboxNumbersRiseRow : OpenClaim := { program := "ytlaglkcgmhgacaadoor", sum := "537c0903e96b26b8d204f02fbb6484bfbb809acad52d54f604f91f3a635016de", func := "posthouse/posthouselaw8.MailboxNumbersRise", spec := "mailboxNumbersRise", inPlace := ["internal/bytealg.IndexByteString", "internal/bytealg.IndexString"], unfollowed := true, recurses := true, named := ["unicode/utf8.first", "unicode/utf8.acceptRanges", "internal/bytealg.MaxLen"], apart := false, laid := [("unicode/utf8.acceptRanges", laid_unicode_utf8_acceptRanges), ("unicode/utf8.first", laid_unicode_utf8_first)] }
def MailboxNumbersRiseSaid : Prop := mailboxNumbersRiseRow.holds Tryd.pinned (OpenSpec.ofChange mailboxNumbersRiseSpec)

/-- ITS FALSE NEIGHBOUR: 'it returns false'. Refute it at one input. -/
def mailboxNumbersRiseWrong : ChangeSpec := { name := "mailboxNumbersRise", fn := fun _ => fun
  | [d1, d2] => { results := [.lit (.bool false)], args := [d1, d2] }
  | _ => none }
def MailboxNumbersRiseWrongFalsely : Prop := mailboxNumbersRiseRow.holds Tryd.pinned (OpenSpec.ofChange mailboxNumbersRiseWrong)

/-- 'posthouselaw8.MailboxFlagsCommute': WHATEVER THE INPUT: true; the input reads as it did. -/
def mailboxFlagsCommuteSpec : ChangeSpec := { name := "mailboxFlagsCommute", fn := fun _ => fun
  | [d1, d2, d3] => { results := [.lit (.bool true)], args := [d1, d2, d3] }
  | _ => none }
def mailboxFlagsCommuteRow : OpenClaim := { program := "ytlaglkcgmhgacaadoor", sum := "537c0903e96b26b8d204f02fbb6484bfbb809acad52d54f604f91f3a635016de", func := "posthouse/posthouselaw8.MailboxFlagsCommute", spec := "mailboxFlagsCommute", inPlace := ["internal/bytealg.IndexByteString", "internal/bytealg.IndexString"], unfollowed := true, recurses := true, named := ["unicode/utf8.first", "unicode/utf8.acceptRanges", "internal/bytealg.MaxLen"], apart := false, laid := [("unicode/utf8.acceptRanges", laid_unicode_utf8_acceptRanges), ("unicode/utf8.first", laid_unicode_utf8_first)] }
def MailboxFlagsCommuteSaid : Prop := mailboxFlagsCommuteRow.holds Tryd.pinned (OpenSpec.ofChange mailboxFlagsCommuteSpec)

/-- ITS FALSE NEIGHBOUR: 'it returns false'. Refute it at one input. -/
def mailboxFlagsCommuteWrong : ChangeSpec := { name := "mailboxFlagsCommute", fn := fun _ => fun
  | [d1, d2, d3] => { results := [.lit (.bool false)], args := [d1, d2, d3] }
  | _ => none }
def MailboxFlagsCommuteWrongFalsely : Prop := mailboxFlagsCommuteRow.holds Tryd.pinned (OpenSpec.ofChange mailboxFlagsCommuteWrong)

/- THE SECOND FORM. 'bulk': how many values and letters a reading holds, each counted each time it is reached (what is shared counts as often as it is met; a slice's spare places count too). A statement '..UptoSaid' is the law's where the arguments, and the package variables that the reading takes, are together of bulk at most 1048576: NARROWER than '..Said'. Prove '..Said' where nothing that the law and all that it calls make is longer than what came in: it says more and counts as full. Else prove '..UptoSaid'. A law counts once. -/
mutual
def uptoBulk {H : Type} : DataW H → Nat
  | .lit (.string bytes) => bytes.length + 1
  | .lit _ => 1
  | .nil => 1
  | .ptr d => uptoBulk d + 1
  | .slice elems spare => uptoBulkAll elems + uptoBulkAll spare + 1
  | .agg parts => uptoBulkAll parts + 1
  | .iface _ d => uptoBulk d + 1
  | .map entries => uptoBulkEntries entries + 1
  | .held _ => 1
def uptoBulkAll {H : Type} : List (DataW H) → Nat
  | [] => 0
  | d :: r => uptoBulk d + uptoBulkAll r
def uptoBulkEntries {H : Type} : List (Lit × DataW H) → Nat
  | [] => 0
  | x :: r => uptoBulkEntry x + uptoBulkEntries r
def uptoBulkEntry {H : Type} : Lit × DataW H → Nat
  | (.string bytes, d) => bytes.length + uptoBulk d + 1
  | (_, d) => uptoBulk d + 1
 end
def uptoSmall : (H : Type) → List (DataW H) → Bool := fun _ ds => decide (uptoBulkAll ds ≤ 1048576)
def OpenSpec.upto (s : _root_.Go.ChangeSpec) : _root_.Go.OpenSpec := { _root_.Go.OpenSpec.ofChange s with cond := some uptoSmall }

/-- 'posthouselaw8.MailboxMatchesSpec', WHERE WHAT IT READS IS OF BULK AT MOST 1048576: true; the input reads as it did. -/
def mailboxMatchesSpecUptoRow : OpenClaim := { program := "ytlaglkcgmhgacaadoor", sum := "537c0903e96b26b8d204f02fbb6484bfbb809acad52d54f604f91f3a635016de", func := "posthouse/posthouselaw8.MailboxMatchesSpec", spec := "mailboxMatchesSpec", inPlace := ["internal/bytealg.IndexByteString", "internal/bytealg.IndexString"], unfollowed := true, recurses := true, named := ["unicode/utf8.first", "unicode/utf8.acceptRanges", "internal/bytealg.MaxLen"], apart := false, laid := [("unicode/utf8.acceptRanges", laid_unicode_utf8_acceptRanges), ("unicode/utf8.first", laid_unicode_utf8_first)], narrowed := true }
def MailboxMatchesSpecUptoSaid : Prop := mailboxMatchesSpecUptoRow.holds Tryd.pinned (OpenSpec.upto mailboxMatchesSpecSpec)

/-- 'posthouselaw8.MailboxNumbersRise', WHERE WHAT IT READS IS OF BULK AT MOST 1048576: true; the input reads as it did. -/
def mailboxNumbersRiseUptoRow : OpenClaim := { program := "ytlaglkcgmhgacaadoor", sum := "537c0903e96b26b8d204f02fbb6484bfbb809acad52d54f604f91f3a635016de", func := "posthouse/posthouselaw8.MailboxNumbersRise", spec := "mailboxNumbersRise", inPlace := ["internal/bytealg.IndexByteString", "internal/bytealg.IndexString"], unfollowed := true, recurses := true, named := ["unicode/utf8.first", "unicode/utf8.acceptRanges", "internal/bytealg.MaxLen"], apart := false, laid := [("unicode/utf8.acceptRanges", laid_unicode_utf8_acceptRanges), ("unicode/utf8.first", laid_unicode_utf8_first)], narrowed := true }
def MailboxNumbersRiseUptoSaid : Prop := mailboxNumbersRiseUptoRow.holds Tryd.pinned (OpenSpec.upto mailboxNumbersRiseSpec)

/-- 'posthouselaw8.MailboxFlagsCommute', WHERE WHAT IT READS IS OF BULK AT MOST 1048576: true; the input reads as it did. -/
def mailboxFlagsCommuteUptoRow : OpenClaim := { program := "ytlaglkcgmhgacaadoor", sum := "537c0903e96b26b8d204f02fbb6484bfbb809acad52d54f604f91f3a635016de", func := "posthouse/posthouselaw8.MailboxFlagsCommute", spec := "mailboxFlagsCommute", inPlace := ["internal/bytealg.IndexByteString", "internal/bytealg.IndexString"], unfollowed := true, recurses := true, named := ["unicode/utf8.first", "unicode/utf8.acceptRanges", "internal/bytealg.MaxLen"], apart := false, laid := [("unicode/utf8.acceptRanges", laid_unicode_utf8_acceptRanges), ("unicode/utf8.first", laid_unicode_utf8_first)], narrowed := true }
def MailboxFlagsCommuteUptoSaid : Prop := mailboxFlagsCommuteUptoRow.holds Tryd.pinned (OpenSpec.upto mailboxFlagsCommuteSpec)

end Rows
end Go.Proofs.YtlaglkcgmhgacaaDoor
