/-
  NARROWER THAN 'FOR EVERY INPUT', by the rows' own cells (each row's printed sentence says how): OfflineMatchesSpec: laid · OfflineClientsCommute: laid · OfflineRemovesOnlyWhatWasSeen: laid · OfflineReportsAll: laid.
  DERIVED. THE GIVEN ROWS OF THIS SEAT. 4 by the template 'for every input the law returns true; each argument reads behind the call as it read before'; 0 by the template 'total and deterministic' (their statements: YtbnmddippoiabaaDoorTotals.lean).
  GIVEN WITH THE SEED: the statements are not yours to turn. If you find one false, say at which input.
  Laid BY PROGRAM, IN A SANDBOX (cutbox-rows.mjs): the forced cells as the released guide's own fill.sh prints them over the translation 57c3742422e4edf2… (all of the seat's roots in one cut). By AI agents, Wed Nov 11 2026. No macro, syntax, notation, axiom, sorry.
-/
import Derived.Test.YtbnmddippoiabaaDoorChecked
import GoSem.PinnedTables
import GoSem.Claim
import GoSem.ClaimJoined
import GoSem.ClaimMapViews
import Derived.JoinedTies
import Derived.KernelRfl
namespace Go.Proofs.YtbnmddippoiabaaDoor
/- THE CELL 'sum', in the pinned program and in every row, IS THE sha256 OF THE DUMP (.gsa) THAT YtbnmddippoiabaaDoorProg.lean LOADS. Nothing in Lean hashes anything: it is a label: what it is worth is what the hold of that sum in a sandbox is worth. -/
noncomputable def Tryd.pinned : Pinned := { name := "ytbnmddippoiabaadoor", sum := "57c3742422e4edf25d438c6b56da653a3bd64fb689f86ab8042f6be2539639bc", checked := Tryd.checked }
namespace Rows
def none {H : Type} : Left H := { results := [], args := [] }

/- WHAT THE LISTED PACKAGE-LEVEL VARIABLES READ AS WHEN THE CALL BEGINS. Each datum BY PROGRAM (the guide's laid-datum.mjs) off the statement by which the dump's own 'gosem.cut.vars' lays the variable. In a bare row this is a premise. The card (YtbnmddippoiabaaDoorCards.lean) ties it to the program's text. -/
def laid_unicode_utf8_acceptRanges {H : Type} : DataW H := .agg [.agg [.lit (.int .u8 128), .lit (.int .u8 191)], .agg [.lit (.int .u8 160), .lit (.int .u8 191)], .agg [.lit (.int .u8 128), .lit (.int .u8 159)], .agg [.lit (.int .u8 144), .lit (.int .u8 191)], .agg [.lit (.int .u8 128), .lit (.int .u8 143)], .agg [.lit (.int .u8 0), .lit (.int .u8 0)], .agg [.lit (.int .u8 0), .lit (.int .u8 0)], .agg [.lit (.int .u8 0), .lit (.int .u8 0)], .agg [.lit (.int .u8 0), .lit (.int .u8 0)], .agg [.lit (.int .u8 0), .lit (.int .u8 0)], .agg [.lit (.int .u8 0), .lit (.int .u8 0)], .agg [.lit (.int .u8 0), .lit (.int .u8 0)], .agg [.lit (.int .u8 0), .lit (.int .u8 0)], .agg [.lit (.int .u8 0), .lit (.int .u8 0)], .agg [.lit (.int .u8 0), .lit (.int .u8 0)], .agg [.lit (.int .u8 0), .lit (.int .u8 0)]]
/-- One of Go's own tables, pinned by name: the form's constant. -/
def laid_unicode_utf8_first : DataW Unit := Go.Pinned.utf8First

/-- 'posthouselaw8.OfflineMatchesSpec': WHATEVER THE INPUT: true; the input reads as it did. -/
def offlineMatchesSpecSpec : ChangeSpec := { name := "offlineMatchesSpec", fn := fun _ => fun
  | [d1, d2, d3] => { results := [.lit (.bool true)], args := [d1, d2, d3] }
  | _ => none }
def offlineMatchesSpecRow : OpenClaim := { program := "ytbnmddippoiabaadoor", sum := "57c3742422e4edf25d438c6b56da653a3bd64fb689f86ab8042f6be2539639bc", func := "posthouse/posthouselaw8.OfflineMatchesSpec", spec := "offlineMatchesSpec", inPlace := ["internal/bytealg.IndexByteString", "internal/bytealg.IndexString"], unfollowed := true, recurses := true, named := ["unicode/utf8.first", "unicode/utf8.acceptRanges", "internal/bytealg.MaxLen"], apart := false, laid := [("unicode/utf8.acceptRanges", laid_unicode_utf8_acceptRanges), ("unicode/utf8.first", laid_unicode_utf8_first)] }
def OfflineMatchesSpecSaid : Prop := offlineMatchesSpecRow.holds Tryd.pinned (OpenSpec.ofChange offlineMatchesSpecSpec)

/-- ITS FALSE NEIGHBOUR: 'it returns false'. Refute it at one input. -/
def offlineMatchesSpecWrong : ChangeSpec := { name := "offlineMatchesSpec", fn := fun _ => fun
  | [d1, d2, d3] => { results := [.lit (.bool false)], args := [d1, d2, d3] }
  | _ => none }
def OfflineMatchesSpecWrongFalsely : Prop := offlineMatchesSpecRow.holds Tryd.pinned (OpenSpec.ofChange offlineMatchesSpecWrong)

/-- 'posthouselaw8.OfflineClientsCommute': WHATEVER THE INPUT: true; the input reads as it did. -/
def offlineClientsCommuteSpec : ChangeSpec := { name := "offlineClientsCommute", fn := fun _ => fun
  | [d1, d2, d3, d4] => { results := [.lit (.bool true)], args := [d1, d2, d3, d4] }
  | _ => none }
def offlineClientsCommuteRow : OpenClaim := { program := "ytbnmddippoiabaadoor", sum := "57c3742422e4edf25d438c6b56da653a3bd64fb689f86ab8042f6be2539639bc", func := "posthouse/posthouselaw8.OfflineClientsCommute", spec := "offlineClientsCommute", inPlace := ["internal/bytealg.IndexByteString", "internal/bytealg.IndexString"], unfollowed := true, recurses := true, named := ["unicode/utf8.first", "unicode/utf8.acceptRanges", "internal/bytealg.MaxLen"], apart := false, laid := [("unicode/utf8.acceptRanges", laid_unicode_utf8_acceptRanges), ("unicode/utf8.first", laid_unicode_utf8_first)] }
def OfflineClientsCommuteSaid : Prop := offlineClientsCommuteRow.holds Tryd.pinned (OpenSpec.ofChange offlineClientsCommuteSpec)

/-- ITS FALSE NEIGHBOUR: 'it returns false'. Refute it at one input. -/
def offlineClientsCommuteWrong : ChangeSpec := { name := "offlineClientsCommute", fn := fun _ => fun
  | [d1, d2, d3, d4] => { results := [.lit (.bool false)], args := [d1, d2, d3, d4] }
  | _ => none }
def OfflineClientsCommuteWrongFalsely : Prop := offlineClientsCommuteRow.holds Tryd.pinned (OpenSpec.ofChange offlineClientsCommuteWrong)

/-- 'posthouselaw8.OfflineRemovesOnlyWhatWasSeen': WHATEVER THE INPUT: true; the input reads as it did. -/
def offlineRemovesOnlyWhatWasSeenSpec : ChangeSpec := { name := "offlineRemovesOnlyWhatWasSeen", fn := fun _ => fun
  | [d1, d2, d3] => { results := [.lit (.bool true)], args := [d1, d2, d3] }
  | _ => none }
def offlineRemovesOnlyWhatWasSeenRow : OpenClaim := { program := "ytbnmddippoiabaadoor", sum := "57c3742422e4edf25d438c6b56da653a3bd64fb689f86ab8042f6be2539639bc", func := "posthouse/posthouselaw8.OfflineRemovesOnlyWhatWasSeen", spec := "offlineRemovesOnlyWhatWasSeen", inPlace := ["internal/bytealg.IndexByteString", "internal/bytealg.IndexString"], unfollowed := true, recurses := true, named := ["unicode/utf8.first", "unicode/utf8.acceptRanges", "internal/bytealg.MaxLen"], apart := false, laid := [("unicode/utf8.acceptRanges", laid_unicode_utf8_acceptRanges), ("unicode/utf8.first", laid_unicode_utf8_first)] }
def OfflineRemovesOnlyWhatWasSeenSaid : Prop := offlineRemovesOnlyWhatWasSeenRow.holds Tryd.pinned (OpenSpec.ofChange offlineRemovesOnlyWhatWasSeenSpec)

/-- ITS FALSE NEIGHBOUR: 'it returns false'. Refute it at one input. -/
def offlineRemovesOnlyWhatWasSeenWrong : ChangeSpec := { name := "offlineRemovesOnlyWhatWasSeen", fn := fun _ => fun
  | [d1, d2, d3] => { results := [.lit (.bool false)], args := [d1, d2, d3] }
  | _ => none }
def OfflineRemovesOnlyWhatWasSeenWrongFalsely : Prop := offlineRemovesOnlyWhatWasSeenRow.holds Tryd.pinned (OpenSpec.ofChange offlineRemovesOnlyWhatWasSeenWrong)

/-- 'posthouselaw8.OfflineReportsAll': WHATEVER THE INPUT: true; the input reads as it did. -/
def offlineReportsAllSpec : ChangeSpec := { name := "offlineReportsAll", fn := fun _ => fun
  | [d1, d2] => { results := [.lit (.bool true)], args := [d1, d2] }
  | _ => none }
def offlineReportsAllRow : OpenClaim := { program := "ytbnmddippoiabaadoor", sum := "57c3742422e4edf25d438c6b56da653a3bd64fb689f86ab8042f6be2539639bc", func := "posthouse/posthouselaw8.OfflineReportsAll", spec := "offlineReportsAll", inPlace := ["internal/bytealg.IndexByteString", "internal/bytealg.IndexString", "slices.overlaps[posthouse/api.Seen]"], unfollowed := true, recurses := true, named := ["unicode/utf8.first", "unicode/utf8.acceptRanges", "internal/bytealg.MaxLen"], apart := false, laid := [("unicode/utf8.acceptRanges", laid_unicode_utf8_acceptRanges), ("unicode/utf8.first", laid_unicode_utf8_first)] }
def OfflineReportsAllSaid : Prop := offlineReportsAllRow.holds Tryd.pinned (OpenSpec.ofChange offlineReportsAllSpec)

/-- ITS FALSE NEIGHBOUR: 'it returns false'. Refute it at one input. -/
def offlineReportsAllWrong : ChangeSpec := { name := "offlineReportsAll", fn := fun _ => fun
  | [d1, d2] => { results := [.lit (.bool false)], args := [d1, d2] }
  | _ => none }
def OfflineReportsAllWrongFalsely : Prop := offlineReportsAllRow.holds Tryd.pinned (OpenSpec.ofChange offlineReportsAllWrong)

/- THE SECOND FORM. 'bulk': how many values and letters a reading holds, each counted each time it is reached (what is shared counts as often as it is met; a slice's spare places count too). A statement '..UptoSaid' is the law's where the arguments, and the package variables that the reading takes, are together of bulk at most 1048576: NARROWER than '..Said'. Prove '..Said' where nothing that the law and all that it calls make is longer than what came in: it says more and counts as full. Else prove '..UptoSaid'. A law counts once. -/
mutual
def uptoBulk {H : Type} : DataW H → Nat
  | .lit (.string bytes) => bytes.length + 1
  | .lit _ => 1
  | .nil => 1
  | .ptr d => uptoBulk d + 1
  | .slice elems spare => uptoBulkAll elems + uptoBulkAll spare + 1
  | .agg parts => uptoBulkAll parts + 1
  | .iface _ d => uptoBulk d + 1
  | .map entries => uptoBulkEntries entries + 1
  | .held _ => 1
def uptoBulkAll {H : Type} : List (DataW H) → Nat
  | [] => 0
  | d :: r => uptoBulk d + uptoBulkAll r
def uptoBulkEntries {H : Type} : List (Lit × DataW H) → Nat
  | [] => 0
  | x :: r => uptoBulkEntry x + uptoBulkEntries r
def uptoBulkEntry {H : Type} : Lit × DataW H → Nat
  | (.string bytes, d) => bytes.length + uptoBulk d + 1
  | (_, d) => uptoBulk d + 1
 end
def uptoSmall : (H : Type) → List (DataW H) → Bool := fun _ ds => decide (uptoBulkAll ds ≤ 1048576)
def OpenSpec.upto (s : _root_.Go.ChangeSpec) : _root_.Go.OpenSpec := { _root_.Go.OpenSpec.ofChange s with cond := some uptoSmall }

/-- 'posthouselaw8.OfflineMatchesSpec', WHERE WHAT IT READS IS OF BULK AT MOST 1048576: true; the input reads as it did. -/
def offlineMatchesSpecUptoRow : OpenClaim := { program := "ytbnmddippoiabaadoor", sum := "57c3742422e4edf25d438c6b56da653a3bd64fb689f86ab8042f6be2539639bc", func := "posthouse/posthouselaw8.OfflineMatchesSpec", spec := "offlineMatchesSpec", inPlace := ["internal/bytealg.IndexByteString", "internal/bytealg.IndexString"], unfollowed := true, recurses := true, named := ["unicode/utf8.first", "unicode/utf8.acceptRanges", "internal/bytealg.MaxLen"], apart := false, laid := [("unicode/utf8.acceptRanges", laid_unicode_utf8_acceptRanges), ("unicode/utf8.first", laid_unicode_utf8_first)], narrowed := true }
def OfflineMatchesSpecUptoSaid : Prop := offlineMatchesSpecUptoRow.holds Tryd.pinned (OpenSpec.upto offlineMatchesSpecSpec)

/-- 'posthouselaw8.OfflineClientsCommute', WHERE WHAT IT READS IS OF BULK AT MOST 1048576: true; the input reads as it did. -/
def offlineClientsCommuteUptoRow : OpenClaim := { program := "ytbnmddippoiabaadoor", sum := "57c3742422e4edf25d438c6b56da653a3bd64fb689f86ab8042f6be2539639bc", func := "posthouse/posthouselaw8.OfflineClientsCommute", spec := "offlineClientsCommute", inPlace := ["internal/bytealg.IndexByteString", "internal/bytealg.IndexString"], unfollowed := true, recurses := true, named := ["unicode/utf8.first", "unicode/utf8.acceptRanges", "internal/bytealg.MaxLen"], apart := false, laid := [("unicode/utf8.acceptRanges", laid_unicode_utf8_acceptRanges), ("unicode/utf8.first", laid_unicode_utf8_first)], narrowed := true }
def OfflineClientsCommuteUptoSaid : Prop := offlineClientsCommuteUptoRow.holds Tryd.pinned (OpenSpec.upto offlineClientsCommuteSpec)

/-- 'posthouselaw8.OfflineRemovesOnlyWhatWasSeen', WHERE WHAT IT READS IS OF BULK AT MOST 1048576: true; the input reads as it did. -/
def offlineRemovesOnlyWhatWasSeenUptoRow : OpenClaim := { program := "ytbnmddippoiabaadoor", sum := "57c3742422e4edf25d438c6b56da653a3bd64fb689f86ab8042f6be2539639bc", func := "posthouse/posthouselaw8.OfflineRemovesOnlyWhatWasSeen", spec := "offlineRemovesOnlyWhatWasSeen", inPlace := ["internal/bytealg.IndexByteString", "internal/bytealg.IndexString"], unfollowed := true, recurses := true, named := ["unicode/utf8.first", "unicode/utf8.acceptRanges", "internal/bytealg.MaxLen"], apart := false, laid := [("unicode/utf8.acceptRanges", laid_unicode_utf8_acceptRanges), ("unicode/utf8.first", laid_unicode_utf8_first)], narrowed := true }
def OfflineRemovesOnlyWhatWasSeenUptoSaid : Prop := offlineRemovesOnlyWhatWasSeenUptoRow.holds Tryd.pinned (OpenSpec.upto offlineRemovesOnlyWhatWasSeenSpec)

/-- 'posthouselaw8.OfflineReportsAll', WHERE WHAT IT READS IS OF BULK AT MOST 1048576: true; the input reads as it did. -/
def offlineReportsAllUptoRow : OpenClaim := { program := "ytbnmddippoiabaadoor", sum := "57c3742422e4edf25d438c6b56da653a3bd64fb689f86ab8042f6be2539639bc", func := "posthouse/posthouselaw8.OfflineReportsAll", spec := "offlineReportsAll", inPlace := ["internal/bytealg.IndexByteString", "internal/bytealg.IndexString", "slices.overlaps[posthouse/api.Seen]"], unfollowed := true, recurses := true, named := ["unicode/utf8.first", "unicode/utf8.acceptRanges", "internal/bytealg.MaxLen"], apart := false, laid := [("unicode/utf8.acceptRanges", laid_unicode_utf8_acceptRanges), ("unicode/utf8.first", laid_unicode_utf8_first)], narrowed := true }
def OfflineReportsAllUptoSaid : Prop := offlineReportsAllUptoRow.holds Tryd.pinned (OpenSpec.upto offlineReportsAllSpec)

end Rows
end Go.Proofs.YtbnmddippoiabaaDoor
