/-
  NARROWER THAN 'FOR EVERY INPUT', by the rows' own cells (each row's printed sentence says how): MergeAsks: laid · MergeTells: laid · HeadDeletes: laid · HeadHistory: laid · HeadCopies: laid · HeadDoes: laid · MergeHistory: laid · MergeTwice: laid · MergeLasts: laid.
  DERIVED. THE GIVEN ROWS OF THIS SEAT. 9 by the template 'for every input the law returns true; each argument reads behind the call as it read before'; 0 by the template 'total and deterministic' (their statements: YtidoidoelgfnaaaGreatDoorTotals.lean).
  GIVEN WITH THE SEED: the statements are not yours to turn. If you find one false, say at which input.
  Laid BY PROGRAM, IN A SANDBOX (cutbox-rows.mjs): the forced cells as the released guide's own fill.sh prints them over the translation decb698da3e66f2d… (all of the seat's roots in one cut). By AI agents, Wed Nov 11 2026. No macro, syntax, notation, axiom, sorry.
-/
import Derived.Test.YtidoidoelgfnaaaGreatDoorChecked
import GoSem.PinnedTables
import GoSem.Claim
import GoSem.ClaimJoined
import GoSem.ClaimMapViews
import Derived.JoinedTies
import Derived.KernelRfl
namespace Go.Proofs.YtidoidoelgfnaaaGreatDoor
/- THE CELL 'sum', in the pinned program and in every row, IS THE sha256 OF THE DUMP (.gsa) THAT YtidoidoelgfnaaaGreatDoorProg.lean LOADS. Nothing in Lean hashes anything: it is a label: what it is worth is what the hold of that sum in a sandbox is worth. -/
noncomputable def Tryz.pinned : Pinned := { name := "ytidoidoelgfnaaagreatdoor", sum := "decb698da3e66f2dd85aee4930e8c38179c847b3d8dc50306b39bc4f33fbce06", checked := Tryz.checked }
namespace Rows
def none {H : Type} : Left H := { results := [], args := [] }

/- WHAT THE LISTED PACKAGE-LEVEL VARIABLES READ AS WHEN THE CALL BEGINS. Each datum BY PROGRAM (the guide's laid-datum.mjs) off the statement by which the dump's own 'gosem.cut.vars' lays the variable. In a bare row this is a premise. The card (YtidoidoelgfnaaaGreatDoorCards.lean) ties it to the program's text. -/
def laid_unicode_utf8_acceptRanges {H : Type} : DataW H := .agg [.agg [.lit (.int .u8 128), .lit (.int .u8 191)], .agg [.lit (.int .u8 160), .lit (.int .u8 191)], .agg [.lit (.int .u8 128), .lit (.int .u8 159)], .agg [.lit (.int .u8 144), .lit (.int .u8 191)], .agg [.lit (.int .u8 128), .lit (.int .u8 143)], .agg [.lit (.int .u8 0), .lit (.int .u8 0)], .agg [.lit (.int .u8 0), .lit (.int .u8 0)], .agg [.lit (.int .u8 0), .lit (.int .u8 0)], .agg [.lit (.int .u8 0), .lit (.int .u8 0)], .agg [.lit (.int .u8 0), .lit (.int .u8 0)], .agg [.lit (.int .u8 0), .lit (.int .u8 0)], .agg [.lit (.int .u8 0), .lit (.int .u8 0)], .agg [.lit (.int .u8 0), .lit (.int .u8 0)], .agg [.lit (.int .u8 0), .lit (.int .u8 0)], .agg [.lit (.int .u8 0), .lit (.int .u8 0)], .agg [.lit (.int .u8 0), .lit (.int .u8 0)]]
/-- One of Go's own tables, pinned by name: the form's constant. -/
def laid_unicode_utf8_first : DataW Unit := Go.Pinned.utf8First

/-- 'barographlaw16.MergeAsks': WHATEVER THE INPUT: true; the input reads as it did. -/
def mergeAsksSpec : ChangeSpec := { name := "mergeAsks", fn := fun _ => fun
  | [d1, d2, d3] => { results := [.lit (.bool true)], args := [d1, d2, d3] }
  | _ => none }
def mergeAsksRow : OpenClaim := { program := "ytidoidoelgfnaaagreatdoor", sum := "decb698da3e66f2dd85aee4930e8c38179c847b3d8dc50306b39bc4f33fbce06", func := "barograph/barographlaw16.MergeAsks", spec := "mergeAsks", inPlace := ["internal/bytealg.IndexByteString", "internal/bytealg.IndexString", "internal/abi.NoEscape", "internal/bytealg.abigen_runtime_cmpstring"], unfollowed := true, recurses := true, named := ["unicode/utf8.first", "unicode/utf8.acceptRanges", "internal/bytealg.MaxLen"], apart := false, laid := [("unicode/utf8.acceptRanges", laid_unicode_utf8_acceptRanges), ("unicode/utf8.first", laid_unicode_utf8_first)] }
def MergeAsksSaid : Prop := mergeAsksRow.holds Tryz.pinned (OpenSpec.ofChange mergeAsksSpec)

/-- ITS FALSE NEIGHBOUR: 'it returns false'. Refute it at one input. -/
def mergeAsksWrong : ChangeSpec := { name := "mergeAsks", fn := fun _ => fun
  | [d1, d2, d3] => { results := [.lit (.bool false)], args := [d1, d2, d3] }
  | _ => none }
def MergeAsksWrongFalsely : Prop := mergeAsksRow.holds Tryz.pinned (OpenSpec.ofChange mergeAsksWrong)

/-- 'barographlaw16.MergeTells': WHATEVER THE INPUT: true; the input reads as it did. -/
def mergeTellsSpec : ChangeSpec := { name := "mergeTells", fn := fun _ => fun
  | [d1, d2] => { results := [.lit (.bool true)], args := [d1, d2] }
  | _ => none }
def mergeTellsRow : OpenClaim := { program := "ytidoidoelgfnaaagreatdoor", sum := "decb698da3e66f2dd85aee4930e8c38179c847b3d8dc50306b39bc4f33fbce06", func := "barograph/barographlaw16.MergeTells", spec := "mergeTells", inPlace := ["internal/bytealg.IndexByteString", "internal/bytealg.IndexString", "internal/bytealg.abigen_runtime_cmpstring", "internal/abi.NoEscape"], unfollowed := true, recurses := true, named := ["unicode/utf8.first", "unicode/utf8.acceptRanges", "internal/bytealg.MaxLen"], apart := false, laid := [("unicode/utf8.acceptRanges", laid_unicode_utf8_acceptRanges), ("unicode/utf8.first", laid_unicode_utf8_first)] }
def MergeTellsSaid : Prop := mergeTellsRow.holds Tryz.pinned (OpenSpec.ofChange mergeTellsSpec)

/-- ITS FALSE NEIGHBOUR: 'it returns false'. Refute it at one input. -/
def mergeTellsWrong : ChangeSpec := { name := "mergeTells", fn := fun _ => fun
  | [d1, d2] => { results := [.lit (.bool false)], args := [d1, d2] }
  | _ => none }
def MergeTellsWrongFalsely : Prop := mergeTellsRow.holds Tryz.pinned (OpenSpec.ofChange mergeTellsWrong)

/-- 'barographlaw13.HeadDeletes': WHATEVER THE INPUT: true; the input reads as it did. -/
def headDeletesSpec : ChangeSpec := { name := "headDeletes", fn := fun _ => fun
  | [d1, d2, d3] => { results := [.lit (.bool true)], args := [d1, d2, d3] }
  | _ => none }
def headDeletesRow : OpenClaim := { program := "ytidoidoelgfnaaagreatdoor", sum := "decb698da3e66f2dd85aee4930e8c38179c847b3d8dc50306b39bc4f33fbce06", func := "barograph/barographlaw13.HeadDeletes", spec := "headDeletes", inPlace := ["internal/bytealg.IndexByteString", "internal/bytealg.IndexString", "internal/abi.NoEscape", "internal/bytealg.abigen_runtime_cmpstring"], unfollowed := true, recurses := true, named := ["unicode/utf8.first", "unicode/utf8.acceptRanges", "internal/bytealg.MaxLen"], apart := false, laid := [("unicode/utf8.acceptRanges", laid_unicode_utf8_acceptRanges), ("unicode/utf8.first", laid_unicode_utf8_first)] }
def HeadDeletesSaid : Prop := headDeletesRow.holds Tryz.pinned (OpenSpec.ofChange headDeletesSpec)

/-- ITS FALSE NEIGHBOUR: 'it returns false'. Refute it at one input. -/
def headDeletesWrong : ChangeSpec := { name := "headDeletes", fn := fun _ => fun
  | [d1, d2, d3] => { results := [.lit (.bool false)], args := [d1, d2, d3] }
  | _ => none }
def HeadDeletesWrongFalsely : Prop := headDeletesRow.holds Tryz.pinned (OpenSpec.ofChange headDeletesWrong)

/-- 'barographlaw13.HeadHistory': WHATEVER THE INPUT: true; the input reads as it did. -/
def headHistorySpec : ChangeSpec := { name := "headHistory", fn := fun _ => fun
  | [d1, d2] => { results := [.lit (.bool true)], args := [d1, d2] }
  | _ => none }
def headHistoryRow : OpenClaim := { program := "ytidoidoelgfnaaagreatdoor", sum := "decb698da3e66f2dd85aee4930e8c38179c847b3d8dc50306b39bc4f33fbce06", func := "barograph/barographlaw13.HeadHistory", spec := "headHistory", inPlace := ["internal/bytealg.IndexByteString", "internal/bytealg.IndexString", "internal/abi.NoEscape", "internal/bytealg.abigen_runtime_cmpstring"], unfollowed := true, recurses := true, named := ["unicode/utf8.first", "unicode/utf8.acceptRanges", "internal/bytealg.MaxLen"], apart := false, laid := [("unicode/utf8.acceptRanges", laid_unicode_utf8_acceptRanges), ("unicode/utf8.first", laid_unicode_utf8_first)] }
def HeadHistorySaid : Prop := headHistoryRow.holds Tryz.pinned (OpenSpec.ofChange headHistorySpec)

/-- ITS FALSE NEIGHBOUR: 'it returns false'. Refute it at one input. -/
def headHistoryWrong : ChangeSpec := { name := "headHistory", fn := fun _ => fun
  | [d1, d2] => { results := [.lit (.bool false)], args := [d1, d2] }
  | _ => none }
def HeadHistoryWrongFalsely : Prop := headHistoryRow.holds Tryz.pinned (OpenSpec.ofChange headHistoryWrong)

/-- 'barographlaw13.HeadCopies': WHATEVER THE INPUT: true; the input reads as it did. -/
def headCopiesSpec : ChangeSpec := { name := "headCopies", fn := fun _ => fun
  | [d1, d2, d3] => { results := [.lit (.bool true)], args := [d1, d2, d3] }
  | _ => none }
def headCopiesRow : OpenClaim := { program := "ytidoidoelgfnaaagreatdoor", sum := "decb698da3e66f2dd85aee4930e8c38179c847b3d8dc50306b39bc4f33fbce06", func := "barograph/barographlaw13.HeadCopies", spec := "headCopies", inPlace := ["internal/bytealg.IndexByteString", "internal/bytealg.IndexString", "internal/abi.NoEscape", "internal/bytealg.abigen_runtime_cmpstring"], unfollowed := true, recurses := true, named := ["unicode/utf8.first", "unicode/utf8.acceptRanges", "internal/bytealg.MaxLen"], apart := false, laid := [("unicode/utf8.acceptRanges", laid_unicode_utf8_acceptRanges), ("unicode/utf8.first", laid_unicode_utf8_first)] }
def HeadCopiesSaid : Prop := headCopiesRow.holds Tryz.pinned (OpenSpec.ofChange headCopiesSpec)

/-- ITS FALSE NEIGHBOUR: 'it returns false'. Refute it at one input. -/
def headCopiesWrong : ChangeSpec := { name := "headCopies", fn := fun _ => fun
  | [d1, d2, d3] => { results := [.lit (.bool false)], args := [d1, d2, d3] }
  | _ => none }
def HeadCopiesWrongFalsely : Prop := headCopiesRow.holds Tryz.pinned (OpenSpec.ofChange headCopiesWrong)

/-- 'barographlaw13.HeadDoes': WHATEVER THE INPUT: true; the input reads as it did. -/
def headDoesSpec : ChangeSpec := { name := "headDoes", fn := fun _ => fun
  | [d1, d2] => { results := [.lit (.bool true)], args := [d1, d2] }
  | _ => none }
def headDoesRow : OpenClaim := { program := "ytidoidoelgfnaaagreatdoor", sum := "decb698da3e66f2dd85aee4930e8c38179c847b3d8dc50306b39bc4f33fbce06", func := "barograph/barographlaw13.HeadDoes", spec := "headDoes", inPlace := ["internal/bytealg.IndexByteString", "internal/bytealg.IndexString", "internal/abi.NoEscape", "internal/bytealg.abigen_runtime_cmpstring"], unfollowed := true, recurses := true, named := ["unicode/utf8.first", "unicode/utf8.acceptRanges", "internal/bytealg.MaxLen"], apart := false, laid := [("unicode/utf8.acceptRanges", laid_unicode_utf8_acceptRanges), ("unicode/utf8.first", laid_unicode_utf8_first)] }
def HeadDoesSaid : Prop := headDoesRow.holds Tryz.pinned (OpenSpec.ofChange headDoesSpec)

/-- ITS FALSE NEIGHBOUR: 'it returns false'. Refute it at one input. -/
def headDoesWrong : ChangeSpec := { name := "headDoes", fn := fun _ => fun
  | [d1, d2] => { results := [.lit (.bool false)], args := [d1, d2] }
  | _ => none }
def HeadDoesWrongFalsely : Prop := headDoesRow.holds Tryz.pinned (OpenSpec.ofChange headDoesWrong)

/-- 'barographlaw16.MergeHistory': WHATEVER THE INPUT: true; the input reads as it did. -/
def mergeHistorySpec : ChangeSpec := { name := "mergeHistory", fn := fun _ => fun
  | [d1, d2, d3, d4] => { results := [.lit (.bool true)], args := [d1, d2, d3, d4] }
  | _ => none }
def mergeHistoryRow : OpenClaim := { program := "ytidoidoelgfnaaagreatdoor", sum := "decb698da3e66f2dd85aee4930e8c38179c847b3d8dc50306b39bc4f33fbce06", func := "barograph/barographlaw16.MergeHistory", spec := "mergeHistory", inPlace := ["internal/bytealg.IndexByteString", "internal/bytealg.IndexString", "internal/abi.NoEscape", "internal/bytealg.abigen_runtime_cmpstring"], unfollowed := true, recurses := true, named := ["unicode/utf8.first", "unicode/utf8.acceptRanges", "internal/bytealg.MaxLen"], apart := false, laid := [("unicode/utf8.acceptRanges", laid_unicode_utf8_acceptRanges), ("unicode/utf8.first", laid_unicode_utf8_first)] }
def MergeHistorySaid : Prop := mergeHistoryRow.holds Tryz.pinned (OpenSpec.ofChange mergeHistorySpec)

/-- ITS FALSE NEIGHBOUR: 'it returns false'. Refute it at one input. -/
def mergeHistoryWrong : ChangeSpec := { name := "mergeHistory", fn := fun _ => fun
  | [d1, d2, d3, d4] => { results := [.lit (.bool false)], args := [d1, d2, d3, d4] }
  | _ => none }
def MergeHistoryWrongFalsely : Prop := mergeHistoryRow.holds Tryz.pinned (OpenSpec.ofChange mergeHistoryWrong)

/-- 'barographlaw16.MergeTwice': WHATEVER THE INPUT: true; the input reads as it did. -/
def mergeTwiceSpec : ChangeSpec := { name := "mergeTwice", fn := fun _ => fun
  | [d1, d2, d3, d4] => { results := [.lit (.bool true)], args := [d1, d2, d3, d4] }
  | _ => none }
def mergeTwiceRow : OpenClaim := { program := "ytidoidoelgfnaaagreatdoor", sum := "decb698da3e66f2dd85aee4930e8c38179c847b3d8dc50306b39bc4f33fbce06", func := "barograph/barographlaw16.MergeTwice", spec := "mergeTwice", inPlace := ["internal/bytealg.IndexByteString", "internal/bytealg.IndexString", "internal/abi.NoEscape", "internal/bytealg.abigen_runtime_cmpstring"], unfollowed := true, recurses := true, named := ["unicode/utf8.first", "unicode/utf8.acceptRanges", "internal/bytealg.MaxLen"], apart := false, laid := [("unicode/utf8.acceptRanges", laid_unicode_utf8_acceptRanges), ("unicode/utf8.first", laid_unicode_utf8_first)] }
def MergeTwiceSaid : Prop := mergeTwiceRow.holds Tryz.pinned (OpenSpec.ofChange mergeTwiceSpec)

/-- ITS FALSE NEIGHBOUR: 'it returns false'. Refute it at one input. -/
def mergeTwiceWrong : ChangeSpec := { name := "mergeTwice", fn := fun _ => fun
  | [d1, d2, d3, d4] => { results := [.lit (.bool false)], args := [d1, d2, d3, d4] }
  | _ => none }
def MergeTwiceWrongFalsely : Prop := mergeTwiceRow.holds Tryz.pinned (OpenSpec.ofChange mergeTwiceWrong)

/-- 'barographlaw16.MergeLasts': WHATEVER THE INPUT: true; the input reads as it did. -/
def mergeLastsSpec : ChangeSpec := { name := "mergeLasts", fn := fun _ => fun
  | [d1, d2, d3] => { results := [.lit (.bool true)], args := [d1, d2, d3] }
  | _ => none }
def mergeLastsRow : OpenClaim := { program := "ytidoidoelgfnaaagreatdoor", sum := "decb698da3e66f2dd85aee4930e8c38179c847b3d8dc50306b39bc4f33fbce06", func := "barograph/barographlaw16.MergeLasts", spec := "mergeLasts", inPlace := ["internal/bytealg.IndexByteString", "internal/bytealg.IndexString", "internal/abi.NoEscape", "internal/bytealg.abigen_runtime_cmpstring"], unfollowed := true, recurses := true, named := ["unicode/utf8.first", "unicode/utf8.acceptRanges", "internal/bytealg.MaxLen"], apart := false, laid := [("unicode/utf8.acceptRanges", laid_unicode_utf8_acceptRanges), ("unicode/utf8.first", laid_unicode_utf8_first)] }
def MergeLastsSaid : Prop := mergeLastsRow.holds Tryz.pinned (OpenSpec.ofChange mergeLastsSpec)

/-- ITS FALSE NEIGHBOUR: 'it returns false'. Refute it at one input. -/
def mergeLastsWrong : ChangeSpec := { name := "mergeLasts", fn := fun _ => fun
  | [d1, d2, d3] => { results := [.lit (.bool false)], args := [d1, d2, d3] }
  | _ => none }
def MergeLastsWrongFalsely : Prop := mergeLastsRow.holds Tryz.pinned (OpenSpec.ofChange mergeLastsWrong)

/- THE SECOND FORM. 'bulk': how many values and letters a reading holds, each counted each time it is reached (what is shared counts as often as it is met; a slice's spare places count too). A statement '..UptoSaid' is the law's where the arguments, and the package variables that the reading takes, are together of bulk at most 1048576: NARROWER than '..Said'. Prove '..Said' where nothing that the law and all that it calls make is longer than what came in: it says more and counts as full. Else prove '..UptoSaid'. A law counts once. -/
mutual
def uptoBulk {H : Type} : DataW H → Nat
  | .lit (.string bytes) => bytes.length + 1
  | .lit _ => 1
  | .nil => 1
  | .ptr d => uptoBulk d + 1
  | .slice elems spare => uptoBulkAll elems + uptoBulkAll spare + 1
  | .agg parts => uptoBulkAll parts + 1
  | .iface _ d => uptoBulk d + 1
  | .map entries => uptoBulkEntries entries + 1
  | .held _ => 1
def uptoBulkAll {H : Type} : List (DataW H) → Nat
  | [] => 0
  | d :: r => uptoBulk d + uptoBulkAll r
def uptoBulkEntries {H : Type} : List (Lit × DataW H) → Nat
  | [] => 0
  | x :: r => uptoBulkEntry x + uptoBulkEntries r
def uptoBulkEntry {H : Type} : Lit × DataW H → Nat
  | (.string bytes, d) => bytes.length + uptoBulk d + 1
  | (_, d) => uptoBulk d + 1
 end
def uptoSmall : (H : Type) → List (DataW H) → Bool := fun _ ds => decide (uptoBulkAll ds ≤ 1048576)
def OpenSpec.upto (s : _root_.Go.ChangeSpec) : _root_.Go.OpenSpec := { _root_.Go.OpenSpec.ofChange s with cond := some uptoSmall }

/-- 'barographlaw16.MergeAsks', WHERE WHAT IT READS IS OF BULK AT MOST 1048576: true; the input reads as it did. -/
def mergeAsksUptoRow : OpenClaim := { program := "ytidoidoelgfnaaagreatdoor", sum := "decb698da3e66f2dd85aee4930e8c38179c847b3d8dc50306b39bc4f33fbce06", func := "barograph/barographlaw16.MergeAsks", spec := "mergeAsks", inPlace := ["internal/bytealg.IndexByteString", "internal/bytealg.IndexString", "internal/abi.NoEscape", "internal/bytealg.abigen_runtime_cmpstring"], unfollowed := true, recurses := true, named := ["unicode/utf8.first", "unicode/utf8.acceptRanges", "internal/bytealg.MaxLen"], apart := false, laid := [("unicode/utf8.acceptRanges", laid_unicode_utf8_acceptRanges), ("unicode/utf8.first", laid_unicode_utf8_first)], narrowed := true }
def MergeAsksUptoSaid : Prop := mergeAsksUptoRow.holds Tryz.pinned (OpenSpec.upto mergeAsksSpec)

/-- 'barographlaw16.MergeTells', WHERE WHAT IT READS IS OF BULK AT MOST 1048576: true; the input reads as it did. -/
def mergeTellsUptoRow : OpenClaim := { program := "ytidoidoelgfnaaagreatdoor", sum := "decb698da3e66f2dd85aee4930e8c38179c847b3d8dc50306b39bc4f33fbce06", func := "barograph/barographlaw16.MergeTells", spec := "mergeTells", inPlace := ["internal/bytealg.IndexByteString", "internal/bytealg.IndexString", "internal/bytealg.abigen_runtime_cmpstring", "internal/abi.NoEscape"], unfollowed := true, recurses := true, named := ["unicode/utf8.first", "unicode/utf8.acceptRanges", "internal/bytealg.MaxLen"], apart := false, laid := [("unicode/utf8.acceptRanges", laid_unicode_utf8_acceptRanges), ("unicode/utf8.first", laid_unicode_utf8_first)], narrowed := true }
def MergeTellsUptoSaid : Prop := mergeTellsUptoRow.holds Tryz.pinned (OpenSpec.upto mergeTellsSpec)

/-- 'barographlaw13.HeadDeletes', WHERE WHAT IT READS IS OF BULK AT MOST 1048576: true; the input reads as it did. -/
def headDeletesUptoRow : OpenClaim := { program := "ytidoidoelgfnaaagreatdoor", sum := "decb698da3e66f2dd85aee4930e8c38179c847b3d8dc50306b39bc4f33fbce06", func := "barograph/barographlaw13.HeadDeletes", spec := "headDeletes", inPlace := ["internal/bytealg.IndexByteString", "internal/bytealg.IndexString", "internal/abi.NoEscape", "internal/bytealg.abigen_runtime_cmpstring"], unfollowed := true, recurses := true, named := ["unicode/utf8.first", "unicode/utf8.acceptRanges", "internal/bytealg.MaxLen"], apart := false, laid := [("unicode/utf8.acceptRanges", laid_unicode_utf8_acceptRanges), ("unicode/utf8.first", laid_unicode_utf8_first)], narrowed := true }
def HeadDeletesUptoSaid : Prop := headDeletesUptoRow.holds Tryz.pinned (OpenSpec.upto headDeletesSpec)

/-- 'barographlaw13.HeadHistory', WHERE WHAT IT READS IS OF BULK AT MOST 1048576: true; the input reads as it did. -/
def headHistoryUptoRow : OpenClaim := { program := "ytidoidoelgfnaaagreatdoor", sum := "decb698da3e66f2dd85aee4930e8c38179c847b3d8dc50306b39bc4f33fbce06", func := "barograph/barographlaw13.HeadHistory", spec := "headHistory", inPlace := ["internal/bytealg.IndexByteString", "internal/bytealg.IndexString", "internal/abi.NoEscape", "internal/bytealg.abigen_runtime_cmpstring"], unfollowed := true, recurses := true, named := ["unicode/utf8.first", "unicode/utf8.acceptRanges", "internal/bytealg.MaxLen"], apart := false, laid := [("unicode/utf8.acceptRanges", laid_unicode_utf8_acceptRanges), ("unicode/utf8.first", laid_unicode_utf8_first)], narrowed := true }
def HeadHistoryUptoSaid : Prop := headHistoryUptoRow.holds Tryz.pinned (OpenSpec.upto headHistorySpec)

/-- 'barographlaw13.HeadCopies', WHERE WHAT IT READS IS OF BULK AT MOST 1048576: true; the input reads as it did. -/
def headCopiesUptoRow : OpenClaim := { program := "ytidoidoelgfnaaagreatdoor", sum := "decb698da3e66f2dd85aee4930e8c38179c847b3d8dc50306b39bc4f33fbce06", func := "barograph/barographlaw13.HeadCopies", spec := "headCopies", inPlace := ["internal/bytealg.IndexByteString", "internal/bytealg.IndexString", "internal/abi.NoEscape", "internal/bytealg.abigen_runtime_cmpstring"], unfollowed := true, recurses := true, named := ["unicode/utf8.first", "unicode/utf8.acceptRanges", "internal/bytealg.MaxLen"], apart := false, laid := [("unicode/utf8.acceptRanges", laid_unicode_utf8_acceptRanges), ("unicode/utf8.first", laid_unicode_utf8_first)], narrowed := true }
def HeadCopiesUptoSaid : Prop := headCopiesUptoRow.holds Tryz.pinned (OpenSpec.upto headCopiesSpec)

/-- 'barographlaw13.HeadDoes', WHERE WHAT IT READS IS OF BULK AT MOST 1048576: true; the input reads as it did. -/
def headDoesUptoRow : OpenClaim := { program := "ytidoidoelgfnaaagreatdoor", sum := "decb698da3e66f2dd85aee4930e8c38179c847b3d8dc50306b39bc4f33fbce06", func := "barograph/barographlaw13.HeadDoes", spec := "headDoes", inPlace := ["internal/bytealg.IndexByteString", "internal/bytealg.IndexString", "internal/abi.NoEscape", "internal/bytealg.abigen_runtime_cmpstring"], unfollowed := true, recurses := true, named := ["unicode/utf8.first", "unicode/utf8.acceptRanges", "internal/bytealg.MaxLen"], apart := false, laid := [("unicode/utf8.acceptRanges", laid_unicode_utf8_acceptRanges), ("unicode/utf8.first", laid_unicode_utf8_first)], narrowed := true }
def HeadDoesUptoSaid : Prop := headDoesUptoRow.holds Tryz.pinned (OpenSpec.upto headDoesSpec)

/-- 'barographlaw16.MergeHistory', WHERE WHAT IT READS IS OF BULK AT MOST 1048576: true; the input reads as it did. -/
def mergeHistoryUptoRow : OpenClaim := { program := "ytidoidoelgfnaaagreatdoor", sum := "decb698da3e66f2dd85aee4930e8c38179c847b3d8dc50306b39bc4f33fbce06", func := "barograph/barographlaw16.MergeHistory", spec := "mergeHistory", inPlace := ["internal/bytealg.IndexByteString", "internal/bytealg.IndexString", "internal/abi.NoEscape", "internal/bytealg.abigen_runtime_cmpstring"], unfollowed := true, recurses := true, named := ["unicode/utf8.first", "unicode/utf8.acceptRanges", "internal/bytealg.MaxLen"], apart := false, laid := [("unicode/utf8.acceptRanges", laid_unicode_utf8_acceptRanges), ("unicode/utf8.first", laid_unicode_utf8_first)], narrowed := true }
def MergeHistoryUptoSaid : Prop := mergeHistoryUptoRow.holds Tryz.pinned (OpenSpec.upto mergeHistorySpec)

/-- 'barographlaw16.MergeTwice', WHERE WHAT IT READS IS OF BULK AT MOST 1048576: true; the input reads as it did. -/
def mergeTwiceUptoRow : OpenClaim := { program := "ytidoidoelgfnaaagreatdoor", sum := "decb698da3e66f2dd85aee4930e8c38179c847b3d8dc50306b39bc4f33fbce06", func := "barograph/barographlaw16.MergeTwice", spec := "mergeTwice", inPlace := ["internal/bytealg.IndexByteString", "internal/bytealg.IndexString", "internal/abi.NoEscape", "internal/bytealg.abigen_runtime_cmpstring"], unfollowed := true, recurses := true, named := ["unicode/utf8.first", "unicode/utf8.acceptRanges", "internal/bytealg.MaxLen"], apart := false, laid := [("unicode/utf8.acceptRanges", laid_unicode_utf8_acceptRanges), ("unicode/utf8.first", laid_unicode_utf8_first)], narrowed := true }
def MergeTwiceUptoSaid : Prop := mergeTwiceUptoRow.holds Tryz.pinned (OpenSpec.upto mergeTwiceSpec)

/-- 'barographlaw16.MergeLasts', WHERE WHAT IT READS IS OF BULK AT MOST 1048576: true; the input reads as it did. -/
def mergeLastsUptoRow : OpenClaim := { program := "ytidoidoelgfnaaagreatdoor", sum := "decb698da3e66f2dd85aee4930e8c38179c847b3d8dc50306b39bc4f33fbce06", func := "barograph/barographlaw16.MergeLasts", spec := "mergeLasts", inPlace := ["internal/bytealg.IndexByteString", "internal/bytealg.IndexString", "internal/abi.NoEscape", "internal/bytealg.abigen_runtime_cmpstring"], unfollowed := true, recurses := true, named := ["unicode/utf8.first", "unicode/utf8.acceptRanges", "internal/bytealg.MaxLen"], apart := false, laid := [("unicode/utf8.acceptRanges", laid_unicode_utf8_acceptRanges), ("unicode/utf8.first", laid_unicode_utf8_first)], narrowed := true }
def MergeLastsUptoSaid : Prop := mergeLastsUptoRow.holds Tryz.pinned (OpenSpec.upto mergeLastsSpec)

end Rows
end Go.Proofs.YtidoidoelgfnaaaGreatDoor
