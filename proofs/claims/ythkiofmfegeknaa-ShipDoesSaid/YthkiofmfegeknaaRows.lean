/-
  No cell of these rows narrows 'for every input' (looked for: loops, veiled, ifaces, maps, wideKeys, modest, calm, conditions, laid).
  DERIVED. THE GIVEN ROWS OF THIS SEAT. 4 by the template 'for every input the law returns true; each argument reads behind the call as it read before'; 0 by the template 'total and deterministic' (their statements: YthkiofmfegeknaaTotals.lean).
  GIVEN WITH THE SEED: the statements are not yours to turn. If you find one false, say at which input.
  Laid BY PROGRAM, IN A SANDBOX (cutbox-rows.mjs): the forced cells as the released guide's own fill.sh prints them over the translation 25433c51c6335eca… (all of the seat's roots in one cut). By AI agents, Wed Nov 11 2026. No macro, syntax, notation, axiom, sorry.
-/
import Derived.Test.YthkiofmfegeknaaChecked
import GoSem.Claim
import GoSem.ClaimJoined
import GoSem.ClaimMapViews
import Derived.JoinedTies
import Derived.KernelRfl
namespace Go.Proofs.Ythkiofmfegeknaa
/- THE CELL 'sum', in the pinned program and in every row, IS THE sha256 OF THE DUMP (.gsa) THAT YthkiofmfegeknaaProg.lean LOADS. Nothing in Lean hashes anything: it is a label: what it is worth is what the hold of that sum in a sandbox is worth. -/
noncomputable def Try.pinned : Pinned := { name := "ythkiofmfegeknaa", sum := "25433c51c6335eca58e49a6a5f11d1c066e6d24e8570efae68647f6fabc64335", checked := Try.checked }
namespace Rows
def none {H : Type} : Left H := { results := [], args := [] }

/-- 'barographlaw21.ShipSnapshot': WHATEVER THE INPUT: true; the input reads as it did. -/
def shipSnapshotSpec : ChangeSpec := { name := "shipSnapshot", fn := fun _ => fun
  | [d1, d2, d3] => { results := [.lit (.bool true)], args := [d1, d2, d3] }
  | _ => none }
def shipSnapshotRow : OpenClaim := { program := "ythkiofmfegeknaa", sum := "25433c51c6335eca58e49a6a5f11d1c066e6d24e8570efae68647f6fabc64335", func := "barograph/barographlaw21.ShipSnapshot", spec := "shipSnapshot", inPlace := ["sync/atomic.StoreInt64", "sync/atomic.LoadInt64", "sync/atomic.LoadUint32", "sync/atomic.StoreUint32", "sync/atomic.CompareAndSwapInt64"], apart := false }
def ShipSnapshotSaid : Prop := shipSnapshotRow.holds Try.pinned (OpenSpec.ofChange shipSnapshotSpec)

/-- ITS FALSE NEIGHBOUR: 'it returns false'. Refute it at one input. -/
def shipSnapshotWrong : ChangeSpec := { name := "shipSnapshot", fn := fun _ => fun
  | [d1, d2, d3] => { results := [.lit (.bool false)], args := [d1, d2, d3] }
  | _ => none }
def ShipSnapshotWrongFalsely : Prop := shipSnapshotRow.holds Try.pinned (OpenSpec.ofChange shipSnapshotWrong)

/-- 'barographlaw21.ShipAll': WHATEVER THE INPUT: true; the input reads as it did. -/
def shipAllSpec : ChangeSpec := { name := "shipAll", fn := fun _ => fun
  | [d1, d2] => { results := [.lit (.bool true)], args := [d1, d2] }
  | _ => none }
def shipAllRow : OpenClaim := { program := "ythkiofmfegeknaa", sum := "25433c51c6335eca58e49a6a5f11d1c066e6d24e8570efae68647f6fabc64335", func := "barograph/barographlaw21.ShipAll", spec := "shipAll", inPlace := ["sync/atomic.StoreInt64", "sync/atomic.LoadInt64", "sync/atomic.LoadUint32", "sync/atomic.StoreUint32", "sync/atomic.CompareAndSwapInt64"], apart := false }
def ShipAllSaid : Prop := shipAllRow.holds Try.pinned (OpenSpec.ofChange shipAllSpec)

/-- ITS FALSE NEIGHBOUR: 'it returns false'. Refute it at one input. -/
def shipAllWrong : ChangeSpec := { name := "shipAll", fn := fun _ => fun
  | [d1, d2] => { results := [.lit (.bool false)], args := [d1, d2] }
  | _ => none }
def ShipAllWrongFalsely : Prop := shipAllRow.holds Try.pinned (OpenSpec.ofChange shipAllWrong)

/-- 'barographlaw21.ShipAgain': WHATEVER THE INPUT: true; the input reads as it did. -/
def shipAgainSpec : ChangeSpec := { name := "shipAgain", fn := fun _ => fun
  | [d1, d2, d3] => { results := [.lit (.bool true)], args := [d1, d2, d3] }
  | _ => none }
def shipAgainRow : OpenClaim := { program := "ythkiofmfegeknaa", sum := "25433c51c6335eca58e49a6a5f11d1c066e6d24e8570efae68647f6fabc64335", func := "barograph/barographlaw21.ShipAgain", spec := "shipAgain", inPlace := ["sync/atomic.StoreInt64", "sync/atomic.LoadInt64", "sync/atomic.LoadUint32", "sync/atomic.StoreUint32", "sync/atomic.CompareAndSwapInt64"], apart := false }
def ShipAgainSaid : Prop := shipAgainRow.holds Try.pinned (OpenSpec.ofChange shipAgainSpec)

/-- ITS FALSE NEIGHBOUR: 'it returns false'. Refute it at one input. -/
def shipAgainWrong : ChangeSpec := { name := "shipAgain", fn := fun _ => fun
  | [d1, d2, d3] => { results := [.lit (.bool false)], args := [d1, d2, d3] }
  | _ => none }
def ShipAgainWrongFalsely : Prop := shipAgainRow.holds Try.pinned (OpenSpec.ofChange shipAgainWrong)

/-- 'barographlaw21.ShipDoes': WHATEVER THE INPUT: true; the input reads as it did. -/
def shipDoesSpec : ChangeSpec := { name := "shipDoes", fn := fun _ => fun
  | [d] => { results := [.lit (.bool true)], args := [d] }
  | _ => none }
def shipDoesRow : OpenClaim := { program := "ythkiofmfegeknaa", sum := "25433c51c6335eca58e49a6a5f11d1c066e6d24e8570efae68647f6fabc64335", func := "barograph/barographlaw21.ShipDoes", spec := "shipDoes", inPlace := ["sync/atomic.StoreInt64", "sync/atomic.StoreUint32", "sync/atomic.LoadUint32", "sync/atomic.LoadInt64", "sync/atomic.CompareAndSwapInt64"], apart := false }
def ShipDoesSaid : Prop := shipDoesRow.holds Try.pinned (OpenSpec.ofChange shipDoesSpec)

/-- ITS FALSE NEIGHBOUR: 'it returns false'. Refute it at one input. -/
def shipDoesWrong : ChangeSpec := { name := "shipDoes", fn := fun _ => fun
  | [d] => { results := [.lit (.bool false)], args := [d] }
  | _ => none }
def ShipDoesWrongFalsely : Prop := shipDoesRow.holds Try.pinned (OpenSpec.ofChange shipDoesWrong)

/- THE SECOND FORM. 'bulk': how many values and letters a reading holds, each counted each time it is reached (what is shared counts as often as it is met; a slice's spare places count too). A statement '..UptoSaid' is the law's where the arguments, and the package variables that the reading takes, are together of bulk at most 1048576: NARROWER than '..Said'. Prove '..Said' where nothing that the law and all that it calls make is longer than what came in: it says more and counts as full. Else prove '..UptoSaid'. A law counts once. -/
mutual
def uptoBulk {H : Type} : DataW H → Nat
  | .lit (.string bytes) => bytes.length + 1
  | .lit _ => 1
  | .nil => 1
  | .ptr d => uptoBulk d + 1
  | .slice elems spare => uptoBulkAll elems + uptoBulkAll spare + 1
  | .agg parts => uptoBulkAll parts + 1
  | .iface _ d => uptoBulk d + 1
  | .map entries => uptoBulkEntries entries + 1
  | .held _ => 1
def uptoBulkAll {H : Type} : List (DataW H) → Nat
  | [] => 0
  | d :: r => uptoBulk d + uptoBulkAll r
def uptoBulkEntries {H : Type} : List (Lit × DataW H) → Nat
  | [] => 0
  | x :: r => uptoBulkEntry x + uptoBulkEntries r
def uptoBulkEntry {H : Type} : Lit × DataW H → Nat
  | (.string bytes, d) => bytes.length + uptoBulk d + 1
  | (_, d) => uptoBulk d + 1
 end
def uptoSmall : (H : Type) → List (DataW H) → Bool := fun _ ds => decide (uptoBulkAll ds ≤ 1048576)
def OpenSpec.upto (s : _root_.Go.ChangeSpec) : _root_.Go.OpenSpec := { _root_.Go.OpenSpec.ofChange s with cond := some uptoSmall }

/-- 'barographlaw21.ShipSnapshot', WHERE WHAT IT READS IS OF BULK AT MOST 1048576: true; the input reads as it did. -/
def shipSnapshotUptoRow : OpenClaim := { program := "ythkiofmfegeknaa", sum := "25433c51c6335eca58e49a6a5f11d1c066e6d24e8570efae68647f6fabc64335", func := "barograph/barographlaw21.ShipSnapshot", spec := "shipSnapshot", inPlace := ["sync/atomic.StoreInt64", "sync/atomic.LoadInt64", "sync/atomic.LoadUint32", "sync/atomic.StoreUint32", "sync/atomic.CompareAndSwapInt64"], apart := false, narrowed := true }
def ShipSnapshotUptoSaid : Prop := shipSnapshotUptoRow.holds Try.pinned (OpenSpec.upto shipSnapshotSpec)

/-- 'barographlaw21.ShipAll', WHERE WHAT IT READS IS OF BULK AT MOST 1048576: true; the input reads as it did. -/
def shipAllUptoRow : OpenClaim := { program := "ythkiofmfegeknaa", sum := "25433c51c6335eca58e49a6a5f11d1c066e6d24e8570efae68647f6fabc64335", func := "barograph/barographlaw21.ShipAll", spec := "shipAll", inPlace := ["sync/atomic.StoreInt64", "sync/atomic.LoadInt64", "sync/atomic.LoadUint32", "sync/atomic.StoreUint32", "sync/atomic.CompareAndSwapInt64"], apart := false, narrowed := true }
def ShipAllUptoSaid : Prop := shipAllUptoRow.holds Try.pinned (OpenSpec.upto shipAllSpec)

/-- 'barographlaw21.ShipAgain', WHERE WHAT IT READS IS OF BULK AT MOST 1048576: true; the input reads as it did. -/
def shipAgainUptoRow : OpenClaim := { program := "ythkiofmfegeknaa", sum := "25433c51c6335eca58e49a6a5f11d1c066e6d24e8570efae68647f6fabc64335", func := "barograph/barographlaw21.ShipAgain", spec := "shipAgain", inPlace := ["sync/atomic.StoreInt64", "sync/atomic.LoadInt64", "sync/atomic.LoadUint32", "sync/atomic.StoreUint32", "sync/atomic.CompareAndSwapInt64"], apart := false, narrowed := true }
def ShipAgainUptoSaid : Prop := shipAgainUptoRow.holds Try.pinned (OpenSpec.upto shipAgainSpec)

/-- 'barographlaw21.ShipDoes', WHERE WHAT IT READS IS OF BULK AT MOST 1048576: true; the input reads as it did. -/
def shipDoesUptoRow : OpenClaim := { program := "ythkiofmfegeknaa", sum := "25433c51c6335eca58e49a6a5f11d1c066e6d24e8570efae68647f6fabc64335", func := "barograph/barographlaw21.ShipDoes", spec := "shipDoes", inPlace := ["sync/atomic.StoreInt64", "sync/atomic.StoreUint32", "sync/atomic.LoadUint32", "sync/atomic.LoadInt64", "sync/atomic.CompareAndSwapInt64"], apart := false, narrowed := true }
def ShipDoesUptoSaid : Prop := shipDoesUptoRow.holds Try.pinned (OpenSpec.upto shipDoesSpec)

end Rows
end Go.Proofs.Ythkiofmfegeknaa
