/-
  No cell of these rows narrows 'for every input' (looked for: loops, veiled, ifaces, maps, wideKeys, modest, calm, conditions, laid).
  DERIVED. THE GIVEN ROWS OF THIS SEAT. 4 by the template 'for every input the law returns true; each argument reads behind the call as it read before'; 0 by the template 'total and deterministic' (their statements: YtlokgfoobjepdaaTotals.lean).
  GIVEN WITH THE SEED: the statements are not yours to turn. If you find one false, say at which input.
  Laid BY PROGRAM, IN A SANDBOX (cutbox-rows.mjs): the forced cells as the released guide's own fill.sh prints them over the translation b22ede34fe5d7ae8… (all of the seat's roots in one cut). By AI agents, Wed Nov 11 2026. No macro, syntax, notation, axiom, sorry.
-/
import Derived.Test.YtlokgfoobjepdaaChecked
import GoSem.Claim
import GoSem.ClaimJoined
import GoSem.ClaimMapViews
import Derived.JoinedTies
import Derived.KernelRfl
namespace Go.Proofs.Ytlokgfoobjepdaa
/- THE CELL 'sum', in the pinned program and in every row, IS THE sha256 OF THE DUMP (.gsa) THAT YtlokgfoobjepdaaProg.lean LOADS. Nothing in Lean hashes anything: it is a label: what it is worth is what the hold of that sum in a sandbox is worth. -/
noncomputable def Try.pinned : Pinned := { name := "ytlokgfoobjepdaa", sum := "b22ede34fe5d7ae814f69d963fef9398d00b400a6f33b609d232af157ae0c9db", checked := Try.checked }
namespace Rows
def none {H : Type} : Left H := { results := [], args := [] }

/-- 'barographlaw23.FenceLeads': WHATEVER THE INPUT: true; the input reads as it did. -/
def fenceLeadsSpec : ChangeSpec := { name := "fenceLeads", fn := fun _ => fun
  | [d1, d2] => { results := [.lit (.bool true)], args := [d1, d2] }
  | _ => none }
def fenceLeadsRow : OpenClaim := { program := "ytlokgfoobjepdaa", sum := "b22ede34fe5d7ae814f69d963fef9398d00b400a6f33b609d232af157ae0c9db", func := "barograph/barographlaw23.FenceLeads", spec := "fenceLeads", apart := false }
def FenceLeadsSaid : Prop := fenceLeadsRow.holds Try.pinned (OpenSpec.ofChange fenceLeadsSpec)

/-- ITS FALSE NEIGHBOUR: 'it returns false'. Refute it at one input. -/
def fenceLeadsWrong : ChangeSpec := { name := "fenceLeads", fn := fun _ => fun
  | [d1, d2] => { results := [.lit (.bool false)], args := [d1, d2] }
  | _ => none }
def FenceLeadsWrongFalsely : Prop := fenceLeadsRow.holds Try.pinned (OpenSpec.ofChange fenceLeadsWrong)

/-- 'barographlaw23.FenceTells': WHATEVER THE INPUT: true; the input reads as it did. -/
def fenceTellsSpec : ChangeSpec := { name := "fenceTells", fn := fun _ => fun
  | [d1, d2, d3, d4] => { results := [.lit (.bool true)], args := [d1, d2, d3, d4] }
  | _ => none }
def fenceTellsRow : OpenClaim := { program := "ytlokgfoobjepdaa", sum := "b22ede34fe5d7ae814f69d963fef9398d00b400a6f33b609d232af157ae0c9db", func := "barograph/barographlaw23.FenceTells", spec := "fenceTells", apart := false }
def FenceTellsSaid : Prop := fenceTellsRow.holds Try.pinned (OpenSpec.ofChange fenceTellsSpec)

/-- ITS FALSE NEIGHBOUR: 'it returns false'. Refute it at one input. -/
def fenceTellsWrong : ChangeSpec := { name := "fenceTells", fn := fun _ => fun
  | [d1, d2, d3, d4] => { results := [.lit (.bool false)], args := [d1, d2, d3, d4] }
  | _ => none }
def FenceTellsWrongFalsely : Prop := fenceTellsRow.holds Try.pinned (OpenSpec.ofChange fenceTellsWrong)

/-- 'barographlaw23.FenceOne': WHATEVER THE INPUT: true; the input reads as it did. -/
def fenceOneSpec : ChangeSpec := { name := "fenceOne", fn := fun _ => fun
  | [d] => { results := [.lit (.bool true)], args := [d] }
  | _ => none }
def fenceOneRow : OpenClaim := { program := "ytlokgfoobjepdaa", sum := "b22ede34fe5d7ae814f69d963fef9398d00b400a6f33b609d232af157ae0c9db", func := "barograph/barographlaw23.FenceOne", spec := "fenceOne", apart := false }
def FenceOneSaid : Prop := fenceOneRow.holds Try.pinned (OpenSpec.ofChange fenceOneSpec)

/-- ITS FALSE NEIGHBOUR: 'it returns false'. Refute it at one input. -/
def fenceOneWrong : ChangeSpec := { name := "fenceOne", fn := fun _ => fun
  | [d] => { results := [.lit (.bool false)], args := [d] }
  | _ => none }
def FenceOneWrongFalsely : Prop := fenceOneRow.holds Try.pinned (OpenSpec.ofChange fenceOneWrong)

/-- 'barographlaw23.FencePromised': WHATEVER THE INPUT: true; the input reads as it did. -/
def fencePromisedSpec : ChangeSpec := { name := "fencePromised", fn := fun _ => fun
  | [d1, d2, d3] => { results := [.lit (.bool true)], args := [d1, d2, d3] }
  | _ => none }
def fencePromisedRow : OpenClaim := { program := "ytlokgfoobjepdaa", sum := "b22ede34fe5d7ae814f69d963fef9398d00b400a6f33b609d232af157ae0c9db", func := "barograph/barographlaw23.FencePromised", spec := "fencePromised", apart := false }
def FencePromisedSaid : Prop := fencePromisedRow.holds Try.pinned (OpenSpec.ofChange fencePromisedSpec)

/-- ITS FALSE NEIGHBOUR: 'it returns false'. Refute it at one input. -/
def fencePromisedWrong : ChangeSpec := { name := "fencePromised", fn := fun _ => fun
  | [d1, d2, d3] => { results := [.lit (.bool false)], args := [d1, d2, d3] }
  | _ => none }
def FencePromisedWrongFalsely : Prop := fencePromisedRow.holds Try.pinned (OpenSpec.ofChange fencePromisedWrong)

/- THE SECOND FORM. 'bulk': how many values and letters a reading holds, each counted each time it is reached (what is shared counts as often as it is met; a slice's spare places count too). A statement '..UptoSaid' is the law's where the arguments, and the package variables that the reading takes, are together of bulk at most 1048576: NARROWER than '..Said'. Prove '..Said' where nothing that the law and all that it calls make is longer than what came in: it says more and counts as full. Else prove '..UptoSaid'. A law counts once. -/
mutual
def uptoBulk {H : Type} : DataW H → Nat
  | .lit (.string bytes) => bytes.length + 1
  | .lit _ => 1
  | .nil => 1
  | .ptr d => uptoBulk d + 1
  | .slice elems spare => uptoBulkAll elems + uptoBulkAll spare + 1
  | .agg parts => uptoBulkAll parts + 1
  | .iface _ d => uptoBulk d + 1
  | .map entries => uptoBulkEntries entries + 1
  | .held _ => 1
def uptoBulkAll {H : Type} : List (DataW H) → Nat
  | [] => 0
  | d :: r => uptoBulk d + uptoBulkAll r
def uptoBulkEntries {H : Type} : List (Lit × DataW H) → Nat
  | [] => 0
  | x :: r => uptoBulkEntry x + uptoBulkEntries r
def uptoBulkEntry {H : Type} : Lit × DataW H → Nat
  | (.string bytes, d) => bytes.length + uptoBulk d + 1
  | (_, d) => uptoBulk d + 1
 end
def uptoSmall : (H : Type) → List (DataW H) → Bool := fun _ ds => decide (uptoBulkAll ds ≤ 1048576)
def OpenSpec.upto (s : _root_.Go.ChangeSpec) : _root_.Go.OpenSpec := { _root_.Go.OpenSpec.ofChange s with cond := some uptoSmall }

/-- 'barographlaw23.FenceLeads', WHERE WHAT IT READS IS OF BULK AT MOST 1048576: true; the input reads as it did. -/
def fenceLeadsUptoRow : OpenClaim := { program := "ytlokgfoobjepdaa", sum := "b22ede34fe5d7ae814f69d963fef9398d00b400a6f33b609d232af157ae0c9db", func := "barograph/barographlaw23.FenceLeads", spec := "fenceLeads", apart := false, narrowed := true }
def FenceLeadsUptoSaid : Prop := fenceLeadsUptoRow.holds Try.pinned (OpenSpec.upto fenceLeadsSpec)

/-- 'barographlaw23.FenceTells', WHERE WHAT IT READS IS OF BULK AT MOST 1048576: true; the input reads as it did. -/
def fenceTellsUptoRow : OpenClaim := { program := "ytlokgfoobjepdaa", sum := "b22ede34fe5d7ae814f69d963fef9398d00b400a6f33b609d232af157ae0c9db", func := "barograph/barographlaw23.FenceTells", spec := "fenceTells", apart := false, narrowed := true }
def FenceTellsUptoSaid : Prop := fenceTellsUptoRow.holds Try.pinned (OpenSpec.upto fenceTellsSpec)

/-- 'barographlaw23.FenceOne', WHERE WHAT IT READS IS OF BULK AT MOST 1048576: true; the input reads as it did. -/
def fenceOneUptoRow : OpenClaim := { program := "ytlokgfoobjepdaa", sum := "b22ede34fe5d7ae814f69d963fef9398d00b400a6f33b609d232af157ae0c9db", func := "barograph/barographlaw23.FenceOne", spec := "fenceOne", apart := false, narrowed := true }
def FenceOneUptoSaid : Prop := fenceOneUptoRow.holds Try.pinned (OpenSpec.upto fenceOneSpec)

/-- 'barographlaw23.FencePromised', WHERE WHAT IT READS IS OF BULK AT MOST 1048576: true; the input reads as it did. -/
def fencePromisedUptoRow : OpenClaim := { program := "ytlokgfoobjepdaa", sum := "b22ede34fe5d7ae814f69d963fef9398d00b400a6f33b609d232af157ae0c9db", func := "barograph/barographlaw23.FencePromised", spec := "fencePromised", apart := false, narrowed := true }
def FencePromisedUptoSaid : Prop := fencePromisedUptoRow.holds Try.pinned (OpenSpec.upto fencePromisedSpec)

end Rows
end Go.Proofs.Ytlokgfoobjepdaa
