/-
  No cell of these rows narrows 'for every input' (looked for: loops, veiled, ifaces, maps, wideKeys, modest, calm, conditions, laid).
  DERIVED. THE GIVEN ROWS OF THIS SEAT. 3 by the template 'for every input the law returns true; each argument reads behind the call as it read before'; 0 by the template 'total and deterministic' (their statements: YtekadbpdcbiclaaTotals.lean).
  GIVEN WITH THE SEED: the statements are not yours to turn. If you find one false, say at which input.
  Laid BY PROGRAM, IN A SANDBOX (cutbox-rows.mjs): the forced cells as the released guide's own fill.sh prints them over the translation b66f65c67a2cd6f0… (all of the seat's roots in one cut). By AI agents, Wed Nov 11 2026. No macro, syntax, notation, axiom, sorry.
-/
import Derived.Test.YtekadbpdcbiclaaChecked
import GoSem.Claim
import GoSem.ClaimJoined
import GoSem.ClaimMapViews
import Derived.JoinedTies
import Derived.KernelRfl
namespace Go.Proofs.Ytekadbpdcbiclaa
/- THE CELL 'sum', in the pinned program and in every row, IS THE sha256 OF THE DUMP (.gsa) THAT YtekadbpdcbiclaaProg.lean LOADS. Nothing in Lean hashes anything: it is a label: what it is worth is what the hold of that sum in a sandbox is worth. -/
noncomputable def Try.pinned : Pinned := { name := "ytekadbpdcbiclaa", sum := "b66f65c67a2cd6f034b77e030055ec2bfca7f87cf73b3dae963257b665a272ef", checked := Try.checked }
namespace Rows
def none {H : Type} : Left H := { results := [], args := [] }

/-- 'cachetlaw5.BagActs': WHATEVER THE INPUT: true; the input reads as it did. -/
def bagActsSpec : ChangeSpec := { name := "bagActs", fn := fun _ => fun
  | [d] => { results := [.lit (.bool true)], args := [d] }
  | _ => none }
def bagActsRow : OpenClaim := { program := "ytekadbpdcbiclaa", sum := "b66f65c67a2cd6f034b77e030055ec2bfca7f87cf73b3dae963257b665a272ef", func := "cachet/cachetlaw5.BagActs", spec := "bagActs", apart := false }
def BagActsSaid : Prop := bagActsRow.holds Try.pinned (OpenSpec.ofChange bagActsSpec)

/-- ITS FALSE NEIGHBOUR: 'it returns false'. Refute it at one input. -/
def bagActsWrong : ChangeSpec := { name := "bagActs", fn := fun _ => fun
  | [d] => { results := [.lit (.bool false)], args := [d] }
  | _ => none }
def BagActsWrongFalsely : Prop := bagActsRow.holds Try.pinned (OpenSpec.ofChange bagActsWrong)

/-- 'cachetlaw5.BagRows': WHATEVER THE INPUT: true; the input reads as it did. -/
def bagRowsSpec : ChangeSpec := { name := "bagRows", fn := fun _ => fun
  | [d1, d2] => { results := [.lit (.bool true)], args := [d1, d2] }
  | _ => none }
def bagRowsRow : OpenClaim := { program := "ytekadbpdcbiclaa", sum := "b66f65c67a2cd6f034b77e030055ec2bfca7f87cf73b3dae963257b665a272ef", func := "cachet/cachetlaw5.BagRows", spec := "bagRows", apart := false }
def BagRowsSaid : Prop := bagRowsRow.holds Try.pinned (OpenSpec.ofChange bagRowsSpec)

/-- ITS FALSE NEIGHBOUR: 'it returns false'. Refute it at one input. -/
def bagRowsWrong : ChangeSpec := { name := "bagRows", fn := fun _ => fun
  | [d1, d2] => { results := [.lit (.bool false)], args := [d1, d2] }
  | _ => none }
def BagRowsWrongFalsely : Prop := bagRowsRow.holds Try.pinned (OpenSpec.ofChange bagRowsWrong)

/-- 'cachetlaw5.BagWrong': WHATEVER THE INPUT: true; the input reads as it did. -/
def bagWrongSpec : ChangeSpec := { name := "bagWrong", fn := fun _ => fun
  | [d1, d2] => { results := [.lit (.bool true)], args := [d1, d2] }
  | _ => none }
def bagWrongRow : OpenClaim := { program := "ytekadbpdcbiclaa", sum := "b66f65c67a2cd6f034b77e030055ec2bfca7f87cf73b3dae963257b665a272ef", func := "cachet/cachetlaw5.BagWrong", spec := "bagWrong", apart := false }
def BagWrongSaid : Prop := bagWrongRow.holds Try.pinned (OpenSpec.ofChange bagWrongSpec)

/-- ITS FALSE NEIGHBOUR: 'it returns false'. Refute it at one input. -/
def bagWrongWrong : ChangeSpec := { name := "bagWrong", fn := fun _ => fun
  | [d1, d2] => { results := [.lit (.bool false)], args := [d1, d2] }
  | _ => none }
def BagWrongWrongFalsely : Prop := bagWrongRow.holds Try.pinned (OpenSpec.ofChange bagWrongWrong)

/- THE SECOND FORM. 'bulk': how many values and letters a reading holds, each counted each time it is reached (what is shared counts as often as it is met; a slice's spare places count too). A statement '..UptoSaid' is the law's where the arguments, and the package variables that the reading takes, are together of bulk at most 1048576: NARROWER than '..Said'. Prove '..Said' where nothing that the law and all that it calls make is longer than what came in: it says more and counts as full. Else prove '..UptoSaid'. A law counts once. -/
mutual
def uptoBulk {H : Type} : DataW H → Nat
  | .lit (.string bytes) => bytes.length + 1
  | .lit _ => 1
  | .nil => 1
  | .ptr d => uptoBulk d + 1
  | .slice elems spare => uptoBulkAll elems + uptoBulkAll spare + 1
  | .agg parts => uptoBulkAll parts + 1
  | .iface _ d => uptoBulk d + 1
  | .map entries => uptoBulkEntries entries + 1
  | .held _ => 1
def uptoBulkAll {H : Type} : List (DataW H) → Nat
  | [] => 0
  | d :: r => uptoBulk d + uptoBulkAll r
def uptoBulkEntries {H : Type} : List (Lit × DataW H) → Nat
  | [] => 0
  | x :: r => uptoBulkEntry x + uptoBulkEntries r
def uptoBulkEntry {H : Type} : Lit × DataW H → Nat
  | (.string bytes, d) => bytes.length + uptoBulk d + 1
  | (_, d) => uptoBulk d + 1
 end
def uptoSmall : (H : Type) → List (DataW H) → Bool := fun _ ds => decide (uptoBulkAll ds ≤ 1048576)
def OpenSpec.upto (s : _root_.Go.ChangeSpec) : _root_.Go.OpenSpec := { _root_.Go.OpenSpec.ofChange s with cond := some uptoSmall }

/-- 'cachetlaw5.BagActs', WHERE WHAT IT READS IS OF BULK AT MOST 1048576: true; the input reads as it did. -/
def bagActsUptoRow : OpenClaim := { program := "ytekadbpdcbiclaa", sum := "b66f65c67a2cd6f034b77e030055ec2bfca7f87cf73b3dae963257b665a272ef", func := "cachet/cachetlaw5.BagActs", spec := "bagActs", apart := false, narrowed := true }
def BagActsUptoSaid : Prop := bagActsUptoRow.holds Try.pinned (OpenSpec.upto bagActsSpec)

/-- 'cachetlaw5.BagRows', WHERE WHAT IT READS IS OF BULK AT MOST 1048576: true; the input reads as it did. -/
def bagRowsUptoRow : OpenClaim := { program := "ytekadbpdcbiclaa", sum := "b66f65c67a2cd6f034b77e030055ec2bfca7f87cf73b3dae963257b665a272ef", func := "cachet/cachetlaw5.BagRows", spec := "bagRows", apart := false, narrowed := true }
def BagRowsUptoSaid : Prop := bagRowsUptoRow.holds Try.pinned (OpenSpec.upto bagRowsSpec)

/-- 'cachetlaw5.BagWrong', WHERE WHAT IT READS IS OF BULK AT MOST 1048576: true; the input reads as it did. -/
def bagWrongUptoRow : OpenClaim := { program := "ytekadbpdcbiclaa", sum := "b66f65c67a2cd6f034b77e030055ec2bfca7f87cf73b3dae963257b665a272ef", func := "cachet/cachetlaw5.BagWrong", spec := "bagWrong", apart := false, narrowed := true }
def BagWrongUptoSaid : Prop := bagWrongUptoRow.holds Try.pinned (OpenSpec.upto bagWrongSpec)

end Rows
end Go.Proofs.Ytekadbpdcbiclaa
