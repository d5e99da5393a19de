/-
  No cell of these rows narrows 'for every input' (looked for: loops, veiled, ifaces, maps, wideKeys, modest, calm, conditions, laid).
  DERIVED. THE GIVEN ROWS OF THIS SEAT. 4 by the template 'for every input the law returns true; each argument reads behind the call as it read before'; 0 by the template 'total and deterministic' (their statements: YtnphceoogihpfaaTotals.lean).
  GIVEN WITH THE SEED: the statements are not yours to turn. If you find one false, say at which input.
  Laid BY PROGRAM, IN A SANDBOX (cutbox-rows.mjs): the forced cells as the released guide's own fill.sh prints them over the translation dc4abe6ce1fad131… (all of the seat's roots in one cut). By AI agents, Wed Nov 11 2026. No macro, syntax, notation, axiom, sorry.
-/
import Derived.Test.YtnphceoogihpfaaChecked
import GoSem.Claim
import GoSem.ClaimJoined
import GoSem.ClaimMapViews
import Derived.JoinedTies
import Derived.KernelRfl
namespace Go.Proofs.Ytnphceoogihpfaa
/- THE CELL 'sum', in the pinned program and in every row, IS THE sha256 OF THE DUMP (.gsa) THAT YtnphceoogihpfaaProg.lean LOADS. Nothing in Lean hashes anything: it is a label: what it is worth is what the hold of that sum in a sandbox is worth. -/
noncomputable def Try.pinned : Pinned := { name := "ytnphceoogihpfaa", sum := "dc4abe6ce1fad131792557521ece50b500099d94fba0302813782f8b5fa33c65", checked := Try.checked }
namespace Rows
def none {H : Type} : Left H := { results := [], args := [] }

/-- 'cachetlaw7.CellForms': WHATEVER THE INPUT: true; the input reads as it did. -/
def cellFormsSpec : ChangeSpec := { name := "cellForms", fn := fun _ => fun
  | [d1, d2, d3] => { results := [.lit (.bool true)], args := [d1, d2, d3] }
  | _ => none }
def cellFormsRow : OpenClaim := { program := "ytnphceoogihpfaa", sum := "dc4abe6ce1fad131792557521ece50b500099d94fba0302813782f8b5fa33c65", func := "cachet/cachetlaw7.CellForms", spec := "cellForms", apart := false }
def CellFormsSaid : Prop := cellFormsRow.holds Try.pinned (OpenSpec.ofChange cellFormsSpec)

/-- ITS FALSE NEIGHBOUR: 'it returns false'. Refute it at one input. -/
def cellFormsWrong : ChangeSpec := { name := "cellForms", fn := fun _ => fun
  | [d1, d2, d3] => { results := [.lit (.bool false)], args := [d1, d2, d3] }
  | _ => none }
def CellFormsWrongFalsely : Prop := cellFormsRow.holds Try.pinned (OpenSpec.ofChange cellFormsWrong)

/-- 'cachetlaw7.CellMany': WHATEVER THE INPUT: true; the input reads as it did. -/
def cellManySpec : ChangeSpec := { name := "cellMany", fn := fun _ => fun
  | [d] => { results := [.lit (.bool true)], args := [d] }
  | _ => none }
def cellManyRow : OpenClaim := { program := "ytnphceoogihpfaa", sum := "dc4abe6ce1fad131792557521ece50b500099d94fba0302813782f8b5fa33c65", func := "cachet/cachetlaw7.CellMany", spec := "cellMany", apart := false }
def CellManySaid : Prop := cellManyRow.holds Try.pinned (OpenSpec.ofChange cellManySpec)

/-- ITS FALSE NEIGHBOUR: 'it returns false'. Refute it at one input. -/
def cellManyWrong : ChangeSpec := { name := "cellMany", fn := fun _ => fun
  | [d] => { results := [.lit (.bool false)], args := [d] }
  | _ => none }
def CellManyWrongFalsely : Prop := cellManyRow.holds Try.pinned (OpenSpec.ofChange cellManyWrong)

/-- 'cachetlaw7.CellActs': WHATEVER THE INPUT: true; the input reads as it did. -/
def cellActsSpec : ChangeSpec := { name := "cellActs", fn := fun _ => fun
  | [d1, d2, d3] => { results := [.lit (.bool true)], args := [d1, d2, d3] }
  | _ => none }
def cellActsRow : OpenClaim := { program := "ytnphceoogihpfaa", sum := "dc4abe6ce1fad131792557521ece50b500099d94fba0302813782f8b5fa33c65", func := "cachet/cachetlaw7.CellActs", spec := "cellActs", apart := false }
def CellActsSaid : Prop := cellActsRow.holds Try.pinned (OpenSpec.ofChange cellActsSpec)

/-- ITS FALSE NEIGHBOUR: 'it returns false'. Refute it at one input. -/
def cellActsWrong : ChangeSpec := { name := "cellActs", fn := fun _ => fun
  | [d1, d2, d3] => { results := [.lit (.bool false)], args := [d1, d2, d3] }
  | _ => none }
def CellActsWrongFalsely : Prop := cellActsRow.holds Try.pinned (OpenSpec.ofChange cellActsWrong)

/-- 'cachetlaw7.CellEach': WHATEVER THE INPUT: true; the input reads as it did. -/
def cellEachSpec : ChangeSpec := { name := "cellEach", fn := fun _ => fun
  | [d1, d2] => { results := [.lit (.bool true)], args := [d1, d2] }
  | _ => none }
def cellEachRow : OpenClaim := { program := "ytnphceoogihpfaa", sum := "dc4abe6ce1fad131792557521ece50b500099d94fba0302813782f8b5fa33c65", func := "cachet/cachetlaw7.CellEach", spec := "cellEach", inPlace := ["maps.clone"], apart := false }
def CellEachSaid : Prop := cellEachRow.holds Try.pinned (OpenSpec.ofChange cellEachSpec)

/-- ITS FALSE NEIGHBOUR: 'it returns false'. Refute it at one input. -/
def cellEachWrong : ChangeSpec := { name := "cellEach", fn := fun _ => fun
  | [d1, d2] => { results := [.lit (.bool false)], args := [d1, d2] }
  | _ => none }
def CellEachWrongFalsely : Prop := cellEachRow.holds Try.pinned (OpenSpec.ofChange cellEachWrong)

/- THE SECOND FORM. 'bulk': how many values and letters a reading holds, each counted each time it is reached (what is shared counts as often as it is met; a slice's spare places count too). A statement '..UptoSaid' is the law's where the arguments, and the package variables that the reading takes, are together of bulk at most 1048576: NARROWER than '..Said'. Prove '..Said' where nothing that the law and all that it calls make is longer than what came in: it says more and counts as full. Else prove '..UptoSaid'. A law counts once. -/
mutual
def uptoBulk {H : Type} : DataW H → Nat
  | .lit (.string bytes) => bytes.length + 1
  | .lit _ => 1
  | .nil => 1
  | .ptr d => uptoBulk d + 1
  | .slice elems spare => uptoBulkAll elems + uptoBulkAll spare + 1
  | .agg parts => uptoBulkAll parts + 1
  | .iface _ d => uptoBulk d + 1
  | .map entries => uptoBulkEntries entries + 1
  | .held _ => 1
def uptoBulkAll {H : Type} : List (DataW H) → Nat
  | [] => 0
  | d :: r => uptoBulk d + uptoBulkAll r
def uptoBulkEntries {H : Type} : List (Lit × DataW H) → Nat
  | [] => 0
  | x :: r => uptoBulkEntry x + uptoBulkEntries r
def uptoBulkEntry {H : Type} : Lit × DataW H → Nat
  | (.string bytes, d) => bytes.length + uptoBulk d + 1
  | (_, d) => uptoBulk d + 1
 end
def uptoSmall : (H : Type) → List (DataW H) → Bool := fun _ ds => decide (uptoBulkAll ds ≤ 1048576)
def OpenSpec.upto (s : _root_.Go.ChangeSpec) : _root_.Go.OpenSpec := { _root_.Go.OpenSpec.ofChange s with cond := some uptoSmall }

/-- 'cachetlaw7.CellForms', WHERE WHAT IT READS IS OF BULK AT MOST 1048576: true; the input reads as it did. -/
def cellFormsUptoRow : OpenClaim := { program := "ytnphceoogihpfaa", sum := "dc4abe6ce1fad131792557521ece50b500099d94fba0302813782f8b5fa33c65", func := "cachet/cachetlaw7.CellForms", spec := "cellForms", apart := false, narrowed := true }
def CellFormsUptoSaid : Prop := cellFormsUptoRow.holds Try.pinned (OpenSpec.upto cellFormsSpec)

/-- 'cachetlaw7.CellMany', WHERE WHAT IT READS IS OF BULK AT MOST 1048576: true; the input reads as it did. -/
def cellManyUptoRow : OpenClaim := { program := "ytnphceoogihpfaa", sum := "dc4abe6ce1fad131792557521ece50b500099d94fba0302813782f8b5fa33c65", func := "cachet/cachetlaw7.CellMany", spec := "cellMany", apart := false, narrowed := true }
def CellManyUptoSaid : Prop := cellManyUptoRow.holds Try.pinned (OpenSpec.upto cellManySpec)

/-- 'cachetlaw7.CellActs', WHERE WHAT IT READS IS OF BULK AT MOST 1048576: true; the input reads as it did. -/
def cellActsUptoRow : OpenClaim := { program := "ytnphceoogihpfaa", sum := "dc4abe6ce1fad131792557521ece50b500099d94fba0302813782f8b5fa33c65", func := "cachet/cachetlaw7.CellActs", spec := "cellActs", apart := false, narrowed := true }
def CellActsUptoSaid : Prop := cellActsUptoRow.holds Try.pinned (OpenSpec.upto cellActsSpec)

/-- 'cachetlaw7.CellEach', WHERE WHAT IT READS IS OF BULK AT MOST 1048576: true; the input reads as it did. -/
def cellEachUptoRow : OpenClaim := { program := "ytnphceoogihpfaa", sum := "dc4abe6ce1fad131792557521ece50b500099d94fba0302813782f8b5fa33c65", func := "cachet/cachetlaw7.CellEach", spec := "cellEach", inPlace := ["maps.clone"], apart := false, narrowed := true }
def CellEachUptoSaid : Prop := cellEachUptoRow.holds Try.pinned (OpenSpec.upto cellEachSpec)

end Rows
end Go.Proofs.Ytnphceoogihpfaa
