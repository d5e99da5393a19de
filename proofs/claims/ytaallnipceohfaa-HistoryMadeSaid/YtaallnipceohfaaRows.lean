/-
  No cell of these rows narrows 'for every input' (looked for: loops, veiled, ifaces, maps, wideKeys, modest, calm, conditions, laid).
  DERIVED. THE GIVEN ROWS OF THIS SEAT. 7 by the template 'for every input the law returns true; each argument reads behind the call as it read before'; 0 by the template 'total and deterministic' (their statements: YtaallnipceohfaaTotals.lean).
  GIVEN WITH THE SEED: the statements are not yours to turn. If you find one false, say at which input.
  Laid BY PROGRAM, IN A SANDBOX (cutbox-rows.mjs): the forced cells as the released guide's own fill.sh prints them over the translation c0fcb3c6f23378da… (all of the seat's roots in one cut). By AI agents, Wed Nov 11 2026. No macro, syntax, notation, axiom, sorry.
-/
import Derived.Test.YtaallnipceohfaaChecked
import GoSem.Claim
import GoSem.ClaimJoined
import GoSem.ClaimMapViews
import Derived.JoinedTies
import Derived.KernelRfl
namespace Go.Proofs.Ytaallnipceohfaa
/- THE CELL 'sum', in the pinned program and in every row, IS THE sha256 OF THE DUMP (.gsa) THAT YtaallnipceohfaaProg.lean LOADS. Nothing in Lean hashes anything: it is a label: what it is worth is what the hold of that sum in a sandbox is worth. -/
noncomputable def Try.pinned : Pinned := { name := "ytaallnipceohfaa", sum := "c0fcb3c6f23378dae4e51591303e0d001ef9dc22c5f157e61031b064b6b4d1b0", checked := Try.checked }
namespace Rows
def none {H : Type} : Left H := { results := [], args := [] }

/-- 'cachetlaw24.HistoryLegals': WHATEVER THE INPUT: true; the input reads as it did. -/
def historyLegalsSpec : ChangeSpec := { name := "historyLegals", fn := fun _ => fun
  | [d] => { results := [.lit (.bool true)], args := [d] }
  | _ => none }
def historyLegalsRow : OpenClaim := { program := "ytaallnipceohfaa", sum := "c0fcb3c6f23378dae4e51591303e0d001ef9dc22c5f157e61031b064b6b4d1b0", func := "cachet/cachetlaw24.HistoryLegals", spec := "historyLegals", recurses := true, plainKeys := false, apart := false }
def HistoryLegalsSaid : Prop := historyLegalsRow.holds Try.pinned (OpenSpec.ofChange historyLegalsSpec)

/-- ITS FALSE NEIGHBOUR: 'it returns false'. Refute it at one input. -/
def historyLegalsWrong : ChangeSpec := { name := "historyLegals", fn := fun _ => fun
  | [d] => { results := [.lit (.bool false)], args := [d] }
  | _ => none }
def HistoryLegalsWrongFalsely : Prop := historyLegalsRow.holds Try.pinned (OpenSpec.ofChange historyLegalsWrong)

/-- 'cachetlaw24.HistoryMade': WHATEVER THE INPUT: true; the input reads as it did. -/
def historyMadeSpec : ChangeSpec := { name := "historyMade", fn := fun _ => fun
  | [d] => { results := [.lit (.bool true)], args := [d] }
  | _ => none }
def historyMadeRow : OpenClaim := { program := "ytaallnipceohfaa", sum := "c0fcb3c6f23378dae4e51591303e0d001ef9dc22c5f157e61031b064b6b4d1b0", func := "cachet/cachetlaw24.HistoryMade", spec := "historyMade", recurses := true, plainKeys := false, apart := false }
def HistoryMadeSaid : Prop := historyMadeRow.holds Try.pinned (OpenSpec.ofChange historyMadeSpec)

/-- ITS FALSE NEIGHBOUR: 'it returns false'. Refute it at one input. -/
def historyMadeWrong : ChangeSpec := { name := "historyMade", fn := fun _ => fun
  | [d] => { results := [.lit (.bool false)], args := [d] }
  | _ => none }
def HistoryMadeWrongFalsely : Prop := historyMadeRow.holds Try.pinned (OpenSpec.ofChange historyMadeWrong)

/-- 'cachetlaw24.HistoryStale': WHATEVER THE INPUT: true; the input reads as it did. -/
def historyStaleSpec : ChangeSpec := { name := "historyStale", fn := fun _ => fun
  | [d1, d2, d3] => { results := [.lit (.bool true)], args := [d1, d2, d3] }
  | _ => none }
def historyStaleRow : OpenClaim := { program := "ytaallnipceohfaa", sum := "c0fcb3c6f23378dae4e51591303e0d001ef9dc22c5f157e61031b064b6b4d1b0", func := "cachet/cachetlaw24.HistoryStale", spec := "historyStale", recurses := true, plainKeys := false, apart := false }
def HistoryStaleSaid : Prop := historyStaleRow.holds Try.pinned (OpenSpec.ofChange historyStaleSpec)

/-- ITS FALSE NEIGHBOUR: 'it returns false'. Refute it at one input. -/
def historyStaleWrong : ChangeSpec := { name := "historyStale", fn := fun _ => fun
  | [d1, d2, d3] => { results := [.lit (.bool false)], args := [d1, d2, d3] }
  | _ => none }
def HistoryStaleWrongFalsely : Prop := historyStaleRow.holds Try.pinned (OpenSpec.ofChange historyStaleWrong)

/-- 'cachetlaw24.HistoryBack': WHATEVER THE INPUT: true; the input reads as it did. -/
def historyBackSpec : ChangeSpec := { name := "historyBack", fn := fun _ => fun
  | [d1, d2, d3] => { results := [.lit (.bool true)], args := [d1, d2, d3] }
  | _ => none }
def historyBackRow : OpenClaim := { program := "ytaallnipceohfaa", sum := "c0fcb3c6f23378dae4e51591303e0d001ef9dc22c5f157e61031b064b6b4d1b0", func := "cachet/cachetlaw24.HistoryBack", spec := "historyBack", recurses := true, plainKeys := false, apart := false }
def HistoryBackSaid : Prop := historyBackRow.holds Try.pinned (OpenSpec.ofChange historyBackSpec)

/-- ITS FALSE NEIGHBOUR: 'it returns false'. Refute it at one input. -/
def historyBackWrong : ChangeSpec := { name := "historyBack", fn := fun _ => fun
  | [d1, d2, d3] => { results := [.lit (.bool false)], args := [d1, d2, d3] }
  | _ => none }
def HistoryBackWrongFalsely : Prop := historyBackRow.holds Try.pinned (OpenSpec.ofChange historyBackWrong)

/-- 'cachetlaw24.HistoryOpen': WHATEVER THE INPUT: true; the input reads as it did. -/
def historyOpenSpec : ChangeSpec := { name := "historyOpen", fn := fun _ => fun
  | [d1, d2] => { results := [.lit (.bool true)], args := [d1, d2] }
  | _ => none }
def historyOpenRow : OpenClaim := { program := "ytaallnipceohfaa", sum := "c0fcb3c6f23378dae4e51591303e0d001ef9dc22c5f157e61031b064b6b4d1b0", func := "cachet/cachetlaw24.HistoryOpen", spec := "historyOpen", recurses := true, plainKeys := false, apart := false }
def HistoryOpenSaid : Prop := historyOpenRow.holds Try.pinned (OpenSpec.ofChange historyOpenSpec)

/-- ITS FALSE NEIGHBOUR: 'it returns false'. Refute it at one input. -/
def historyOpenWrong : ChangeSpec := { name := "historyOpen", fn := fun _ => fun
  | [d1, d2] => { results := [.lit (.bool false)], args := [d1, d2] }
  | _ => none }
def HistoryOpenWrongFalsely : Prop := historyOpenRow.holds Try.pinned (OpenSpec.ofChange historyOpenWrong)

/-- 'cachetlaw24.HistoryLong': WHATEVER THE INPUT: true; the input reads as it did. -/
def historyLongSpec : ChangeSpec := { name := "historyLong", fn := fun _ => fun
  | [d] => { results := [.lit (.bool true)], args := [d] }
  | _ => none }
def historyLongRow : OpenClaim := { program := "ytaallnipceohfaa", sum := "c0fcb3c6f23378dae4e51591303e0d001ef9dc22c5f157e61031b064b6b4d1b0", func := "cachet/cachetlaw24.HistoryLong", spec := "historyLong", recurses := true, plainKeys := false, apart := false }
def HistoryLongSaid : Prop := historyLongRow.holds Try.pinned (OpenSpec.ofChange historyLongSpec)

/-- ITS FALSE NEIGHBOUR: 'it returns false'. Refute it at one input. -/
def historyLongWrong : ChangeSpec := { name := "historyLong", fn := fun _ => fun
  | [d] => { results := [.lit (.bool false)], args := [d] }
  | _ => none }
def HistoryLongWrongFalsely : Prop := historyLongRow.holds Try.pinned (OpenSpec.ofChange historyLongWrong)

/-- 'cachetlaw24.HistoryApart': WHATEVER THE INPUT: true; the input reads as it did. -/
def historyApartSpec : ChangeSpec := { name := "historyApart", fn := fun _ => fun
  | [d1, d2] => { results := [.lit (.bool true)], args := [d1, d2] }
  | _ => none }
def historyApartRow : OpenClaim := { program := "ytaallnipceohfaa", sum := "c0fcb3c6f23378dae4e51591303e0d001ef9dc22c5f157e61031b064b6b4d1b0", func := "cachet/cachetlaw24.HistoryApart", spec := "historyApart", recurses := true, plainKeys := false, apart := false }
def HistoryApartSaid : Prop := historyApartRow.holds Try.pinned (OpenSpec.ofChange historyApartSpec)

/-- ITS FALSE NEIGHBOUR: 'it returns false'. Refute it at one input. -/
def historyApartWrong : ChangeSpec := { name := "historyApart", fn := fun _ => fun
  | [d1, d2] => { results := [.lit (.bool false)], args := [d1, d2] }
  | _ => none }
def HistoryApartWrongFalsely : Prop := historyApartRow.holds Try.pinned (OpenSpec.ofChange historyApartWrong)

/- THE SECOND FORM. 'bulk': how many values and letters a reading holds, each counted each time it is reached (what is shared counts as often as it is met; a slice's spare places count too). A statement '..UptoSaid' is the law's where the arguments, and the package variables that the reading takes, are together of bulk at most 1048576: NARROWER than '..Said'. Prove '..Said' where nothing that the law and all that it calls make is longer than what came in: it says more and counts as full. Else prove '..UptoSaid'. A law counts once. -/
mutual
def uptoBulk {H : Type} : DataW H → Nat
  | .lit (.string bytes) => bytes.length + 1
  | .lit _ => 1
  | .nil => 1
  | .ptr d => uptoBulk d + 1
  | .slice elems spare => uptoBulkAll elems + uptoBulkAll spare + 1
  | .agg parts => uptoBulkAll parts + 1
  | .iface _ d => uptoBulk d + 1
  | .map entries => uptoBulkEntries entries + 1
  | .held _ => 1
def uptoBulkAll {H : Type} : List (DataW H) → Nat
  | [] => 0
  | d :: r => uptoBulk d + uptoBulkAll r
def uptoBulkEntries {H : Type} : List (Lit × DataW H) → Nat
  | [] => 0
  | x :: r => uptoBulkEntry x + uptoBulkEntries r
def uptoBulkEntry {H : Type} : Lit × DataW H → Nat
  | (.string bytes, d) => bytes.length + uptoBulk d + 1
  | (_, d) => uptoBulk d + 1
 end
def uptoSmall : (H : Type) → List (DataW H) → Bool := fun _ ds => decide (uptoBulkAll ds ≤ 1048576)
def OpenSpec.upto (s : _root_.Go.ChangeSpec) : _root_.Go.OpenSpec := { _root_.Go.OpenSpec.ofChange s with cond := some uptoSmall }

/-- 'cachetlaw24.HistoryLegals', WHERE WHAT IT READS IS OF BULK AT MOST 1048576: true; the input reads as it did. -/
def historyLegalsUptoRow : OpenClaim := { program := "ytaallnipceohfaa", sum := "c0fcb3c6f23378dae4e51591303e0d001ef9dc22c5f157e61031b064b6b4d1b0", func := "cachet/cachetlaw24.HistoryLegals", spec := "historyLegals", recurses := true, plainKeys := false, apart := false, narrowed := true }
def HistoryLegalsUptoSaid : Prop := historyLegalsUptoRow.holds Try.pinned (OpenSpec.upto historyLegalsSpec)

/-- 'cachetlaw24.HistoryMade', WHERE WHAT IT READS IS OF BULK AT MOST 1048576: true; the input reads as it did. -/
def historyMadeUptoRow : OpenClaim := { program := "ytaallnipceohfaa", sum := "c0fcb3c6f23378dae4e51591303e0d001ef9dc22c5f157e61031b064b6b4d1b0", func := "cachet/cachetlaw24.HistoryMade", spec := "historyMade", recurses := true, plainKeys := false, apart := false, narrowed := true }
def HistoryMadeUptoSaid : Prop := historyMadeUptoRow.holds Try.pinned (OpenSpec.upto historyMadeSpec)

/-- 'cachetlaw24.HistoryStale', WHERE WHAT IT READS IS OF BULK AT MOST 1048576: true; the input reads as it did. -/
def historyStaleUptoRow : OpenClaim := { program := "ytaallnipceohfaa", sum := "c0fcb3c6f23378dae4e51591303e0d001ef9dc22c5f157e61031b064b6b4d1b0", func := "cachet/cachetlaw24.HistoryStale", spec := "historyStale", recurses := true, plainKeys := false, apart := false, narrowed := true }
def HistoryStaleUptoSaid : Prop := historyStaleUptoRow.holds Try.pinned (OpenSpec.upto historyStaleSpec)

/-- 'cachetlaw24.HistoryBack', WHERE WHAT IT READS IS OF BULK AT MOST 1048576: true; the input reads as it did. -/
def historyBackUptoRow : OpenClaim := { program := "ytaallnipceohfaa", sum := "c0fcb3c6f23378dae4e51591303e0d001ef9dc22c5f157e61031b064b6b4d1b0", func := "cachet/cachetlaw24.HistoryBack", spec := "historyBack", recurses := true, plainKeys := false, apart := false, narrowed := true }
def HistoryBackUptoSaid : Prop := historyBackUptoRow.holds Try.pinned (OpenSpec.upto historyBackSpec)

/-- 'cachetlaw24.HistoryOpen', WHERE WHAT IT READS IS OF BULK AT MOST 1048576: true; the input reads as it did. -/
def historyOpenUptoRow : OpenClaim := { program := "ytaallnipceohfaa", sum := "c0fcb3c6f23378dae4e51591303e0d001ef9dc22c5f157e61031b064b6b4d1b0", func := "cachet/cachetlaw24.HistoryOpen", spec := "historyOpen", recurses := true, plainKeys := false, apart := false, narrowed := true }
def HistoryOpenUptoSaid : Prop := historyOpenUptoRow.holds Try.pinned (OpenSpec.upto historyOpenSpec)

/-- 'cachetlaw24.HistoryLong', WHERE WHAT IT READS IS OF BULK AT MOST 1048576: true; the input reads as it did. -/
def historyLongUptoRow : OpenClaim := { program := "ytaallnipceohfaa", sum := "c0fcb3c6f23378dae4e51591303e0d001ef9dc22c5f157e61031b064b6b4d1b0", func := "cachet/cachetlaw24.HistoryLong", spec := "historyLong", recurses := true, plainKeys := false, apart := false, narrowed := true }
def HistoryLongUptoSaid : Prop := historyLongUptoRow.holds Try.pinned (OpenSpec.upto historyLongSpec)

/-- 'cachetlaw24.HistoryApart', WHERE WHAT IT READS IS OF BULK AT MOST 1048576: true; the input reads as it did. -/
def historyApartUptoRow : OpenClaim := { program := "ytaallnipceohfaa", sum := "c0fcb3c6f23378dae4e51591303e0d001ef9dc22c5f157e61031b064b6b4d1b0", func := "cachet/cachetlaw24.HistoryApart", spec := "historyApart", recurses := true, plainKeys := false, apart := false, narrowed := true }
def HistoryApartUptoSaid : Prop := historyApartUptoRow.holds Try.pinned (OpenSpec.upto historyApartSpec)

end Rows
end Go.Proofs.Ytaallnipceohfaa
