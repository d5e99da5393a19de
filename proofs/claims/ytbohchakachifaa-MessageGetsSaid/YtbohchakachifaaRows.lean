/-
  No cell of these rows narrows 'for every input' (looked for: loops, veiled, ifaces, maps, wideKeys, modest, calm, conditions, laid).
  DERIVED. THE GIVEN ROWS OF THIS SEAT. 12 by the template 'for every input the law returns true; each argument reads behind the call as it read before'; 0 by the template 'total and deterministic' (their statements: YtbohchakachifaaTotals.lean).
  GIVEN WITH THE SEED: the statements are not yours to turn. If you find one false, say at which input.
  Laid BY PROGRAM, IN A SANDBOX (cutbox-rows.mjs): the forced cells as the released guide's own fill.sh prints them over the translation 249db7d9c7df1701… (all of the seat's roots in one cut). By AI agents, Wed Nov 11 2026. No macro, syntax, notation, axiom, sorry.
-/
import Derived.Test.YtbohchakachifaaChecked
import GoSem.Claim
import GoSem.ClaimJoined
import GoSem.ClaimMapViews
import Derived.JoinedTies
import Derived.KernelRfl
namespace Go.Proofs.Ytbohchakachifaa
/- THE CELL 'sum', in the pinned program and in every row, IS THE sha256 OF THE DUMP (.gsa) THAT YtbohchakachifaaProg.lean LOADS. Nothing in Lean hashes anything: it is a label: what it is worth is what the hold of that sum in a sandbox is worth. -/
noncomputable def Try.pinned : Pinned := { name := "ytbohchakachifaa", sum := "249db7d9c7df1701e9d3b427cb1eeed2c3067125edd4d74ceadf0e3c8d0d57b7", checked := Try.checked }
namespace Rows
def none {H : Type} : Left H := { results := [], args := [] }

/-- 'cachetlaw4.MessagePuts': WHATEVER THE INPUT: true; the input reads as it did. -/
def messagePutsSpec : ChangeSpec := { name := "messagePuts", fn := fun _ => fun
  | [d] => { results := [.lit (.bool true)], args := [d] }
  | _ => none }
def messagePutsRow : OpenClaim := { program := "ytbohchakachifaa", sum := "249db7d9c7df1701e9d3b427cb1eeed2c3067125edd4d74ceadf0e3c8d0d57b7", func := "cachet/cachetlaw4.MessagePuts", spec := "messagePuts", inPlace := ["internal/abi.NoEscape"], unfollowed := true, recurses := true, apart := false }
def MessagePutsSaid : Prop := messagePutsRow.holds Try.pinned (OpenSpec.ofChange messagePutsSpec)

/-- ITS FALSE NEIGHBOUR: 'it returns false'. Refute it at one input. -/
def messagePutsWrong : ChangeSpec := { name := "messagePuts", fn := fun _ => fun
  | [d] => { results := [.lit (.bool false)], args := [d] }
  | _ => none }
def MessagePutsWrongFalsely : Prop := messagePutsRow.holds Try.pinned (OpenSpec.ofChange messagePutsWrong)

/-- 'cachetlaw4.MessageGets': WHATEVER THE INPUT: true; the input reads as it did. -/
def messageGetsSpec : ChangeSpec := { name := "messageGets", fn := fun _ => fun
  | [d] => { results := [.lit (.bool true)], args := [d] }
  | _ => none }
def messageGetsRow : OpenClaim := { program := "ytbohchakachifaa", sum := "249db7d9c7df1701e9d3b427cb1eeed2c3067125edd4d74ceadf0e3c8d0d57b7", func := "cachet/cachetlaw4.MessageGets", spec := "messageGets", inPlace := ["internal/abi.NoEscape"], unfollowed := true, recurses := true, apart := false }
def MessageGetsSaid : Prop := messageGetsRow.holds Try.pinned (OpenSpec.ofChange messageGetsSpec)

/-- ITS FALSE NEIGHBOUR: 'it returns false'. Refute it at one input. -/
def messageGetsWrong : ChangeSpec := { name := "messageGets", fn := fun _ => fun
  | [d] => { results := [.lit (.bool false)], args := [d] }
  | _ => none }
def MessageGetsWrongFalsely : Prop := messageGetsRow.holds Try.pinned (OpenSpec.ofChange messageGetsWrong)

/-- 'cachetlaw4.MessageBack': WHATEVER THE INPUT: true; the input reads as it did. -/
def messageBackSpec : ChangeSpec := { name := "messageBack", fn := fun _ => fun
  | [d1, d2] => { results := [.lit (.bool true)], args := [d1, d2] }
  | _ => none }
def messageBackRow : OpenClaim := { program := "ytbohchakachifaa", sum := "249db7d9c7df1701e9d3b427cb1eeed2c3067125edd4d74ceadf0e3c8d0d57b7", func := "cachet/cachetlaw4.MessageBack", spec := "messageBack", inPlace := ["internal/abi.NoEscape"], unfollowed := true, recurses := true, apart := false }
def MessageBackSaid : Prop := messageBackRow.holds Try.pinned (OpenSpec.ofChange messageBackSpec)

/-- ITS FALSE NEIGHBOUR: 'it returns false'. Refute it at one input. -/
def messageBackWrong : ChangeSpec := { name := "messageBack", fn := fun _ => fun
  | [d1, d2] => { results := [.lit (.bool false)], args := [d1, d2] }
  | _ => none }
def MessageBackWrongFalsely : Prop := messageBackRow.holds Try.pinned (OpenSpec.ofChange messageBackWrong)

/-- 'cachetlaw4.MessageKinds': WHATEVER THE INPUT: true; the input reads as it did. -/
def messageKindsSpec : ChangeSpec := { name := "messageKinds", fn := fun _ => fun
  | [d1, d2, d3] => { results := [.lit (.bool true)], args := [d1, d2, d3] }
  | _ => none }
def messageKindsRow : OpenClaim := { program := "ytbohchakachifaa", sum := "249db7d9c7df1701e9d3b427cb1eeed2c3067125edd4d74ceadf0e3c8d0d57b7", func := "cachet/cachetlaw4.MessageKinds", spec := "messageKinds", inPlace := ["internal/abi.NoEscape"], unfollowed := true, recurses := true, apart := false }
def MessageKindsSaid : Prop := messageKindsRow.holds Try.pinned (OpenSpec.ofChange messageKindsSpec)

/-- ITS FALSE NEIGHBOUR: 'it returns false'. Refute it at one input. -/
def messageKindsWrong : ChangeSpec := { name := "messageKinds", fn := fun _ => fun
  | [d1, d2, d3] => { results := [.lit (.bool false)], args := [d1, d2, d3] }
  | _ => none }
def MessageKindsWrongFalsely : Prop := messageKindsRow.holds Try.pinned (OpenSpec.ofChange messageKindsWrong)

/-- 'cachetlaw4.MessageCuts': WHATEVER THE INPUT: true; the input reads as it did. -/
def messageCutsSpec : ChangeSpec := { name := "messageCuts", fn := fun _ => fun
  | [d1, d2, d3] => { results := [.lit (.bool true)], args := [d1, d2, d3] }
  | _ => none }
def messageCutsRow : OpenClaim := { program := "ytbohchakachifaa", sum := "249db7d9c7df1701e9d3b427cb1eeed2c3067125edd4d74ceadf0e3c8d0d57b7", func := "cachet/cachetlaw4.MessageCuts", spec := "messageCuts", inPlace := ["internal/abi.NoEscape"], unfollowed := true, recurses := true, apart := false }
def MessageCutsSaid : Prop := messageCutsRow.holds Try.pinned (OpenSpec.ofChange messageCutsSpec)

/-- ITS FALSE NEIGHBOUR: 'it returns false'. Refute it at one input. -/
def messageCutsWrong : ChangeSpec := { name := "messageCuts", fn := fun _ => fun
  | [d1, d2, d3] => { results := [.lit (.bool false)], args := [d1, d2, d3] }
  | _ => none }
def MessageCutsWrongFalsely : Prop := messageCutsRow.holds Try.pinned (OpenSpec.ofChange messageCutsWrong)

/-- 'cachetlaw4.MessageLong': WHATEVER THE INPUT: true; the input reads as it did. -/
def messageLongSpec : ChangeSpec := { name := "messageLong", fn := fun _ => fun
  | [d] => { results := [.lit (.bool true)], args := [d] }
  | _ => none }
def messageLongRow : OpenClaim := { program := "ytbohchakachifaa", sum := "249db7d9c7df1701e9d3b427cb1eeed2c3067125edd4d74ceadf0e3c8d0d57b7", func := "cachet/cachetlaw4.MessageLong", spec := "messageLong", inPlace := ["internal/abi.NoEscape"], unfollowed := true, recurses := true, apart := false }
def MessageLongSaid : Prop := messageLongRow.holds Try.pinned (OpenSpec.ofChange messageLongSpec)

/-- ITS FALSE NEIGHBOUR: 'it returns false'. Refute it at one input. -/
def messageLongWrong : ChangeSpec := { name := "messageLong", fn := fun _ => fun
  | [d] => { results := [.lit (.bool false)], args := [d] }
  | _ => none }
def MessageLongWrongFalsely : Prop := messageLongRow.holds Try.pinned (OpenSpec.ofChange messageLongWrong)

/-- 'cachetlaw4.MessageLogs': WHATEVER THE INPUT: true; the input reads as it did. -/
def messageLogsSpec : ChangeSpec := { name := "messageLogs", fn := fun _ => fun
  | [d1, d2, d3] => { results := [.lit (.bool true)], args := [d1, d2, d3] }
  | _ => none }
def messageLogsRow : OpenClaim := { program := "ytbohchakachifaa", sum := "249db7d9c7df1701e9d3b427cb1eeed2c3067125edd4d74ceadf0e3c8d0d57b7", func := "cachet/cachetlaw4.MessageLogs", spec := "messageLogs", inPlace := ["internal/abi.NoEscape"], unfollowed := true, recurses := true, apart := false }
def MessageLogsSaid : Prop := messageLogsRow.holds Try.pinned (OpenSpec.ofChange messageLogsSpec)

/-- ITS FALSE NEIGHBOUR: 'it returns false'. Refute it at one input. -/
def messageLogsWrong : ChangeSpec := { name := "messageLogs", fn := fun _ => fun
  | [d1, d2, d3] => { results := [.lit (.bool false)], args := [d1, d2, d3] }
  | _ => none }
def MessageLogsWrongFalsely : Prop := messageLogsRow.holds Try.pinned (OpenSpec.ofChange messageLogsWrong)

/-- 'cachetlaw4.MessageEntries': WHATEVER THE INPUT: true; the input reads as it did. -/
def messageEntriesSpec : ChangeSpec := { name := "messageEntries", fn := fun _ => fun
  | [d1, d2] => { results := [.lit (.bool true)], args := [d1, d2] }
  | _ => none }
def messageEntriesRow : OpenClaim := { program := "ytbohchakachifaa", sum := "249db7d9c7df1701e9d3b427cb1eeed2c3067125edd4d74ceadf0e3c8d0d57b7", func := "cachet/cachetlaw4.MessageEntries", spec := "messageEntries", inPlace := ["internal/abi.NoEscape"], unfollowed := true, recurses := true, apart := false }
def MessageEntriesSaid : Prop := messageEntriesRow.holds Try.pinned (OpenSpec.ofChange messageEntriesSpec)

/-- ITS FALSE NEIGHBOUR: 'it returns false'. Refute it at one input. -/
def messageEntriesWrong : ChangeSpec := { name := "messageEntries", fn := fun _ => fun
  | [d1, d2] => { results := [.lit (.bool false)], args := [d1, d2] }
  | _ => none }
def MessageEntriesWrongFalsely : Prop := messageEntriesRow.holds Try.pinned (OpenSpec.ofChange messageEntriesWrong)

/-- 'cachetlaw8.LogCuts': WHATEVER THE INPUT: true; the input reads as it did. -/
def logCutsSpec : ChangeSpec := { name := "logCuts", fn := fun _ => fun
  | [d1, d2] => { results := [.lit (.bool true)], args := [d1, d2] }
  | _ => none }
def logCutsRow : OpenClaim := { program := "ytbohchakachifaa", sum := "249db7d9c7df1701e9d3b427cb1eeed2c3067125edd4d74ceadf0e3c8d0d57b7", func := "cachet/cachetlaw8.LogCuts", spec := "logCuts", inPlace := ["internal/abi.NoEscape"], unfollowed := true, recurses := true, apart := false }
def LogCutsSaid : Prop := logCutsRow.holds Try.pinned (OpenSpec.ofChange logCutsSpec)

/-- ITS FALSE NEIGHBOUR: 'it returns false'. Refute it at one input. -/
def logCutsWrong : ChangeSpec := { name := "logCuts", fn := fun _ => fun
  | [d1, d2] => { results := [.lit (.bool false)], args := [d1, d2] }
  | _ => none }
def LogCutsWrongFalsely : Prop := logCutsRow.holds Try.pinned (OpenSpec.ofChange logCutsWrong)

/-- 'cachetlaw8.LogLong': WHATEVER THE INPUT: true; the input reads as it did. -/
def logLongSpec : ChangeSpec := { name := "logLong", fn := fun _ => fun
  | [d] => { results := [.lit (.bool true)], args := [d] }
  | _ => none }
def logLongRow : OpenClaim := { program := "ytbohchakachifaa", sum := "249db7d9c7df1701e9d3b427cb1eeed2c3067125edd4d74ceadf0e3c8d0d57b7", func := "cachet/cachetlaw8.LogLong", spec := "logLong", inPlace := ["internal/abi.NoEscape"], unfollowed := true, recurses := true, apart := false }
def LogLongSaid : Prop := logLongRow.holds Try.pinned (OpenSpec.ofChange logLongSpec)

/-- ITS FALSE NEIGHBOUR: 'it returns false'. Refute it at one input. -/
def logLongWrong : ChangeSpec := { name := "logLong", fn := fun _ => fun
  | [d] => { results := [.lit (.bool false)], args := [d] }
  | _ => none }
def LogLongWrongFalsely : Prop := logLongRow.holds Try.pinned (OpenSpec.ofChange logLongWrong)

/-- 'cachetlaw8.LogForms': WHATEVER THE INPUT: true; the input reads as it did. -/
def logFormsSpec : ChangeSpec := { name := "logForms", fn := fun _ => fun
  | [d1, d2, d3, d4] => { results := [.lit (.bool true)], args := [d1, d2, d3, d4] }
  | _ => none }
def logFormsRow : OpenClaim := { program := "ytbohchakachifaa", sum := "249db7d9c7df1701e9d3b427cb1eeed2c3067125edd4d74ceadf0e3c8d0d57b7", func := "cachet/cachetlaw8.LogForms", spec := "logForms", inPlace := ["internal/abi.NoEscape"], unfollowed := true, recurses := true, apart := false }
def LogFormsSaid : Prop := logFormsRow.holds Try.pinned (OpenSpec.ofChange logFormsSpec)

/-- ITS FALSE NEIGHBOUR: 'it returns false'. Refute it at one input. -/
def logFormsWrong : ChangeSpec := { name := "logForms", fn := fun _ => fun
  | [d1, d2, d3, d4] => { results := [.lit (.bool false)], args := [d1, d2, d3, d4] }
  | _ => none }
def LogFormsWrongFalsely : Prop := logFormsRow.holds Try.pinned (OpenSpec.ofChange logFormsWrong)

/-- 'cachetlaw8.LogEach': WHATEVER THE INPUT: true; the input reads as it did. -/
def logEachSpec : ChangeSpec := { name := "logEach", fn := fun _ => fun
  | [d1, d2, d3] => { results := [.lit (.bool true)], args := [d1, d2, d3] }
  | _ => none }
def logEachRow : OpenClaim := { program := "ytbohchakachifaa", sum := "249db7d9c7df1701e9d3b427cb1eeed2c3067125edd4d74ceadf0e3c8d0d57b7", func := "cachet/cachetlaw8.LogEach", spec := "logEach", inPlace := ["internal/abi.NoEscape", "maps.clone"], unfollowed := true, recurses := true, apart := false }
def LogEachSaid : Prop := logEachRow.holds Try.pinned (OpenSpec.ofChange logEachSpec)

/-- ITS FALSE NEIGHBOUR: 'it returns false'. Refute it at one input. -/
def logEachWrong : ChangeSpec := { name := "logEach", fn := fun _ => fun
  | [d1, d2, d3] => { results := [.lit (.bool false)], args := [d1, d2, d3] }
  | _ => none }
def LogEachWrongFalsely : Prop := logEachRow.holds Try.pinned (OpenSpec.ofChange logEachWrong)

/- THE SECOND FORM. 'bulk': how many values and letters a reading holds, each counted each time it is reached (what is shared counts as often as it is met; a slice's spare places count too). A statement '..UptoSaid' is the law's where the arguments, and the package variables that the reading takes, are together of bulk at most 1048576: NARROWER than '..Said'. Prove '..Said' where nothing that the law and all that it calls make is longer than what came in: it says more and counts as full. Else prove '..UptoSaid'. A law counts once. -/
mutual
def uptoBulk {H : Type} : DataW H → Nat
  | .lit (.string bytes) => bytes.length + 1
  | .lit _ => 1
  | .nil => 1
  | .ptr d => uptoBulk d + 1
  | .slice elems spare => uptoBulkAll elems + uptoBulkAll spare + 1
  | .agg parts => uptoBulkAll parts + 1
  | .iface _ d => uptoBulk d + 1
  | .map entries => uptoBulkEntries entries + 1
  | .held _ => 1
def uptoBulkAll {H : Type} : List (DataW H) → Nat
  | [] => 0
  | d :: r => uptoBulk d + uptoBulkAll r
def uptoBulkEntries {H : Type} : List (Lit × DataW H) → Nat
  | [] => 0
  | x :: r => uptoBulkEntry x + uptoBulkEntries r
def uptoBulkEntry {H : Type} : Lit × DataW H → Nat
  | (.string bytes, d) => bytes.length + uptoBulk d + 1
  | (_, d) => uptoBulk d + 1
 end
def uptoSmall : (H : Type) → List (DataW H) → Bool := fun _ ds => decide (uptoBulkAll ds ≤ 1048576)
def OpenSpec.upto (s : _root_.Go.ChangeSpec) : _root_.Go.OpenSpec := { _root_.Go.OpenSpec.ofChange s with cond := some uptoSmall }

/-- 'cachetlaw4.MessagePuts', WHERE WHAT IT READS IS OF BULK AT MOST 1048576: true; the input reads as it did. -/
def messagePutsUptoRow : OpenClaim := { program := "ytbohchakachifaa", sum := "249db7d9c7df1701e9d3b427cb1eeed2c3067125edd4d74ceadf0e3c8d0d57b7", func := "cachet/cachetlaw4.MessagePuts", spec := "messagePuts", inPlace := ["internal/abi.NoEscape"], unfollowed := true, recurses := true, apart := false, narrowed := true }
def MessagePutsUptoSaid : Prop := messagePutsUptoRow.holds Try.pinned (OpenSpec.upto messagePutsSpec)

/-- 'cachetlaw4.MessageGets', WHERE WHAT IT READS IS OF BULK AT MOST 1048576: true; the input reads as it did. -/
def messageGetsUptoRow : OpenClaim := { program := "ytbohchakachifaa", sum := "249db7d9c7df1701e9d3b427cb1eeed2c3067125edd4d74ceadf0e3c8d0d57b7", func := "cachet/cachetlaw4.MessageGets", spec := "messageGets", inPlace := ["internal/abi.NoEscape"], unfollowed := true, recurses := true, apart := false, narrowed := true }
def MessageGetsUptoSaid : Prop := messageGetsUptoRow.holds Try.pinned (OpenSpec.upto messageGetsSpec)

/-- 'cachetlaw4.MessageBack', WHERE WHAT IT READS IS OF BULK AT MOST 1048576: true; the input reads as it did. -/
def messageBackUptoRow : OpenClaim := { program := "ytbohchakachifaa", sum := "249db7d9c7df1701e9d3b427cb1eeed2c3067125edd4d74ceadf0e3c8d0d57b7", func := "cachet/cachetlaw4.MessageBack", spec := "messageBack", inPlace := ["internal/abi.NoEscape"], unfollowed := true, recurses := true, apart := false, narrowed := true }
def MessageBackUptoSaid : Prop := messageBackUptoRow.holds Try.pinned (OpenSpec.upto messageBackSpec)

/-- 'cachetlaw4.MessageKinds', WHERE WHAT IT READS IS OF BULK AT MOST 1048576: true; the input reads as it did. -/
def messageKindsUptoRow : OpenClaim := { program := "ytbohchakachifaa", sum := "249db7d9c7df1701e9d3b427cb1eeed2c3067125edd4d74ceadf0e3c8d0d57b7", func := "cachet/cachetlaw4.MessageKinds", spec := "messageKinds", inPlace := ["internal/abi.NoEscape"], unfollowed := true, recurses := true, apart := false, narrowed := true }
def MessageKindsUptoSaid : Prop := messageKindsUptoRow.holds Try.pinned (OpenSpec.upto messageKindsSpec)

/-- 'cachetlaw4.MessageCuts', WHERE WHAT IT READS IS OF BULK AT MOST 1048576: true; the input reads as it did. -/
def messageCutsUptoRow : OpenClaim := { program := "ytbohchakachifaa", sum := "249db7d9c7df1701e9d3b427cb1eeed2c3067125edd4d74ceadf0e3c8d0d57b7", func := "cachet/cachetlaw4.MessageCuts", spec := "messageCuts", inPlace := ["internal/abi.NoEscape"], unfollowed := true, recurses := true, apart := false, narrowed := true }
def MessageCutsUptoSaid : Prop := messageCutsUptoRow.holds Try.pinned (OpenSpec.upto messageCutsSpec)

/-- 'cachetlaw4.MessageLong', WHERE WHAT IT READS IS OF BULK AT MOST 1048576: true; the input reads as it did. -/
def messageLongUptoRow : OpenClaim := { program := "ytbohchakachifaa", sum := "249db7d9c7df1701e9d3b427cb1eeed2c3067125edd4d74ceadf0e3c8d0d57b7", func := "cachet/cachetlaw4.MessageLong", spec := "messageLong", inPlace := ["internal/abi.NoEscape"], unfollowed := true, recurses := true, apart := false, narrowed := true }
def MessageLongUptoSaid : Prop := messageLongUptoRow.holds Try.pinned (OpenSpec.upto messageLongSpec)

/-- 'cachetlaw4.MessageLogs', WHERE WHAT IT READS IS OF BULK AT MOST 1048576: true; the input reads as it did. -/
def messageLogsUptoRow : OpenClaim := { program := "ytbohchakachifaa", sum := "249db7d9c7df1701e9d3b427cb1eeed2c3067125edd4d74ceadf0e3c8d0d57b7", func := "cachet/cachetlaw4.MessageLogs", spec := "messageLogs", inPlace := ["internal/abi.NoEscape"], unfollowed := true, recurses := true, apart := false, narrowed := true }
def MessageLogsUptoSaid : Prop := messageLogsUptoRow.holds Try.pinned (OpenSpec.upto messageLogsSpec)

/-- 'cachetlaw4.MessageEntries', WHERE WHAT IT READS IS OF BULK AT MOST 1048576: true; the input reads as it did. -/
def messageEntriesUptoRow : OpenClaim := { program := "ytbohchakachifaa", sum := "249db7d9c7df1701e9d3b427cb1eeed2c3067125edd4d74ceadf0e3c8d0d57b7", func := "cachet/cachetlaw4.MessageEntries", spec := "messageEntries", inPlace := ["internal/abi.NoEscape"], unfollowed := true, recurses := true, apart := false, narrowed := true }
def MessageEntriesUptoSaid : Prop := messageEntriesUptoRow.holds Try.pinned (OpenSpec.upto messageEntriesSpec)

/-- 'cachetlaw8.LogCuts', WHERE WHAT IT READS IS OF BULK AT MOST 1048576: true; the input reads as it did. -/
def logCutsUptoRow : OpenClaim := { program := "ytbohchakachifaa", sum := "249db7d9c7df1701e9d3b427cb1eeed2c3067125edd4d74ceadf0e3c8d0d57b7", func := "cachet/cachetlaw8.LogCuts", spec := "logCuts", inPlace := ["internal/abi.NoEscape"], unfollowed := true, recurses := true, apart := false, narrowed := true }
def LogCutsUptoSaid : Prop := logCutsUptoRow.holds Try.pinned (OpenSpec.upto logCutsSpec)

/-- 'cachetlaw8.LogLong', WHERE WHAT IT READS IS OF BULK AT MOST 1048576: true; the input reads as it did. -/
def logLongUptoRow : OpenClaim := { program := "ytbohchakachifaa", sum := "249db7d9c7df1701e9d3b427cb1eeed2c3067125edd4d74ceadf0e3c8d0d57b7", func := "cachet/cachetlaw8.LogLong", spec := "logLong", inPlace := ["internal/abi.NoEscape"], unfollowed := true, recurses := true, apart := false, narrowed := true }
def LogLongUptoSaid : Prop := logLongUptoRow.holds Try.pinned (OpenSpec.upto logLongSpec)

/-- 'cachetlaw8.LogForms', WHERE WHAT IT READS IS OF BULK AT MOST 1048576: true; the input reads as it did. -/
def logFormsUptoRow : OpenClaim := { program := "ytbohchakachifaa", sum := "249db7d9c7df1701e9d3b427cb1eeed2c3067125edd4d74ceadf0e3c8d0d57b7", func := "cachet/cachetlaw8.LogForms", spec := "logForms", inPlace := ["internal/abi.NoEscape"], unfollowed := true, recurses := true, apart := false, narrowed := true }
def LogFormsUptoSaid : Prop := logFormsUptoRow.holds Try.pinned (OpenSpec.upto logFormsSpec)

/-- 'cachetlaw8.LogEach', WHERE WHAT IT READS IS OF BULK AT MOST 1048576: true; the input reads as it did. -/
def logEachUptoRow : OpenClaim := { program := "ytbohchakachifaa", sum := "249db7d9c7df1701e9d3b427cb1eeed2c3067125edd4d74ceadf0e3c8d0d57b7", func := "cachet/cachetlaw8.LogEach", spec := "logEach", inPlace := ["internal/abi.NoEscape", "maps.clone"], unfollowed := true, recurses := true, apart := false, narrowed := true }
def LogEachUptoSaid : Prop := logEachUptoRow.holds Try.pinned (OpenSpec.upto logEachSpec)

end Rows
end Go.Proofs.Ytbohchakachifaa
