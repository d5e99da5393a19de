/-
  No cell of these rows narrows 'for every input' (looked for: loops, veiled, ifaces, maps, wideKeys, modest, calm, conditions, laid).
  DERIVED. THE GIVEN ROWS OF THIS SEAT. 10 by the template 'for every input the law returns true; each argument reads behind the call as it read before'; 0 by the template 'total and deterministic' (their statements: YtgadmgkhepecmaaTotals.lean).
  GIVEN WITH THE SEED: the statements are not yours to turn. If you find one false, say at which input.
  Laid BY PROGRAM, IN A SANDBOX (cutbox-rows.mjs): the forced cells as the released guide's own fill.sh prints them over the translation 769d4339e4d2355c… (all of the seat's roots in one cut). By AI agents, Wed Nov 11 2026. No macro, syntax, notation, axiom, sorry.
-/
import Derived.Test.YtgadmgkhepecmaaChecked
import GoSem.Claim
import GoSem.ClaimJoined
import GoSem.ClaimMapViews
import Derived.JoinedTies
import Derived.KernelRfl
namespace Go.Proofs.Ytgadmgkhepecmaa
/- THE CELL 'sum', in the pinned program and in every row, IS THE sha256 OF THE DUMP (.gsa) THAT YtgadmgkhepecmaaProg.lean LOADS. Nothing in Lean hashes anything: it is a label: what it is worth is what the hold of that sum in a sandbox is worth. -/
noncomputable def Try.pinned : Pinned := { name := "ytgadmgkhepecmaa", sum := "769d4339e4d2355cc87910e40980f298cbd2dfeafd544e822cf02da854f20892", checked := Try.checked }
namespace Rows
def none {H : Type} : Left H := { results := [], args := [] }

/-- 'cachetlaw5.BagActs': WHATEVER THE INPUT: true; the input reads as it did. -/
def bagActsSpec : ChangeSpec := { name := "bagActs", fn := fun _ => fun
  | [d] => { results := [.lit (.bool true)], args := [d] }
  | _ => none }
def bagActsRow : OpenClaim := { program := "ytgadmgkhepecmaa", sum := "769d4339e4d2355cc87910e40980f298cbd2dfeafd544e822cf02da854f20892", func := "cachet/cachetlaw5.BagActs", spec := "bagActs", plainKeys := false, apart := false }
def BagActsSaid : Prop := bagActsRow.holds Try.pinned (OpenSpec.ofChange bagActsSpec)

/-- ITS FALSE NEIGHBOUR: 'it returns false'. Refute it at one input. -/
def bagActsWrong : ChangeSpec := { name := "bagActs", fn := fun _ => fun
  | [d] => { results := [.lit (.bool false)], args := [d] }
  | _ => none }
def BagActsWrongFalsely : Prop := bagActsRow.holds Try.pinned (OpenSpec.ofChange bagActsWrong)

/-- 'cachetlaw24.HistoryLegals': WHATEVER THE INPUT: true; the input reads as it did. -/
def historyLegalsSpec : ChangeSpec := { name := "historyLegals", fn := fun _ => fun
  | [d] => { results := [.lit (.bool true)], args := [d] }
  | _ => none }
def historyLegalsRow : OpenClaim := { program := "ytgadmgkhepecmaa", sum := "769d4339e4d2355cc87910e40980f298cbd2dfeafd544e822cf02da854f20892", func := "cachet/cachetlaw24.HistoryLegals", spec := "historyLegals", recurses := true, plainKeys := false, apart := false }
def HistoryLegalsSaid : Prop := historyLegalsRow.holds Try.pinned (OpenSpec.ofChange historyLegalsSpec)

/-- ITS FALSE NEIGHBOUR: 'it returns false'. Refute it at one input. -/
def historyLegalsWrong : ChangeSpec := { name := "historyLegals", fn := fun _ => fun
  | [d] => { results := [.lit (.bool false)], args := [d] }
  | _ => none }
def HistoryLegalsWrongFalsely : Prop := historyLegalsRow.holds Try.pinned (OpenSpec.ofChange historyLegalsWrong)

/-- 'cachetlaw16.ChooseLogs': WHATEVER THE INPUT: true; the input reads as it did. -/
def chooseLogsSpec : ChangeSpec := { name := "chooseLogs", fn := fun _ => fun
  | [d1, d2, d3] => { results := [.lit (.bool true)], args := [d1, d2, d3] }
  | _ => none }
def chooseLogsRow : OpenClaim := { program := "ytgadmgkhepecmaa", sum := "769d4339e4d2355cc87910e40980f298cbd2dfeafd544e822cf02da854f20892", func := "cachet/cachetlaw16.ChooseLogs", spec := "chooseLogs", unfollowed := true, recurses := true, plainKeys := false, apart := false }
def ChooseLogsSaid : Prop := chooseLogsRow.holds Try.pinned (OpenSpec.ofChange chooseLogsSpec)

/-- ITS FALSE NEIGHBOUR: 'it returns false'. Refute it at one input. -/
def chooseLogsWrong : ChangeSpec := { name := "chooseLogs", fn := fun _ => fun
  | [d1, d2, d3] => { results := [.lit (.bool false)], args := [d1, d2, d3] }
  | _ => none }
def ChooseLogsWrongFalsely : Prop := chooseLogsRow.holds Try.pinned (OpenSpec.ofChange chooseLogsWrong)

/-- 'cachetlaw16.ChooseVotes': WHATEVER THE INPUT: true; the input reads as it did. -/
def chooseVotesSpec : ChangeSpec := { name := "chooseVotes", fn := fun _ => fun
  | [d] => { results := [.lit (.bool true)], args := [d] }
  | _ => none }
def chooseVotesRow : OpenClaim := { program := "ytgadmgkhepecmaa", sum := "769d4339e4d2355cc87910e40980f298cbd2dfeafd544e822cf02da854f20892", func := "cachet/cachetlaw16.ChooseVotes", spec := "chooseVotes", unfollowed := true, recurses := true, plainKeys := false, apart := false }
def ChooseVotesSaid : Prop := chooseVotesRow.holds Try.pinned (OpenSpec.ofChange chooseVotesSpec)

/-- ITS FALSE NEIGHBOUR: 'it returns false'. Refute it at one input. -/
def chooseVotesWrong : ChangeSpec := { name := "chooseVotes", fn := fun _ => fun
  | [d] => { results := [.lit (.bool false)], args := [d] }
  | _ => none }
def ChooseVotesWrongFalsely : Prop := chooseVotesRow.holds Try.pinned (OpenSpec.ofChange chooseVotesWrong)

/-- 'cachetlaw20.RepairAsks': WHATEVER THE INPUT: true; the input reads as it did. -/
def repairAsksSpec : ChangeSpec := { name := "repairAsks", fn := fun _ => fun
  | [d1, d2, d3, d4, d5] => { results := [.lit (.bool true)], args := [d1, d2, d3, d4, d5] }
  | _ => none }
def repairAsksRow : OpenClaim := { program := "ytgadmgkhepecmaa", sum := "769d4339e4d2355cc87910e40980f298cbd2dfeafd544e822cf02da854f20892", func := "cachet/cachetlaw20.RepairAsks", spec := "repairAsks", unfollowed := true, recurses := true, plainKeys := false, apart := false }
def RepairAsksSaid : Prop := repairAsksRow.holds Try.pinned (OpenSpec.ofChange repairAsksSpec)

/-- ITS FALSE NEIGHBOUR: 'it returns false'. Refute it at one input. -/
def repairAsksWrong : ChangeSpec := { name := "repairAsks", fn := fun _ => fun
  | [d1, d2, d3, d4, d5] => { results := [.lit (.bool false)], args := [d1, d2, d3, d4, d5] }
  | _ => none }
def RepairAsksWrongFalsely : Prop := repairAsksRow.holds Try.pinned (OpenSpec.ofChange repairAsksWrong)

/-- 'cachetlaw20.RepairServes': WHATEVER THE INPUT: true; the input reads as it did. -/
def repairServesSpec : ChangeSpec := { name := "repairServes", fn := fun _ => fun
  | [d1, d2, d3, d4] => { results := [.lit (.bool true)], args := [d1, d2, d3, d4] }
  | _ => none }
def repairServesRow : OpenClaim := { program := "ytgadmgkhepecmaa", sum := "769d4339e4d2355cc87910e40980f298cbd2dfeafd544e822cf02da854f20892", func := "cachet/cachetlaw20.RepairServes", spec := "repairServes", unfollowed := true, recurses := true, plainKeys := false, apart := false }
def RepairServesSaid : Prop := repairServesRow.holds Try.pinned (OpenSpec.ofChange repairServesSpec)

/-- ITS FALSE NEIGHBOUR: 'it returns false'. Refute it at one input. -/
def repairServesWrong : ChangeSpec := { name := "repairServes", fn := fun _ => fun
  | [d1, d2, d3, d4] => { results := [.lit (.bool false)], args := [d1, d2, d3, d4] }
  | _ => none }
def RepairServesWrongFalsely : Prop := repairServesRow.holds Try.pinned (OpenSpec.ofChange repairServesWrong)

/-- 'cachetlaw25.CheckLogs': WHATEVER THE INPUT: true; the input reads as it did. -/
def checkLogsSpec : ChangeSpec := { name := "checkLogs", fn := fun _ => fun
  | [d1, d2] => { results := [.lit (.bool true)], args := [d1, d2] }
  | _ => none }
def checkLogsRow : OpenClaim := { program := "ytgadmgkhepecmaa", sum := "769d4339e4d2355cc87910e40980f298cbd2dfeafd544e822cf02da854f20892", func := "cachet/cachetlaw25.CheckLogs", spec := "checkLogs", unfollowed := true, recurses := true, plainKeys := false, apart := false }
def CheckLogsSaid : Prop := checkLogsRow.holds Try.pinned (OpenSpec.ofChange checkLogsSpec)

/-- ITS FALSE NEIGHBOUR: 'it returns false'. Refute it at one input. -/
def checkLogsWrong : ChangeSpec := { name := "checkLogs", fn := fun _ => fun
  | [d1, d2] => { results := [.lit (.bool false)], args := [d1, d2] }
  | _ => none }
def CheckLogsWrongFalsely : Prop := checkLogsRow.holds Try.pinned (OpenSpec.ofChange checkLogsWrong)

/-- 'cachetlaw25.CheckFiles': WHATEVER THE INPUT: true; the input reads as it did. -/
def checkFilesSpec : ChangeSpec := { name := "checkFiles", fn := fun _ => fun
  | [d] => { results := [.lit (.bool true)], args := [d] }
  | _ => none }
def checkFilesRow : OpenClaim := { program := "ytgadmgkhepecmaa", sum := "769d4339e4d2355cc87910e40980f298cbd2dfeafd544e822cf02da854f20892", func := "cachet/cachetlaw25.CheckFiles", spec := "checkFiles", unfollowed := true, recurses := true, plainKeys := false, apart := false }
def CheckFilesSaid : Prop := checkFilesRow.holds Try.pinned (OpenSpec.ofChange checkFilesSpec)

/-- ITS FALSE NEIGHBOUR: 'it returns false'. Refute it at one input. -/
def checkFilesWrong : ChangeSpec := { name := "checkFiles", fn := fun _ => fun
  | [d] => { results := [.lit (.bool false)], args := [d] }
  | _ => none }
def CheckFilesWrongFalsely : Prop := checkFilesRow.holds Try.pinned (OpenSpec.ofChange checkFilesWrong)

/-- 'cachetlaw25.CheckNodes': WHATEVER THE INPUT: true; the input reads as it did. -/
def checkNodesSpec : ChangeSpec := { name := "checkNodes", fn := fun _ => fun
  | [d1, d2, d3] => { results := [.lit (.bool true)], args := [d1, d2, d3] }
  | _ => none }
def checkNodesRow : OpenClaim := { program := "ytgadmgkhepecmaa", sum := "769d4339e4d2355cc87910e40980f298cbd2dfeafd544e822cf02da854f20892", func := "cachet/cachetlaw25.CheckNodes", spec := "checkNodes", unfollowed := true, recurses := true, plainKeys := false, apart := false }
def CheckNodesSaid : Prop := checkNodesRow.holds Try.pinned (OpenSpec.ofChange checkNodesSpec)

/-- ITS FALSE NEIGHBOUR: 'it returns false'. Refute it at one input. -/
def checkNodesWrong : ChangeSpec := { name := "checkNodes", fn := fun _ => fun
  | [d1, d2, d3] => { results := [.lit (.bool false)], args := [d1, d2, d3] }
  | _ => none }
def CheckNodesWrongFalsely : Prop := checkNodesRow.holds Try.pinned (OpenSpec.ofChange checkNodesWrong)

/-- 'cachetlaw25.CheckNone': WHATEVER THE INPUT: true; the input reads as it did. -/
def checkNoneSpec : ChangeSpec := { name := "checkNone", fn := fun _ => fun
  | [d1, d2] => { results := [.lit (.bool true)], args := [d1, d2] }
  | _ => none }
def checkNoneRow : OpenClaim := { program := "ytgadmgkhepecmaa", sum := "769d4339e4d2355cc87910e40980f298cbd2dfeafd544e822cf02da854f20892", func := "cachet/cachetlaw25.CheckNone", spec := "checkNone", unfollowed := true, recurses := true, plainKeys := false, apart := false }
def CheckNoneSaid : Prop := checkNoneRow.holds Try.pinned (OpenSpec.ofChange checkNoneSpec)

/-- ITS FALSE NEIGHBOUR: 'it returns false'. Refute it at one input. -/
def checkNoneWrong : ChangeSpec := { name := "checkNone", fn := fun _ => fun
  | [d1, d2] => { results := [.lit (.bool false)], args := [d1, d2] }
  | _ => none }
def CheckNoneWrongFalsely : Prop := checkNoneRow.holds Try.pinned (OpenSpec.ofChange checkNoneWrong)

/- THE SECOND FORM. 'bulk': how many values and letters a reading holds, each counted each time it is reached (what is shared counts as often as it is met; a slice's spare places count too). A statement '..UptoSaid' is the law's where the arguments, and the package variables that the reading takes, are together of bulk at most 1048576: NARROWER than '..Said'. Prove '..Said' where nothing that the law and all that it calls make is longer than what came in: it says more and counts as full. Else prove '..UptoSaid'. A law counts once. -/
mutual
def uptoBulk {H : Type} : DataW H → Nat
  | .lit (.string bytes) => bytes.length + 1
  | .lit _ => 1
  | .nil => 1
  | .ptr d => uptoBulk d + 1
  | .slice elems spare => uptoBulkAll elems + uptoBulkAll spare + 1
  | .agg parts => uptoBulkAll parts + 1
  | .iface _ d => uptoBulk d + 1
  | .map entries => uptoBulkEntries entries + 1
  | .held _ => 1
def uptoBulkAll {H : Type} : List (DataW H) → Nat
  | [] => 0
  | d :: r => uptoBulk d + uptoBulkAll r
def uptoBulkEntries {H : Type} : List (Lit × DataW H) → Nat
  | [] => 0
  | x :: r => uptoBulkEntry x + uptoBulkEntries r
def uptoBulkEntry {H : Type} : Lit × DataW H → Nat
  | (.string bytes, d) => bytes.length + uptoBulk d + 1
  | (_, d) => uptoBulk d + 1
 end
def uptoSmall : (H : Type) → List (DataW H) → Bool := fun _ ds => decide (uptoBulkAll ds ≤ 1048576)
def OpenSpec.upto (s : _root_.Go.ChangeSpec) : _root_.Go.OpenSpec := { _root_.Go.OpenSpec.ofChange s with cond := some uptoSmall }

/-- 'cachetlaw5.BagActs', WHERE WHAT IT READS IS OF BULK AT MOST 1048576: true; the input reads as it did. -/
def bagActsUptoRow : OpenClaim := { program := "ytgadmgkhepecmaa", sum := "769d4339e4d2355cc87910e40980f298cbd2dfeafd544e822cf02da854f20892", func := "cachet/cachetlaw5.BagActs", spec := "bagActs", plainKeys := false, apart := false, narrowed := true }
def BagActsUptoSaid : Prop := bagActsUptoRow.holds Try.pinned (OpenSpec.upto bagActsSpec)

/-- 'cachetlaw24.HistoryLegals', WHERE WHAT IT READS IS OF BULK AT MOST 1048576: true; the input reads as it did. -/
def historyLegalsUptoRow : OpenClaim := { program := "ytgadmgkhepecmaa", sum := "769d4339e4d2355cc87910e40980f298cbd2dfeafd544e822cf02da854f20892", func := "cachet/cachetlaw24.HistoryLegals", spec := "historyLegals", recurses := true, plainKeys := false, apart := false, narrowed := true }
def HistoryLegalsUptoSaid : Prop := historyLegalsUptoRow.holds Try.pinned (OpenSpec.upto historyLegalsSpec)

/-- 'cachetlaw16.ChooseLogs', WHERE WHAT IT READS IS OF BULK AT MOST 1048576: true; the input reads as it did. -/
def chooseLogsUptoRow : OpenClaim := { program := "ytgadmgkhepecmaa", sum := "769d4339e4d2355cc87910e40980f298cbd2dfeafd544e822cf02da854f20892", func := "cachet/cachetlaw16.ChooseLogs", spec := "chooseLogs", unfollowed := true, recurses := true, plainKeys := false, apart := false, narrowed := true }
def ChooseLogsUptoSaid : Prop := chooseLogsUptoRow.holds Try.pinned (OpenSpec.upto chooseLogsSpec)

/-- 'cachetlaw16.ChooseVotes', WHERE WHAT IT READS IS OF BULK AT MOST 1048576: true; the input reads as it did. -/
def chooseVotesUptoRow : OpenClaim := { program := "ytgadmgkhepecmaa", sum := "769d4339e4d2355cc87910e40980f298cbd2dfeafd544e822cf02da854f20892", func := "cachet/cachetlaw16.ChooseVotes", spec := "chooseVotes", unfollowed := true, recurses := true, plainKeys := false, apart := false, narrowed := true }
def ChooseVotesUptoSaid : Prop := chooseVotesUptoRow.holds Try.pinned (OpenSpec.upto chooseVotesSpec)

/-- 'cachetlaw20.RepairAsks', WHERE WHAT IT READS IS OF BULK AT MOST 1048576: true; the input reads as it did. -/
def repairAsksUptoRow : OpenClaim := { program := "ytgadmgkhepecmaa", sum := "769d4339e4d2355cc87910e40980f298cbd2dfeafd544e822cf02da854f20892", func := "cachet/cachetlaw20.RepairAsks", spec := "repairAsks", unfollowed := true, recurses := true, plainKeys := false, apart := false, narrowed := true }
def RepairAsksUptoSaid : Prop := repairAsksUptoRow.holds Try.pinned (OpenSpec.upto repairAsksSpec)

/-- 'cachetlaw20.RepairServes', WHERE WHAT IT READS IS OF BULK AT MOST 1048576: true; the input reads as it did. -/
def repairServesUptoRow : OpenClaim := { program := "ytgadmgkhepecmaa", sum := "769d4339e4d2355cc87910e40980f298cbd2dfeafd544e822cf02da854f20892", func := "cachet/cachetlaw20.RepairServes", spec := "repairServes", unfollowed := true, recurses := true, plainKeys := false, apart := false, narrowed := true }
def RepairServesUptoSaid : Prop := repairServesUptoRow.holds Try.pinned (OpenSpec.upto repairServesSpec)

/-- 'cachetlaw25.CheckLogs', WHERE WHAT IT READS IS OF BULK AT MOST 1048576: true; the input reads as it did. -/
def checkLogsUptoRow : OpenClaim := { program := "ytgadmgkhepecmaa", sum := "769d4339e4d2355cc87910e40980f298cbd2dfeafd544e822cf02da854f20892", func := "cachet/cachetlaw25.CheckLogs", spec := "checkLogs", unfollowed := true, recurses := true, plainKeys := false, apart := false, narrowed := true }
def CheckLogsUptoSaid : Prop := checkLogsUptoRow.holds Try.pinned (OpenSpec.upto checkLogsSpec)

/-- 'cachetlaw25.CheckFiles', WHERE WHAT IT READS IS OF BULK AT MOST 1048576: true; the input reads as it did. -/
def checkFilesUptoRow : OpenClaim := { program := "ytgadmgkhepecmaa", sum := "769d4339e4d2355cc87910e40980f298cbd2dfeafd544e822cf02da854f20892", func := "cachet/cachetlaw25.CheckFiles", spec := "checkFiles", unfollowed := true, recurses := true, plainKeys := false, apart := false, narrowed := true }
def CheckFilesUptoSaid : Prop := checkFilesUptoRow.holds Try.pinned (OpenSpec.upto checkFilesSpec)

/-- 'cachetlaw25.CheckNodes', WHERE WHAT IT READS IS OF BULK AT MOST 1048576: true; the input reads as it did. -/
def checkNodesUptoRow : OpenClaim := { program := "ytgadmgkhepecmaa", sum := "769d4339e4d2355cc87910e40980f298cbd2dfeafd544e822cf02da854f20892", func := "cachet/cachetlaw25.CheckNodes", spec := "checkNodes", unfollowed := true, recurses := true, plainKeys := false, apart := false, narrowed := true }
def CheckNodesUptoSaid : Prop := checkNodesUptoRow.holds Try.pinned (OpenSpec.upto checkNodesSpec)

/-- 'cachetlaw25.CheckNone', WHERE WHAT IT READS IS OF BULK AT MOST 1048576: true; the input reads as it did. -/
def checkNoneUptoRow : OpenClaim := { program := "ytgadmgkhepecmaa", sum := "769d4339e4d2355cc87910e40980f298cbd2dfeafd544e822cf02da854f20892", func := "cachet/cachetlaw25.CheckNone", spec := "checkNone", unfollowed := true, recurses := true, plainKeys := false, apart := false, narrowed := true }
def CheckNoneUptoSaid : Prop := checkNoneUptoRow.holds Try.pinned (OpenSpec.upto checkNoneSpec)

end Rows
end Go.Proofs.Ytgadmgkhepecmaa
