/-
  No cell of these rows narrows 'for every input' (looked for: loops, veiled, ifaces, maps, wideKeys, modest, calm, conditions, laid).
  DERIVED. THE GIVEN ROWS OF THIS SEAT. 12 by the template 'for every input the law returns true; each argument reads behind the call as it read before'; 0 by the template 'total and deterministic' (their statements: YtcjnomimigloiaaTotals.lean).
  GIVEN WITH THE SEED: the statements are not yours to turn. If you find one false, say at which input.
  Laid BY PROGRAM, IN A SANDBOX (cutbox-rows.mjs): the forced cells as the released guide's own fill.sh prints them over the translation b22b5ad67f80facd… (all of the seat's roots in one cut). By AI agents, Wed Nov 11 2026. No macro, syntax, notation, axiom, sorry.
-/
import Derived.Test.YtcjnomimigloiaaChecked
import GoSem.Claim
import GoSem.ClaimJoined
import GoSem.ClaimMapViews
import Derived.JoinedTies
import Derived.KernelRfl
namespace Go.Proofs.Ytcjnomimigloiaa
/- THE CELL 'sum', in the pinned program and in every row, IS THE sha256 OF THE DUMP (.gsa) THAT YtcjnomimigloiaaProg.lean LOADS. Nothing in Lean hashes anything: it is a label: what it is worth is what the hold of that sum in a sandbox is worth. -/
noncomputable def Try.pinned : Pinned := { name := "ytcjnomimigloiaa", sum := "b22b5ad67f80facdfae1a5454f9ebfc3ce96805bef06d9277a20570a6091f893", checked := Try.checked }
namespace Rows
def none {H : Type} : Left H := { results := [], args := [] }

/-- 'cachetlaw21.CutterHeld': WHATEVER THE INPUT: true; the input reads as it did. -/
def cutterHeldSpec : ChangeSpec := { name := "cutterHeld", fn := fun _ => fun
  | [d1, d2, d3] => { results := [.lit (.bool true)], args := [d1, d2, d3] }
  | _ => none }
def cutterHeldRow : OpenClaim := { program := "ytcjnomimigloiaa", sum := "b22b5ad67f80facdfae1a5454f9ebfc3ce96805bef06d9277a20570a6091f893", func := "cachet/cachetlaw21.CutterHeld", spec := "cutterHeld", recurses := true, apart := false }
def CutterHeldSaid : Prop := cutterHeldRow.holds Try.pinned (OpenSpec.ofChange cutterHeldSpec)

/-- ITS FALSE NEIGHBOUR: 'it returns false'. Refute it at one input. -/
def cutterHeldWrong : ChangeSpec := { name := "cutterHeld", fn := fun _ => fun
  | [d1, d2, d3] => { results := [.lit (.bool false)], args := [d1, d2, d3] }
  | _ => none }
def CutterHeldWrongFalsely : Prop := cutterHeldRow.holds Try.pinned (OpenSpec.ofChange cutterHeldWrong)

/-- 'cachetlaw21.CutterRises': WHATEVER THE INPUT: true; the input reads as it did. -/
def cutterRisesSpec : ChangeSpec := { name := "cutterRises", fn := fun _ => fun
  | [d1, d2, d3, d4, d5] => { results := [.lit (.bool true)], args := [d1, d2, d3, d4, d5] }
  | _ => none }
def cutterRisesRow : OpenClaim := { program := "ytcjnomimigloiaa", sum := "b22b5ad67f80facdfae1a5454f9ebfc3ce96805bef06d9277a20570a6091f893", func := "cachet/cachetlaw21.CutterRises", spec := "cutterRises", recurses := true, apart := false }
def CutterRisesSaid : Prop := cutterRisesRow.holds Try.pinned (OpenSpec.ofChange cutterRisesSpec)

/-- ITS FALSE NEIGHBOUR: 'it returns false'. Refute it at one input. -/
def cutterRisesWrong : ChangeSpec := { name := "cutterRises", fn := fun _ => fun
  | [d1, d2, d3, d4, d5] => { results := [.lit (.bool false)], args := [d1, d2, d3, d4, d5] }
  | _ => none }
def CutterRisesWrongFalsely : Prop := cutterRisesRow.holds Try.pinned (OpenSpec.ofChange cutterRisesWrong)

/-- 'cachetlaw20.RepairAsks': WHATEVER THE INPUT: true; the input reads as it did. -/
def repairAsksSpec : ChangeSpec := { name := "repairAsks", fn := fun _ => fun
  | [d1, d2, d3, d4, d5] => { results := [.lit (.bool true)], args := [d1, d2, d3, d4, d5] }
  | _ => none }
def repairAsksRow : OpenClaim := { program := "ytcjnomimigloiaa", sum := "b22b5ad67f80facdfae1a5454f9ebfc3ce96805bef06d9277a20570a6091f893", func := "cachet/cachetlaw20.RepairAsks", spec := "repairAsks", unfollowed := true, recurses := true, apart := false }
def RepairAsksSaid : Prop := repairAsksRow.holds Try.pinned (OpenSpec.ofChange repairAsksSpec)

/-- ITS FALSE NEIGHBOUR: 'it returns false'. Refute it at one input. -/
def repairAsksWrong : ChangeSpec := { name := "repairAsks", fn := fun _ => fun
  | [d1, d2, d3, d4, d5] => { results := [.lit (.bool false)], args := [d1, d2, d3, d4, d5] }
  | _ => none }
def RepairAsksWrongFalsely : Prop := repairAsksRow.holds Try.pinned (OpenSpec.ofChange repairAsksWrong)

/-- 'cachetlaw20.RepairServes': WHATEVER THE INPUT: true; the input reads as it did. -/
def repairServesSpec : ChangeSpec := { name := "repairServes", fn := fun _ => fun
  | [d1, d2, d3, d4] => { results := [.lit (.bool true)], args := [d1, d2, d3, d4] }
  | _ => none }
def repairServesRow : OpenClaim := { program := "ytcjnomimigloiaa", sum := "b22b5ad67f80facdfae1a5454f9ebfc3ce96805bef06d9277a20570a6091f893", func := "cachet/cachetlaw20.RepairServes", spec := "repairServes", unfollowed := true, recurses := true, apart := false }
def RepairServesSaid : Prop := repairServesRow.holds Try.pinned (OpenSpec.ofChange repairServesSpec)

/-- ITS FALSE NEIGHBOUR: 'it returns false'. Refute it at one input. -/
def repairServesWrong : ChangeSpec := { name := "repairServes", fn := fun _ => fun
  | [d1, d2, d3, d4] => { results := [.lit (.bool false)], args := [d1, d2, d3, d4] }
  | _ => none }
def RepairServesWrongFalsely : Prop := repairServesRow.holds Try.pinned (OpenSpec.ofChange repairServesWrong)

/-- 'cachetlaw20.RepairNone': WHATEVER THE INPUT: true; the input reads as it did. -/
def repairNoneSpec : ChangeSpec := { name := "repairNone", fn := fun _ => fun
  | [d1, d2, d3] => { results := [.lit (.bool true)], args := [d1, d2, d3] }
  | _ => none }
def repairNoneRow : OpenClaim := { program := "ytcjnomimigloiaa", sum := "b22b5ad67f80facdfae1a5454f9ebfc3ce96805bef06d9277a20570a6091f893", func := "cachet/cachetlaw20.RepairNone", spec := "repairNone", unfollowed := true, recurses := true, apart := false }
def RepairNoneSaid : Prop := repairNoneRow.holds Try.pinned (OpenSpec.ofChange repairNoneSpec)

/-- ITS FALSE NEIGHBOUR: 'it returns false'. Refute it at one input. -/
def repairNoneWrong : ChangeSpec := { name := "repairNone", fn := fun _ => fun
  | [d1, d2, d3] => { results := [.lit (.bool false)], args := [d1, d2, d3] }
  | _ => none }
def RepairNoneWrongFalsely : Prop := repairNoneRow.holds Try.pinned (OpenSpec.ofChange repairNoneWrong)

/-- 'cachetlaw20.RepairWho': WHATEVER THE INPUT: true; the input reads as it did. -/
def repairWhoSpec : ChangeSpec := { name := "repairWho", fn := fun _ => fun
  | [d1, d2, d3] => { results := [.lit (.bool true)], args := [d1, d2, d3] }
  | _ => none }
def repairWhoRow : OpenClaim := { program := "ytcjnomimigloiaa", sum := "b22b5ad67f80facdfae1a5454f9ebfc3ce96805bef06d9277a20570a6091f893", func := "cachet/cachetlaw20.RepairWho", spec := "repairWho", unfollowed := true, recurses := true, apart := false }
def RepairWhoSaid : Prop := repairWhoRow.holds Try.pinned (OpenSpec.ofChange repairWhoSpec)

/-- ITS FALSE NEIGHBOUR: 'it returns false'. Refute it at one input. -/
def repairWhoWrong : ChangeSpec := { name := "repairWho", fn := fun _ => fun
  | [d1, d2, d3] => { results := [.lit (.bool false)], args := [d1, d2, d3] }
  | _ => none }
def RepairWhoWrongFalsely : Prop := repairWhoRow.holds Try.pinned (OpenSpec.ofChange repairWhoWrong)

/-- 'cachetlaw25.CheckLogs': WHATEVER THE INPUT: true; the input reads as it did. -/
def checkLogsSpec : ChangeSpec := { name := "checkLogs", fn := fun _ => fun
  | [d1, d2] => { results := [.lit (.bool true)], args := [d1, d2] }
  | _ => none }
def checkLogsRow : OpenClaim := { program := "ytcjnomimigloiaa", sum := "b22b5ad67f80facdfae1a5454f9ebfc3ce96805bef06d9277a20570a6091f893", func := "cachet/cachetlaw25.CheckLogs", spec := "checkLogs", unfollowed := true, recurses := true, apart := false }
def CheckLogsSaid : Prop := checkLogsRow.holds Try.pinned (OpenSpec.ofChange checkLogsSpec)

/-- ITS FALSE NEIGHBOUR: 'it returns false'. Refute it at one input. -/
def checkLogsWrong : ChangeSpec := { name := "checkLogs", fn := fun _ => fun
  | [d1, d2] => { results := [.lit (.bool false)], args := [d1, d2] }
  | _ => none }
def CheckLogsWrongFalsely : Prop := checkLogsRow.holds Try.pinned (OpenSpec.ofChange checkLogsWrong)

/-- 'cachetlaw25.CheckFiles': WHATEVER THE INPUT: true; the input reads as it did. -/
def checkFilesSpec : ChangeSpec := { name := "checkFiles", fn := fun _ => fun
  | [d] => { results := [.lit (.bool true)], args := [d] }
  | _ => none }
def checkFilesRow : OpenClaim := { program := "ytcjnomimigloiaa", sum := "b22b5ad67f80facdfae1a5454f9ebfc3ce96805bef06d9277a20570a6091f893", func := "cachet/cachetlaw25.CheckFiles", spec := "checkFiles", unfollowed := true, recurses := true, apart := false }
def CheckFilesSaid : Prop := checkFilesRow.holds Try.pinned (OpenSpec.ofChange checkFilesSpec)

/-- ITS FALSE NEIGHBOUR: 'it returns false'. Refute it at one input. -/
def checkFilesWrong : ChangeSpec := { name := "checkFiles", fn := fun _ => fun
  | [d] => { results := [.lit (.bool false)], args := [d] }
  | _ => none }
def CheckFilesWrongFalsely : Prop := checkFilesRow.holds Try.pinned (OpenSpec.ofChange checkFilesWrong)

/-- 'cachetlaw25.CheckNodes': WHATEVER THE INPUT: true; the input reads as it did. -/
def checkNodesSpec : ChangeSpec := { name := "checkNodes", fn := fun _ => fun
  | [d1, d2, d3] => { results := [.lit (.bool true)], args := [d1, d2, d3] }
  | _ => none }
def checkNodesRow : OpenClaim := { program := "ytcjnomimigloiaa", sum := "b22b5ad67f80facdfae1a5454f9ebfc3ce96805bef06d9277a20570a6091f893", func := "cachet/cachetlaw25.CheckNodes", spec := "checkNodes", unfollowed := true, recurses := true, apart := false }
def CheckNodesSaid : Prop := checkNodesRow.holds Try.pinned (OpenSpec.ofChange checkNodesSpec)

/-- ITS FALSE NEIGHBOUR: 'it returns false'. Refute it at one input. -/
def checkNodesWrong : ChangeSpec := { name := "checkNodes", fn := fun _ => fun
  | [d1, d2, d3] => { results := [.lit (.bool false)], args := [d1, d2, d3] }
  | _ => none }
def CheckNodesWrongFalsely : Prop := checkNodesRow.holds Try.pinned (OpenSpec.ofChange checkNodesWrong)

/-- 'cachetlaw25.CheckPairs': WHATEVER THE INPUT: true; the input reads as it did. -/
def checkPairsSpec : ChangeSpec := { name := "checkPairs", fn := fun _ => fun
  | [d1, d2, d3, d4] => { results := [.lit (.bool true)], args := [d1, d2, d3, d4] }
  | _ => none }
def checkPairsRow : OpenClaim := { program := "ytcjnomimigloiaa", sum := "b22b5ad67f80facdfae1a5454f9ebfc3ce96805bef06d9277a20570a6091f893", func := "cachet/cachetlaw25.CheckPairs", spec := "checkPairs", unfollowed := true, recurses := true, apart := false }
def CheckPairsSaid : Prop := checkPairsRow.holds Try.pinned (OpenSpec.ofChange checkPairsSpec)

/-- ITS FALSE NEIGHBOUR: 'it returns false'. Refute it at one input. -/
def checkPairsWrong : ChangeSpec := { name := "checkPairs", fn := fun _ => fun
  | [d1, d2, d3, d4] => { results := [.lit (.bool false)], args := [d1, d2, d3, d4] }
  | _ => none }
def CheckPairsWrongFalsely : Prop := checkPairsRow.holds Try.pinned (OpenSpec.ofChange checkPairsWrong)

/-- 'cachetlaw25.CheckCut': WHATEVER THE INPUT: true; the input reads as it did. -/
def checkCutSpec : ChangeSpec := { name := "checkCut", fn := fun _ => fun
  | [d1, d2, d3] => { results := [.lit (.bool true)], args := [d1, d2, d3] }
  | _ => none }
def checkCutRow : OpenClaim := { program := "ytcjnomimigloiaa", sum := "b22b5ad67f80facdfae1a5454f9ebfc3ce96805bef06d9277a20570a6091f893", func := "cachet/cachetlaw25.CheckCut", spec := "checkCut", unfollowed := true, recurses := true, apart := false }
def CheckCutSaid : Prop := checkCutRow.holds Try.pinned (OpenSpec.ofChange checkCutSpec)

/-- ITS FALSE NEIGHBOUR: 'it returns false'. Refute it at one input. -/
def checkCutWrong : ChangeSpec := { name := "checkCut", fn := fun _ => fun
  | [d1, d2, d3] => { results := [.lit (.bool false)], args := [d1, d2, d3] }
  | _ => none }
def CheckCutWrongFalsely : Prop := checkCutRow.holds Try.pinned (OpenSpec.ofChange checkCutWrong)

/-- 'cachetlaw25.CheckNone': WHATEVER THE INPUT: true; the input reads as it did. -/
def checkNoneSpec : ChangeSpec := { name := "checkNone", fn := fun _ => fun
  | [d1, d2] => { results := [.lit (.bool true)], args := [d1, d2] }
  | _ => none }
def checkNoneRow : OpenClaim := { program := "ytcjnomimigloiaa", sum := "b22b5ad67f80facdfae1a5454f9ebfc3ce96805bef06d9277a20570a6091f893", func := "cachet/cachetlaw25.CheckNone", spec := "checkNone", unfollowed := true, recurses := true, apart := false }
def CheckNoneSaid : Prop := checkNoneRow.holds Try.pinned (OpenSpec.ofChange checkNoneSpec)

/-- ITS FALSE NEIGHBOUR: 'it returns false'. Refute it at one input. -/
def checkNoneWrong : ChangeSpec := { name := "checkNone", fn := fun _ => fun
  | [d1, d2] => { results := [.lit (.bool false)], args := [d1, d2] }
  | _ => none }
def CheckNoneWrongFalsely : Prop := checkNoneRow.holds Try.pinned (OpenSpec.ofChange checkNoneWrong)

/- THE SECOND FORM. 'bulk': how many values and letters a reading holds, each counted each time it is reached (what is shared counts as often as it is met; a slice's spare places count too). A statement '..UptoSaid' is the law's where the arguments, and the package variables that the reading takes, are together of bulk at most 1048576: NARROWER than '..Said'. Prove '..Said' where nothing that the law and all that it calls make is longer than what came in: it says more and counts as full. Else prove '..UptoSaid'. A law counts once. -/
mutual
def uptoBulk {H : Type} : DataW H → Nat
  | .lit (.string bytes) => bytes.length + 1
  | .lit _ => 1
  | .nil => 1
  | .ptr d => uptoBulk d + 1
  | .slice elems spare => uptoBulkAll elems + uptoBulkAll spare + 1
  | .agg parts => uptoBulkAll parts + 1
  | .iface _ d => uptoBulk d + 1
  | .map entries => uptoBulkEntries entries + 1
  | .held _ => 1
def uptoBulkAll {H : Type} : List (DataW H) → Nat
  | [] => 0
  | d :: r => uptoBulk d + uptoBulkAll r
def uptoBulkEntries {H : Type} : List (Lit × DataW H) → Nat
  | [] => 0
  | x :: r => uptoBulkEntry x + uptoBulkEntries r
def uptoBulkEntry {H : Type} : Lit × DataW H → Nat
  | (.string bytes, d) => bytes.length + uptoBulk d + 1
  | (_, d) => uptoBulk d + 1
 end
def uptoSmall : (H : Type) → List (DataW H) → Bool := fun _ ds => decide (uptoBulkAll ds ≤ 1048576)
def OpenSpec.upto (s : _root_.Go.ChangeSpec) : _root_.Go.OpenSpec := { _root_.Go.OpenSpec.ofChange s with cond := some uptoSmall }

/-- 'cachetlaw21.CutterHeld', WHERE WHAT IT READS IS OF BULK AT MOST 1048576: true; the input reads as it did. -/
def cutterHeldUptoRow : OpenClaim := { program := "ytcjnomimigloiaa", sum := "b22b5ad67f80facdfae1a5454f9ebfc3ce96805bef06d9277a20570a6091f893", func := "cachet/cachetlaw21.CutterHeld", spec := "cutterHeld", recurses := true, apart := false, narrowed := true }
def CutterHeldUptoSaid : Prop := cutterHeldUptoRow.holds Try.pinned (OpenSpec.upto cutterHeldSpec)

/-- 'cachetlaw21.CutterRises', WHERE WHAT IT READS IS OF BULK AT MOST 1048576: true; the input reads as it did. -/
def cutterRisesUptoRow : OpenClaim := { program := "ytcjnomimigloiaa", sum := "b22b5ad67f80facdfae1a5454f9ebfc3ce96805bef06d9277a20570a6091f893", func := "cachet/cachetlaw21.CutterRises", spec := "cutterRises", recurses := true, apart := false, narrowed := true }
def CutterRisesUptoSaid : Prop := cutterRisesUptoRow.holds Try.pinned (OpenSpec.upto cutterRisesSpec)

/-- 'cachetlaw20.RepairAsks', WHERE WHAT IT READS IS OF BULK AT MOST 1048576: true; the input reads as it did. -/
def repairAsksUptoRow : OpenClaim := { program := "ytcjnomimigloiaa", sum := "b22b5ad67f80facdfae1a5454f9ebfc3ce96805bef06d9277a20570a6091f893", func := "cachet/cachetlaw20.RepairAsks", spec := "repairAsks", unfollowed := true, recurses := true, apart := false, narrowed := true }
def RepairAsksUptoSaid : Prop := repairAsksUptoRow.holds Try.pinned (OpenSpec.upto repairAsksSpec)

/-- 'cachetlaw20.RepairServes', WHERE WHAT IT READS IS OF BULK AT MOST 1048576: true; the input reads as it did. -/
def repairServesUptoRow : OpenClaim := { program := "ytcjnomimigloiaa", sum := "b22b5ad67f80facdfae1a5454f9ebfc3ce96805bef06d9277a20570a6091f893", func := "cachet/cachetlaw20.RepairServes", spec := "repairServes", unfollowed := true, recurses := true, apart := false, narrowed := true }
def RepairServesUptoSaid : Prop := repairServesUptoRow.holds Try.pinned (OpenSpec.upto repairServesSpec)

/-- 'cachetlaw20.RepairNone', WHERE WHAT IT READS IS OF BULK AT MOST 1048576: true; the input reads as it did. -/
def repairNoneUptoRow : OpenClaim := { program := "ytcjnomimigloiaa", sum := "b22b5ad67f80facdfae1a5454f9ebfc3ce96805bef06d9277a20570a6091f893", func := "cachet/cachetlaw20.RepairNone", spec := "repairNone", unfollowed := true, recurses := true, apart := false, narrowed := true }
def RepairNoneUptoSaid : Prop := repairNoneUptoRow.holds Try.pinned (OpenSpec.upto repairNoneSpec)

/-- 'cachetlaw20.RepairWho', WHERE WHAT IT READS IS OF BULK AT MOST 1048576: true; the input reads as it did. -/
def repairWhoUptoRow : OpenClaim := { program := "ytcjnomimigloiaa", sum := "b22b5ad67f80facdfae1a5454f9ebfc3ce96805bef06d9277a20570a6091f893", func := "cachet/cachetlaw20.RepairWho", spec := "repairWho", unfollowed := true, recurses := true, apart := false, narrowed := true }
def RepairWhoUptoSaid : Prop := repairWhoUptoRow.holds Try.pinned (OpenSpec.upto repairWhoSpec)

/-- 'cachetlaw25.CheckLogs', WHERE WHAT IT READS IS OF BULK AT MOST 1048576: true; the input reads as it did. -/
def checkLogsUptoRow : OpenClaim := { program := "ytcjnomimigloiaa", sum := "b22b5ad67f80facdfae1a5454f9ebfc3ce96805bef06d9277a20570a6091f893", func := "cachet/cachetlaw25.CheckLogs", spec := "checkLogs", unfollowed := true, recurses := true, apart := false, narrowed := true }
def CheckLogsUptoSaid : Prop := checkLogsUptoRow.holds Try.pinned (OpenSpec.upto checkLogsSpec)

/-- 'cachetlaw25.CheckFiles', WHERE WHAT IT READS IS OF BULK AT MOST 1048576: true; the input reads as it did. -/
def checkFilesUptoRow : OpenClaim := { program := "ytcjnomimigloiaa", sum := "b22b5ad67f80facdfae1a5454f9ebfc3ce96805bef06d9277a20570a6091f893", func := "cachet/cachetlaw25.CheckFiles", spec := "checkFiles", unfollowed := true, recurses := true, apart := false, narrowed := true }
def CheckFilesUptoSaid : Prop := checkFilesUptoRow.holds Try.pinned (OpenSpec.upto checkFilesSpec)

/-- 'cachetlaw25.CheckNodes', WHERE WHAT IT READS IS OF BULK AT MOST 1048576: true; the input reads as it did. -/
def checkNodesUptoRow : OpenClaim := { program := "ytcjnomimigloiaa", sum := "b22b5ad67f80facdfae1a5454f9ebfc3ce96805bef06d9277a20570a6091f893", func := "cachet/cachetlaw25.CheckNodes", spec := "checkNodes", unfollowed := true, recurses := true, apart := false, narrowed := true }
def CheckNodesUptoSaid : Prop := checkNodesUptoRow.holds Try.pinned (OpenSpec.upto checkNodesSpec)

/-- 'cachetlaw25.CheckPairs', WHERE WHAT IT READS IS OF BULK AT MOST 1048576: true; the input reads as it did. -/
def checkPairsUptoRow : OpenClaim := { program := "ytcjnomimigloiaa", sum := "b22b5ad67f80facdfae1a5454f9ebfc3ce96805bef06d9277a20570a6091f893", func := "cachet/cachetlaw25.CheckPairs", spec := "checkPairs", unfollowed := true, recurses := true, apart := false, narrowed := true }
def CheckPairsUptoSaid : Prop := checkPairsUptoRow.holds Try.pinned (OpenSpec.upto checkPairsSpec)

/-- 'cachetlaw25.CheckCut', WHERE WHAT IT READS IS OF BULK AT MOST 1048576: true; the input reads as it did. -/
def checkCutUptoRow : OpenClaim := { program := "ytcjnomimigloiaa", sum := "b22b5ad67f80facdfae1a5454f9ebfc3ce96805bef06d9277a20570a6091f893", func := "cachet/cachetlaw25.CheckCut", spec := "checkCut", unfollowed := true, recurses := true, apart := false, narrowed := true }
def CheckCutUptoSaid : Prop := checkCutUptoRow.holds Try.pinned (OpenSpec.upto checkCutSpec)

/-- 'cachetlaw25.CheckNone', WHERE WHAT IT READS IS OF BULK AT MOST 1048576: true; the input reads as it did. -/
def checkNoneUptoRow : OpenClaim := { program := "ytcjnomimigloiaa", sum := "b22b5ad67f80facdfae1a5454f9ebfc3ce96805bef06d9277a20570a6091f893", func := "cachet/cachetlaw25.CheckNone", spec := "checkNone", unfollowed := true, recurses := true, apart := false, narrowed := true }
def CheckNoneUptoSaid : Prop := checkNoneUptoRow.holds Try.pinned (OpenSpec.upto checkNoneSpec)

end Rows
end Go.Proofs.Ytcjnomimigloiaa
