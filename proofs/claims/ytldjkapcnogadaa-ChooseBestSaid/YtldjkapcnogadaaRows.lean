/-
  No cell of these rows narrows 'for every input' (looked for: loops, veiled, ifaces, maps, wideKeys, modest, calm, conditions, laid).
  DERIVED. THE GIVEN ROWS OF THIS SEAT. 5 by the template 'for every input the law returns true; each argument reads behind the call as it read before'; 0 by the template 'total and deterministic' (their statements: YtldjkapcnogadaaTotals.lean).
  GIVEN WITH THE SEED: the statements are not yours to turn. If you find one false, say at which input.
  Laid BY PROGRAM, IN A SANDBOX (cutbox-rows.mjs): the forced cells as the released guide's own fill.sh prints them over the translation 0b64e271664380d7… (all of the seat's roots in one cut). By AI agents, Wed Nov 11 2026. No macro, syntax, notation, axiom, sorry.
-/
import Derived.Test.YtldjkapcnogadaaChecked
import GoSem.Claim
import GoSem.ClaimJoined
import GoSem.ClaimMapViews
import Derived.JoinedTies
import Derived.KernelRfl
namespace Go.Proofs.Ytldjkapcnogadaa
/- THE CELL 'sum', in the pinned program and in every row, IS THE sha256 OF THE DUMP (.gsa) THAT YtldjkapcnogadaaProg.lean LOADS. Nothing in Lean hashes anything: it is a label: what it is worth is what the hold of that sum in a sandbox is worth. -/
noncomputable def Try.pinned : Pinned := { name := "ytldjkapcnogadaa", sum := "0b64e271664380d7be84c54c500492ac3db7b34d1d7227f7d6557304cb28b75c", checked := Try.checked }
namespace Rows
def none {H : Type} : Left H := { results := [], args := [] }

/-- 'cachetlaw16.ChooseLogs': WHATEVER THE INPUT: true; the input reads as it did. -/
def chooseLogsSpec : ChangeSpec := { name := "chooseLogs", fn := fun _ => fun
  | [d1, d2, d3] => { results := [.lit (.bool true)], args := [d1, d2, d3] }
  | _ => none }
def chooseLogsRow : OpenClaim := { program := "ytldjkapcnogadaa", sum := "0b64e271664380d7be84c54c500492ac3db7b34d1d7227f7d6557304cb28b75c", func := "cachet/cachetlaw16.ChooseLogs", spec := "chooseLogs", unfollowed := true, recurses := true, apart := false }
def ChooseLogsSaid : Prop := chooseLogsRow.holds Try.pinned (OpenSpec.ofChange chooseLogsSpec)

/-- ITS FALSE NEIGHBOUR: 'it returns false'. Refute it at one input. -/
def chooseLogsWrong : ChangeSpec := { name := "chooseLogs", fn := fun _ => fun
  | [d1, d2, d3] => { results := [.lit (.bool false)], args := [d1, d2, d3] }
  | _ => none }
def ChooseLogsWrongFalsely : Prop := chooseLogsRow.holds Try.pinned (OpenSpec.ofChange chooseLogsWrong)

/-- 'cachetlaw16.ChooseVotes': WHATEVER THE INPUT: true; the input reads as it did. -/
def chooseVotesSpec : ChangeSpec := { name := "chooseVotes", fn := fun _ => fun
  | [d] => { results := [.lit (.bool true)], args := [d] }
  | _ => none }
def chooseVotesRow : OpenClaim := { program := "ytldjkapcnogadaa", sum := "0b64e271664380d7be84c54c500492ac3db7b34d1d7227f7d6557304cb28b75c", func := "cachet/cachetlaw16.ChooseVotes", spec := "chooseVotes", unfollowed := true, recurses := true, apart := false }
def ChooseVotesSaid : Prop := chooseVotesRow.holds Try.pinned (OpenSpec.ofChange chooseVotesSpec)

/-- ITS FALSE NEIGHBOUR: 'it returns false'. Refute it at one input. -/
def chooseVotesWrong : ChangeSpec := { name := "chooseVotes", fn := fun _ => fun
  | [d] => { results := [.lit (.bool false)], args := [d] }
  | _ => none }
def ChooseVotesWrongFalsely : Prop := chooseVotesRow.holds Try.pinned (OpenSpec.ofChange chooseVotesWrong)

/-- 'cachetlaw16.ChooseBest': WHATEVER THE INPUT: true; the input reads as it did. -/
def chooseBestSpec : ChangeSpec := { name := "chooseBest", fn := fun _ => fun
  | [d] => { results := [.lit (.bool true)], args := [d] }
  | _ => none }
def chooseBestRow : OpenClaim := { program := "ytldjkapcnogadaa", sum := "0b64e271664380d7be84c54c500492ac3db7b34d1d7227f7d6557304cb28b75c", func := "cachet/cachetlaw16.ChooseBest", spec := "chooseBest", unfollowed := true, recurses := true, apart := false }
def ChooseBestSaid : Prop := chooseBestRow.holds Try.pinned (OpenSpec.ofChange chooseBestSpec)

/-- ITS FALSE NEIGHBOUR: 'it returns false'. Refute it at one input. -/
def chooseBestWrong : ChangeSpec := { name := "chooseBest", fn := fun _ => fun
  | [d] => { results := [.lit (.bool false)], args := [d] }
  | _ => none }
def ChooseBestWrongFalsely : Prop := chooseBestRow.holds Try.pinned (OpenSpec.ofChange chooseBestWrong)

/-- 'cachetlaw16.ChooseInstalls': WHATEVER THE INPUT: true; the input reads as it did. -/
def chooseInstallsSpec : ChangeSpec := { name := "chooseInstalls", fn := fun _ => fun
  | [d1, d2, d3, d4] => { results := [.lit (.bool true)], args := [d1, d2, d3, d4] }
  | _ => none }
def chooseInstallsRow : OpenClaim := { program := "ytldjkapcnogadaa", sum := "0b64e271664380d7be84c54c500492ac3db7b34d1d7227f7d6557304cb28b75c", func := "cachet/cachetlaw16.ChooseInstalls", spec := "chooseInstalls", unfollowed := true, recurses := true, apart := false }
def ChooseInstallsSaid : Prop := chooseInstallsRow.holds Try.pinned (OpenSpec.ofChange chooseInstallsSpec)

/-- ITS FALSE NEIGHBOUR: 'it returns false'. Refute it at one input. -/
def chooseInstallsWrong : ChangeSpec := { name := "chooseInstalls", fn := fun _ => fun
  | [d1, d2, d3, d4] => { results := [.lit (.bool false)], args := [d1, d2, d3, d4] }
  | _ => none }
def ChooseInstallsWrongFalsely : Prop := chooseInstallsRow.holds Try.pinned (OpenSpec.ofChange chooseInstallsWrong)

/-- 'cachetlaw16.ChooseEntries': WHATEVER THE INPUT: true; the input reads as it did. -/
def chooseEntriesSpec : ChangeSpec := { name := "chooseEntries", fn := fun _ => fun
  | [d1, d2, d3] => { results := [.lit (.bool true)], args := [d1, d2, d3] }
  | _ => none }
def chooseEntriesRow : OpenClaim := { program := "ytldjkapcnogadaa", sum := "0b64e271664380d7be84c54c500492ac3db7b34d1d7227f7d6557304cb28b75c", func := "cachet/cachetlaw16.ChooseEntries", spec := "chooseEntries", unfollowed := true, recurses := true, apart := false }
def ChooseEntriesSaid : Prop := chooseEntriesRow.holds Try.pinned (OpenSpec.ofChange chooseEntriesSpec)

/-- ITS FALSE NEIGHBOUR: 'it returns false'. Refute it at one input. -/
def chooseEntriesWrong : ChangeSpec := { name := "chooseEntries", fn := fun _ => fun
  | [d1, d2, d3] => { results := [.lit (.bool false)], args := [d1, d2, d3] }
  | _ => none }
def ChooseEntriesWrongFalsely : Prop := chooseEntriesRow.holds Try.pinned (OpenSpec.ofChange chooseEntriesWrong)

/- THE SECOND FORM. 'bulk': how many values and letters a reading holds, each counted each time it is reached (what is shared counts as often as it is met; a slice's spare places count too). A statement '..UptoSaid' is the law's where the arguments, and the package variables that the reading takes, are together of bulk at most 1048576: NARROWER than '..Said'. Prove '..Said' where nothing that the law and all that it calls make is longer than what came in: it says more and counts as full. Else prove '..UptoSaid'. A law counts once. -/
mutual
def uptoBulk {H : Type} : DataW H → Nat
  | .lit (.string bytes) => bytes.length + 1
  | .lit _ => 1
  | .nil => 1
  | .ptr d => uptoBulk d + 1
  | .slice elems spare => uptoBulkAll elems + uptoBulkAll spare + 1
  | .agg parts => uptoBulkAll parts + 1
  | .iface _ d => uptoBulk d + 1
  | .map entries => uptoBulkEntries entries + 1
  | .held _ => 1
def uptoBulkAll {H : Type} : List (DataW H) → Nat
  | [] => 0
  | d :: r => uptoBulk d + uptoBulkAll r
def uptoBulkEntries {H : Type} : List (Lit × DataW H) → Nat
  | [] => 0
  | x :: r => uptoBulkEntry x + uptoBulkEntries r
def uptoBulkEntry {H : Type} : Lit × DataW H → Nat
  | (.string bytes, d) => bytes.length + uptoBulk d + 1
  | (_, d) => uptoBulk d + 1
 end
def uptoSmall : (H : Type) → List (DataW H) → Bool := fun _ ds => decide (uptoBulkAll ds ≤ 1048576)
def OpenSpec.upto (s : _root_.Go.ChangeSpec) : _root_.Go.OpenSpec := { _root_.Go.OpenSpec.ofChange s with cond := some uptoSmall }

/-- 'cachetlaw16.ChooseLogs', WHERE WHAT IT READS IS OF BULK AT MOST 1048576: true; the input reads as it did. -/
def chooseLogsUptoRow : OpenClaim := { program := "ytldjkapcnogadaa", sum := "0b64e271664380d7be84c54c500492ac3db7b34d1d7227f7d6557304cb28b75c", func := "cachet/cachetlaw16.ChooseLogs", spec := "chooseLogs", unfollowed := true, recurses := true, apart := false, narrowed := true }
def ChooseLogsUptoSaid : Prop := chooseLogsUptoRow.holds Try.pinned (OpenSpec.upto chooseLogsSpec)

/-- 'cachetlaw16.ChooseVotes', WHERE WHAT IT READS IS OF BULK AT MOST 1048576: true; the input reads as it did. -/
def chooseVotesUptoRow : OpenClaim := { program := "ytldjkapcnogadaa", sum := "0b64e271664380d7be84c54c500492ac3db7b34d1d7227f7d6557304cb28b75c", func := "cachet/cachetlaw16.ChooseVotes", spec := "chooseVotes", unfollowed := true, recurses := true, apart := false, narrowed := true }
def ChooseVotesUptoSaid : Prop := chooseVotesUptoRow.holds Try.pinned (OpenSpec.upto chooseVotesSpec)

/-- 'cachetlaw16.ChooseBest', WHERE WHAT IT READS IS OF BULK AT MOST 1048576: true; the input reads as it did. -/
def chooseBestUptoRow : OpenClaim := { program := "ytldjkapcnogadaa", sum := "0b64e271664380d7be84c54c500492ac3db7b34d1d7227f7d6557304cb28b75c", func := "cachet/cachetlaw16.ChooseBest", spec := "chooseBest", unfollowed := true, recurses := true, apart := false, narrowed := true }
def ChooseBestUptoSaid : Prop := chooseBestUptoRow.holds Try.pinned (OpenSpec.upto chooseBestSpec)

/-- 'cachetlaw16.ChooseInstalls', WHERE WHAT IT READS IS OF BULK AT MOST 1048576: true; the input reads as it did. -/
def chooseInstallsUptoRow : OpenClaim := { program := "ytldjkapcnogadaa", sum := "0b64e271664380d7be84c54c500492ac3db7b34d1d7227f7d6557304cb28b75c", func := "cachet/cachetlaw16.ChooseInstalls", spec := "chooseInstalls", unfollowed := true, recurses := true, apart := false, narrowed := true }
def ChooseInstallsUptoSaid : Prop := chooseInstallsUptoRow.holds Try.pinned (OpenSpec.upto chooseInstallsSpec)

/-- 'cachetlaw16.ChooseEntries', WHERE WHAT IT READS IS OF BULK AT MOST 1048576: true; the input reads as it did. -/
def chooseEntriesUptoRow : OpenClaim := { program := "ytldjkapcnogadaa", sum := "0b64e271664380d7be84c54c500492ac3db7b34d1d7227f7d6557304cb28b75c", func := "cachet/cachetlaw16.ChooseEntries", spec := "chooseEntries", unfollowed := true, recurses := true, apart := false, narrowed := true }
def ChooseEntriesUptoSaid : Prop := chooseEntriesUptoRow.holds Try.pinned (OpenSpec.upto chooseEntriesSpec)

end Rows
end Go.Proofs.Ytldjkapcnogadaa
