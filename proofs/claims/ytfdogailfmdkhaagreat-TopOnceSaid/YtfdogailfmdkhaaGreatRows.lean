/-
  No cell of these rows narrows 'for every input' (looked for: loops, veiled, ifaces, maps, wideKeys, modest, calm, conditions, laid).
  DERIVED. THE GIVEN ROWS OF THIS SEAT. 5 by the template 'for every input the law returns true; each argument reads behind the call as it read before'; 0 by the template 'total and deterministic' (their statements: YtfdogailfmdkhaaGreatTotals.lean).
  GIVEN WITH THE SEED: the statements are not yours to turn. If you find one false, say at which input.
  Laid BY PROGRAM, IN A SANDBOX (cutbox-rows.mjs): the forced cells as the released guide's own fill.sh prints them over the translation 970053b84a2b0d2f… (all of the seat's roots in one cut). By AI agents, Wed Nov 11 2026. No macro, syntax, notation, axiom, sorry.
-/
import Derived.Test.YtfdogailfmdkhaaGreatChecked
import GoSem.Claim
import GoSem.ClaimJoined
import GoSem.ClaimMapViews
import Derived.JoinedTies
import Derived.KernelRfl
namespace Go.Proofs.YtfdogailfmdkhaaGreat
/- THE CELL 'sum', in the pinned program and in every row, IS THE sha256 OF THE DUMP (.gsa) THAT YtfdogailfmdkhaaGreatProg.lean LOADS. Nothing in Lean hashes anything: it is a label: what it is worth is what the hold of that sum in a sandbox is worth. -/
noncomputable def Tryz.pinned : Pinned := { name := "ytfdogailfmdkhaagreat", sum := "970053b84a2b0d2fa9d8c33c45c32282e10e45bf8e731aa3cc54c80e32402695", checked := Tryz.checked }
namespace Rows
def none {H : Type} : Left H := { results := [], args := [] }

/-- 'cachettop.TopMinority': WHATEVER THE INPUT: true; the input reads as it did. -/
def topMinoritySpec : ChangeSpec := { name := "topMinority", fn := fun _ => fun
  | [d1, d2] => { results := [.lit (.bool true)], args := [d1, d2] }
  | _ => none }
def topMinorityRow : OpenClaim := { program := "ytfdogailfmdkhaagreat", sum := "970053b84a2b0d2fa9d8c33c45c32282e10e45bf8e731aa3cc54c80e32402695", func := "cachet/cachettop.TopMinority", spec := "topMinority", inPlace := ["internal/abi.NoEscape", "slices.overlaps[int]", "maps.clone", "slices.overlaps[cachet/api.Do]", "slices.overlaps[cachet/api.Row]", "internal/bytealg.abigen_runtime_cmpstring", "slices.overlaps[cachet/api.Point]"], unfollowed := true, recurses := true, plainKeys := false, apart := false }
def TopMinoritySaid : Prop := topMinorityRow.holds Tryz.pinned (OpenSpec.ofChange topMinoritySpec)

/-- ITS FALSE NEIGHBOUR: 'it returns false'. Refute it at one input. -/
def topMinorityWrong : ChangeSpec := { name := "topMinority", fn := fun _ => fun
  | [d1, d2] => { results := [.lit (.bool false)], args := [d1, d2] }
  | _ => none }
def TopMinorityWrongFalsely : Prop := topMinorityRow.holds Tryz.pinned (OpenSpec.ofChange topMinorityWrong)

/-- 'cachettop.TopRaw': WHATEVER THE INPUT: true; the input reads as it did. -/
def topRawSpec : ChangeSpec := { name := "topRaw", fn := fun _ => fun
  | [d1, d2] => { results := [.lit (.bool true)], args := [d1, d2] }
  | _ => none }
def topRawRow : OpenClaim := { program := "ytfdogailfmdkhaagreat", sum := "970053b84a2b0d2fa9d8c33c45c32282e10e45bf8e731aa3cc54c80e32402695", func := "cachet/cachettop.TopRaw", spec := "topRaw", inPlace := ["internal/abi.NoEscape", "slices.overlaps[int]", "maps.clone", "slices.overlaps[cachet/api.Do]", "slices.overlaps[cachet/api.Row]", "internal/bytealg.abigen_runtime_cmpstring", "slices.overlaps[cachet/api.Point]"], unfollowed := true, recurses := true, plainKeys := false, apart := false }
def TopRawSaid : Prop := topRawRow.holds Tryz.pinned (OpenSpec.ofChange topRawSpec)

/-- ITS FALSE NEIGHBOUR: 'it returns false'. Refute it at one input. -/
def topRawWrong : ChangeSpec := { name := "topRaw", fn := fun _ => fun
  | [d1, d2] => { results := [.lit (.bool false)], args := [d1, d2] }
  | _ => none }
def TopRawWrongFalsely : Prop := topRawRow.holds Tryz.pinned (OpenSpec.ofChange topRawWrong)

/-- 'cachettop.TopFiles': WHATEVER THE INPUT: true; the input reads as it did. -/
def topFilesSpec : ChangeSpec := { name := "topFiles", fn := fun _ => fun
  | [d1, d2] => { results := [.lit (.bool true)], args := [d1, d2] }
  | _ => none }
def topFilesRow : OpenClaim := { program := "ytfdogailfmdkhaagreat", sum := "970053b84a2b0d2fa9d8c33c45c32282e10e45bf8e731aa3cc54c80e32402695", func := "cachet/cachettop.TopFiles", spec := "topFiles", inPlace := ["internal/abi.NoEscape", "slices.overlaps[int]", "maps.clone", "slices.overlaps[cachet/api.Do]", "slices.overlaps[cachet/api.Row]", "internal/bytealg.abigen_runtime_cmpstring", "slices.overlaps[cachet/api.Point]"], unfollowed := true, recurses := true, plainKeys := false, apart := false }
def TopFilesSaid : Prop := topFilesRow.holds Tryz.pinned (OpenSpec.ofChange topFilesSpec)

/-- ITS FALSE NEIGHBOUR: 'it returns false'. Refute it at one input. -/
def topFilesWrong : ChangeSpec := { name := "topFiles", fn := fun _ => fun
  | [d1, d2] => { results := [.lit (.bool false)], args := [d1, d2] }
  | _ => none }
def TopFilesWrongFalsely : Prop := topFilesRow.holds Tryz.pinned (OpenSpec.ofChange topFilesWrong)

/-- 'cachettop.TopCuts': WHATEVER THE INPUT: true; the input reads as it did. -/
def topCutsSpec : ChangeSpec := { name := "topCuts", fn := fun _ => fun
  | [d] => { results := [.lit (.bool true)], args := [d] }
  | _ => none }
def topCutsRow : OpenClaim := { program := "ytfdogailfmdkhaagreat", sum := "970053b84a2b0d2fa9d8c33c45c32282e10e45bf8e731aa3cc54c80e32402695", func := "cachet/cachettop.TopCuts", spec := "topCuts", inPlace := ["internal/abi.NoEscape", "slices.overlaps[int]", "maps.clone", "slices.overlaps[cachet/api.Do]", "slices.overlaps[cachet/api.Row]", "internal/bytealg.abigen_runtime_cmpstring", "slices.overlaps[cachet/api.Point]"], unfollowed := true, recurses := true, plainKeys := false, apart := false }
def TopCutsSaid : Prop := topCutsRow.holds Tryz.pinned (OpenSpec.ofChange topCutsSpec)

/-- ITS FALSE NEIGHBOUR: 'it returns false'. Refute it at one input. -/
def topCutsWrong : ChangeSpec := { name := "topCuts", fn := fun _ => fun
  | [d] => { results := [.lit (.bool false)], args := [d] }
  | _ => none }
def TopCutsWrongFalsely : Prop := topCutsRow.holds Tryz.pinned (OpenSpec.ofChange topCutsWrong)

/-- 'cachettop.TopOnce': WHATEVER THE INPUT: true; the input reads as it did. -/
def topOnceSpec : ChangeSpec := { name := "topOnce", fn := fun _ => fun
  | [d1, d2] => { results := [.lit (.bool true)], args := [d1, d2] }
  | _ => none }
def topOnceRow : OpenClaim := { program := "ytfdogailfmdkhaagreat", sum := "970053b84a2b0d2fa9d8c33c45c32282e10e45bf8e731aa3cc54c80e32402695", func := "cachet/cachettop.TopOnce", spec := "topOnce", inPlace := ["internal/abi.NoEscape", "slices.overlaps[int]", "maps.clone", "slices.overlaps[cachet/api.Do]", "slices.overlaps[cachet/api.Row]", "internal/bytealg.abigen_runtime_cmpstring", "slices.overlaps[cachet/api.Point]"], unfollowed := true, recurses := true, plainKeys := false, apart := false }
def TopOnceSaid : Prop := topOnceRow.holds Tryz.pinned (OpenSpec.ofChange topOnceSpec)

/-- ITS FALSE NEIGHBOUR: 'it returns false'. Refute it at one input. -/
def topOnceWrong : ChangeSpec := { name := "topOnce", fn := fun _ => fun
  | [d1, d2] => { results := [.lit (.bool false)], args := [d1, d2] }
  | _ => none }
def TopOnceWrongFalsely : Prop := topOnceRow.holds Tryz.pinned (OpenSpec.ofChange topOnceWrong)

/- THE SECOND FORM. 'bulk': how many values and letters a reading holds, each counted each time it is reached (what is shared counts as often as it is met; a slice's spare places count too). A statement '..UptoSaid' is the law's where the arguments, and the package variables that the reading takes, are together of bulk at most 1048576: NARROWER than '..Said'. Prove '..Said' where nothing that the law and all that it calls make is longer than what came in: it says more and counts as full. Else prove '..UptoSaid'. A law counts once. -/
mutual
def uptoBulk {H : Type} : DataW H → Nat
  | .lit (.string bytes) => bytes.length + 1
  | .lit _ => 1
  | .nil => 1
  | .ptr d => uptoBulk d + 1
  | .slice elems spare => uptoBulkAll elems + uptoBulkAll spare + 1
  | .agg parts => uptoBulkAll parts + 1
  | .iface _ d => uptoBulk d + 1
  | .map entries => uptoBulkEntries entries + 1
  | .held _ => 1
def uptoBulkAll {H : Type} : List (DataW H) → Nat
  | [] => 0
  | d :: r => uptoBulk d + uptoBulkAll r
def uptoBulkEntries {H : Type} : List (Lit × DataW H) → Nat
  | [] => 0
  | x :: r => uptoBulkEntry x + uptoBulkEntries r
def uptoBulkEntry {H : Type} : Lit × DataW H → Nat
  | (.string bytes, d) => bytes.length + uptoBulk d + 1
  | (_, d) => uptoBulk d + 1
 end
def uptoSmall : (H : Type) → List (DataW H) → Bool := fun _ ds => decide (uptoBulkAll ds ≤ 1048576)
def OpenSpec.upto (s : _root_.Go.ChangeSpec) : _root_.Go.OpenSpec := { _root_.Go.OpenSpec.ofChange s with cond := some uptoSmall }

/-- 'cachettop.TopMinority', WHERE WHAT IT READS IS OF BULK AT MOST 1048576: true; the input reads as it did. -/
def topMinorityUptoRow : OpenClaim := { program := "ytfdogailfmdkhaagreat", sum := "970053b84a2b0d2fa9d8c33c45c32282e10e45bf8e731aa3cc54c80e32402695", func := "cachet/cachettop.TopMinority", spec := "topMinority", inPlace := ["internal/abi.NoEscape", "slices.overlaps[int]", "maps.clone", "slices.overlaps[cachet/api.Do]", "slices.overlaps[cachet/api.Row]", "internal/bytealg.abigen_runtime_cmpstring", "slices.overlaps[cachet/api.Point]"], unfollowed := true, recurses := true, plainKeys := false, apart := false, narrowed := true }
def TopMinorityUptoSaid : Prop := topMinorityUptoRow.holds Tryz.pinned (OpenSpec.upto topMinoritySpec)

/-- 'cachettop.TopRaw', WHERE WHAT IT READS IS OF BULK AT MOST 1048576: true; the input reads as it did. -/
def topRawUptoRow : OpenClaim := { program := "ytfdogailfmdkhaagreat", sum := "970053b84a2b0d2fa9d8c33c45c32282e10e45bf8e731aa3cc54c80e32402695", func := "cachet/cachettop.TopRaw", spec := "topRaw", inPlace := ["internal/abi.NoEscape", "slices.overlaps[int]", "maps.clone", "slices.overlaps[cachet/api.Do]", "slices.overlaps[cachet/api.Row]", "internal/bytealg.abigen_runtime_cmpstring", "slices.overlaps[cachet/api.Point]"], unfollowed := true, recurses := true, plainKeys := false, apart := false, narrowed := true }
def TopRawUptoSaid : Prop := topRawUptoRow.holds Tryz.pinned (OpenSpec.upto topRawSpec)

/-- 'cachettop.TopFiles', WHERE WHAT IT READS IS OF BULK AT MOST 1048576: true; the input reads as it did. -/
def topFilesUptoRow : OpenClaim := { program := "ytfdogailfmdkhaagreat", sum := "970053b84a2b0d2fa9d8c33c45c32282e10e45bf8e731aa3cc54c80e32402695", func := "cachet/cachettop.TopFiles", spec := "topFiles", inPlace := ["internal/abi.NoEscape", "slices.overlaps[int]", "maps.clone", "slices.overlaps[cachet/api.Do]", "slices.overlaps[cachet/api.Row]", "internal/bytealg.abigen_runtime_cmpstring", "slices.overlaps[cachet/api.Point]"], unfollowed := true, recurses := true, plainKeys := false, apart := false, narrowed := true }
def TopFilesUptoSaid : Prop := topFilesUptoRow.holds Tryz.pinned (OpenSpec.upto topFilesSpec)

/-- 'cachettop.TopCuts', WHERE WHAT IT READS IS OF BULK AT MOST 1048576: true; the input reads as it did. -/
def topCutsUptoRow : OpenClaim := { program := "ytfdogailfmdkhaagreat", sum := "970053b84a2b0d2fa9d8c33c45c32282e10e45bf8e731aa3cc54c80e32402695", func := "cachet/cachettop.TopCuts", spec := "topCuts", inPlace := ["internal/abi.NoEscape", "slices.overlaps[int]", "maps.clone", "slices.overlaps[cachet/api.Do]", "slices.overlaps[cachet/api.Row]", "internal/bytealg.abigen_runtime_cmpstring", "slices.overlaps[cachet/api.Point]"], unfollowed := true, recurses := true, plainKeys := false, apart := false, narrowed := true }
def TopCutsUptoSaid : Prop := topCutsUptoRow.holds Tryz.pinned (OpenSpec.upto topCutsSpec)

/-- 'cachettop.TopOnce', WHERE WHAT IT READS IS OF BULK AT MOST 1048576: true; the input reads as it did. -/
def topOnceUptoRow : OpenClaim := { program := "ytfdogailfmdkhaagreat", sum := "970053b84a2b0d2fa9d8c33c45c32282e10e45bf8e731aa3cc54c80e32402695", func := "cachet/cachettop.TopOnce", spec := "topOnce", inPlace := ["internal/abi.NoEscape", "slices.overlaps[int]", "maps.clone", "slices.overlaps[cachet/api.Do]", "slices.overlaps[cachet/api.Row]", "internal/bytealg.abigen_runtime_cmpstring", "slices.overlaps[cachet/api.Point]"], unfollowed := true, recurses := true, plainKeys := false, apart := false, narrowed := true }
def TopOnceUptoSaid : Prop := topOnceUptoRow.holds Tryz.pinned (OpenSpec.upto topOnceSpec)

end Rows
end Go.Proofs.YtfdogailfmdkhaaGreat
