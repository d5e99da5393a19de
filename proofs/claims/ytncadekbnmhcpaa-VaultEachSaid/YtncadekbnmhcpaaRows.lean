/-
  No cell of these rows narrows 'for every input' (looked for: loops, veiled, ifaces, maps, wideKeys, modest, calm, conditions, laid).
  DERIVED. THE GIVEN ROWS OF THIS SEAT. 5 by the template 'for every input the law returns true; each argument reads behind the call as it read before'; 0 by the template 'total and deterministic' (their statements: YtncadekbnmhcpaaTotals.lean).
  GIVEN WITH THE SEED: the statements are not yours to turn. If you find one false, say at which input.
  Laid BY PROGRAM, IN A SANDBOX (cutbox-rows.mjs): the forced cells as the released guide's own fill.sh prints them over the translation f54e0e1ed9a134f0… (all of the seat's roots in one cut). By AI agents, Wed Nov 11 2026. No macro, syntax, notation, axiom, sorry.
-/
import Derived.Test.YtncadekbnmhcpaaChecked
import GoSem.Claim
import GoSem.ClaimJoined
import GoSem.ClaimMapViews
import Derived.JoinedTies
import Derived.KernelRfl
namespace Go.Proofs.Ytncadekbnmhcpaa
/- THE CELL 'sum', in the pinned program and in every row, IS THE sha256 OF THE DUMP (.gsa) THAT YtncadekbnmhcpaaProg.lean LOADS. Nothing in Lean hashes anything: it is a label: what it is worth is what the hold of that sum in a sandbox is worth. -/
noncomputable def Try.pinned : Pinned := { name := "ytncadekbnmhcpaa", sum := "f54e0e1ed9a134f0e05b2c0a4fe25c00d5f7e86ecd5ae15828802609e4c2fbea", checked := Try.checked }
namespace Rows
def none {H : Type} : Left H := { results := [], args := [] }

/-- 'cachetlaw9.VaultForms': WHATEVER THE INPUT: true; the input reads as it did. -/
def vaultFormsSpec : ChangeSpec := { name := "vaultForms", fn := fun _ => fun
  | [d1, d2, d3] => { results := [.lit (.bool true)], args := [d1, d2, d3] }
  | _ => none }
def vaultFormsRow : OpenClaim := { program := "ytncadekbnmhcpaa", sum := "f54e0e1ed9a134f0e05b2c0a4fe25c00d5f7e86ecd5ae15828802609e4c2fbea", func := "cachet/cachetlaw9.VaultForms", spec := "vaultForms", inPlace := ["internal/abi.NoEscape", "maps.clone"], unfollowed := true, recurses := true, apart := false }
def VaultFormsSaid : Prop := vaultFormsRow.holds Try.pinned (OpenSpec.ofChange vaultFormsSpec)

/-- ITS FALSE NEIGHBOUR: 'it returns false'. Refute it at one input. -/
def vaultFormsWrong : ChangeSpec := { name := "vaultForms", fn := fun _ => fun
  | [d1, d2, d3] => { results := [.lit (.bool false)], args := [d1, d2, d3] }
  | _ => none }
def VaultFormsWrongFalsely : Prop := vaultFormsRow.holds Try.pinned (OpenSpec.ofChange vaultFormsWrong)

/-- 'cachetlaw9.VaultRots': WHATEVER THE INPUT: true; the input reads as it did. -/
def vaultRotsSpec : ChangeSpec := { name := "vaultRots", fn := fun _ => fun
  | [d1, d2, d3] => { results := [.lit (.bool true)], args := [d1, d2, d3] }
  | _ => none }
def vaultRotsRow : OpenClaim := { program := "ytncadekbnmhcpaa", sum := "f54e0e1ed9a134f0e05b2c0a4fe25c00d5f7e86ecd5ae15828802609e4c2fbea", func := "cachet/cachetlaw9.VaultRots", spec := "vaultRots", inPlace := ["internal/abi.NoEscape", "maps.clone"], unfollowed := true, recurses := true, apart := false }
def VaultRotsSaid : Prop := vaultRotsRow.holds Try.pinned (OpenSpec.ofChange vaultRotsSpec)

/-- ITS FALSE NEIGHBOUR: 'it returns false'. Refute it at one input. -/
def vaultRotsWrong : ChangeSpec := { name := "vaultRots", fn := fun _ => fun
  | [d1, d2, d3] => { results := [.lit (.bool false)], args := [d1, d2, d3] }
  | _ => none }
def VaultRotsWrongFalsely : Prop := vaultRotsRow.holds Try.pinned (OpenSpec.ofChange vaultRotsWrong)

/-- 'cachetlaw9.VaultNames': WHATEVER THE INPUT: true; the input reads as it did. -/
def vaultNamesSpec : ChangeSpec := { name := "vaultNames", fn := fun _ => fun
  | [d] => { results := [.lit (.bool true)], args := [d] }
  | _ => none }
def vaultNamesRow : OpenClaim := { program := "ytncadekbnmhcpaa", sum := "f54e0e1ed9a134f0e05b2c0a4fe25c00d5f7e86ecd5ae15828802609e4c2fbea", func := "cachet/cachetlaw9.VaultNames", spec := "vaultNames", inPlace := ["internal/abi.NoEscape", "maps.clone"], unfollowed := true, recurses := true, apart := false }
def VaultNamesSaid : Prop := vaultNamesRow.holds Try.pinned (OpenSpec.ofChange vaultNamesSpec)

/-- ITS FALSE NEIGHBOUR: 'it returns false'. Refute it at one input. -/
def vaultNamesWrong : ChangeSpec := { name := "vaultNames", fn := fun _ => fun
  | [d] => { results := [.lit (.bool false)], args := [d] }
  | _ => none }
def VaultNamesWrongFalsely : Prop := vaultNamesRow.holds Try.pinned (OpenSpec.ofChange vaultNamesWrong)

/-- 'cachetlaw9.VaultAgain': WHATEVER THE INPUT: true; the input reads as it did. -/
def vaultAgainSpec : ChangeSpec := { name := "vaultAgain", fn := fun _ => fun
  | [d] => { results := [.lit (.bool true)], args := [d] }
  | _ => none }
def vaultAgainRow : OpenClaim := { program := "ytncadekbnmhcpaa", sum := "f54e0e1ed9a134f0e05b2c0a4fe25c00d5f7e86ecd5ae15828802609e4c2fbea", func := "cachet/cachetlaw9.VaultAgain", spec := "vaultAgain", inPlace := ["internal/abi.NoEscape", "maps.clone"], unfollowed := true, recurses := true, apart := false }
def VaultAgainSaid : Prop := vaultAgainRow.holds Try.pinned (OpenSpec.ofChange vaultAgainSpec)

/-- ITS FALSE NEIGHBOUR: 'it returns false'. Refute it at one input. -/
def vaultAgainWrong : ChangeSpec := { name := "vaultAgain", fn := fun _ => fun
  | [d] => { results := [.lit (.bool false)], args := [d] }
  | _ => none }
def VaultAgainWrongFalsely : Prop := vaultAgainRow.holds Try.pinned (OpenSpec.ofChange vaultAgainWrong)

/-- 'cachetlaw9.VaultEach': WHATEVER THE INPUT: true; the input reads as it did. -/
def vaultEachSpec : ChangeSpec := { name := "vaultEach", fn := fun _ => fun
  | [d1, d2, d3] => { results := [.lit (.bool true)], args := [d1, d2, d3] }
  | _ => none }
def vaultEachRow : OpenClaim := { program := "ytncadekbnmhcpaa", sum := "f54e0e1ed9a134f0e05b2c0a4fe25c00d5f7e86ecd5ae15828802609e4c2fbea", func := "cachet/cachetlaw9.VaultEach", spec := "vaultEach", inPlace := ["internal/abi.NoEscape", "maps.clone"], unfollowed := true, recurses := true, apart := false }
def VaultEachSaid : Prop := vaultEachRow.holds Try.pinned (OpenSpec.ofChange vaultEachSpec)

/-- ITS FALSE NEIGHBOUR: 'it returns false'. Refute it at one input. -/
def vaultEachWrong : ChangeSpec := { name := "vaultEach", fn := fun _ => fun
  | [d1, d2, d3] => { results := [.lit (.bool false)], args := [d1, d2, d3] }
  | _ => none }
def VaultEachWrongFalsely : Prop := vaultEachRow.holds Try.pinned (OpenSpec.ofChange vaultEachWrong)

/- THE SECOND FORM. 'bulk': how many values and letters a reading holds, each counted each time it is reached (what is shared counts as often as it is met; a slice's spare places count too). A statement '..UptoSaid' is the law's where the arguments, and the package variables that the reading takes, are together of bulk at most 1048576: NARROWER than '..Said'. Prove '..Said' where nothing that the law and all that it calls make is longer than what came in: it says more and counts as full. Else prove '..UptoSaid'. A law counts once. -/
mutual
def uptoBulk {H : Type} : DataW H → Nat
  | .lit (.string bytes) => bytes.length + 1
  | .lit _ => 1
  | .nil => 1
  | .ptr d => uptoBulk d + 1
  | .slice elems spare => uptoBulkAll elems + uptoBulkAll spare + 1
  | .agg parts => uptoBulkAll parts + 1
  | .iface _ d => uptoBulk d + 1
  | .map entries => uptoBulkEntries entries + 1
  | .held _ => 1
def uptoBulkAll {H : Type} : List (DataW H) → Nat
  | [] => 0
  | d :: r => uptoBulk d + uptoBulkAll r
def uptoBulkEntries {H : Type} : List (Lit × DataW H) → Nat
  | [] => 0
  | x :: r => uptoBulkEntry x + uptoBulkEntries r
def uptoBulkEntry {H : Type} : Lit × DataW H → Nat
  | (.string bytes, d) => bytes.length + uptoBulk d + 1
  | (_, d) => uptoBulk d + 1
 end
def uptoSmall : (H : Type) → List (DataW H) → Bool := fun _ ds => decide (uptoBulkAll ds ≤ 1048576)
def OpenSpec.upto (s : _root_.Go.ChangeSpec) : _root_.Go.OpenSpec := { _root_.Go.OpenSpec.ofChange s with cond := some uptoSmall }

/-- 'cachetlaw9.VaultForms', WHERE WHAT IT READS IS OF BULK AT MOST 1048576: true; the input reads as it did. -/
def vaultFormsUptoRow : OpenClaim := { program := "ytncadekbnmhcpaa", sum := "f54e0e1ed9a134f0e05b2c0a4fe25c00d5f7e86ecd5ae15828802609e4c2fbea", func := "cachet/cachetlaw9.VaultForms", spec := "vaultForms", inPlace := ["internal/abi.NoEscape", "maps.clone"], unfollowed := true, recurses := true, apart := false, narrowed := true }
def VaultFormsUptoSaid : Prop := vaultFormsUptoRow.holds Try.pinned (OpenSpec.upto vaultFormsSpec)

/-- 'cachetlaw9.VaultRots', WHERE WHAT IT READS IS OF BULK AT MOST 1048576: true; the input reads as it did. -/
def vaultRotsUptoRow : OpenClaim := { program := "ytncadekbnmhcpaa", sum := "f54e0e1ed9a134f0e05b2c0a4fe25c00d5f7e86ecd5ae15828802609e4c2fbea", func := "cachet/cachetlaw9.VaultRots", spec := "vaultRots", inPlace := ["internal/abi.NoEscape", "maps.clone"], unfollowed := true, recurses := true, apart := false, narrowed := true }
def VaultRotsUptoSaid : Prop := vaultRotsUptoRow.holds Try.pinned (OpenSpec.upto vaultRotsSpec)

/-- 'cachetlaw9.VaultNames', WHERE WHAT IT READS IS OF BULK AT MOST 1048576: true; the input reads as it did. -/
def vaultNamesUptoRow : OpenClaim := { program := "ytncadekbnmhcpaa", sum := "f54e0e1ed9a134f0e05b2c0a4fe25c00d5f7e86ecd5ae15828802609e4c2fbea", func := "cachet/cachetlaw9.VaultNames", spec := "vaultNames", inPlace := ["internal/abi.NoEscape", "maps.clone"], unfollowed := true, recurses := true, apart := false, narrowed := true }
def VaultNamesUptoSaid : Prop := vaultNamesUptoRow.holds Try.pinned (OpenSpec.upto vaultNamesSpec)

/-- 'cachetlaw9.VaultAgain', WHERE WHAT IT READS IS OF BULK AT MOST 1048576: true; the input reads as it did. -/
def vaultAgainUptoRow : OpenClaim := { program := "ytncadekbnmhcpaa", sum := "f54e0e1ed9a134f0e05b2c0a4fe25c00d5f7e86ecd5ae15828802609e4c2fbea", func := "cachet/cachetlaw9.VaultAgain", spec := "vaultAgain", inPlace := ["internal/abi.NoEscape", "maps.clone"], unfollowed := true, recurses := true, apart := false, narrowed := true }
def VaultAgainUptoSaid : Prop := vaultAgainUptoRow.holds Try.pinned (OpenSpec.upto vaultAgainSpec)

/-- 'cachetlaw9.VaultEach', WHERE WHAT IT READS IS OF BULK AT MOST 1048576: true; the input reads as it did. -/
def vaultEachUptoRow : OpenClaim := { program := "ytncadekbnmhcpaa", sum := "f54e0e1ed9a134f0e05b2c0a4fe25c00d5f7e86ecd5ae15828802609e4c2fbea", func := "cachet/cachetlaw9.VaultEach", spec := "vaultEach", inPlace := ["internal/abi.NoEscape", "maps.clone"], unfollowed := true, recurses := true, apart := false, narrowed := true }
def VaultEachUptoSaid : Prop := vaultEachUptoRow.holds Try.pinned (OpenSpec.upto vaultEachSpec)

end Rows
end Go.Proofs.Ytncadekbnmhcpaa
