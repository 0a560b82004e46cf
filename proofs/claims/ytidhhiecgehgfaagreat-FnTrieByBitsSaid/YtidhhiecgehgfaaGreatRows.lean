/-
  No cell of these rows narrows 'for every input' (looked for: loops, veiled, ifaces, maps, wideKeys, modest, calm, conditions, laid).
  DERIVED. THE GIVEN ROWS OF THIS SEAT. 9 by the template 'for every input the law returns true; each argument reads behind the call as it read before'; 0 by the template 'total and deterministic' (their statements: YtidhhiecgehgfaaGreatTotals.lean).
  GIVEN WITH THE SEED: the statements are not yours to turn. If you find one false, say at which input.
  Laid BY PROGRAM, IN A SANDBOX (cutbox-rows.mjs): the forced cells as the released guide's own fill.sh prints them over the translation 6b8a3a1c51bd95f6… (all of the seat's roots in one cut). By AI agents, Wed Nov 11 2026. No macro, syntax, notation, axiom, sorry.
-/
import Derived.Test.YtidhhiecgehgfaaGreatChecked
import GoSem.Claim
import GoSem.ClaimJoined
import GoSem.ClaimMapViews
import Derived.JoinedTies
import Derived.KernelRfl
namespace Go.Proofs.YtidhhiecgehgfaaGreat
/- THE CELL 'sum', in the pinned program and in every row, IS THE sha256 OF THE DUMP (.gsa) THAT YtidhhiecgehgfaaGreatProg.lean LOADS. Nothing in Lean hashes anything: it is a label: what it is worth is what the hold of that sum in a sandbox is worth. -/
noncomputable def Tryz.pinned : Pinned := { name := "ytidhhiecgehgfaagreat", sum := "6b8a3a1c51bd95f6fd702a76b1df77b92f03de9aa9999d06a05a242e020601af", checked := Tryz.checked }
namespace Rows
def none {H : Type} : Left H := { results := [], args := [] }

/-- 'laws.FnExactParentOf': WHATEVER THE INPUT: true; the input reads as it did. -/
def fnExactParentOfSpec : ChangeSpec := { name := "fnExactParentOf", fn := fun _ => fun
  | [d1, d2] => { results := [.lit (.bool true)], args := [d1, d2] }
  | _ => none }
def fnExactParentOfRow : OpenClaim := { program := "ytidhhiecgehgfaagreat", sum := "6b8a3a1c51bd95f6fd702a76b1df77b92f03de9aa9999d06a05a242e020601af", func := "loop.example/g01097/laws.FnExactParentOf", spec := "fnExactParentOf", inPlace := ["internal/bytealg.abigen_runtime_cmpstring"], unfollowed := true, recurses := true, apart := false }
def FnExactParentOfSaid : Prop := fnExactParentOfRow.holds Tryz.pinned (OpenSpec.ofChange fnExactParentOfSpec)

/-- ITS FALSE NEIGHBOUR: 'it returns false'. Refute it at one input. -/
def fnExactParentOfWrong : ChangeSpec := { name := "fnExactParentOf", fn := fun _ => fun
  | [d1, d2] => { results := [.lit (.bool false)], args := [d1, d2] }
  | _ => none }
def FnExactParentOfWrongFalsely : Prop := fnExactParentOfRow.holds Tryz.pinned (OpenSpec.ofChange fnExactParentOfWrong)

/-- 'laws.FnExactChildOf': WHATEVER THE INPUT: true; the input reads as it did. -/
def fnExactChildOfSpec : ChangeSpec := { name := "fnExactChildOf", fn := fun _ => fun
  | [d1, d2, d3] => { results := [.lit (.bool true)], args := [d1, d2, d3] }
  | _ => none }
def fnExactChildOfRow : OpenClaim := { program := "ytidhhiecgehgfaagreat", sum := "6b8a3a1c51bd95f6fd702a76b1df77b92f03de9aa9999d06a05a242e020601af", func := "loop.example/g01097/laws.FnExactChildOf", spec := "fnExactChildOf", inPlace := ["internal/bytealg.abigen_runtime_cmpstring"], unfollowed := true, recurses := true, apart := false }
def FnExactChildOfSaid : Prop := fnExactChildOfRow.holds Tryz.pinned (OpenSpec.ofChange fnExactChildOfSpec)

/-- ITS FALSE NEIGHBOUR: 'it returns false'. Refute it at one input. -/
def fnExactChildOfWrong : ChangeSpec := { name := "fnExactChildOf", fn := fun _ => fun
  | [d1, d2, d3] => { results := [.lit (.bool false)], args := [d1, d2, d3] }
  | _ => none }
def FnExactChildOfWrongFalsely : Prop := fnExactChildOfRow.holds Tryz.pinned (OpenSpec.ofChange fnExactChildOfWrong)

/-- 'laws.FnExactTrieIndex': WHATEVER THE INPUT: true; the input reads as it did. -/
def fnExactTrieIndexSpec : ChangeSpec := { name := "fnExactTrieIndex", fn := fun _ => fun
  | [d1, d2] => { results := [.lit (.bool true)], args := [d1, d2] }
  | _ => none }
def fnExactTrieIndexRow : OpenClaim := { program := "ytidhhiecgehgfaagreat", sum := "6b8a3a1c51bd95f6fd702a76b1df77b92f03de9aa9999d06a05a242e020601af", func := "loop.example/g01097/laws.FnExactTrieIndex", spec := "fnExactTrieIndex", inPlace := ["internal/bytealg.abigen_runtime_cmpstring"], unfollowed := true, recurses := true, apart := false }
def FnExactTrieIndexSaid : Prop := fnExactTrieIndexRow.holds Tryz.pinned (OpenSpec.ofChange fnExactTrieIndexSpec)

/-- ITS FALSE NEIGHBOUR: 'it returns false'. Refute it at one input. -/
def fnExactTrieIndexWrong : ChangeSpec := { name := "fnExactTrieIndex", fn := fun _ => fun
  | [d1, d2] => { results := [.lit (.bool false)], args := [d1, d2] }
  | _ => none }
def FnExactTrieIndexWrongFalsely : Prop := fnExactTrieIndexRow.holds Tryz.pinned (OpenSpec.ofChange fnExactTrieIndexWrong)

/-- 'laws.FnExactTrieRank': WHATEVER THE INPUT: true; the input reads as it did. -/
def fnExactTrieRankSpec : ChangeSpec := { name := "fnExactTrieRank", fn := fun _ => fun
  | [d1, d2] => { results := [.lit (.bool true)], args := [d1, d2] }
  | _ => none }
def fnExactTrieRankRow : OpenClaim := { program := "ytidhhiecgehgfaagreat", sum := "6b8a3a1c51bd95f6fd702a76b1df77b92f03de9aa9999d06a05a242e020601af", func := "loop.example/g01097/laws.FnExactTrieRank", spec := "fnExactTrieRank", inPlace := ["internal/bytealg.abigen_runtime_cmpstring"], unfollowed := true, recurses := true, apart := false }
def FnExactTrieRankSaid : Prop := fnExactTrieRankRow.holds Tryz.pinned (OpenSpec.ofChange fnExactTrieRankSpec)

/-- ITS FALSE NEIGHBOUR: 'it returns false'. Refute it at one input. -/
def fnExactTrieRankWrong : ChangeSpec := { name := "fnExactTrieRank", fn := fun _ => fun
  | [d1, d2] => { results := [.lit (.bool false)], args := [d1, d2] }
  | _ => none }
def FnExactTrieRankWrongFalsely : Prop := fnExactTrieRankRow.holds Tryz.pinned (OpenSpec.ofChange fnExactTrieRankWrong)

/-- 'laws.FnExactTrieKeys': WHATEVER THE INPUT: true; the input reads as it did. -/
def fnExactTrieKeysSpec : ChangeSpec := { name := "fnExactTrieKeys", fn := fun _ => fun
  | [d] => { results := [.lit (.bool true)], args := [d] }
  | _ => none }
def fnExactTrieKeysRow : OpenClaim := { program := "ytidhhiecgehgfaagreat", sum := "6b8a3a1c51bd95f6fd702a76b1df77b92f03de9aa9999d06a05a242e020601af", func := "loop.example/g01097/laws.FnExactTrieKeys", spec := "fnExactTrieKeys", inPlace := ["internal/bytealg.abigen_runtime_cmpstring"], unfollowed := true, recurses := true, apart := false }
def FnExactTrieKeysSaid : Prop := fnExactTrieKeysRow.holds Tryz.pinned (OpenSpec.ofChange fnExactTrieKeysSpec)

/-- ITS FALSE NEIGHBOUR: 'it returns false'. Refute it at one input. -/
def fnExactTrieKeysWrong : ChangeSpec := { name := "fnExactTrieKeys", fn := fun _ => fun
  | [d] => { results := [.lit (.bool false)], args := [d] }
  | _ => none }
def FnExactTrieKeysWrongFalsely : Prop := fnExactTrieKeysRow.holds Tryz.pinned (OpenSpec.ofChange fnExactTrieKeysWrong)

/-- 'laws.FnExactKeysWithPrefix': WHATEVER THE INPUT: true; the input reads as it did. -/
def fnExactKeysWithPrefixSpec : ChangeSpec := { name := "fnExactKeysWithPrefix", fn := fun _ => fun
  | [d1, d2] => { results := [.lit (.bool true)], args := [d1, d2] }
  | _ => none }
def fnExactKeysWithPrefixRow : OpenClaim := { program := "ytidhhiecgehgfaagreat", sum := "6b8a3a1c51bd95f6fd702a76b1df77b92f03de9aa9999d06a05a242e020601af", func := "loop.example/g01097/laws.FnExactKeysWithPrefix", spec := "fnExactKeysWithPrefix", inPlace := ["internal/bytealg.abigen_runtime_cmpstring"], unfollowed := true, recurses := true, apart := false }
def FnExactKeysWithPrefixSaid : Prop := fnExactKeysWithPrefixRow.holds Tryz.pinned (OpenSpec.ofChange fnExactKeysWithPrefixSpec)

/-- ITS FALSE NEIGHBOUR: 'it returns false'. Refute it at one input. -/
def fnExactKeysWithPrefixWrong : ChangeSpec := { name := "fnExactKeysWithPrefix", fn := fun _ => fun
  | [d1, d2] => { results := [.lit (.bool false)], args := [d1, d2] }
  | _ => none }
def FnExactKeysWithPrefixWrongFalsely : Prop := fnExactKeysWithPrefixRow.holds Tryz.pinned (OpenSpec.ofChange fnExactKeysWithPrefixWrong)

/-- 'laws.FnTrieIsWalked': WHATEVER THE INPUT: true; the input reads as it did. -/
def fnTrieIsWalkedSpec : ChangeSpec := { name := "fnTrieIsWalked", fn := fun _ => fun
  | [d1, d2] => { results := [.lit (.bool true)], args := [d1, d2] }
  | _ => none }
def fnTrieIsWalkedRow : OpenClaim := { program := "ytidhhiecgehgfaagreat", sum := "6b8a3a1c51bd95f6fd702a76b1df77b92f03de9aa9999d06a05a242e020601af", func := "loop.example/g01097/laws.FnTrieIsWalked", spec := "fnTrieIsWalked", inPlace := ["internal/bytealg.abigen_runtime_cmpstring"], unfollowed := true, recurses := true, apart := false }
def FnTrieIsWalkedSaid : Prop := fnTrieIsWalkedRow.holds Tryz.pinned (OpenSpec.ofChange fnTrieIsWalkedSpec)

/-- ITS FALSE NEIGHBOUR: 'it returns false'. Refute it at one input. -/
def fnTrieIsWalkedWrong : ChangeSpec := { name := "fnTrieIsWalked", fn := fun _ => fun
  | [d1, d2] => { results := [.lit (.bool false)], args := [d1, d2] }
  | _ => none }
def FnTrieIsWalkedWrongFalsely : Prop := fnTrieIsWalkedRow.holds Tryz.pinned (OpenSpec.ofChange fnTrieIsWalkedWrong)

/-- 'laws.FnTrieKeepsItsKeys': WHATEVER THE INPUT: true; the input reads as it did. -/
def fnTrieKeepsItsKeysSpec : ChangeSpec := { name := "fnTrieKeepsItsKeys", fn := fun _ => fun
  | [d1, d2] => { results := [.lit (.bool true)], args := [d1, d2] }
  | _ => none }
def fnTrieKeepsItsKeysRow : OpenClaim := { program := "ytidhhiecgehgfaagreat", sum := "6b8a3a1c51bd95f6fd702a76b1df77b92f03de9aa9999d06a05a242e020601af", func := "loop.example/g01097/laws.FnTrieKeepsItsKeys", spec := "fnTrieKeepsItsKeys", inPlace := ["internal/bytealg.abigen_runtime_cmpstring"], unfollowed := true, recurses := true, apart := false }
def FnTrieKeepsItsKeysSaid : Prop := fnTrieKeepsItsKeysRow.holds Tryz.pinned (OpenSpec.ofChange fnTrieKeepsItsKeysSpec)

/-- ITS FALSE NEIGHBOUR: 'it returns false'. Refute it at one input. -/
def fnTrieKeepsItsKeysWrong : ChangeSpec := { name := "fnTrieKeepsItsKeys", fn := fun _ => fun
  | [d1, d2] => { results := [.lit (.bool false)], args := [d1, d2] }
  | _ => none }
def FnTrieKeepsItsKeysWrongFalsely : Prop := fnTrieKeepsItsKeysRow.holds Tryz.pinned (OpenSpec.ofChange fnTrieKeepsItsKeysWrong)

/-- 'laws.FnTrieByBits': WHATEVER THE INPUT: true; the input reads as it did. -/
def fnTrieByBitsSpec : ChangeSpec := { name := "fnTrieByBits", fn := fun _ => fun
  | [d1, d2] => { results := [.lit (.bool true)], args := [d1, d2] }
  | _ => none }
def fnTrieByBitsRow : OpenClaim := { program := "ytidhhiecgehgfaagreat", sum := "6b8a3a1c51bd95f6fd702a76b1df77b92f03de9aa9999d06a05a242e020601af", func := "loop.example/g01097/laws.FnTrieByBits", spec := "fnTrieByBits", inPlace := ["internal/bytealg.abigen_runtime_cmpstring"], unfollowed := true, recurses := true, apart := false }
def FnTrieByBitsSaid : Prop := fnTrieByBitsRow.holds Tryz.pinned (OpenSpec.ofChange fnTrieByBitsSpec)

/-- ITS FALSE NEIGHBOUR: 'it returns false'. Refute it at one input. -/
def fnTrieByBitsWrong : ChangeSpec := { name := "fnTrieByBits", fn := fun _ => fun
  | [d1, d2] => { results := [.lit (.bool false)], args := [d1, d2] }
  | _ => none }
def FnTrieByBitsWrongFalsely : Prop := fnTrieByBitsRow.holds Tryz.pinned (OpenSpec.ofChange fnTrieByBitsWrong)

/- THE SECOND FORM. 'bulk': how many values and letters a reading holds, each counted each time it is reached (what is shared counts as often as it is met; a slice's spare places count too). A statement '..UptoSaid' is the law's where the arguments, and the package variables that the reading takes, are together of bulk at most 1048576: NARROWER than '..Said'. Prove '..Said' where nothing that the law and all that it calls make is longer than what came in: it says more and counts as full. Else prove '..UptoSaid'. A law counts once. -/
mutual
def uptoBulk {H : Type} : DataW H → Nat
  | .lit (.string bytes) => bytes.length + 1
  | .lit _ => 1
  | .nil => 1
  | .ptr d => uptoBulk d + 1
  | .slice elems spare => uptoBulkAll elems + uptoBulkAll spare + 1
  | .agg parts => uptoBulkAll parts + 1
  | .iface _ d => uptoBulk d + 1
  | .map entries => uptoBulkEntries entries + 1
  | .held _ => 1
def uptoBulkAll {H : Type} : List (DataW H) → Nat
  | [] => 0
  | d :: r => uptoBulk d + uptoBulkAll r
def uptoBulkEntries {H : Type} : List (Lit × DataW H) → Nat
  | [] => 0
  | x :: r => uptoBulkEntry x + uptoBulkEntries r
def uptoBulkEntry {H : Type} : Lit × DataW H → Nat
  | (.string bytes, d) => bytes.length + uptoBulk d + 1
  | (_, d) => uptoBulk d + 1
 end
def uptoSmall : (H : Type) → List (DataW H) → Bool := fun _ ds => decide (uptoBulkAll ds ≤ 1048576)
def OpenSpec.upto (s : _root_.Go.ChangeSpec) : _root_.Go.OpenSpec := { _root_.Go.OpenSpec.ofChange s with cond := some uptoSmall }

/-- 'laws.FnExactParentOf', WHERE WHAT IT READS IS OF BULK AT MOST 1048576: true; the input reads as it did. -/
def fnExactParentOfUptoRow : OpenClaim := { program := "ytidhhiecgehgfaagreat", sum := "6b8a3a1c51bd95f6fd702a76b1df77b92f03de9aa9999d06a05a242e020601af", func := "loop.example/g01097/laws.FnExactParentOf", spec := "fnExactParentOf", inPlace := ["internal/bytealg.abigen_runtime_cmpstring"], unfollowed := true, recurses := true, apart := false, narrowed := true }
def FnExactParentOfUptoSaid : Prop := fnExactParentOfUptoRow.holds Tryz.pinned (OpenSpec.upto fnExactParentOfSpec)

/-- 'laws.FnExactChildOf', WHERE WHAT IT READS IS OF BULK AT MOST 1048576: true; the input reads as it did. -/
def fnExactChildOfUptoRow : OpenClaim := { program := "ytidhhiecgehgfaagreat", sum := "6b8a3a1c51bd95f6fd702a76b1df77b92f03de9aa9999d06a05a242e020601af", func := "loop.example/g01097/laws.FnExactChildOf", spec := "fnExactChildOf", inPlace := ["internal/bytealg.abigen_runtime_cmpstring"], unfollowed := true, recurses := true, apart := false, narrowed := true }
def FnExactChildOfUptoSaid : Prop := fnExactChildOfUptoRow.holds Tryz.pinned (OpenSpec.upto fnExactChildOfSpec)

/-- 'laws.FnExactTrieIndex', WHERE WHAT IT READS IS OF BULK AT MOST 1048576: true; the input reads as it did. -/
def fnExactTrieIndexUptoRow : OpenClaim := { program := "ytidhhiecgehgfaagreat", sum := "6b8a3a1c51bd95f6fd702a76b1df77b92f03de9aa9999d06a05a242e020601af", func := "loop.example/g01097/laws.FnExactTrieIndex", spec := "fnExactTrieIndex", inPlace := ["internal/bytealg.abigen_runtime_cmpstring"], unfollowed := true, recurses := true, apart := false, narrowed := true }
def FnExactTrieIndexUptoSaid : Prop := fnExactTrieIndexUptoRow.holds Tryz.pinned (OpenSpec.upto fnExactTrieIndexSpec)

/-- 'laws.FnExactTrieRank', WHERE WHAT IT READS IS OF BULK AT MOST 1048576: true; the input reads as it did. -/
def fnExactTrieRankUptoRow : OpenClaim := { program := "ytidhhiecgehgfaagreat", sum := "6b8a3a1c51bd95f6fd702a76b1df77b92f03de9aa9999d06a05a242e020601af", func := "loop.example/g01097/laws.FnExactTrieRank", spec := "fnExactTrieRank", inPlace := ["internal/bytealg.abigen_runtime_cmpstring"], unfollowed := true, recurses := true, apart := false, narrowed := true }
def FnExactTrieRankUptoSaid : Prop := fnExactTrieRankUptoRow.holds Tryz.pinned (OpenSpec.upto fnExactTrieRankSpec)

/-- 'laws.FnExactTrieKeys', WHERE WHAT IT READS IS OF BULK AT MOST 1048576: true; the input reads as it did. -/
def fnExactTrieKeysUptoRow : OpenClaim := { program := "ytidhhiecgehgfaagreat", sum := "6b8a3a1c51bd95f6fd702a76b1df77b92f03de9aa9999d06a05a242e020601af", func := "loop.example/g01097/laws.FnExactTrieKeys", spec := "fnExactTrieKeys", inPlace := ["internal/bytealg.abigen_runtime_cmpstring"], unfollowed := true, recurses := true, apart := false, narrowed := true }
def FnExactTrieKeysUptoSaid : Prop := fnExactTrieKeysUptoRow.holds Tryz.pinned (OpenSpec.upto fnExactTrieKeysSpec)

/-- 'laws.FnExactKeysWithPrefix', WHERE WHAT IT READS IS OF BULK AT MOST 1048576: true; the input reads as it did. -/
def fnExactKeysWithPrefixUptoRow : OpenClaim := { program := "ytidhhiecgehgfaagreat", sum := "6b8a3a1c51bd95f6fd702a76b1df77b92f03de9aa9999d06a05a242e020601af", func := "loop.example/g01097/laws.FnExactKeysWithPrefix", spec := "fnExactKeysWithPrefix", inPlace := ["internal/bytealg.abigen_runtime_cmpstring"], unfollowed := true, recurses := true, apart := false, narrowed := true }
def FnExactKeysWithPrefixUptoSaid : Prop := fnExactKeysWithPrefixUptoRow.holds Tryz.pinned (OpenSpec.upto fnExactKeysWithPrefixSpec)

/-- 'laws.FnTrieIsWalked', WHERE WHAT IT READS IS OF BULK AT MOST 1048576: true; the input reads as it did. -/
def fnTrieIsWalkedUptoRow : OpenClaim := { program := "ytidhhiecgehgfaagreat", sum := "6b8a3a1c51bd95f6fd702a76b1df77b92f03de9aa9999d06a05a242e020601af", func := "loop.example/g01097/laws.FnTrieIsWalked", spec := "fnTrieIsWalked", inPlace := ["internal/bytealg.abigen_runtime_cmpstring"], unfollowed := true, recurses := true, apart := false, narrowed := true }
def FnTrieIsWalkedUptoSaid : Prop := fnTrieIsWalkedUptoRow.holds Tryz.pinned (OpenSpec.upto fnTrieIsWalkedSpec)

/-- 'laws.FnTrieKeepsItsKeys', WHERE WHAT IT READS IS OF BULK AT MOST 1048576: true; the input reads as it did. -/
def fnTrieKeepsItsKeysUptoRow : OpenClaim := { program := "ytidhhiecgehgfaagreat", sum := "6b8a3a1c51bd95f6fd702a76b1df77b92f03de9aa9999d06a05a242e020601af", func := "loop.example/g01097/laws.FnTrieKeepsItsKeys", spec := "fnTrieKeepsItsKeys", inPlace := ["internal/bytealg.abigen_runtime_cmpstring"], unfollowed := true, recurses := true, apart := false, narrowed := true }
def FnTrieKeepsItsKeysUptoSaid : Prop := fnTrieKeepsItsKeysUptoRow.holds Tryz.pinned (OpenSpec.upto fnTrieKeepsItsKeysSpec)

/-- 'laws.FnTrieByBits', WHERE WHAT IT READS IS OF BULK AT MOST 1048576: true; the input reads as it did. -/
def fnTrieByBitsUptoRow : OpenClaim := { program := "ytidhhiecgehgfaagreat", sum := "6b8a3a1c51bd95f6fd702a76b1df77b92f03de9aa9999d06a05a242e020601af", func := "loop.example/g01097/laws.FnTrieByBits", spec := "fnTrieByBits", inPlace := ["internal/bytealg.abigen_runtime_cmpstring"], unfollowed := true, recurses := true, apart := false, narrowed := true }
def FnTrieByBitsUptoSaid : Prop := fnTrieByBitsUptoRow.holds Tryz.pinned (OpenSpec.upto fnTrieByBitsSpec)

end Rows
end Go.Proofs.YtidhhiecgehgfaaGreat
