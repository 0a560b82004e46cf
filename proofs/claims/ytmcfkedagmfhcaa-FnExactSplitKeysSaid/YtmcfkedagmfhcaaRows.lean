/-
  No cell of these rows narrows 'for every input' (looked for: loops, veiled, ifaces, maps, wideKeys, modest, calm, conditions, laid).
  DERIVED. THE GIVEN ROWS OF THIS SEAT. 8 by the template 'for every input the law returns true; each argument reads behind the call as it read before'; 0 by the template 'total and deterministic' (their statements: YtmcfkedagmfhcaaTotals.lean).
  GIVEN WITH THE SEED: the statements are not yours to turn. If you find one false, say at which input.
  Laid BY PROGRAM, IN A SANDBOX (cutbox-rows.mjs): the forced cells as the released guide's own fill.sh prints them over the translation 893ab77b75244427… (all of the seat's roots in one cut). By AI agents, Wed Nov 11 2026. No macro, syntax, notation, axiom, sorry.
-/
import Derived.Test.YtmcfkedagmfhcaaChecked
import GoSem.Claim
import GoSem.ClaimJoined
import GoSem.ClaimMapViews
import Derived.JoinedTies
import Derived.KernelRfl
namespace Go.Proofs.Ytmcfkedagmfhcaa
/- THE CELL 'sum', in the pinned program and in every row, IS THE sha256 OF THE DUMP (.gsa) THAT YtmcfkedagmfhcaaProg.lean LOADS. Nothing in Lean hashes anything: it is a label: what it is worth is what the hold of that sum in a sandbox is worth. -/
noncomputable def Try.pinned : Pinned := { name := "ytmcfkedagmfhcaa", sum := "893ab77b752444274cd8f51acd5944e2b9faf50f5c9706c77882ddd040fa516b", checked := Try.checked }
namespace Rows
def none {H : Type} : Left H := { results := [], args := [] }

/-- 'laws.FnExactSplitKeys': WHATEVER THE INPUT: true; the input reads as it did. -/
def fnExactSplitKeysSpec : ChangeSpec := { name := "fnExactSplitKeys", fn := fun _ => fun
  | [d1, d2, d3] => { results := [.lit (.bool true)], args := [d1, d2, d3] }
  | _ => none }
def fnExactSplitKeysRow : OpenClaim := { program := "ytmcfkedagmfhcaa", sum := "893ab77b752444274cd8f51acd5944e2b9faf50f5c9706c77882ddd040fa516b", func := "loop.example/g01097/laws.FnExactSplitKeys", spec := "fnExactSplitKeys", apart := false }
def FnExactSplitKeysSaid : Prop := fnExactSplitKeysRow.holds Try.pinned (OpenSpec.ofChange fnExactSplitKeysSpec)

/-- ITS FALSE NEIGHBOUR: 'it returns false'. Refute it at one input. -/
def fnExactSplitKeysWrong : ChangeSpec := { name := "fnExactSplitKeys", fn := fun _ => fun
  | [d1, d2, d3] => { results := [.lit (.bool false)], args := [d1, d2, d3] }
  | _ => none }
def FnExactSplitKeysWrongFalsely : Prop := fnExactSplitKeysRow.holds Try.pinned (OpenSpec.ofChange fnExactSplitKeysWrong)

/-- 'laws.FnExactIsSharded': WHATEVER THE INPUT: true; the input reads as it did. -/
def fnExactIsShardedSpec : ChangeSpec := { name := "fnExactIsSharded", fn := fun _ => fun
  | [d] => { results := [.lit (.bool true)], args := [d] }
  | _ => none }
def fnExactIsShardedRow : OpenClaim := { program := "ytmcfkedagmfhcaa", sum := "893ab77b752444274cd8f51acd5944e2b9faf50f5c9706c77882ddd040fa516b", func := "loop.example/g01097/laws.FnExactIsSharded", spec := "fnExactIsSharded", unfollowed := true, recurses := true, apart := false }
def FnExactIsShardedSaid : Prop := fnExactIsShardedRow.holds Try.pinned (OpenSpec.ofChange fnExactIsShardedSpec)

/-- ITS FALSE NEIGHBOUR: 'it returns false'. Refute it at one input. -/
def fnExactIsShardedWrong : ChangeSpec := { name := "fnExactIsSharded", fn := fun _ => fun
  | [d] => { results := [.lit (.bool false)], args := [d] }
  | _ => none }
def FnExactIsShardedWrongFalsely : Prop := fnExactIsShardedRow.holds Try.pinned (OpenSpec.ofChange fnExactIsShardedWrong)

/-- 'laws.FnExactShardOf': WHATEVER THE INPUT: true; the input reads as it did. -/
def fnExactShardOfSpec : ChangeSpec := { name := "fnExactShardOf", fn := fun _ => fun
  | [d1, d2] => { results := [.lit (.bool true)], args := [d1, d2] }
  | _ => none }
def fnExactShardOfRow : OpenClaim := { program := "ytmcfkedagmfhcaa", sum := "893ab77b752444274cd8f51acd5944e2b9faf50f5c9706c77882ddd040fa516b", func := "loop.example/g01097/laws.FnExactShardOf", spec := "fnExactShardOf", unfollowed := true, recurses := true, apart := false }
def FnExactShardOfSaid : Prop := fnExactShardOfRow.holds Try.pinned (OpenSpec.ofChange fnExactShardOfSpec)

/-- ITS FALSE NEIGHBOUR: 'it returns false'. Refute it at one input. -/
def fnExactShardOfWrong : ChangeSpec := { name := "fnExactShardOf", fn := fun _ => fun
  | [d1, d2] => { results := [.lit (.bool false)], args := [d1, d2] }
  | _ => none }
def FnExactShardOfWrongFalsely : Prop := fnExactShardOfRow.holds Try.pinned (OpenSpec.ofChange fnExactShardOfWrong)

/-- 'laws.FnExactShardedIndex': WHATEVER THE INPUT: true; the input reads as it did. -/
def fnExactShardedIndexSpec : ChangeSpec := { name := "fnExactShardedIndex", fn := fun _ => fun
  | [d1, d2] => { results := [.lit (.bool true)], args := [d1, d2] }
  | _ => none }
def fnExactShardedIndexRow : OpenClaim := { program := "ytmcfkedagmfhcaa", sum := "893ab77b752444274cd8f51acd5944e2b9faf50f5c9706c77882ddd040fa516b", func := "loop.example/g01097/laws.FnExactShardedIndex", spec := "fnExactShardedIndex", unfollowed := true, recurses := true, apart := false }
def FnExactShardedIndexSaid : Prop := fnExactShardedIndexRow.holds Try.pinned (OpenSpec.ofChange fnExactShardedIndexSpec)

/-- ITS FALSE NEIGHBOUR: 'it returns false'. Refute it at one input. -/
def fnExactShardedIndexWrong : ChangeSpec := { name := "fnExactShardedIndex", fn := fun _ => fun
  | [d1, d2] => { results := [.lit (.bool false)], args := [d1, d2] }
  | _ => none }
def FnExactShardedIndexWrongFalsely : Prop := fnExactShardedIndexRow.holds Try.pinned (OpenSpec.ofChange fnExactShardedIndexWrong)

/-- 'laws.FnExactIsShardedFor': WHATEVER THE INPUT: true; the input reads as it did. -/
def fnExactIsShardedForSpec : ChangeSpec := { name := "fnExactIsShardedFor", fn := fun _ => fun
  | [d1, d2] => { results := [.lit (.bool true)], args := [d1, d2] }
  | _ => none }
def fnExactIsShardedForRow : OpenClaim := { program := "ytmcfkedagmfhcaa", sum := "893ab77b752444274cd8f51acd5944e2b9faf50f5c9706c77882ddd040fa516b", func := "loop.example/g01097/laws.FnExactIsShardedFor", spec := "fnExactIsShardedFor", unfollowed := true, recurses := true, apart := false }
def FnExactIsShardedForSaid : Prop := fnExactIsShardedForRow.holds Try.pinned (OpenSpec.ofChange fnExactIsShardedForSpec)

/-- ITS FALSE NEIGHBOUR: 'it returns false'. Refute it at one input. -/
def fnExactIsShardedForWrong : ChangeSpec := { name := "fnExactIsShardedFor", fn := fun _ => fun
  | [d1, d2] => { results := [.lit (.bool false)], args := [d1, d2] }
  | _ => none }
def FnExactIsShardedForWrongFalsely : Prop := fnExactIsShardedForRow.holds Try.pinned (OpenSpec.ofChange fnExactIsShardedForWrong)

/-- 'laws.FnExactBuildSharded': WHATEVER THE INPUT: true; the input reads as it did. -/
def fnExactBuildShardedSpec : ChangeSpec := { name := "fnExactBuildSharded", fn := fun _ => fun
  | [d1, d2, d3] => { results := [.lit (.bool true)], args := [d1, d2, d3] }
  | _ => none }
def fnExactBuildShardedRow : OpenClaim := { program := "ytmcfkedagmfhcaa", sum := "893ab77b752444274cd8f51acd5944e2b9faf50f5c9706c77882ddd040fa516b", func := "loop.example/g01097/laws.FnExactBuildSharded", spec := "fnExactBuildSharded", unfollowed := true, recurses := true, apart := false }
def FnExactBuildShardedSaid : Prop := fnExactBuildShardedRow.holds Try.pinned (OpenSpec.ofChange fnExactBuildShardedSpec)

/-- ITS FALSE NEIGHBOUR: 'it returns false'. Refute it at one input. -/
def fnExactBuildShardedWrong : ChangeSpec := { name := "fnExactBuildSharded", fn := fun _ => fun
  | [d1, d2, d3] => { results := [.lit (.bool false)], args := [d1, d2, d3] }
  | _ => none }
def FnExactBuildShardedWrongFalsely : Prop := fnExactBuildShardedRow.holds Try.pinned (OpenSpec.ofChange fnExactBuildShardedWrong)

/-- 'laws.FnShardsHaveRanges': WHATEVER THE INPUT: true; the input reads as it did. -/
def fnShardsHaveRangesSpec : ChangeSpec := { name := "fnShardsHaveRanges", fn := fun _ => fun
  | [d1, d2] => { results := [.lit (.bool true)], args := [d1, d2] }
  | _ => none }
def fnShardsHaveRangesRow : OpenClaim := { program := "ytmcfkedagmfhcaa", sum := "893ab77b752444274cd8f51acd5944e2b9faf50f5c9706c77882ddd040fa516b", func := "loop.example/g01097/laws.FnShardsHaveRanges", spec := "fnShardsHaveRanges", unfollowed := true, recurses := true, apart := false }
def FnShardsHaveRangesSaid : Prop := fnShardsHaveRangesRow.holds Try.pinned (OpenSpec.ofChange fnShardsHaveRangesSpec)

/-- ITS FALSE NEIGHBOUR: 'it returns false'. Refute it at one input. -/
def fnShardsHaveRangesWrong : ChangeSpec := { name := "fnShardsHaveRanges", fn := fun _ => fun
  | [d1, d2] => { results := [.lit (.bool false)], args := [d1, d2] }
  | _ => none }
def FnShardsHaveRangesWrongFalsely : Prop := fnShardsHaveRangesRow.holds Try.pinned (OpenSpec.ofChange fnShardsHaveRangesWrong)

/-- 'laws.FnExactIsDesk': WHATEVER THE INPUT: true; the input reads as it did. -/
def fnExactIsDeskSpec : ChangeSpec := { name := "fnExactIsDesk", fn := fun _ => fun
  | [d] => { results := [.lit (.bool true)], args := [d] }
  | _ => none }
def fnExactIsDeskRow : OpenClaim := { program := "ytmcfkedagmfhcaa", sum := "893ab77b752444274cd8f51acd5944e2b9faf50f5c9706c77882ddd040fa516b", func := "loop.example/g01097/laws.FnExactIsDesk", spec := "fnExactIsDesk", apart := false }
def FnExactIsDeskSaid : Prop := fnExactIsDeskRow.holds Try.pinned (OpenSpec.ofChange fnExactIsDeskSpec)

/-- ITS FALSE NEIGHBOUR: 'it returns false'. Refute it at one input. -/
def fnExactIsDeskWrong : ChangeSpec := { name := "fnExactIsDesk", fn := fun _ => fun
  | [d] => { results := [.lit (.bool false)], args := [d] }
  | _ => none }
def FnExactIsDeskWrongFalsely : Prop := fnExactIsDeskRow.holds Try.pinned (OpenSpec.ofChange fnExactIsDeskWrong)

/- THE SECOND FORM. 'bulk': how many values and letters a reading holds, each counted each time it is reached (what is shared counts as often as it is met; a slice's spare places count too). A statement '..UptoSaid' is the law's where the arguments, and the package variables that the reading takes, are together of bulk at most 1048576: NARROWER than '..Said'. Prove '..Said' where nothing that the law and all that it calls make is longer than what came in: it says more and counts as full. Else prove '..UptoSaid'. A law counts once. -/
mutual
def uptoBulk {H : Type} : DataW H → Nat
  | .lit (.string bytes) => bytes.length + 1
  | .lit _ => 1
  | .nil => 1
  | .ptr d => uptoBulk d + 1
  | .slice elems spare => uptoBulkAll elems + uptoBulkAll spare + 1
  | .agg parts => uptoBulkAll parts + 1
  | .iface _ d => uptoBulk d + 1
  | .map entries => uptoBulkEntries entries + 1
  | .held _ => 1
def uptoBulkAll {H : Type} : List (DataW H) → Nat
  | [] => 0
  | d :: r => uptoBulk d + uptoBulkAll r
def uptoBulkEntries {H : Type} : List (Lit × DataW H) → Nat
  | [] => 0
  | x :: r => uptoBulkEntry x + uptoBulkEntries r
def uptoBulkEntry {H : Type} : Lit × DataW H → Nat
  | (.string bytes, d) => bytes.length + uptoBulk d + 1
  | (_, d) => uptoBulk d + 1
 end
def uptoSmall : (H : Type) → List (DataW H) → Bool := fun _ ds => decide (uptoBulkAll ds ≤ 1048576)
def OpenSpec.upto (s : _root_.Go.ChangeSpec) : _root_.Go.OpenSpec := { _root_.Go.OpenSpec.ofChange s with cond := some uptoSmall }

/-- 'laws.FnExactSplitKeys', WHERE WHAT IT READS IS OF BULK AT MOST 1048576: true; the input reads as it did. -/
def fnExactSplitKeysUptoRow : OpenClaim := { program := "ytmcfkedagmfhcaa", sum := "893ab77b752444274cd8f51acd5944e2b9faf50f5c9706c77882ddd040fa516b", func := "loop.example/g01097/laws.FnExactSplitKeys", spec := "fnExactSplitKeys", apart := false, narrowed := true }
def FnExactSplitKeysUptoSaid : Prop := fnExactSplitKeysUptoRow.holds Try.pinned (OpenSpec.upto fnExactSplitKeysSpec)

/-- 'laws.FnExactIsSharded', WHERE WHAT IT READS IS OF BULK AT MOST 1048576: true; the input reads as it did. -/
def fnExactIsShardedUptoRow : OpenClaim := { program := "ytmcfkedagmfhcaa", sum := "893ab77b752444274cd8f51acd5944e2b9faf50f5c9706c77882ddd040fa516b", func := "loop.example/g01097/laws.FnExactIsSharded", spec := "fnExactIsSharded", unfollowed := true, recurses := true, apart := false, narrowed := true }
def FnExactIsShardedUptoSaid : Prop := fnExactIsShardedUptoRow.holds Try.pinned (OpenSpec.upto fnExactIsShardedSpec)

/-- 'laws.FnExactShardOf', WHERE WHAT IT READS IS OF BULK AT MOST 1048576: true; the input reads as it did. -/
def fnExactShardOfUptoRow : OpenClaim := { program := "ytmcfkedagmfhcaa", sum := "893ab77b752444274cd8f51acd5944e2b9faf50f5c9706c77882ddd040fa516b", func := "loop.example/g01097/laws.FnExactShardOf", spec := "fnExactShardOf", unfollowed := true, recurses := true, apart := false, narrowed := true }
def FnExactShardOfUptoSaid : Prop := fnExactShardOfUptoRow.holds Try.pinned (OpenSpec.upto fnExactShardOfSpec)

/-- 'laws.FnExactShardedIndex', WHERE WHAT IT READS IS OF BULK AT MOST 1048576: true; the input reads as it did. -/
def fnExactShardedIndexUptoRow : OpenClaim := { program := "ytmcfkedagmfhcaa", sum := "893ab77b752444274cd8f51acd5944e2b9faf50f5c9706c77882ddd040fa516b", func := "loop.example/g01097/laws.FnExactShardedIndex", spec := "fnExactShardedIndex", unfollowed := true, recurses := true, apart := false, narrowed := true }
def FnExactShardedIndexUptoSaid : Prop := fnExactShardedIndexUptoRow.holds Try.pinned (OpenSpec.upto fnExactShardedIndexSpec)

/-- 'laws.FnExactIsShardedFor', WHERE WHAT IT READS IS OF BULK AT MOST 1048576: true; the input reads as it did. -/
def fnExactIsShardedForUptoRow : OpenClaim := { program := "ytmcfkedagmfhcaa", sum := "893ab77b752444274cd8f51acd5944e2b9faf50f5c9706c77882ddd040fa516b", func := "loop.example/g01097/laws.FnExactIsShardedFor", spec := "fnExactIsShardedFor", unfollowed := true, recurses := true, apart := false, narrowed := true }
def FnExactIsShardedForUptoSaid : Prop := fnExactIsShardedForUptoRow.holds Try.pinned (OpenSpec.upto fnExactIsShardedForSpec)

/-- 'laws.FnExactBuildSharded', WHERE WHAT IT READS IS OF BULK AT MOST 1048576: true; the input reads as it did. -/
def fnExactBuildShardedUptoRow : OpenClaim := { program := "ytmcfkedagmfhcaa", sum := "893ab77b752444274cd8f51acd5944e2b9faf50f5c9706c77882ddd040fa516b", func := "loop.example/g01097/laws.FnExactBuildSharded", spec := "fnExactBuildSharded", unfollowed := true, recurses := true, apart := false, narrowed := true }
def FnExactBuildShardedUptoSaid : Prop := fnExactBuildShardedUptoRow.holds Try.pinned (OpenSpec.upto fnExactBuildShardedSpec)

/-- 'laws.FnShardsHaveRanges', WHERE WHAT IT READS IS OF BULK AT MOST 1048576: true; the input reads as it did. -/
def fnShardsHaveRangesUptoRow : OpenClaim := { program := "ytmcfkedagmfhcaa", sum := "893ab77b752444274cd8f51acd5944e2b9faf50f5c9706c77882ddd040fa516b", func := "loop.example/g01097/laws.FnShardsHaveRanges", spec := "fnShardsHaveRanges", unfollowed := true, recurses := true, apart := false, narrowed := true }
def FnShardsHaveRangesUptoSaid : Prop := fnShardsHaveRangesUptoRow.holds Try.pinned (OpenSpec.upto fnShardsHaveRangesSpec)

/-- 'laws.FnExactIsDesk', WHERE WHAT IT READS IS OF BULK AT MOST 1048576: true; the input reads as it did. -/
def fnExactIsDeskUptoRow : OpenClaim := { program := "ytmcfkedagmfhcaa", sum := "893ab77b752444274cd8f51acd5944e2b9faf50f5c9706c77882ddd040fa516b", func := "loop.example/g01097/laws.FnExactIsDesk", spec := "fnExactIsDesk", apart := false, narrowed := true }
def FnExactIsDeskUptoSaid : Prop := fnExactIsDeskUptoRow.holds Try.pinned (OpenSpec.upto fnExactIsDeskSpec)

end Rows
end Go.Proofs.Ytmcfkedagmfhcaa
