/-
  No cell of these rows narrows 'for every input' (looked for: loops, veiled, ifaces, maps, wideKeys, modest, calm, conditions, laid).
  DERIVED. THE GIVEN ROWS OF THIS SEAT. 4 by the template 'for every input the law returns true; each argument reads behind the call as it read before'; 0 by the template 'total and deterministic' (their statements: YtjfgmimgmapeeaaTotals.lean).
  GIVEN WITH THE SEED: the statements are not yours to turn. If you find one false, say at which input.
  Laid BY PROGRAM, IN A SANDBOX (cutbox-rows.mjs): the forced cells as the released guide's own fill.sh prints them over the translation f06bd28d895a28c8… (all of the seat's roots in one cut). By AI agents, Wed Nov 11 2026. No macro, syntax, notation, axiom, sorry.
-/
import Derived.Test.YtjfgmimgmapeeaaChecked
import GoSem.Claim
import GoSem.ClaimJoined
import GoSem.ClaimMapViews
import Derived.JoinedTies
import Derived.KernelRfl
namespace Go.Proofs.Ytjfgmimgmapeeaa
/- THE CELL 'sum', in the pinned program and in every row, IS THE sha256 OF THE DUMP (.gsa) THAT YtjfgmimgmapeeaaProg.lean LOADS. Nothing in Lean hashes anything: it is a label: what it is worth is what the hold of that sum in a sandbox is worth. -/
noncomputable def Try.pinned : Pinned := { name := "ytjfgmimgmapeeaa", sum := "f06bd28d895a28c877aa170cded977133ca4216d58c27a97a13918ec533fbafb", checked := Try.checked }
namespace Rows
def none {H : Type} : Left H := { results := [], args := [] }

/-- 'laws.FnExactTableRefusal': WHATEVER THE INPUT: true; the input reads as it did. -/
def fnExactTableRefusalSpec : ChangeSpec := { name := "fnExactTableRefusal", fn := fun _ => fun
  | [d1, d2, d3, d4, d5] => { results := [.lit (.bool true)], args := [d1, d2, d3, d4, d5] }
  | _ => none }
def fnExactTableRefusalRow : OpenClaim := { program := "ytjfgmimgmapeeaa", sum := "f06bd28d895a28c877aa170cded977133ca4216d58c27a97a13918ec533fbafb", func := "loop.example/g01097/laws.FnExactTableRefusal", spec := "fnExactTableRefusal", unfollowed := true, recurses := true, apart := false }
def FnExactTableRefusalSaid : Prop := fnExactTableRefusalRow.holds Try.pinned (OpenSpec.ofChange fnExactTableRefusalSpec)

/-- ITS FALSE NEIGHBOUR: 'it returns false'. Refute it at one input. -/
def fnExactTableRefusalWrong : ChangeSpec := { name := "fnExactTableRefusal", fn := fun _ => fun
  | [d1, d2, d3, d4, d5] => { results := [.lit (.bool false)], args := [d1, d2, d3, d4, d5] }
  | _ => none }
def FnExactTableRefusalWrongFalsely : Prop := fnExactTableRefusalRow.holds Try.pinned (OpenSpec.ofChange fnExactTableRefusalWrong)

/-- 'laws.FnExactTableBySolving': WHATEVER THE INPUT: true; the input reads as it did. -/
def fnExactTableBySolvingSpec : ChangeSpec := { name := "fnExactTableBySolving", fn := fun _ => fun
  | [d1, d2, d3, d4, d5] => { results := [.lit (.bool true)], args := [d1, d2, d3, d4, d5] }
  | _ => none }
def fnExactTableBySolvingRow : OpenClaim := { program := "ytjfgmimgmapeeaa", sum := "f06bd28d895a28c877aa170cded977133ca4216d58c27a97a13918ec533fbafb", func := "loop.example/g01097/laws.FnExactTableBySolving", spec := "fnExactTableBySolving", unfollowed := true, recurses := true, apart := false }
def FnExactTableBySolvingSaid : Prop := fnExactTableBySolvingRow.holds Try.pinned (OpenSpec.ofChange fnExactTableBySolvingSpec)

/-- ITS FALSE NEIGHBOUR: 'it returns false'. Refute it at one input. -/
def fnExactTableBySolvingWrong : ChangeSpec := { name := "fnExactTableBySolving", fn := fun _ => fun
  | [d1, d2, d3, d4, d5] => { results := [.lit (.bool false)], args := [d1, d2, d3, d4, d5] }
  | _ => none }
def FnExactTableBySolvingWrongFalsely : Prop := fnExactTableBySolvingRow.holds Try.pinned (OpenSpec.ofChange fnExactTableBySolvingWrong)

/-- 'laws.FnExactBuildSharded': WHATEVER THE INPUT: true; the input reads as it did. -/
def fnExactBuildShardedSpec : ChangeSpec := { name := "fnExactBuildSharded", fn := fun _ => fun
  | [d1, d2, d3] => { results := [.lit (.bool true)], args := [d1, d2, d3] }
  | _ => none }
def fnExactBuildShardedRow : OpenClaim := { program := "ytjfgmimgmapeeaa", sum := "f06bd28d895a28c877aa170cded977133ca4216d58c27a97a13918ec533fbafb", func := "loop.example/g01097/laws.FnExactBuildSharded", spec := "fnExactBuildSharded", unfollowed := true, recurses := true, apart := false }
def FnExactBuildShardedSaid : Prop := fnExactBuildShardedRow.holds Try.pinned (OpenSpec.ofChange fnExactBuildShardedSpec)

/-- ITS FALSE NEIGHBOUR: 'it returns false'. Refute it at one input. -/
def fnExactBuildShardedWrong : ChangeSpec := { name := "fnExactBuildSharded", fn := fun _ => fun
  | [d1, d2, d3] => { results := [.lit (.bool false)], args := [d1, d2, d3] }
  | _ => none }
def FnExactBuildShardedWrongFalsely : Prop := fnExactBuildShardedRow.holds Try.pinned (OpenSpec.ofChange fnExactBuildShardedWrong)

/-- 'laws.FnShardsHaveRanges': WHATEVER THE INPUT: true; the input reads as it did. -/
def fnShardsHaveRangesSpec : ChangeSpec := { name := "fnShardsHaveRanges", fn := fun _ => fun
  | [d1, d2] => { results := [.lit (.bool true)], args := [d1, d2] }
  | _ => none }
def fnShardsHaveRangesRow : OpenClaim := { program := "ytjfgmimgmapeeaa", sum := "f06bd28d895a28c877aa170cded977133ca4216d58c27a97a13918ec533fbafb", func := "loop.example/g01097/laws.FnShardsHaveRanges", spec := "fnShardsHaveRanges", unfollowed := true, recurses := true, apart := false }
def FnShardsHaveRangesSaid : Prop := fnShardsHaveRangesRow.holds Try.pinned (OpenSpec.ofChange fnShardsHaveRangesSpec)

/-- ITS FALSE NEIGHBOUR: 'it returns false'. Refute it at one input. -/
def fnShardsHaveRangesWrong : ChangeSpec := { name := "fnShardsHaveRanges", fn := fun _ => fun
  | [d1, d2] => { results := [.lit (.bool false)], args := [d1, d2] }
  | _ => none }
def FnShardsHaveRangesWrongFalsely : Prop := fnShardsHaveRangesRow.holds Try.pinned (OpenSpec.ofChange fnShardsHaveRangesWrong)

/- THE SECOND FORM. 'bulk': how many values and letters a reading holds, each counted each time it is reached (what is shared counts as often as it is met; a slice's spare places count too). A statement '..UptoSaid' is the law's where the arguments, and the package variables that the reading takes, are together of bulk at most 1048576: NARROWER than '..Said'. Prove '..Said' where nothing that the law and all that it calls make is longer than what came in: it says more and counts as full. Else prove '..UptoSaid'. A law counts once. -/
mutual
def uptoBulk {H : Type} : DataW H → Nat
  | .lit (.string bytes) => bytes.length + 1
  | .lit _ => 1
  | .nil => 1
  | .ptr d => uptoBulk d + 1
  | .slice elems spare => uptoBulkAll elems + uptoBulkAll spare + 1
  | .agg parts => uptoBulkAll parts + 1
  | .iface _ d => uptoBulk d + 1
  | .map entries => uptoBulkEntries entries + 1
  | .held _ => 1
def uptoBulkAll {H : Type} : List (DataW H) → Nat
  | [] => 0
  | d :: r => uptoBulk d + uptoBulkAll r
def uptoBulkEntries {H : Type} : List (Lit × DataW H) → Nat
  | [] => 0
  | x :: r => uptoBulkEntry x + uptoBulkEntries r
def uptoBulkEntry {H : Type} : Lit × DataW H → Nat
  | (.string bytes, d) => bytes.length + uptoBulk d + 1
  | (_, d) => uptoBulk d + 1
 end
def uptoSmall : (H : Type) → List (DataW H) → Bool := fun _ ds => decide (uptoBulkAll ds ≤ 1048576)
def OpenSpec.upto (s : _root_.Go.ChangeSpec) : _root_.Go.OpenSpec := { _root_.Go.OpenSpec.ofChange s with cond := some uptoSmall }

/-- 'laws.FnExactTableRefusal', WHERE WHAT IT READS IS OF BULK AT MOST 1048576: true; the input reads as it did. -/
def fnExactTableRefusalUptoRow : OpenClaim := { program := "ytjfgmimgmapeeaa", sum := "f06bd28d895a28c877aa170cded977133ca4216d58c27a97a13918ec533fbafb", func := "loop.example/g01097/laws.FnExactTableRefusal", spec := "fnExactTableRefusal", unfollowed := true, recurses := true, apart := false, narrowed := true }
def FnExactTableRefusalUptoSaid : Prop := fnExactTableRefusalUptoRow.holds Try.pinned (OpenSpec.upto fnExactTableRefusalSpec)

/-- 'laws.FnExactTableBySolving', WHERE WHAT IT READS IS OF BULK AT MOST 1048576: true; the input reads as it did. -/
def fnExactTableBySolvingUptoRow : OpenClaim := { program := "ytjfgmimgmapeeaa", sum := "f06bd28d895a28c877aa170cded977133ca4216d58c27a97a13918ec533fbafb", func := "loop.example/g01097/laws.FnExactTableBySolving", spec := "fnExactTableBySolving", unfollowed := true, recurses := true, apart := false, narrowed := true }
def FnExactTableBySolvingUptoSaid : Prop := fnExactTableBySolvingUptoRow.holds Try.pinned (OpenSpec.upto fnExactTableBySolvingSpec)

/-- 'laws.FnExactBuildSharded', WHERE WHAT IT READS IS OF BULK AT MOST 1048576: true; the input reads as it did. -/
def fnExactBuildShardedUptoRow : OpenClaim := { program := "ytjfgmimgmapeeaa", sum := "f06bd28d895a28c877aa170cded977133ca4216d58c27a97a13918ec533fbafb", func := "loop.example/g01097/laws.FnExactBuildSharded", spec := "fnExactBuildSharded", unfollowed := true, recurses := true, apart := false, narrowed := true }
def FnExactBuildShardedUptoSaid : Prop := fnExactBuildShardedUptoRow.holds Try.pinned (OpenSpec.upto fnExactBuildShardedSpec)

/-- 'laws.FnShardsHaveRanges', WHERE WHAT IT READS IS OF BULK AT MOST 1048576: true; the input reads as it did. -/
def fnShardsHaveRangesUptoRow : OpenClaim := { program := "ytjfgmimgmapeeaa", sum := "f06bd28d895a28c877aa170cded977133ca4216d58c27a97a13918ec533fbafb", func := "loop.example/g01097/laws.FnShardsHaveRanges", spec := "fnShardsHaveRanges", unfollowed := true, recurses := true, apart := false, narrowed := true }
def FnShardsHaveRangesUptoSaid : Prop := fnShardsHaveRangesUptoRow.holds Try.pinned (OpenSpec.upto fnShardsHaveRangesSpec)

end Rows
end Go.Proofs.Ytjfgmimgmapeeaa
