/-
  No cell of these rows narrows 'for every input' (looked for: loops, veiled, ifaces, maps, wideKeys, modest, calm, conditions, laid).
  DERIVED. THE GIVEN ROWS OF THIS SEAT. 9 by the template 'for every input the law returns true; each argument reads behind the call as it read before'; 0 by the template 'total and deterministic' (their statements: YtgkdnpigbpkehaaTotals.lean).
  GIVEN WITH THE SEED: the statements are not yours to turn. If you find one false, say at which input.
  Laid BY PROGRAM, IN A SANDBOX (cutbox-rows.mjs): the forced cells as the released guide's own fill.sh prints them over the translation 62340e8eaf894b32… (all of the seat's roots in one cut). By AI agents, Wed Nov 11 2026. No macro, syntax, notation, axiom, sorry.
-/
import Derived.Test.YtgkdnpigbpkehaaChecked
import GoSem.Claim
import GoSem.ClaimJoined
import GoSem.ClaimMapViews
import Derived.JoinedTies
import Derived.KernelRfl
namespace Go.Proofs.Ytgkdnpigbpkehaa
/- THE CELL 'sum', in the pinned program and in every row, IS THE sha256 OF THE DUMP (.gsa) THAT YtgkdnpigbpkehaaProg.lean LOADS. Nothing in Lean hashes anything: it is a label: what it is worth is what the hold of that sum in a sandbox is worth. -/
noncomputable def Try.pinned : Pinned := { name := "ytgkdnpigbpkehaa", sum := "62340e8eaf894b32426580720dd5ef27dbdf3900d1938977e82a0f53500a5ddb", checked := Try.checked }
namespace Rows
def none {H : Type} : Left H := { results := [], args := [] }

/-- 'laws.FnExactFirstDesk': WHATEVER THE INPUT: true; the input reads as it did. -/
def fnExactFirstDeskSpec : ChangeSpec := { name := "fnExactFirstDesk", fn := fun _ => fun
  | [] => { results := [.lit (.bool true)], args := [] }
  | _ => none }
def fnExactFirstDeskRow : OpenClaim := { program := "ytgkdnpigbpkehaa", sum := "62340e8eaf894b32426580720dd5ef27dbdf3900d1938977e82a0f53500a5ddb", func := "loop.example/g01097/laws.FnExactFirstDesk", spec := "fnExactFirstDesk", apart := false }
def FnExactFirstDeskSaid : Prop := fnExactFirstDeskRow.holds Try.pinned (OpenSpec.ofChange fnExactFirstDeskSpec)

/-- ITS FALSE NEIGHBOUR: 'it returns false'. Refute it at one input. -/
def fnExactFirstDeskWrong : ChangeSpec := { name := "fnExactFirstDesk", fn := fun _ => fun
  | [] => { results := [.lit (.bool false)], args := [] }
  | _ => none }
def FnExactFirstDeskWrongFalsely : Prop := fnExactFirstDeskRow.holds Try.pinned (OpenSpec.ofChange fnExactFirstDeskWrong)

/-- 'laws.FnExactIsRefusal': WHATEVER THE INPUT: true; the input reads as it did. -/
def fnExactIsRefusalSpec : ChangeSpec := { name := "fnExactIsRefusal", fn := fun _ => fun
  | [d1, d2] => { results := [.lit (.bool true)], args := [d1, d2] }
  | _ => none }
def fnExactIsRefusalRow : OpenClaim := { program := "ytgkdnpigbpkehaa", sum := "62340e8eaf894b32426580720dd5ef27dbdf3900d1938977e82a0f53500a5ddb", func := "loop.example/g01097/laws.FnExactIsRefusal", spec := "fnExactIsRefusal", unfollowed := true, recurses := true, apart := false }
def FnExactIsRefusalSaid : Prop := fnExactIsRefusalRow.holds Try.pinned (OpenSpec.ofChange fnExactIsRefusalSpec)

/-- ITS FALSE NEIGHBOUR: 'it returns false'. Refute it at one input. -/
def fnExactIsRefusalWrong : ChangeSpec := { name := "fnExactIsRefusal", fn := fun _ => fun
  | [d1, d2] => { results := [.lit (.bool false)], args := [d1, d2] }
  | _ => none }
def FnExactIsRefusalWrongFalsely : Prop := fnExactIsRefusalRow.holds Try.pinned (OpenSpec.ofChange fnExactIsRefusalWrong)

/-- 'laws.FnExactRankOf': WHATEVER THE INPUT: true; the input reads as it did. -/
def fnExactRankOfSpec : ChangeSpec := { name := "fnExactRankOf", fn := fun _ => fun
  | [d] => { results := [.lit (.bool true)], args := [d] }
  | _ => none }
def fnExactRankOfRow : OpenClaim := { program := "ytgkdnpigbpkehaa", sum := "62340e8eaf894b32426580720dd5ef27dbdf3900d1938977e82a0f53500a5ddb", func := "loop.example/g01097/laws.FnExactRankOf", spec := "fnExactRankOf", unfollowed := true, recurses := true, apart := false }
def FnExactRankOfSaid : Prop := fnExactRankOfRow.holds Try.pinned (OpenSpec.ofChange fnExactRankOfSpec)

/-- ITS FALSE NEIGHBOUR: 'it returns false'. Refute it at one input. -/
def fnExactRankOfWrong : ChangeSpec := { name := "fnExactRankOf", fn := fun _ => fun
  | [d] => { results := [.lit (.bool false)], args := [d] }
  | _ => none }
def FnExactRankOfWrongFalsely : Prop := fnExactRankOfRow.holds Try.pinned (OpenSpec.ofChange fnExactRankOfWrong)

/-- 'laws.FnExactRefusalOf': WHATEVER THE INPUT: true; the input reads as it did. -/
def fnExactRefusalOfSpec : ChangeSpec := { name := "fnExactRefusalOf", fn := fun _ => fun
  | [d] => { results := [.lit (.bool true)], args := [d] }
  | _ => none }
def fnExactRefusalOfRow : OpenClaim := { program := "ytgkdnpigbpkehaa", sum := "62340e8eaf894b32426580720dd5ef27dbdf3900d1938977e82a0f53500a5ddb", func := "loop.example/g01097/laws.FnExactRefusalOf", spec := "fnExactRefusalOf", unfollowed := true, recurses := true, apart := false }
def FnExactRefusalOfSaid : Prop := fnExactRefusalOfRow.holds Try.pinned (OpenSpec.ofChange fnExactRefusalOfSpec)

/-- ITS FALSE NEIGHBOUR: 'it returns false'. Refute it at one input. -/
def fnExactRefusalOfWrong : ChangeSpec := { name := "fnExactRefusalOf", fn := fun _ => fun
  | [d] => { results := [.lit (.bool false)], args := [d] }
  | _ => none }
def FnExactRefusalOfWrongFalsely : Prop := fnExactRefusalOfRow.holds Try.pinned (OpenSpec.ofChange fnExactRefusalOfWrong)

/-- 'laws.FnExactFreeColumns': WHATEVER THE INPUT: true; the input reads as it did. -/
def fnExactFreeColumnsSpec : ChangeSpec := { name := "fnExactFreeColumns", fn := fun _ => fun
  | [d] => { results := [.lit (.bool true)], args := [d] }
  | _ => none }
def fnExactFreeColumnsRow : OpenClaim := { program := "ytgkdnpigbpkehaa", sum := "62340e8eaf894b32426580720dd5ef27dbdf3900d1938977e82a0f53500a5ddb", func := "loop.example/g01097/laws.FnExactFreeColumns", spec := "fnExactFreeColumns", unfollowed := true, recurses := true, apart := false }
def FnExactFreeColumnsSaid : Prop := fnExactFreeColumnsRow.holds Try.pinned (OpenSpec.ofChange fnExactFreeColumnsSpec)

/-- ITS FALSE NEIGHBOUR: 'it returns false'. Refute it at one input. -/
def fnExactFreeColumnsWrong : ChangeSpec := { name := "fnExactFreeColumns", fn := fun _ => fun
  | [d] => { results := [.lit (.bool false)], args := [d] }
  | _ => none }
def FnExactFreeColumnsWrongFalsely : Prop := fnExactFreeColumnsRow.holds Try.pinned (OpenSpec.ofChange fnExactFreeColumnsWrong)

/-- 'laws.FnExactSolveSystem': WHATEVER THE INPUT: true; the input reads as it did. -/
def fnExactSolveSystemSpec : ChangeSpec := { name := "fnExactSolveSystem", fn := fun _ => fun
  | [d] => { results := [.lit (.bool true)], args := [d] }
  | _ => none }
def fnExactSolveSystemRow : OpenClaim := { program := "ytgkdnpigbpkehaa", sum := "62340e8eaf894b32426580720dd5ef27dbdf3900d1938977e82a0f53500a5ddb", func := "loop.example/g01097/laws.FnExactSolveSystem", spec := "fnExactSolveSystem", unfollowed := true, recurses := true, apart := false }
def FnExactSolveSystemSaid : Prop := fnExactSolveSystemRow.holds Try.pinned (OpenSpec.ofChange fnExactSolveSystemSpec)

/-- ITS FALSE NEIGHBOUR: 'it returns false'. Refute it at one input. -/
def fnExactSolveSystemWrong : ChangeSpec := { name := "fnExactSolveSystem", fn := fun _ => fun
  | [d] => { results := [.lit (.bool false)], args := [d] }
  | _ => none }
def FnExactSolveSystemWrongFalsely : Prop := fnExactSolveSystemRow.holds Try.pinned (OpenSpec.ofChange fnExactSolveSystemWrong)

/-- 'laws.FnExactNullVectors': WHATEVER THE INPUT: true; the input reads as it did. -/
def fnExactNullVectorsSpec : ChangeSpec := { name := "fnExactNullVectors", fn := fun _ => fun
  | [d] => { results := [.lit (.bool true)], args := [d] }
  | _ => none }
def fnExactNullVectorsRow : OpenClaim := { program := "ytgkdnpigbpkehaa", sum := "62340e8eaf894b32426580720dd5ef27dbdf3900d1938977e82a0f53500a5ddb", func := "loop.example/g01097/laws.FnExactNullVectors", spec := "fnExactNullVectors", unfollowed := true, recurses := true, apart := false }
def FnExactNullVectorsSaid : Prop := fnExactNullVectorsRow.holds Try.pinned (OpenSpec.ofChange fnExactNullVectorsSpec)

/-- ITS FALSE NEIGHBOUR: 'it returns false'. Refute it at one input. -/
def fnExactNullVectorsWrong : ChangeSpec := { name := "fnExactNullVectors", fn := fun _ => fun
  | [d] => { results := [.lit (.bool false)], args := [d] }
  | _ => none }
def FnExactNullVectorsWrongFalsely : Prop := fnExactNullVectorsRow.holds Try.pinned (OpenSpec.ofChange fnExactNullVectorsWrong)

/-- 'laws.FnRanksAndNullVectors': WHATEVER THE INPUT: true; the input reads as it did. -/
def fnRanksAndNullVectorsSpec : ChangeSpec := { name := "fnRanksAndNullVectors", fn := fun _ => fun
  | [d1, d2] => { results := [.lit (.bool true)], args := [d1, d2] }
  | _ => none }
def fnRanksAndNullVectorsRow : OpenClaim := { program := "ytgkdnpigbpkehaa", sum := "62340e8eaf894b32426580720dd5ef27dbdf3900d1938977e82a0f53500a5ddb", func := "loop.example/g01097/laws.FnRanksAndNullVectors", spec := "fnRanksAndNullVectors", unfollowed := true, recurses := true, apart := false }
def FnRanksAndNullVectorsSaid : Prop := fnRanksAndNullVectorsRow.holds Try.pinned (OpenSpec.ofChange fnRanksAndNullVectorsSpec)

/-- ITS FALSE NEIGHBOUR: 'it returns false'. Refute it at one input. -/
def fnRanksAndNullVectorsWrong : ChangeSpec := { name := "fnRanksAndNullVectors", fn := fun _ => fun
  | [d1, d2] => { results := [.lit (.bool false)], args := [d1, d2] }
  | _ => none }
def FnRanksAndNullVectorsWrongFalsely : Prop := fnRanksAndNullVectorsRow.holds Try.pinned (OpenSpec.ofChange fnRanksAndNullVectorsWrong)

/-- 'laws.FnSolutionOrRefusal': WHATEVER THE INPUT: true; the input reads as it did. -/
def fnSolutionOrRefusalSpec : ChangeSpec := { name := "fnSolutionOrRefusal", fn := fun _ => fun
  | [d1, d2] => { results := [.lit (.bool true)], args := [d1, d2] }
  | _ => none }
def fnSolutionOrRefusalRow : OpenClaim := { program := "ytgkdnpigbpkehaa", sum := "62340e8eaf894b32426580720dd5ef27dbdf3900d1938977e82a0f53500a5ddb", func := "loop.example/g01097/laws.FnSolutionOrRefusal", spec := "fnSolutionOrRefusal", unfollowed := true, recurses := true, apart := false }
def FnSolutionOrRefusalSaid : Prop := fnSolutionOrRefusalRow.holds Try.pinned (OpenSpec.ofChange fnSolutionOrRefusalSpec)

/-- ITS FALSE NEIGHBOUR: 'it returns false'. Refute it at one input. -/
def fnSolutionOrRefusalWrong : ChangeSpec := { name := "fnSolutionOrRefusal", fn := fun _ => fun
  | [d1, d2] => { results := [.lit (.bool false)], args := [d1, d2] }
  | _ => none }
def FnSolutionOrRefusalWrongFalsely : Prop := fnSolutionOrRefusalRow.holds Try.pinned (OpenSpec.ofChange fnSolutionOrRefusalWrong)

/- THE SECOND FORM. 'bulk': how many values and letters a reading holds, each counted each time it is reached (what is shared counts as often as it is met; a slice's spare places count too). A statement '..UptoSaid' is the law's where the arguments, and the package variables that the reading takes, are together of bulk at most 1048576: NARROWER than '..Said'. Prove '..Said' where nothing that the law and all that it calls make is longer than what came in: it says more and counts as full. Else prove '..UptoSaid'. A law counts once. -/
mutual
def uptoBulk {H : Type} : DataW H → Nat
  | .lit (.string bytes) => bytes.length + 1
  | .lit _ => 1
  | .nil => 1
  | .ptr d => uptoBulk d + 1
  | .slice elems spare => uptoBulkAll elems + uptoBulkAll spare + 1
  | .agg parts => uptoBulkAll parts + 1
  | .iface _ d => uptoBulk d + 1
  | .map entries => uptoBulkEntries entries + 1
  | .held _ => 1
def uptoBulkAll {H : Type} : List (DataW H) → Nat
  | [] => 0
  | d :: r => uptoBulk d + uptoBulkAll r
def uptoBulkEntries {H : Type} : List (Lit × DataW H) → Nat
  | [] => 0
  | x :: r => uptoBulkEntry x + uptoBulkEntries r
def uptoBulkEntry {H : Type} : Lit × DataW H → Nat
  | (.string bytes, d) => bytes.length + uptoBulk d + 1
  | (_, d) => uptoBulk d + 1
 end
def uptoSmall : (H : Type) → List (DataW H) → Bool := fun _ ds => decide (uptoBulkAll ds ≤ 1048576)
def OpenSpec.upto (s : _root_.Go.ChangeSpec) : _root_.Go.OpenSpec := { _root_.Go.OpenSpec.ofChange s with cond := some uptoSmall }

/-- 'laws.FnExactFirstDesk', WHERE WHAT IT READS IS OF BULK AT MOST 1048576: true; the input reads as it did. -/
def fnExactFirstDeskUptoRow : OpenClaim := { program := "ytgkdnpigbpkehaa", sum := "62340e8eaf894b32426580720dd5ef27dbdf3900d1938977e82a0f53500a5ddb", func := "loop.example/g01097/laws.FnExactFirstDesk", spec := "fnExactFirstDesk", apart := false, narrowed := true }
def FnExactFirstDeskUptoSaid : Prop := fnExactFirstDeskUptoRow.holds Try.pinned (OpenSpec.upto fnExactFirstDeskSpec)

/-- 'laws.FnExactIsRefusal', WHERE WHAT IT READS IS OF BULK AT MOST 1048576: true; the input reads as it did. -/
def fnExactIsRefusalUptoRow : OpenClaim := { program := "ytgkdnpigbpkehaa", sum := "62340e8eaf894b32426580720dd5ef27dbdf3900d1938977e82a0f53500a5ddb", func := "loop.example/g01097/laws.FnExactIsRefusal", spec := "fnExactIsRefusal", unfollowed := true, recurses := true, apart := false, narrowed := true }
def FnExactIsRefusalUptoSaid : Prop := fnExactIsRefusalUptoRow.holds Try.pinned (OpenSpec.upto fnExactIsRefusalSpec)

/-- 'laws.FnExactRankOf', WHERE WHAT IT READS IS OF BULK AT MOST 1048576: true; the input reads as it did. -/
def fnExactRankOfUptoRow : OpenClaim := { program := "ytgkdnpigbpkehaa", sum := "62340e8eaf894b32426580720dd5ef27dbdf3900d1938977e82a0f53500a5ddb", func := "loop.example/g01097/laws.FnExactRankOf", spec := "fnExactRankOf", unfollowed := true, recurses := true, apart := false, narrowed := true }
def FnExactRankOfUptoSaid : Prop := fnExactRankOfUptoRow.holds Try.pinned (OpenSpec.upto fnExactRankOfSpec)

/-- 'laws.FnExactRefusalOf', WHERE WHAT IT READS IS OF BULK AT MOST 1048576: true; the input reads as it did. -/
def fnExactRefusalOfUptoRow : OpenClaim := { program := "ytgkdnpigbpkehaa", sum := "62340e8eaf894b32426580720dd5ef27dbdf3900d1938977e82a0f53500a5ddb", func := "loop.example/g01097/laws.FnExactRefusalOf", spec := "fnExactRefusalOf", unfollowed := true, recurses := true, apart := false, narrowed := true }
def FnExactRefusalOfUptoSaid : Prop := fnExactRefusalOfUptoRow.holds Try.pinned (OpenSpec.upto fnExactRefusalOfSpec)

/-- 'laws.FnExactFreeColumns', WHERE WHAT IT READS IS OF BULK AT MOST 1048576: true; the input reads as it did. -/
def fnExactFreeColumnsUptoRow : OpenClaim := { program := "ytgkdnpigbpkehaa", sum := "62340e8eaf894b32426580720dd5ef27dbdf3900d1938977e82a0f53500a5ddb", func := "loop.example/g01097/laws.FnExactFreeColumns", spec := "fnExactFreeColumns", unfollowed := true, recurses := true, apart := false, narrowed := true }
def FnExactFreeColumnsUptoSaid : Prop := fnExactFreeColumnsUptoRow.holds Try.pinned (OpenSpec.upto fnExactFreeColumnsSpec)

/-- 'laws.FnExactSolveSystem', WHERE WHAT IT READS IS OF BULK AT MOST 1048576: true; the input reads as it did. -/
def fnExactSolveSystemUptoRow : OpenClaim := { program := "ytgkdnpigbpkehaa", sum := "62340e8eaf894b32426580720dd5ef27dbdf3900d1938977e82a0f53500a5ddb", func := "loop.example/g01097/laws.FnExactSolveSystem", spec := "fnExactSolveSystem", unfollowed := true, recurses := true, apart := false, narrowed := true }
def FnExactSolveSystemUptoSaid : Prop := fnExactSolveSystemUptoRow.holds Try.pinned (OpenSpec.upto fnExactSolveSystemSpec)

/-- 'laws.FnExactNullVectors', WHERE WHAT IT READS IS OF BULK AT MOST 1048576: true; the input reads as it did. -/
def fnExactNullVectorsUptoRow : OpenClaim := { program := "ytgkdnpigbpkehaa", sum := "62340e8eaf894b32426580720dd5ef27dbdf3900d1938977e82a0f53500a5ddb", func := "loop.example/g01097/laws.FnExactNullVectors", spec := "fnExactNullVectors", unfollowed := true, recurses := true, apart := false, narrowed := true }
def FnExactNullVectorsUptoSaid : Prop := fnExactNullVectorsUptoRow.holds Try.pinned (OpenSpec.upto fnExactNullVectorsSpec)

/-- 'laws.FnRanksAndNullVectors', WHERE WHAT IT READS IS OF BULK AT MOST 1048576: true; the input reads as it did. -/
def fnRanksAndNullVectorsUptoRow : OpenClaim := { program := "ytgkdnpigbpkehaa", sum := "62340e8eaf894b32426580720dd5ef27dbdf3900d1938977e82a0f53500a5ddb", func := "loop.example/g01097/laws.FnRanksAndNullVectors", spec := "fnRanksAndNullVectors", unfollowed := true, recurses := true, apart := false, narrowed := true }
def FnRanksAndNullVectorsUptoSaid : Prop := fnRanksAndNullVectorsUptoRow.holds Try.pinned (OpenSpec.upto fnRanksAndNullVectorsSpec)

/-- 'laws.FnSolutionOrRefusal', WHERE WHAT IT READS IS OF BULK AT MOST 1048576: true; the input reads as it did. -/
def fnSolutionOrRefusalUptoRow : OpenClaim := { program := "ytgkdnpigbpkehaa", sum := "62340e8eaf894b32426580720dd5ef27dbdf3900d1938977e82a0f53500a5ddb", func := "loop.example/g01097/laws.FnSolutionOrRefusal", spec := "fnSolutionOrRefusal", unfollowed := true, recurses := true, apart := false, narrowed := true }
def FnSolutionOrRefusalUptoSaid : Prop := fnSolutionOrRefusalUptoRow.holds Try.pinned (OpenSpec.upto fnSolutionOrRefusalSpec)

end Rows
end Go.Proofs.Ytgkdnpigbpkehaa
