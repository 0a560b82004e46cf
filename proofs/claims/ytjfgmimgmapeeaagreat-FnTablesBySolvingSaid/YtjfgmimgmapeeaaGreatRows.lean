/-
  No cell of these rows narrows 'for every input' (looked for: loops, veiled, ifaces, maps, wideKeys, modest, calm, conditions, laid).
  DERIVED. THE GIVEN ROWS OF THIS SEAT. 5 by the template 'for every input the law returns true; each argument reads behind the call as it read before'; 0 by the template 'total and deterministic' (their statements: YtjfgmimgmapeeaaGreatTotals.lean).
  GIVEN WITH THE SEED: the statements are not yours to turn. If you find one false, say at which input.
  Laid BY PROGRAM, IN A SANDBOX (cutbox-rows.mjs): the forced cells as the released guide's own fill.sh prints them over the translation 1b3ccd138840990f… (all of the seat's roots in one cut). By AI agents, Wed Nov 11 2026. No macro, syntax, notation, axiom, sorry.
-/
import Derived.Test.YtjfgmimgmapeeaaGreatChecked
import GoSem.Claim
import GoSem.ClaimJoined
import GoSem.ClaimMapViews
import Derived.JoinedTies
import Derived.KernelRfl
namespace Go.Proofs.YtjfgmimgmapeeaaGreat
/- THE CELL 'sum', in the pinned program and in every row, IS THE sha256 OF THE DUMP (.gsa) THAT YtjfgmimgmapeeaaGreatProg.lean LOADS. Nothing in Lean hashes anything: it is a label: what it is worth is what the hold of that sum in a sandbox is worth. -/
noncomputable def Tryz.pinned : Pinned := { name := "ytjfgmimgmapeeaagreat", sum := "1b3ccd138840990f7380a2a392625a41d4e527f227d10aa96ce6e150a91b41d6", checked := Tryz.checked }
namespace Rows
def none {H : Type} : Left H := { results := [], args := [] }

/-- 'laws.FnExactChangeValue': WHATEVER THE INPUT: true; the input reads as it did. -/
def fnExactChangeValueSpec : ChangeSpec := { name := "fnExactChangeValue", fn := fun _ => fun
  | [d1, d2, d3, d4] => { results := [.lit (.bool true)], args := [d1, d2, d3, d4] }
  | _ => none }
def fnExactChangeValueRow : OpenClaim := { program := "ytjfgmimgmapeeaagreat", sum := "1b3ccd138840990f7380a2a392625a41d4e527f227d10aa96ce6e150a91b41d6", func := "loop.example/g01097/laws.FnExactChangeValue", spec := "fnExactChangeValue", unfollowed := true, recurses := true, apart := false }
def FnExactChangeValueSaid : Prop := fnExactChangeValueRow.holds Tryz.pinned (OpenSpec.ofChange fnExactChangeValueSpec)

/-- ITS FALSE NEIGHBOUR: 'it returns false'. Refute it at one input. -/
def fnExactChangeValueWrong : ChangeSpec := { name := "fnExactChangeValue", fn := fun _ => fun
  | [d1, d2, d3, d4] => { results := [.lit (.bool false)], args := [d1, d2, d3, d4] }
  | _ => none }
def FnExactChangeValueWrongFalsely : Prop := fnExactChangeValueRow.holds Tryz.pinned (OpenSpec.ofChange fnExactChangeValueWrong)

/-- 'laws.FnTablesAdd': WHATEVER THE INPUT: true; the input reads as it did. -/
def fnTablesAddSpec : ChangeSpec := { name := "fnTablesAdd", fn := fun _ => fun
  | [d1, d2] => { results := [.lit (.bool true)], args := [d1, d2] }
  | _ => none }
def fnTablesAddRow : OpenClaim := { program := "ytjfgmimgmapeeaagreat", sum := "1b3ccd138840990f7380a2a392625a41d4e527f227d10aa96ce6e150a91b41d6", func := "loop.example/g01097/laws.FnTablesAdd", spec := "fnTablesAdd", unfollowed := true, recurses := true, apart := false }
def FnTablesAddSaid : Prop := fnTablesAddRow.holds Tryz.pinned (OpenSpec.ofChange fnTablesAddSpec)

/-- ITS FALSE NEIGHBOUR: 'it returns false'. Refute it at one input. -/
def fnTablesAddWrong : ChangeSpec := { name := "fnTablesAdd", fn := fun _ => fun
  | [d1, d2] => { results := [.lit (.bool false)], args := [d1, d2] }
  | _ => none }
def FnTablesAddWrongFalsely : Prop := fnTablesAddRow.holds Tryz.pinned (OpenSpec.ofChange fnTablesAddWrong)

/-- 'laws.FnTablesByPeeling': WHATEVER THE INPUT: true; the input reads as it did. -/
def fnTablesByPeelingSpec : ChangeSpec := { name := "fnTablesByPeeling", fn := fun _ => fun
  | [d1, d2] => { results := [.lit (.bool true)], args := [d1, d2] }
  | _ => none }
def fnTablesByPeelingRow : OpenClaim := { program := "ytjfgmimgmapeeaagreat", sum := "1b3ccd138840990f7380a2a392625a41d4e527f227d10aa96ce6e150a91b41d6", func := "loop.example/g01097/laws.FnTablesByPeeling", spec := "fnTablesByPeeling", unfollowed := true, recurses := true, apart := false }
def FnTablesByPeelingSaid : Prop := fnTablesByPeelingRow.holds Tryz.pinned (OpenSpec.ofChange fnTablesByPeelingSpec)

/-- ITS FALSE NEIGHBOUR: 'it returns false'. Refute it at one input. -/
def fnTablesByPeelingWrong : ChangeSpec := { name := "fnTablesByPeeling", fn := fun _ => fun
  | [d1, d2] => { results := [.lit (.bool false)], args := [d1, d2] }
  | _ => none }
def FnTablesByPeelingWrongFalsely : Prop := fnTablesByPeelingRow.holds Tryz.pinned (OpenSpec.ofChange fnTablesByPeelingWrong)

/-- 'laws.FnTablesBySolving': WHATEVER THE INPUT: true; the input reads as it did. -/
def fnTablesBySolvingSpec : ChangeSpec := { name := "fnTablesBySolving", fn := fun _ => fun
  | [d1, d2] => { results := [.lit (.bool true)], args := [d1, d2] }
  | _ => none }
def fnTablesBySolvingRow : OpenClaim := { program := "ytjfgmimgmapeeaagreat", sum := "1b3ccd138840990f7380a2a392625a41d4e527f227d10aa96ce6e150a91b41d6", func := "loop.example/g01097/laws.FnTablesBySolving", spec := "fnTablesBySolving", unfollowed := true, recurses := true, apart := false }
def FnTablesBySolvingSaid : Prop := fnTablesBySolvingRow.holds Tryz.pinned (OpenSpec.ofChange fnTablesBySolvingSpec)

/-- ITS FALSE NEIGHBOUR: 'it returns false'. Refute it at one input. -/
def fnTablesBySolvingWrong : ChangeSpec := { name := "fnTablesBySolving", fn := fun _ => fun
  | [d1, d2] => { results := [.lit (.bool false)], args := [d1, d2] }
  | _ => none }
def FnTablesBySolvingWrongFalsely : Prop := fnTablesBySolvingRow.holds Tryz.pinned (OpenSpec.ofChange fnTablesBySolvingWrong)

/-- 'laws.FnSystemsJoin': WHATEVER THE INPUT: true; the input reads as it did. -/
def fnSystemsJoinSpec : ChangeSpec := { name := "fnSystemsJoin", fn := fun _ => fun
  | [d1, d2] => { results := [.lit (.bool true)], args := [d1, d2] }
  | _ => none }
def fnSystemsJoinRow : OpenClaim := { program := "ytjfgmimgmapeeaagreat", sum := "1b3ccd138840990f7380a2a392625a41d4e527f227d10aa96ce6e150a91b41d6", func := "loop.example/g01097/laws.FnSystemsJoin", spec := "fnSystemsJoin", unfollowed := true, recurses := true, apart := false }
def FnSystemsJoinSaid : Prop := fnSystemsJoinRow.holds Tryz.pinned (OpenSpec.ofChange fnSystemsJoinSpec)

/-- ITS FALSE NEIGHBOUR: 'it returns false'. Refute it at one input. -/
def fnSystemsJoinWrong : ChangeSpec := { name := "fnSystemsJoin", fn := fun _ => fun
  | [d1, d2] => { results := [.lit (.bool false)], args := [d1, d2] }
  | _ => none }
def FnSystemsJoinWrongFalsely : Prop := fnSystemsJoinRow.holds Tryz.pinned (OpenSpec.ofChange fnSystemsJoinWrong)

/- THE SECOND FORM. 'bulk': how many values and letters a reading holds, each counted each time it is reached (what is shared counts as often as it is met; a slice's spare places count too). A statement '..UptoSaid' is the law's where the arguments, and the package variables that the reading takes, are together of bulk at most 1048576: NARROWER than '..Said'. Prove '..Said' where nothing that the law and all that it calls make is longer than what came in: it says more and counts as full. Else prove '..UptoSaid'. A law counts once. -/
mutual
def uptoBulk {H : Type} : DataW H → Nat
  | .lit (.string bytes) => bytes.length + 1
  | .lit _ => 1
  | .nil => 1
  | .ptr d => uptoBulk d + 1
  | .slice elems spare => uptoBulkAll elems + uptoBulkAll spare + 1
  | .agg parts => uptoBulkAll parts + 1
  | .iface _ d => uptoBulk d + 1
  | .map entries => uptoBulkEntries entries + 1
  | .held _ => 1
def uptoBulkAll {H : Type} : List (DataW H) → Nat
  | [] => 0
  | d :: r => uptoBulk d + uptoBulkAll r
def uptoBulkEntries {H : Type} : List (Lit × DataW H) → Nat
  | [] => 0
  | x :: r => uptoBulkEntry x + uptoBulkEntries r
def uptoBulkEntry {H : Type} : Lit × DataW H → Nat
  | (.string bytes, d) => bytes.length + uptoBulk d + 1
  | (_, d) => uptoBulk d + 1
 end
def uptoSmall : (H : Type) → List (DataW H) → Bool := fun _ ds => decide (uptoBulkAll ds ≤ 1048576)
def OpenSpec.upto (s : _root_.Go.ChangeSpec) : _root_.Go.OpenSpec := { _root_.Go.OpenSpec.ofChange s with cond := some uptoSmall }

/-- 'laws.FnExactChangeValue', WHERE WHAT IT READS IS OF BULK AT MOST 1048576: true; the input reads as it did. -/
def fnExactChangeValueUptoRow : OpenClaim := { program := "ytjfgmimgmapeeaagreat", sum := "1b3ccd138840990f7380a2a392625a41d4e527f227d10aa96ce6e150a91b41d6", func := "loop.example/g01097/laws.FnExactChangeValue", spec := "fnExactChangeValue", unfollowed := true, recurses := true, apart := false, narrowed := true }
def FnExactChangeValueUptoSaid : Prop := fnExactChangeValueUptoRow.holds Tryz.pinned (OpenSpec.upto fnExactChangeValueSpec)

/-- 'laws.FnTablesAdd', WHERE WHAT IT READS IS OF BULK AT MOST 1048576: true; the input reads as it did. -/
def fnTablesAddUptoRow : OpenClaim := { program := "ytjfgmimgmapeeaagreat", sum := "1b3ccd138840990f7380a2a392625a41d4e527f227d10aa96ce6e150a91b41d6", func := "loop.example/g01097/laws.FnTablesAdd", spec := "fnTablesAdd", unfollowed := true, recurses := true, apart := false, narrowed := true }
def FnTablesAddUptoSaid : Prop := fnTablesAddUptoRow.holds Tryz.pinned (OpenSpec.upto fnTablesAddSpec)

/-- 'laws.FnTablesByPeeling', WHERE WHAT IT READS IS OF BULK AT MOST 1048576: true; the input reads as it did. -/
def fnTablesByPeelingUptoRow : OpenClaim := { program := "ytjfgmimgmapeeaagreat", sum := "1b3ccd138840990f7380a2a392625a41d4e527f227d10aa96ce6e150a91b41d6", func := "loop.example/g01097/laws.FnTablesByPeeling", spec := "fnTablesByPeeling", unfollowed := true, recurses := true, apart := false, narrowed := true }
def FnTablesByPeelingUptoSaid : Prop := fnTablesByPeelingUptoRow.holds Tryz.pinned (OpenSpec.upto fnTablesByPeelingSpec)

/-- 'laws.FnTablesBySolving', WHERE WHAT IT READS IS OF BULK AT MOST 1048576: true; the input reads as it did. -/
def fnTablesBySolvingUptoRow : OpenClaim := { program := "ytjfgmimgmapeeaagreat", sum := "1b3ccd138840990f7380a2a392625a41d4e527f227d10aa96ce6e150a91b41d6", func := "loop.example/g01097/laws.FnTablesBySolving", spec := "fnTablesBySolving", unfollowed := true, recurses := true, apart := false, narrowed := true }
def FnTablesBySolvingUptoSaid : Prop := fnTablesBySolvingUptoRow.holds Tryz.pinned (OpenSpec.upto fnTablesBySolvingSpec)

/-- 'laws.FnSystemsJoin', WHERE WHAT IT READS IS OF BULK AT MOST 1048576: true; the input reads as it did. -/
def fnSystemsJoinUptoRow : OpenClaim := { program := "ytjfgmimgmapeeaagreat", sum := "1b3ccd138840990f7380a2a392625a41d4e527f227d10aa96ce6e150a91b41d6", func := "loop.example/g01097/laws.FnSystemsJoin", spec := "fnSystemsJoin", unfollowed := true, recurses := true, apart := false, narrowed := true }
def FnSystemsJoinUptoSaid : Prop := fnSystemsJoinUptoRow.holds Tryz.pinned (OpenSpec.upto fnSystemsJoinSpec)

end Rows
end Go.Proofs.YtjfgmimgmapeeaaGreat
