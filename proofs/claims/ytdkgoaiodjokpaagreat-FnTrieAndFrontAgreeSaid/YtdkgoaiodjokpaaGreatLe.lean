/-
  'FnTrieAndFrontAgree' of the given program returns true for every input, and each argument reads afterwards as it read before: no condition.
-/
import Derived.Test.YtdkgoaiodjokpaaGreatRows
import Derived.Test.YtdkgoaiodjokpaaGreatCe
namespace Go.Proofs.YtdkgoaiodjokpaaGreat.fnTrieAndFrontAgree
open Go Go.ChangeShapes Go.WideShapes Go.ChangeAt Go.RowKit
set_option linter.unusedVariables false
theorem own : ownKnob Tryz.prog.godebug = none := by kernel_rfl
theorem fn_ok {H : Type} (ds : List (DataW H)) (h : ds.length = Tryz.f3.params.toList.length) : Rows.fnTrieAndFrontAgreeSpec.fn H ds = { results := [.lit (.bool true)], args := ds } := by
  have h : ds.length = 2 := h.trans (by kernel_rfl)
  rcases ds with _ | ⟨d0, _ | ⟨d1, _ | ⟨_, _⟩⟩⟩ <;> first | rfl | (simp at h)
set_option maxRecDepth 100000 in
theorem lifted (os : Os) (started : os.Started) (H : Type) (enc : TypeId × Value → H) :
    ReturnsInHanded {} Tryz.checked os 3 .any (Rows.fnTrieAndFrontAgreeSpec.pre6 enc Tryz.prog Tryz.f3 Rows.fnTrieAndFrontAgreeRow.domain false) (Rows.fnTrieAndFrontAgreeSpec.post enc Tryz.prog Tryz.f3 false true false false) := by
  refine returnsInHanded_of_change_sized (C := Tryz.checked) own started (by kernel_rfl) Tryz.func3
    (ChangeSpec.witness6 (enc := enc) (C := Tryz.checked) false ⟨#[], #[.slice none 0 0, .slice none 0 0], []⟩ 8 (by kernel_rfl) (by kernel_rfl) (by kernel_rfl) (by kernel_rfl)) ?_
  intro W base args ds gs before hval hW hcnd hsz _
  exact M.law_post (ss := M.sh_FnTrieAndFrontAgree) (tb := Tryz.f3.resultTypes.getD 0 0) (by kernel_rfl) rfl (by kernel_rfl) (by kernel_rfl) (by kernel_rfl) (by kernel_rfl) fn_ok hval hW (fun ys hy => M.law_FnTrieAndFrontAgree ys hy) ⟨fun p hp => (by cases hp), fun g hg => (by cases hg), fun g hg => (by cases hg)⟩
theorem over : Rows.fnTrieAndFrontAgreeRow.holds Tryz.pinned (OpenSpec.ofChange Rows.fnTrieAndFrontAgreeSpec) :=
  OpenClaim.holds_of_wide 3 Tryz.f3 rfl rfl rfl rfl rfl rfl rfl ⟨rfl, rfl, rfl, rfl, rfl⟩ rfl rfl rfl rfl rfl (by kernel_rfl) Tryz.func3 (by kernel_rfl)
    (of_decide_eq_true (by kernel_rfl)) (by unfold Func.isWrapper; first | (rw [if_pos (by decide +kernel)]; kernel_rfl) | (rw [if_neg (by decide +kernel)]; exact ⟨rfl, rfl⟩))
    (fun os started H enc _ => lifted os started H enc)
theorem proved : Rows.FnTrieAndFrontAgreeSaid := over
#print axioms proved
end Go.Proofs.YtdkgoaiodjokpaaGreat.fnTrieAndFrontAgree
namespace Go.Proofs.YtdkgoaiodjokpaaGreat
/-- The row, under a short name, for the claim. -/
theorem fnTrieAndFrontAgree_holds : Rows.FnTrieAndFrontAgreeSaid := fnTrieAndFrontAgree.proved
end Go.Proofs.YtdkgoaiodjokpaaGreat
