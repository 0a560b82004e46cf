/-
  'FnRanksAndNullVectors' of the given program returns true for every input, and each argument reads afterwards as it read before: no condition.
-/
import Derived.Test.YtgkdnpigbpkehaaRows
import Derived.Test.YtgkdnpigbpkehaaCy
namespace Go.Proofs.Ytgkdnpigbpkehaa.fnRanksAndNullVectors
open Go Go.ChangeShapes Go.WideShapes Go.ChangeAt Go.RowKit
set_option linter.unusedVariables false
theorem own : ownKnob Try.prog.godebug = none := by kernel_rfl
theorem fn_ok {H : Type} (ds : List (DataW H)) (h : ds.length = Try.f10.params.toList.length) : Rows.fnRanksAndNullVectorsSpec.fn H ds = { results := [.lit (.bool true)], args := ds } := by
  have h : ds.length = 2 := h.trans (by kernel_rfl)
  rcases ds with _ | ⟨d0, _ | ⟨d1, _ | ⟨_, _⟩⟩⟩ <;> first | rfl | (simp at h)
set_option maxRecDepth 100000 in
theorem lifted (os : Os) (started : os.Started) (H : Type) (enc : TypeId × Value → H) :
    ReturnsInHanded {} Try.checked os 10 .any (Rows.fnRanksAndNullVectorsSpec.pre6 enc Try.prog Try.f10 Rows.fnRanksAndNullVectorsRow.domain false) (Rows.fnRanksAndNullVectorsSpec.post enc Try.prog Try.f10 false true false false) := by
  refine returnsInHanded_of_change_sized (C := Try.checked) own started (by kernel_rfl) Try.func10
    (ChangeSpec.witness6 (enc := enc) (C := Try.checked) false ⟨#[], #[.slice none 0 0, .slice none 0 0], []⟩ 8 (by kernel_rfl) (by kernel_rfl) (by kernel_rfl) (by kernel_rfl)) ?_
  intro W base args ds gs before hval hW hcnd hsz _
  exact M.law_post (ss := M.sh_FnRanksAndNullVectors) (tb := Try.f10.resultTypes.getD 0 0) (by kernel_rfl) rfl (by kernel_rfl) (by kernel_rfl) (by kernel_rfl) (by kernel_rfl) fn_ok hval hW (fun ys hy => M.law_FnRanksAndNullVectors ys hy) ⟨fun p hp => (by cases hp), fun g hg => (by cases hg)⟩
theorem over : Rows.fnRanksAndNullVectorsRow.holds Try.pinned (OpenSpec.ofChange Rows.fnRanksAndNullVectorsSpec) :=
  OpenClaim.holds_of_wide 10 Try.f10 rfl rfl rfl rfl rfl rfl rfl ⟨rfl, rfl, rfl, rfl, rfl⟩ rfl rfl rfl rfl rfl (by kernel_rfl) Try.func10 (by kernel_rfl)
    (of_decide_eq_true (by kernel_rfl)) (by unfold Func.isWrapper; first | (rw [if_pos (by decide +kernel)]; kernel_rfl) | (rw [if_neg (by decide +kernel)]; exact ⟨rfl, rfl⟩))
    (fun os started H enc _ => lifted os started H enc)
theorem proved : Rows.FnRanksAndNullVectorsSaid := over
#print axioms proved
end Go.Proofs.Ytgkdnpigbpkehaa.fnRanksAndNullVectors
namespace Go.Proofs.Ytgkdnpigbpkehaa
/-- The row, under a short name, for the claim. -/
theorem fnRanksAndNullVectors_holds : Rows.FnRanksAndNullVectorsSaid := fnRanksAndNullVectors.proved
end Go.Proofs.Ytgkdnpigbpkehaa
