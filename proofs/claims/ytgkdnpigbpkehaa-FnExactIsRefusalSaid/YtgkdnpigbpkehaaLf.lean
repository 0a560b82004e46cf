/-
  'FnExactIsRefusal' of the given program returns true for every input, and each argument reads afterwards as it read before: no condition.
-/
import Derived.Test.YtgkdnpigbpkehaaRows
import Derived.Test.YtgkdnpigbpkehaaCf
namespace Go.Proofs.Ytgkdnpigbpkehaa.fnExactIsRefusal
open Go Go.ChangeShapes Go.WideShapes Go.ChangeAt Go.RowKit
set_option linter.unusedVariables false
theorem own : ownKnob Try.prog.godebug = none := by kernel_rfl
theorem fn_ok {H : Type} (ds : List (DataW H)) (h : ds.length = Try.f4.params.toList.length) : Rows.fnExactIsRefusalSpec.fn H ds = { results := [.lit (.bool true)], args := ds } := by
  have h : ds.length = 2 := h.trans (by kernel_rfl)
  rcases ds with _ | ⟨d0, _ | ⟨d1, _ | ⟨_, _⟩⟩⟩ <;> first | rfl | (simp at h)
set_option maxRecDepth 100000 in
theorem lifted (os : Os) (started : os.Started) (H : Type) (enc : TypeId × Value → H) :
    ReturnsInHanded {} Try.checked os 4 .any (Rows.fnExactIsRefusalSpec.pre6 enc Try.prog Try.f4 Rows.fnExactIsRefusalRow.domain false) (Rows.fnExactIsRefusalSpec.post enc Try.prog Try.f4 false true false false) := by
  refine returnsInHanded_of_change_sized (C := Try.checked) own started (by kernel_rfl) Try.func4
    (ChangeSpec.witness6 (enc := enc) (C := Try.checked) false ⟨#[], #[.agg #[.int .i64 0, .slice none 0 0, .slice none 0 0], .slice none 0 0], []⟩ 8 (by kernel_rfl) (by kernel_rfl) (by kernel_rfl) (by kernel_rfl)) ?_
  intro W base args ds gs before hval hW hcnd hsz _
  exact M.law_post (ss := M.sh_FnExactIsRefusal) (tb := Try.f4.resultTypes.getD 0 0) (by kernel_rfl) rfl (by kernel_rfl) (by kernel_rfl) (by kernel_rfl) (by kernel_rfl) fn_ok hval hW (fun ys hy => M.law_FnExactIsRefusal ys hy) ⟨fun p hp => (by cases hp), fun g hg => (by cases hg)⟩
theorem over : Rows.fnExactIsRefusalRow.holds Try.pinned (OpenSpec.ofChange Rows.fnExactIsRefusalSpec) :=
  OpenClaim.holds_of_wide 4 Try.f4 rfl rfl rfl rfl rfl rfl rfl ⟨rfl, rfl, rfl, rfl, rfl⟩ rfl rfl rfl rfl rfl (by kernel_rfl) Try.func4 (by kernel_rfl)
    (of_decide_eq_true (by kernel_rfl)) (by unfold Func.isWrapper; first | (rw [if_pos (by decide +kernel)]; kernel_rfl) | (rw [if_neg (by decide +kernel)]; exact ⟨rfl, rfl⟩))
    (fun os started H enc _ => lifted os started H enc)
theorem proved : Rows.FnExactIsRefusalSaid := over
#print axioms proved
end Go.Proofs.Ytgkdnpigbpkehaa.fnExactIsRefusal
namespace Go.Proofs.Ytgkdnpigbpkehaa
/-- The row, under a short name, for the claim. -/
theorem fnExactIsRefusal_holds : Rows.FnExactIsRefusalSaid := fnExactIsRefusal.proved
end Go.Proofs.Ytgkdnpigbpkehaa
