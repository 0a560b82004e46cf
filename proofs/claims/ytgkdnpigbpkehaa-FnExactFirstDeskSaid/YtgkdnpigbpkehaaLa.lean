/-
  'FnExactFirstDesk' of the given program returns true for every input, and each argument reads afterwards as it read before: no condition.
-/
import Derived.Test.YtgkdnpigbpkehaaRows
import Derived.Test.YtgkdnpigbpkehaaCa
namespace Go.Proofs.Ytgkdnpigbpkehaa.fnExactFirstDesk
open Go Go.ChangeShapes Go.WideShapes Go.ChangeAt Go.RowKit
set_option linter.unusedVariables false
theorem own : ownKnob Try.prog.godebug = none := by kernel_rfl
theorem fn_ok {H : Type} (ds : List (DataW H)) (h : ds.length = Try.f3.params.toList.length) : Rows.fnExactFirstDeskSpec.fn H ds = { results := [.lit (.bool true)], args := ds } := by
  have h : ds.length = 0 := h.trans (by kernel_rfl)
  rcases ds with _ | ⟨_, _⟩ <;> first | rfl | (simp at h)
set_option maxRecDepth 100000 in
theorem lifted (os : Os) (started : os.Started) (H : Type) (enc : TypeId × Value → H) :
    ReturnsInHanded {} Try.checked os 3 .any (Rows.fnExactFirstDeskSpec.pre6 enc Try.prog Try.f3 Rows.fnExactFirstDeskRow.domain false) (Rows.fnExactFirstDeskSpec.post enc Try.prog Try.f3 false true false false) := by
  refine returnsInHanded_of_change_sized (C := Try.checked) own started (by kernel_rfl) Try.func3
    (ChangeSpec.witness6 (enc := enc) (C := Try.checked) false ⟨#[], #[], []⟩ 8 (by kernel_rfl) (by kernel_rfl) (by kernel_rfl) (by kernel_rfl)) ?_
  intro W base args ds gs before hval hW hcnd hsz _
  exact M.law_post (ss := M.sh_FnExactFirstDesk) (tb := Try.f3.resultTypes.getD 0 0) (by kernel_rfl) rfl (by kernel_rfl) (by kernel_rfl) (by kernel_rfl) (by kernel_rfl) fn_ok hval hW (fun ys hy => M.law_FnExactFirstDesk ys hy)
theorem over : Rows.fnExactFirstDeskRow.holds Try.pinned (OpenSpec.ofChange Rows.fnExactFirstDeskSpec) :=
  OpenClaim.holds_of_wide 3 Try.f3 rfl rfl rfl rfl rfl rfl rfl ⟨rfl, rfl, rfl, rfl, rfl⟩ rfl rfl rfl rfl rfl (by kernel_rfl) Try.func3 (by kernel_rfl)
    (of_decide_eq_true (by kernel_rfl)) (by unfold Func.isWrapper; first | (rw [if_pos (by decide +kernel)]; kernel_rfl) | (rw [if_neg (by decide +kernel)]; exact ⟨rfl, rfl⟩))
    (fun os started H enc _ => lifted os started H enc)
theorem proved : Rows.FnExactFirstDeskSaid := over
#print axioms proved
end Go.Proofs.Ytgkdnpigbpkehaa.fnExactFirstDesk
namespace Go.Proofs.Ytgkdnpigbpkehaa
/-- The row, under a short name, for the claim. -/
theorem fnExactFirstDesk_holds : Rows.FnExactFirstDeskSaid := fnExactFirstDesk.proved
end Go.Proofs.Ytgkdnpigbpkehaa
