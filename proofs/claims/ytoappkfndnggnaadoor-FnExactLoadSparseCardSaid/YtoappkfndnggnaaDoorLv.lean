/-
  'FnExactLoadSparse' of the given program returns true for every input, and each argument reads afterwards as it read before; the package-level variables that the row lists hold what the program's text lays (the card's tie).
-/
import Derived.Test.YtoappkfndnggnaaDoorRows
import Derived.Test.YtoappkfndnggnaaDoorTie
import Derived.Test.YtoappkfndnggnaaDoorCards
import Derived.Test.YtoappkfndnggnaaDoorCv
import Derived.Test.YtoappkfndnggnaaDoorLaide
import Derived.ProofKit
import Derived.LaidMore
import Derived.OpenShut
import Derived.Stop.Joined
import Derived.SevenTiedAt
import Derived.Lib.LaidTab
namespace Go.Proofs.YtoappkfndnggnaaDoor.fnExactLoadSparse
open Go YtoappkfndnggnaaDoorLaide Go.ChangeShapes Go.WideShapes Go.ChangeAt Go.WideMaps Go.WideElems Go.RowKit
set_option linter.unusedVariables false
theorem fn_ok {H : Type} (ds : List (DataW H)) (h : ds.length = Tryd.f7.params.toList.length) : Rows.fnExactLoadSparseSpec.fn H ds = { results := [.lit (.bool true)], args := ds } := by
  have h : ds.length = 1 := h.trans (by kernel_rfl)
  rcases ds with _ | ⟨d0, _ | ⟨_, _⟩⟩ <;> first | rfl | (simp at h)
set_option maxRecDepth 100000 in
theorem lifted (os : Os) (started : os.Started) (H : Type) (enc : TypeId × Value → H) :
    ReturnsInHanded {} Tryd.checked os 7 .any (fun w args => (Rows.fnExactLoadSparseSpec.pre enc Tryd.prog Tryd.f7 [] false w args ∧ laidMetH Tryd.prog lst w) ∧ sizedMet enc Tryd.prog Tryd.f7 (OpenSpec.ofChange Rows.fnExactLoadSparseSpec) false w args)
      (Rows.fnExactLoadSparseSpec.post enc Tryd.prog Tryd.f7 false true false false) := by
  refine wrap (C := Tryd.checked) (L := lst) own started (by kernel_rfl) Tryd.func7
    (ChangeSpec.witness_shaped (enc := enc) (C := Tryd.checked) (os := os) (X := fun w _ => laidMetH Tryd.prog lst w) false (World.laidAll Tryd.prog os lst) #[.string ⟨#[]⟩] 8 (World.laidAll_os _ _ _) (World.shaped_of_ZipB (by kernel_rfl) (by kernel_rfl)) (by kernel_rfl) (by kernel_rfl) (by kernel_rfl) (door_met os _)) ?_
  intro W base args ds gs before hval hW hL hsh
  exact M.law_post (ss := M.sh_FnExactLoadSparse) (tb := Tryd.f7.resultTypes.getD 0 0) (by kernel_rfl) rfl (by kernel_rfl) (by kernel_rfl) (by kernel_rfl) (by kernel_rfl) fn_ok hval hW (fun ys hy => M.law_FnExactLoadSparse ys hy) (gl_of hL hsh)
theorem over : Rows.FnExactLoadSparseSaid :=
  OpenClaim.holds_of_wide 7 Tryd.f7 rfl rfl rfl rfl rfl rfl rfl ⟨rfl, rfl, rfl, rfl, rfl⟩ rfl rfl rfl rfl rfl (by kernel_rfl) Tryd.func7 (by kernel_rfl)
    (of_decide_eq_true (by kernel_rfl)) (by unfold Func.isWrapper; first | (rw [if_pos (by decide +kernel)]; kernel_rfl) | (rw [if_neg (by decide +kernel)]; exact ⟨rfl, rfl⟩))
    (fun os started H enc _ => lifted os started H enc)
theorem proved : Rows.FnExactLoadSparseCardSaid :=
  Claim7.holds_tied_plain_at .later [] [.data, .data, .data, .data, .sentinel, .sentinel, .pinned] true (true, "84c963ca224d5e892e84e26cb98e6c80ec60f6989700292fed34166453aa9141") true
    over (fun _ h => by cases h) (by kernel_rfl) (fun _ h => by cases h) fnExactLoadSparse_row_tie rfl ⟨rfl, rfl⟩ (by kernel_rfl) rfl
    (fun f fn hf hfn => by
      obtain rfl : f = 7 := Option.some.inj ((show Tryd.prog.funcNamed Rows.fnExactLoadSparseRow.func = some 7 by kernel_rfl).symm.trans hf) |>.symm
      obtain rfl : fn = Tryd.f7 := (Option.some.inj (Tryd.func7.symm.trans hfn)).symm
      exact ⟨by kernel_rfl, fun j t ht => by
        have hall : (Tryd.f7.params.toList.all fun u => !Tryd.prog.wantsStandIn u) = true := by kernel_rfl
        have hm : t ∈ Tryd.f7.params.toList := by simpa using Array.mem_of_getElem? ht
        exact (show Tryd.prog.wantsStandIn t = false by simpa using List.all_eq_true.1 hall t hm)⟩)
    (by kernel_rfl)
#print axioms proved
end Go.Proofs.YtoappkfndnggnaaDoor.fnExactLoadSparse
namespace Go.Proofs.YtoappkfndnggnaaDoor
/-- The card, under a short name, for the claim. -/
theorem fnExactLoadSparse_holds : Rows.FnExactLoadSparseCardSaid := fnExactLoadSparse.proved
end Go.Proofs.YtoappkfndnggnaaDoor
