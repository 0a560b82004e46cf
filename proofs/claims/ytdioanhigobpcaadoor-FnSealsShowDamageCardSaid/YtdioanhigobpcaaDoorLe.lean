/-
  'FnSealsShowDamage' of the given program returns true for every input, and each argument reads afterwards as it read before; the package-level variables that the row lists hold what the program's text lays (the card's tie).
-/
import Derived.Test.YtdioanhigobpcaaDoorRows
import Derived.Test.YtdioanhigobpcaaDoorTie
import Derived.Test.YtdioanhigobpcaaDoorCards
import Derived.Test.YtdioanhigobpcaaDoorCe
import Derived.Test.YtdioanhigobpcaaDoorLaid
import Derived.ProofKit
import Derived.LaidMore
import Derived.OpenShut
import Derived.Stop.Joined
import Derived.SevenTiedAt
import Derived.Lib.LaidTab
namespace Go.Proofs.YtdioanhigobpcaaDoor.fnSealsShowDamage
open Go YtdioanhigobpcaaDoorLaid Go.ChangeShapes Go.WideShapes Go.ChangeAt Go.WideMaps Go.WideElems Go.RowKit
set_option linter.unusedVariables false
theorem fn_ok {H : Type} (ds : List (DataW H)) (h : ds.length = Tryd.f5.params.toList.length) : Rows.fnSealsShowDamageSpec.fn H ds = { results := [.lit (.bool true)], args := ds } := by
  have h : ds.length = 2 := h.trans (by kernel_rfl)
  rcases ds with _ | ⟨d0, _ | ⟨d1, _ | ⟨_, _⟩⟩⟩ <;> first | rfl | (simp at h)
set_option maxRecDepth 100000 in
theorem lifted (os : Os) (started : os.Started) (H : Type) (enc : TypeId × Value → H) :
    ReturnsInHanded {} Tryd.checked os 5 .any (fun w args => (Rows.fnSealsShowDamageSpec.pre enc Tryd.prog Tryd.f5 [] false w args ∧ laidMetH Tryd.prog lst w) ∧ sizedMet enc Tryd.prog Tryd.f5 (OpenSpec.ofChange Rows.fnSealsShowDamageSpec) false w args)
      (Rows.fnSealsShowDamageSpec.post enc Tryd.prog Tryd.f5 false true false false) := by
  refine wrap (C := Tryd.checked) (L := lst) own started (by kernel_rfl) Tryd.func5
    (ChangeSpec.witness_shaped (enc := enc) (C := Tryd.checked) (os := os) (X := fun w _ => laidMetH Tryd.prog lst w) false (World.doorLaid Tryd.prog 400 os) #[.slice none 0 0, .slice none 0 0] 8 rfl (World.shaped_of_RefB (by kernel_rfl) (by kernel_rfl)) (by kernel_rfl) (by kernel_rfl) (by kernel_rfl) (door_met os _)) ?_
  intro W base args ds gs before hval hW hL hsh
  exact M.law_post (ss := M.sh_FnSealsShowDamage) (tb := Tryd.f5.resultTypes.getD 0 0) (by kernel_rfl) rfl (by kernel_rfl) (by kernel_rfl) (by kernel_rfl) (by kernel_rfl) fn_ok hval hW (fun ys hy => M.law_FnSealsShowDamage ys hy) (gl_of hL hsh)
theorem over : Rows.FnSealsShowDamageSaid :=
  OpenClaim.holds_of_wide 5 Tryd.f5 rfl rfl rfl rfl rfl rfl rfl ⟨rfl, rfl, rfl, rfl, rfl⟩ rfl rfl rfl rfl rfl (by kernel_rfl) Tryd.func5 (by kernel_rfl)
    (of_decide_eq_true (by kernel_rfl)) (by unfold Func.isWrapper; first | (rw [if_pos (by decide +kernel)]; kernel_rfl) | (rw [if_neg (by decide +kernel)]; exact ⟨rfl, rfl⟩))
    (fun os started H enc _ => lifted os started H enc)
theorem proved : Rows.FnSealsShowDamageCardSaid :=
  Claim7.holds_tied_plain_at .later [] [.data, .data, .data] true (true, "30ae15b012450792b3d8baa1869dcf05a0bef2aa64f1741d6363047438a6ce60") false
    over (fun _ h => by cases h) (by kernel_rfl) (fun _ h => by cases h) fnSealsShowDamage_row_tie rfl ⟨rfl, rfl⟩ (by kernel_rfl) rfl
    (fun f fn hf hfn => by
      obtain rfl : f = 5 := Option.some.inj ((show Tryd.prog.funcNamed Rows.fnSealsShowDamageRow.func = some 5 by kernel_rfl).symm.trans hf) |>.symm
      obtain rfl : fn = Tryd.f5 := (Option.some.inj (Tryd.func5.symm.trans hfn)).symm
      exact ⟨by kernel_rfl, fun j t ht => by
        have hall : (Tryd.f5.params.toList.all fun u => !Tryd.prog.wantsStandIn u) = true := by kernel_rfl
        have hm : t ∈ Tryd.f5.params.toList := by simpa using Array.mem_of_getElem? ht
        exact (show Tryd.prog.wantsStandIn t = false by simpa using List.all_eq_true.1 hall t hm)⟩)
    (by kernel_rfl)
#print axioms proved
end Go.Proofs.YtdioanhigobpcaaDoor.fnSealsShowDamage
namespace Go.Proofs.YtdioanhigobpcaaDoor
/-- The card, under a short name, for the claim. -/
theorem fnSealsShowDamage_holds : Rows.FnSealsShowDamageCardSaid := fnSealsShowDamage.proved
end Go.Proofs.YtdioanhigobpcaaDoor
