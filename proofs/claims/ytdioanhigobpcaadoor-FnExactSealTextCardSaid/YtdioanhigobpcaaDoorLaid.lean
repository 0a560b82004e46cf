/-
  The package-level variables that the rows list: the condition can be met, and it gives what the proofs read.
-/
import Derived.Test.YtdioanhigobpcaaDoorRows
import Derived.Test.YtdioanhigobpcaaDoorM16
import Derived.ProofKit
import Derived.LaidMore
import Derived.OpenShut
import Derived.Stop.Joined
import Derived.Lib.LaidTab
namespace Go.Proofs.YtdioanhigobpcaaDoor.YtdioanhigobpcaaDoorLaid
open Go Go.ChangeShapes Go.WideShapes Go.ChangeAt Go.WideMaps Go.WideElems Go.RowKit
set_option linter.unusedVariables false
theorem own : ownKnob Tryd.prog.godebug = none := by kernel_rfl
abbrev lst : List (String × DataW Unit) := [("math/bits.deBruijn32tab", Rows.laid_math_bits_deBruijn32tab), ("math/bits.deBruijn64tab", Rows.laid_math_bits_deBruijn64tab), ("internal/strconv.uint64pow10", Rows.laid_internal_strconv_uint64pow10)]
theorem door_met (os : Os) (args : Array Value) : laidMetH Tryd.prog lst ((World.doorLaid Tryd.prog 400 os).forCall (fun _ _ => 0) ⟨#[], args, []⟩).memory :=
  laidMetH_of_parts3 (fuel := 65) (laidMet_of_run' 65 (by kernel_rfl) (by kernel_rfl)) (by kernel_rfl) (by kernel_rfl)
theorem tab_is : (Rows.laid_internal_strconv_uint64pow10 : DataW Unit) = Lib.tabData .u64 Lib.pow10Tab := by kernel_rfl
noncomputable def tabT : TypeId := ((Tryd.prog.globals[1]?).map (·.type)).getD 0
noncomputable def tabE : TypeId := match Tryd.prog.underlying tabT with | some (.array _ e) => e | _ => 0
theorem gl_of {W : World} (h : laidMetH Tryd.prog lst W) : M.GL (fun B => B < W.heap.size) W := by
  rw [MakeChecks.laidMetH_plain _ _ _ (by kernel_rfl)] at h
  obtain ⟨ps, ⟨g0, t0, cs0, f0, p0, q0, hg0, ht0, hv0, hd0, ⟨g1, t1, cs1, f1, p1, q1, hg1, ht1, hv1, hd1, ⟨g2, t2, cs2, f2, p2, q2, hg2, ht2, hv2, hd2, _, _⟩, _⟩, _⟩, _, _⟩ := h
  have gg : Tryd.prog.globalNamed "internal/strconv.uint64pow10" = some 1 := by kernel_rfl
  obtain rfl := Option.some.inj (gg.symm.trans hg2)
  have y1 : (Tryd.prog.globals[1]?).map (·.type) = some tabT := by kernel_rfl
  have y2 : Tryd.prog.underlying tabT = some (.array 20 tabE) := by kernel_rfl
  have y3 : Tryd.prog.underlying tabE = some (.int .u64) := by kernel_rfl
  have y4 : Tryd.prog.cellsOf tabE = 1 := by kernel_rfl
  have y5 : Tryd.prog.cellsOf tabT = 20 := by kernel_rfl
  obtain rfl := Option.some.inj (y1.symm.trans ht2)
  rw [tab_is] at hd2
  have hcs := Lib.cells_of_tab y2 y3 y4 y5 hd2
  unfold World.var? at hv2
  rw [gg, Option.bind_some] at hv2
  intro p hp
  obtain rfl : p = (1, Lib.pow10Tab.map fun z => Value.int .u64 z) := List.mem_singleton.1 hp
  cases hh : W.heap[1]? with
  | none => rw [hh] at hv2; cases hv2
  | some o =>
    rw [hh] at hv2
    cases o with
    | cells cs t f =>
      injection hv2 with hv2
      subst hv2
      have he : cs = (Lib.pow10Tab.map fun z => Value.int .u64 z).toArray := by
        rw [← hcs]
        try simp
      refine ⟨(Array.getElem?_eq_some_iff.1 hh).1, t, f, ?_⟩
      rw [← he]
      try exact hh
    | _ => cases hv2
end Go.Proofs.YtdioanhigobpcaaDoor.YtdioanhigobpcaaDoorLaid
