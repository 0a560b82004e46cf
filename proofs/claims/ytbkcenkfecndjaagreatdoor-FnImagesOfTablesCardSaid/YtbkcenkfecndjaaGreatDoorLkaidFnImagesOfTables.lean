/-
  The package-level variables that the rows list: the condition can be met, and it gives what the proofs read.
-/
import Derived.Test.YtbkcenkfecndjaaGreatDoorRows
import Derived.Test.YtbkcenkfecndjaaGreatDoorM16
import Derived.ProofKit
import Derived.LaidMore
import Derived.Lay
import Derived.Stop.LaidErr
import Derived.Stop.Texts
import Derived.OpenShut
import Derived.Stop.Joined
import Derived.Lib.LaidTab
import Derived.Test.YtbkcenkfecndjaaGreatDoorShelf
namespace Go.Proofs.YtbkcenkfecndjaaGreatDoor.YtbkcenkfecndjaaGreatDoorLkaidFnImagesOfTables
open Go Go.ChangeShapes Go.WideShapes Go.ChangeAt Go.WideMaps Go.WideElems Go.RowKit
set_option linter.unusedVariables false
theorem own : ownKnob Tryz.prog.godebug = none := by kernel_rfl
abbrev lst : List (String × DataW Unit) := [("math/bits.deBruijn32tab", Rows.laid_math_bits_deBruijn32tab), ("math/bits.deBruijn64tab", Rows.laid_math_bits_deBruijn64tab), ("internal/strconv.uint64pow10", Rows.laid_internal_strconv_uint64pow10), ("unicode/utf8.acceptRanges", Rows.laid_unicode_utf8_acceptRanges), ("strconv.ErrRange", Rows.laid_strconv_ErrRange), ("strconv.ErrSyntax", Rows.laid_strconv_ErrSyntax), ("unicode/utf8.first", Rows.laid_unicode_utf8_first)]
theorem door_met (os : Os) (args : Array Value) : laidMetH Tryz.prog lst ((World.laidAll Tryz.prog os lst).forCall (fun _ _ => 0) ⟨#[], args, []⟩).memory := by
  rw [MakeChecks.laidMetH_plain _ _ _ (by kernel_rfl)]
  exact laidMet_laidAll _ (by kernel_rfl) (by kernel_rfl)
theorem tab_is : (Rows.laid_internal_strconv_uint64pow10 : DataW Unit) = Lib.tabData .u64 Lib.pow10Tab := by kernel_rfl
noncomputable def tabT : TypeId := ((Tryz.prog.globals[0]?).map (·.type)).getD 0
noncomputable def tabE : TypeId := match Tryz.prog.underlying tabT with | some (.array _ e) => e | _ => 0
theorem star : "*" ++ "errors.errorString" = "*errors.errorString" := by decide
theorem rowE (u : TypeId) (h : Tryz.prog.typeName? 3 u = some "*errors.errorString") : u = 161 :=
  typeName_ptr_named (nm := "errors.errorString") (by rw [star]; kernel_rfl) (by kernel_rfl) (by decide) u (by rw [star]; exact h)
theorem if_of {W : World} {n : String} {g : Nat} {a : Addr} (hg : Tryz.prog.globalNamed n = some g) (hv : W.var? Tryz.prog n = some #[.iface 161 (.pointer (some a))]) :
    g < W.heap.size ∧ ∃ cs t f tp p, W.heap[g]? = some (.cells cs t f) ∧ cs[0]? = some (.iface tp p) := by
  unfold World.var? at hv
  rw [hg, Option.bind_some] at hv
  cases hh : W.heap[g]? with
  | none => rw [hh] at hv; cases hv
  | some o =>
    rw [hh] at hv
    cases o with
    | cells cs t f =>
      injection hv with hv
      exact ⟨(Array.getElem?_eq_some_iff.1 hh).1, cs, t, f, _, _, rfl, by rw [hv]; rfl⟩
    | _ => cases hv
theorem gl_of {W : World} (h : laidMetH Tryz.prog lst W) (hsh : W.ShapedOpen Tryz.prog) : M.GL (fun B => B < W.heap.size) W := by
  obtain ⟨mx, hmx⟩ := Tryz.laysM145.s1_3 W hsh
  rw [MakeChecks.laidMetH_plain _ _ _ (by kernel_rfl)] at h
  obtain ⟨a2, s2, hvr, _, _, _⟩ := laid_sentinel (n := "strconv.ErrRange") (g := 2) (ti := 90) (tp := 161) (te := 163) (ts := 9) h.tail.tail.tail.tail (by kernel_rfl) (by kernel_rfl) Tryz.underlying90 rowE Tryz.underlying161 Tryz.underlying163 rfl rfl Tryz.underlying9 (by kernel_rfl) (by kernel_rfl)
  obtain ⟨a1, s1, hvs, _, _, _⟩ := laid_sentinel (n := "strconv.ErrSyntax") (g := 1) (ti := 90) (tp := 161) (te := 163) (ts := 9) h.tail.tail.tail.tail.tail (by kernel_rfl) (by kernel_rfl) Tryz.underlying90 rowE Tryz.underlying161 Tryz.underlying163 rfl rfl Tryz.underlying9 (by kernel_rfl) (by kernel_rfl)
  obtain ⟨ps, ⟨g0, t0, cs0, f0, p0, q0, hg0, ht0, hv0, hd0, ⟨g1, t1, cs1, f1, p1, q1, hg1, ht1, hv1, hd1, ⟨g2, t2, cs2, f2, p2, q2, hg2, ht2, hv2, hd2, _, _⟩, _⟩, _⟩, _, _⟩ := h
  have gg : Tryz.prog.globalNamed "internal/strconv.uint64pow10" = some 0 := by kernel_rfl
  obtain rfl := Option.some.inj (gg.symm.trans hg2)
  have y1 : (Tryz.prog.globals[0]?).map (·.type) = some tabT := by kernel_rfl
  have y2 : Tryz.prog.underlying tabT = some (.array 20 tabE) := by kernel_rfl
  have y3 : Tryz.prog.underlying tabE = some (.int .u64) := by kernel_rfl
  have y4 : Tryz.prog.cellsOf tabE = 1 := by kernel_rfl
  have y5 : Tryz.prog.cellsOf tabT = 20 := by kernel_rfl
  obtain rfl := Option.some.inj (y1.symm.trans ht2)
  rw [tab_is] at hd2
  have hcs := Lib.cells_of_tab y2 y3 y4 y5 hd2
  unfold World.var? at hv2
  rw [gg, Option.bind_some] at hv2
  refine ⟨fun p hp => ?_, fun g hgm => ?_, fun g hg => ?_⟩
  case refine_2 =>
    obtain rfl : g = 3 := List.mem_singleton.1 hgm
    have hmx2 : W.cell? ⟨3, 0, .none⟩ = some (.int .i64 mx) := hmx
    unfold World.cell? at hmx2
    cases hh : W.heap[3]? with
    | none => rw [hh] at hmx2; cases hmx2
    | some o =>
      cases o with
      | cells cs t f => 
        refine ⟨(Array.getElem?_eq_some_iff.1 hh).1, cs, t, f, mx, rfl, ?_⟩
        simpa [hh] using hmx2
      | _ => simp [hh] at hmx2
  case refine_3 =>
    rcases List.mem_cons.1 hg with rfl | hg
    · exact if_of (by kernel_rfl) hvs
    · obtain rfl := List.mem_singleton.1 hg
      exact if_of (by kernel_rfl) hvr
  obtain rfl : p = (0, Lib.pow10Tab.map fun z => Value.int .u64 z) := List.mem_singleton.1 hp
  cases hh : W.heap[0]? with
  | none => rw [hh] at hv2; cases hv2
  | some o =>
    rw [hh] at hv2
    cases o with
    | cells cs t f =>
      injection hv2 with hv2
      subst hv2
      have he : cs = (Lib.pow10Tab.map fun z => Value.int .u64 z).toArray := by
        rw [← hcs]
        try simp
      refine ⟨(Array.getElem?_eq_some_iff.1 hh).1, t, f, ?_⟩
      rw [← he]
      try exact hh
    | _ => cases hv2
/-- The frame around a contract: what the row says ahead of the call, handed on to the contract, the shape of the world among it. -/
theorem wrap {C : Checked} {L : List (String × DataW Unit)} (own : ownKnob C.prog.godebug = .none) {H : Type} {enc : TypeId × Value → H} {os : Os} {f : FuncId} {fn : Func} {s : ChangeSpec} (started : os.Started) (noInit : C.prog.inits.idxOf? f = .none) (hfn : C.prog.funcs[f]? = some fn)
    (witness : ∃ (w : World) (tape : Tape) (i : Input), w.os = os ∧ (w.forCall tape i).Shaped C.prog ∧ i.vars = [] ∧ Input.okWide C.prog (w.forCall tape i) .any w.heap.size f i ∧
      ((s.pre enc C.prog fn [] false (w.forCall tape i).memory i.args ∧ laidMetH C.prog L (w.forCall tape i).memory) ∧ sizedMet enc C.prog fn (OpenSpec.ofChange s) false (w.forCall tape i).memory i.args) ∧ ({} : Assume).holds C.prog (lone (Frame.enter C.prog f i.args .normal) [] (w.forCall tape i)))
    (contract : ∀ (W : World) (base : Nat) (args : Array Value) (ds gs : List (DataW H)) (before : List MemPlace), (∀ (j : Nat) t v, fn.params[j]? = some t → args[j]? = some v → Value.okWide C.prog W .any base t v) →
      DataW.Whole enc C.prog fn.params.toList s.vars false W args.toList ds gs before → laidMetH C.prog L W → W.ShapedOpen C.prog →
      Calls C.prog f args W fun e W' => ∃ v, e = .returned v ∧ s.post enc C.prog fn false true false false W args v W') :
    ReturnsInHanded {} C os f .any (fun w args => (s.pre enc C.prog fn [] false w args ∧ laidMetH C.prog L w) ∧ sizedMet enc C.prog fn (OpenSpec.ofChange s) false w args) (s.post enc C.prog fn false true false false) := by
  refine returnsInHanded_of_calls own started noInit witness ?_
  intro w tape i _ hsh _ hok hpre _
  obtain ⟨_, _, _, fn', hfn', _, _, _, _, hval⟩ := hok
  obtain rfl : fn' = fn := Option.some.inj (hfn'.symm.trans hfn)
  obtain ⟨⟨⟨ds, gs, before, hw, _⟩, hx⟩, _⟩ := hpre
  refine (contract (w.forCall tape i) w.heap.size i.args ds gs before hval (DataW.Whole.of_heap (w' := w.forCall tape i) (by rfl) hw) (hx.of_heap (by rfl)) hsh).mono fun e W' ⟨v, he, hp⟩ => ?_
  subst he
  exact ChangeSpec.post_blind hp
end Go.Proofs.YtbkcenkfecndjaaGreatDoor.YtbkcenkfecndjaaGreatDoorLkaidFnImagesOfTables
