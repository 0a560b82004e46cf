/-
  What is proved of a function elsewhere, as a call of the machine: new blocks and draws alone.
-/
import Derived.Test.YtbkcenkfecndjaaGreatDoorM14
import Derived.Sort.Grow
import Derived.Deep.Draws
import Derived.Lib.LaidTab
namespace Go.Proofs.YtbkcenkfecndjaaGreatDoor.M
open Go Go.RowKit
set_option linter.unusedVariables false
set_option linter.unusedSimpArgs false

theorem grow_ok {S : Nat → Prop} {w : World} {μ : Mu} {h : H} {pm : Nat → Prop} (hr : HR S w μ h) (k : Nat) (os : Array Obj) : HR S (Sort.grow (w.drewN k) os) μ h ∧ Step pm S w μ S (Sort.grow (w.drewN k) os) μ := by
  have hb : ∀ B, B < w.heap.size → (Sort.grow (w.drewN k) os).heap[B]? = w.heap[B]? := fun B hB => by
    show ((w.drewN k).heap ++ os)[B]? = _
    exact Array.getElem?_append_left hB
  have hsz : w.heap.size ≤ (Sort.grow (w.drewN k) os).heap.size := by
    show w.heap.size ≤ ((w.drewN k).heap ++ os).size
    simp [World.drewN]
  exact ⟨hr.world (fun B hB => hb B (hr.lt B hB)) (fun b m hm => hb _ (hr.lt_of hm)) hsz, ⟨⟨fun _ h => h, fun B hB => hb B (hr.lt B hB), Nat.le_refl _, fun _ _ => .inl rfl⟩, hsz, rfl, rfl, rfl, fun _ => Nat.le_add_right _ _, fun b _ _ => ⟨rfl, fun m hm => hb _ (hr.lt_of hm)⟩⟩⟩

/-- A function whose contract says: this value, new blocks, draws. -/
theorem Fn.ofGrow {P : Program} {f : FuncId} {args : List AV} {x : AV} (hce : CanEnter P f)
    (hc : ∀ S w μ cargs, GL S w → AR S w μ args cargs → ∃ v, (∀ S w μ, VR S w μ x v) ∧ Calls P f cargs w fun e w' => e = .returned v ∧ ∃ k os, w' = Sort.grow (w.drewN k) os) : Fn P f args (· = x) := by
  intro h
  refine ⟨hce, fun S w μ cargs hr ha => ?_⟩
  obtain ⟨v, hv, hcall⟩ := hc S w μ cargs hr.gl ha
  refine hcall.mono ?_
  rintro e w' ⟨rfl, k, os, rfl⟩
  obtain ⟨h1, h2⟩ := grow_ok (pm := Nowhere) hr k os
  exact ⟨v, x, h, S, μ, rfl, ⟨rfl, rfl⟩, hv _ _ _, h1, h2⟩
/-- A function whose contract says: a slice of new cells, which is read alone from there on. -/
theorem Fn.ofAlloc {P : Program} {f : FuncId} {args cs : List AV} (hce : CanEnter P f) (h1 : cs.all one = true) (hfree : ∀ c ∈ cs, Free c) (hm : cs.length ≤ maxLen)
    (hc : ∀ S w μ cargs, GL S w → AR S w μ args cargs → ∃ (arr : Array Value) (t : TypeId), arr.size = cs.length ∧ (∀ S w μ (i : Nat) (x : AV), cs[i]? = some x → VR S w μ x (arr.getD i undef)) ∧ Calls P f cargs w fun e w' => e = .returned (.slice (some ⟨w.heap.size, 0, none⟩) cs.length cs.length) ∧ w' = w.alloc (.cells arr t)) : Fn P f args (· = .ro 1 cs cs.length) :=
  Fn.froze fun h => by
    refine ⟨hce, fun S w μ cargs hr ha => ?_⟩
    obtain ⟨arr, t, hsz, hv, hcall⟩ := hc S w μ cargs hr.gl ha
    refine hcall.mono ?_
    rintro e w' ⟨rfl, rfl⟩
    obtain ⟨f1, f2⟩ := fresh (pm := Nowhere) (t := t) hr (Nat.le_of_eq hsz.symm) h1 (fun i x hx => hv S w μ i x hx)
    exact ⟨_, .sl h.length 0 1 cs.length cs.length, _, _, _, rfl, vw_all (Nat.le_refl _) (by rw [cells_h0]; rfl) (by simp) h1 hfree, new_sl hr _ (Nat.le_refl _) (Nat.le_refl _) hm (by decide) (by omega), f1, f2⟩
theorem canEnter_of {P : Program} {f : FuncId} {fn : Func} (hf : P.funcs[f]? = some fn) (hb : fn.body.isNone = false) (hn : (fn.name == "runtime.NumGoroutine") = false) : CanEnter P f := ⟨fn, hf, hb, hn⟩
theorem ar_1 {S : Nat → Prop} {w : World} {μ : Mu} {x : AV} {cargs : Array Value} (ha : AR S w μ [x] cargs) : ∃ v, cargs = #[v] ∧ VR S w μ x v := by
  obtain ⟨h1, h2⟩ := ha
  have hs : cargs.size = 1 := by simpa using h1
  obtain ⟨v, rfl⟩ : ∃ v, cargs = #[v] := ⟨cargs[0], by
    apply Array.ext
    · simpa using hs
    · intro i h1 h2
      have : i = 0 := by simp at h2; omega
      subst this
      simp⟩
  exact ⟨v, rfl, by simpa using h2 0 x rfl⟩
theorem ar_2 {S : Nat → Prop} {w : World} {μ : Mu} {x y : AV} {cargs : Array Value} (ha : AR S w μ [x, y] cargs) : ∃ v u, cargs = #[v, u] ∧ VR S w μ x v ∧ VR S w μ y u := by
  obtain ⟨h1, h2⟩ := ha
  have hs : cargs.size = 2 := by simpa using h1
  obtain ⟨v, u, rfl⟩ : ∃ v u, cargs = #[v, u] := ⟨cargs[0], cargs[1], by
    apply Array.ext
    · simpa using hs
    · intro i h1 h2
      simp at h2
      rcases i with _ | _ | i
      · simp
      · simp
      · omega⟩
  exact ⟨v, u, rfl, by simpa using h2 0 x rfl, by simpa using h2 1 y rfl⟩
theorem gl_tab {P : Program} {S : Nat → Prop} {w : World} {g : Nat} {name : String} {k : IntKind} {zs : List Int} (hg : GL S w) (hm : (g, zs.map fun z => Value.int k z) ∈ globs) (hn : P.globalNamed name = some g) : Lib.TabIs P w name k zs := by
  obtain ⟨_, t, f, h2⟩ := hg.1 _ hm
  unfold Lib.TabIs World.var?
  rw [hn]
  simp [h2]
theorem gl_int {S : Nat → Prop} {w : World} {g : Nat} (hg : GL S w) (hm : g ∈ intGlobs) : ∃ n, w.cell? ⟨g, 0, none⟩ = some (.int .i64 n) := by
  obtain ⟨_, cs, t, f, n, h2, h3⟩ := hg.2.1 g hm
  exact ⟨n, by simp [World.cell?, h2, h3]⟩
theorem gl_if {S : Nat → Prop} {w : World} {g : Nat} (hg : GL S w) (hm : g ∈ ifGlobs) : ∃ tp p, w.cell? ⟨g, 0, none⟩ = some (.iface tp p) := by
  obtain ⟨_, cs, t, f, tp, p, h2, h3⟩ := hg.2.2 g hm
  exact ⟨tp, p, by simp [World.cell?, h2, h3]⟩
/-- A function whose contract says what it returns and that of what was there nothing has turned. -/
theorem Fn.ofBelow {P : Program} {f : FuncId} {args : List AV} {R : AV → Prop} (hq : ¬ DRQ) (hce : CanEnter P f)
    (hc : ∀ S w μ cargs, GL S w → AR S w μ args cargs → Calls P f cargs w fun e w' => ∃ v x, e = .returned v ∧ R x ∧ (∀ S w μ, VR S w μ x v) ∧ Below w.heap.size w w') : Fn P f args R := by
  intro h
  refine ⟨hce, fun S w μ cargs hr ha => ?_⟩
  refine (hc S w μ cargs hr.gl ha).mono ?_
  rintro e w' ⟨v, x, rfl, hR, hv, hb⟩
  have hbl : ∀ B, B < w.heap.size → w'.heap[B]? = w.heap[B]? := fun B hB => hb.block B hB
  exact ⟨v, x, h, S, μ, rfl, ⟨hR, rfl⟩, hv _ _ _, hr.world (fun B hB => hbl B (hr.lt B hB)) (fun b m hm => hbl _ (hr.lt_of hm)) hb.size, ⟨⟨fun _ h => h, fun B hB => hbl B (hr.lt B hB), Nat.le_refl _, fun _ _ => .inl rfl⟩, hb.size, hb.os, hb.output, hb.tape, fun q => absurd q hq, fun b _ _ => ⟨rfl, fun m hm => hbl _ (hr.lt_of hm)⟩⟩⟩
end Go.Proofs.YtbkcenkfecndjaaGreatDoor.M
