/-
  What an abstract value says of a value in memory, and an abstract heap of a world: plain laws. Nothing of a program stands here.
-/
import Derived.Test.YtbkcenkfecndjaaGreatDoorM1
import Derived.Lib.ItoaNum
namespace Go.Proofs.YtbkcenkfecndjaaGreatDoor.M
open Go Go.RowKit
set_option linter.unusedVariables false
set_option linter.unusedSimpArgs false

/-- Where an abstract block lies: the block, the place of its first cell, how many cells the block has. -/
structure MI where
  B : Nat
  o : Nat
  n : Nat
abbrev Mu := List (Option MI)

inductive VR (S : Nat → Prop) (w : World) (μ : Mu) : AV → Value → Prop
  | int (k n) : VR S w μ (.int k n) (.int k n)
  | bool (b) : VR S w μ (.bool b) (.bool b)
  | str (s) (hl : s.length ≤ 9223372036854775807) : VR S w μ (.str s) (.string ⟨s.toArray⟩)
  | nils : VR S w μ .nils (.slice none 0 0)
  | nilp : VR S w μ .nilp (.pointer none)
  | nilf : VR S w μ .nilf .nilFunc
  | nili : VR S w μ .nili .nilIface
  | nilm : VR S w μ .nilm (.map none)
  | adr {b off : Nat} {A : Addr} {om : Option MI} (h : μ[b]? = some om) (hs : A.spot = none) (hA : ∀ m, om = some m → A = ⟨m.B, m.o + off, none⟩) : VR S w μ (.adr b off) (.pointer (some A))
  | sl {b off sz len kc cap : Nat} {A : Addr} {om : Option MI} (h : μ[b]? = some om) (hl : len ≤ kc) (hk : kc ≤ cap) (hm : cap ≤ maxLen) (hs : A.spot = none) (hz : 0 < sz)
      (hA : ∀ m, om = some m → A.block = m.B ∧ (0 < cap → A.off = m.o + off) ∧ A.off + cap * sz ≤ m.n) : VR S w μ (.sl b off sz len kc) (.slice (some A) len cap)
  | ro {sz : Nat} {cs : List AV} {len cap : Nat} {A : Addr} {f : Nat → Value} (hl : len ≤ cap) (hm : cap ≤ maxLen) (hz : 0 < sz) (h1 : cs.all one = true) (hS : 0 < len ∨ cs ≠ [] → S A.block ∧ A.spot = none)
      (hc : ∀ i x, cs[i]? = some x → w.cell? ⟨A.block, A.off + i, none⟩ = some (f i)) (hv : ∀ i x, cs[i]? = some x → VR S w μ x (f i)) : VR S w μ (.ro sz cs len) (.slice (some A) len cap)
  | rad {cs : List AV} {off B o : Nat} {f : Nat → Value} (hS : S B)
      (hc : ∀ i x, cs[i]? = some x → w.cell? ⟨B, o + i, none⟩ = some (f i)) (hv : ∀ i x, cs[i]? = some x → VR S w μ x (f i)) : VR S w μ (.rad cs off) (.pointer (some ⟨B, o + off, none⟩))
  | agg {cs : List AV} {vs : Array Value} (hl : vs.size = cs.length) (hv : ∀ i x, cs[i]? = some x → VR S w μ x (vs.getD i undef)) : VR S w μ (.agg cs) (.agg vs)
  | tup {cs : List AV} {vs : Array Value} (hl : vs.size = cs.length) (hv : ∀ i x, cs[i]? = some x → VR S w μ x (vs.getD i undef)) : VR S w μ (.tup cs) (.tuple vs)
  | fn {f : Nat} {cs : List AV} {vs : Array Value} (hl : vs.size = cs.length) (hv : ∀ i x, cs[i]? = some x → VR S w μ x (vs.getD i undef)) : VR S w μ (.fn f cs) (.func (.func f) #[] vs)
  | ifc (t v) : VR S w μ .ifc (.iface t v)
  | mp {b r : Nat} {om : Option MI} (h : μ[b]? = some om) (hr : ∀ m, om = some m → r = m.B) : VR S w μ (.mp b) (.map (some r))

theorem VR.undef_ (S w μ) : VR S w μ unset undef := VR.tup (cs := []) (vs := #[]) rfl (fun i x h => by simp at h)

/-- The world has gone on: what is kept is as it was; blocks are where they were, or dead. -/
structure Fwd (S : Nat → Prop) (w : World) (μ : Mu) (S' : Nat → Prop) (w' : World) (μ' : Mu) : Prop where
  s : ∀ B, S B → S' B
  blk : ∀ B, S B → w'.heap[B]? = w.heap[B]?
  len : μ.length ≤ μ'.length
  mu : ∀ b : Nat, b < μ.length → μ'[b]? = μ[b]? ∨ μ'[b]? = some none

theorem Fwd.refl (S w μ) : Fwd S w μ S w μ := ⟨fun _ h => h, fun _ _ => rfl, Nat.le_refl _, fun _ _ => .inl rfl⟩

theorem Fwd.trans {S w μ S' w' μ' S2 w2 μ2} (h : Fwd S w μ S' w' μ') (k : Fwd S' w' μ' S2 w2 μ2) : Fwd S w μ S2 w2 μ2 :=
  ⟨fun B x => k.s B (h.s B x), fun B x => (k.blk B (h.s B x)).trans (h.blk B x), Nat.le_trans h.len k.len, fun b hb => by
    rcases k.mu b (Nat.lt_of_lt_of_le hb h.len) with e | e
    · rcases h.mu b hb with e' | e'
      · exact .inl (e.trans e')
      · exact .inr (e.trans e')
    · exact .inr e⟩

theorem mu_lt {μ : Mu} {b : Nat} {x} (h : μ[b]? = some x) : b < μ.length := (List.getElem?_eq_some_iff.1 h).1

theorem cell_blk {w w' : World} {B o : Nat} (h : w'.heap[B]? = w.heap[B]?) : w'.cell? ⟨B, o, none⟩ = w.cell? ⟨B, o, none⟩ := by simp [World.cell?, h]

theorem VR.fwd {S w μ S' w' μ' x v} (hf : Fwd S w μ S' w' μ') (h : VR S w μ x v) : VR S' w' μ' x v := by
  induction h with
  | int k n => exact .int k n
  | bool b => exact .bool b
  | str s hl => exact .str s hl
  | nils => exact .nils
  | nilp => exact .nilp
  | nilf => exact .nilf
  | nili => exact .nili
  | nilm => exact .nilm
  | adr h hs hA =>
    rcases hf.mu _ (mu_lt h) with e | e
    · exact .adr (e.trans h) hs hA
    · exact .adr e hs (fun m hm => by cases hm)
  | sl h hl hk hm hs hz hA =>
    rcases hf.mu _ (mu_lt h) with e | e
    · exact .sl (e.trans h) hl hk hm hs hz hA
    · exact .sl e hl hk hm hs hz (fun m hm => by cases hm)
  | ro hl hm hz h1 hS hc _ ih => exact .ro hl hm hz h1 (fun hh => ⟨hf.s _ (hS hh).1, (hS hh).2⟩) (fun i x hx => (cell_blk (hf.blk _ (hS (.inr fun he => by rw [he] at hx; simp at hx)).1)).trans (hc i x hx)) ih
  | rad hS hc _ ih => exact .rad (hf.s _ hS) (fun i x hx => (cell_blk (hf.blk _ hS)).trans (hc i x hx)) ih
  | agg hl _ ih => exact .agg hl ih
  | tup hl _ ih => exact .tup hl ih
  | fn hl _ ih => exact .fn hl ih
  | ifc t v => exact .ifc t v
  | mp h hr =>
    rcases hf.mu _ (mu_lt h) with e | e
    · exact .mp (e.trans h) hr
    · exact .mp e (fun m hm => by cases hm)

/-- What one cell holds is one cell's value. -/
theorem VR.oneCell {S w μ x v} (h : VR S w μ x v) (ho : one x = true) : v.oneCell' = true := by
  cases h <;> first | rfl | (simp [one] at ho)

/-- One object. -/
inductive OR (S : Nat → Prop) (w : World) (μ : Mu) (m : MI) : AObj → Prop
  | cells {cs : List AV} {arr : Array Value} {t : TypeId} (h : w.heap[m.B]? = some (.cells arr t (0, 0))) (hn : m.n = arr.size) (hl : m.o + cs.length ≤ arr.size)
      (h1 : ∀ (i : Nat) (x : AV), cs[i]? = some x → one x = true) (hv : ∀ (i : Nat) (x : AV), cs[i]? = some x → VR S w μ x (arr.getD (m.o + i) undef)) : OR S w μ m (.cells cs)
  | map {es : List (AV × AV)} {arr : Array MapEntry} {clock : Nat} (h : w.heap[m.B]? = some (.map arr clock)) (hl : arr.size = es.length)
      (hv : ∀ (i : Nat) (p : AV × AV), es[i]? = some p → VR S w μ p.1 (arr.getD i default).key ∧ VR S w μ p.2 (arr.getD i default).val) : OR S w μ m (.map es)

/-- The package-level variables that the statement lays, by block, with their cells. -/
def globs : List (Nat × List Value) := [(0, Lib.pow10Tab.map fun z => Value.int .u64 z)]
/-- Those of which the proofs use that they hold some int. -/
def intGlobs : List Nat := [3]
/-- Those of which the proofs use that they hold some value behind an interface. -/
def ifGlobs : List Nat := [1, 2]
/-- Is it told that the tape is asked forward alone? -/
def DRQ : Prop := False
def GL (S : Nat → Prop) (w : World) : Prop := (∀ p ∈ globs, S p.1 ∧ ∃ t f, w.heap[p.1]? = some (.cells p.2.toArray t f)) ∧ (∀ g ∈ intGlobs, S g ∧ ∃ cs t f n, w.heap[g]? = some (.cells cs t f) ∧ cs[0]? = some (.int .i64 n)) ∧ ∀ g ∈ ifGlobs, S g ∧ ∃ cs t f tp p, w.heap[g]? = some (.cells cs t f) ∧ cs[0]? = some (.iface tp p)
theorem GL.fwd {S S' : Nat → Prop} {w w' : World} (hg : GL S w) (hs : ∀ B, S B → S' B) (hb : ∀ B, S B → w'.heap[B]? = w.heap[B]?) : GL S' w' := by
  refine ⟨fun p hp => ?_, fun g hgm => ?_, fun g hgm => ?_⟩
  · obtain ⟨h1, t, f, h2⟩ := hg.1 p hp
    exact ⟨hs _ h1, t, f, (hb _ h1).trans h2⟩
  · obtain ⟨h1, cs, t, f, n, h2, h3⟩ := hg.2.1 g hgm
    exact ⟨hs _ h1, cs, t, f, n, (hb _ h1).trans h2, h3⟩
  · obtain ⟨h1, cs, t, f, tp, p, h2, h3⟩ := hg.2.2 g hgm
    exact ⟨hs _ h1, cs, t, f, tp, p, (hb _ h1).trans h2, h3⟩
/-- An abstract heap of a world. -/
structure HR (S : Nat → Prop) (w : World) (μ : Mu) (h : H) : Prop where
  len : μ.length = h.length
  obj : ∀ (b : Nat) (o : AObj), h[b]? = some (some o) → ∃ m, μ[b]? = some (some m) ∧ OR S w μ m o
  dead : ∀ b : Nat, h[b]? = some none → μ[b]? = some none
  inj : ∀ (b b' : Nat) (m m' : MI), μ[b]? = some (some m) → μ[b']? = some (some m') → m.B = m'.B → b = b'
  out : ∀ (b : Nat) (m : MI), μ[b]? = some (some m) → ¬ S m.B
  lt : ∀ B, S B → B < w.heap.size
  gl : GL S w

theorem HR.live {S w μ h} {b : Nat} {m : MI} (hr : HR S w μ h) (hm : μ[b]? = some (some m)) : ∃ o, h[b]? = some (some o) ∧ OR S w μ m o := by
  have hb : b < h.length := hr.len ▸ mu_lt hm
  cases ho : h[b]? with
  | none => simp at ho; omega
  | some o =>
    cases o with
    | none => have := hr.dead b ho; rw [hm] at this; cases this
    | some o =>
      obtain ⟨m', hm', h'⟩ := hr.obj b o ho
      rw [hm] at hm'
      injection hm' with e
      injection e with e
      subst e
      exact ⟨o, rfl, h'⟩

theorem OR.lt {S w μ m o} (h : OR S w μ m o) : m.B < w.heap.size := by
  cases h with
  | cells h => exact (Array.getElem?_eq_some_iff.1 h).1
  | map h => exact (Array.getElem?_eq_some_iff.1 h).1

theorem HR.cells {S w μ h} {b : Nat} {cs : List AV} (hr : HR S w μ h) (hb : h.cells b = some cs) : ∃ m arr t, μ[b]? = some (some m) ∧ w.heap[m.B]? = some (.cells arr t (0, 0)) ∧ m.n = arr.size ∧ m.o + cs.length ≤ arr.size ∧
    (∀ (i : Nat) (x : AV), cs[i]? = some x → one x = true) ∧ (∀ (i : Nat) (x : AV), cs[i]? = some x → VR S w μ x (arr.getD (m.o + i) undef)) := by
  unfold H.cells at hb
  split at hb
  · rename_i cs' hc
    injection hb with hb
    subst hb
    obtain ⟨m, hm, ho⟩ := hr.obj b _ hc
    cases ho with
    | cells h1 h2 h3 h4 h5 => exact ⟨m, _, _, hm, h1, h2, h3, h4, h5⟩
  · cases hb

theorem HR.mapOf {S w μ h} {b : Nat} {es : List (AV × AV)} (hr : HR S w μ h) (hb : h.mapOf b = some es) : ∃ m arr clock, μ[b]? = some (some m) ∧ w.heap[m.B]? = some (.map arr clock) ∧ arr.size = es.length ∧
    (∀ (i : Nat) (p : AV × AV), es[i]? = some p → VR S w μ p.1 (arr.getD i default).key ∧ VR S w μ p.2 (arr.getD i default).val) := by
  unfold H.mapOf at hb
  split at hb
  · rename_i cs' hc
    injection hb with hb
    subst hb
    obtain ⟨m, hm, ho⟩ := hr.obj b _ hc
    cases ho with
    | map h1 h2 h3 => exact ⟨m, _, _, hm, h1, h2, h3⟩
  · cases hb

theorem cell_of {w : World} {B o : Nat} {arr : Array Value} {t fr} (h : w.heap[B]? = some (.cells arr t fr)) : w.cell? ⟨B, o, none⟩ = arr[o]? := by
  simp [World.cell?, h]

/-- The world as it is left: nothing written but what 'pm' lets be written, and what is new. -/
structure Step (pm : Nat → Prop) (S : Nat → Prop) (w : World) (μ : Mu) (S' : Nat → Prop) (w' : World) (μ' : Mu) : Prop extends Fwd S w μ S' w' μ' where
  size : w.heap.size ≤ w'.heap.size
  os : w'.os = w.os
  output : w'.output = w.output
  tape : w'.tape = w.tape
  drawn : DRQ → w.drawn ≤ w'.drawn
  kept : ∀ b : Nat, b < μ.length → ¬ pm b → μ'[b]? = μ[b]? ∧ ∀ m : MI, μ[b]? = some (some m) → w'.heap[m.B]? = w.heap[m.B]?

theorem Step.refl (pm S w μ) : Step pm S w μ S w μ := ⟨Fwd.refl S w μ, Nat.le_refl _, rfl, rfl, rfl, fun _ => Nat.le_refl _, fun _ _ _ => ⟨rfl, fun _ _ => rfl⟩⟩

theorem Step.trans {pm S w μ S' w' μ' S2 w2 μ2} (h : Step pm S w μ S' w' μ') (k : Step pm S' w' μ' S2 w2 μ2) : Step pm S w μ S2 w2 μ2 :=
  ⟨h.toFwd.trans k.toFwd, Nat.le_trans h.size k.size, k.os.trans h.os, k.output.trans h.output, k.tape.trans h.tape, fun q => Nat.le_trans (h.drawn q) (k.drawn q), fun b hb hp => by
    obtain ⟨e1, e2⟩ := h.kept b hb hp
    obtain ⟨e3, e4⟩ := k.kept b (Nat.lt_of_lt_of_le hb h.len) hp
    exact ⟨e3.trans e1, fun m hm => (e4 m (e1.trans hm)).trans (e2 m hm)⟩⟩

theorem Step.mono {pm pm' : Nat → Prop} {S w μ S' w' μ'} (h : Step pm S w μ S' w' μ') (hp : ∀ b, b < μ.length → pm b → pm' b) : Step pm' S w μ S' w' μ' :=
  ⟨h.toFwd, h.size, h.os, h.output, h.tape, h.drawn, fun b hb hn => h.kept b hb (fun hpb => hn (hp b hb hpb))⟩

/-- A draw. -/
theorem Step.drew (pm S w μ) (n : Nat) (hn : w.drawn ≤ n := by first | omega | exact Nat.le_succ _ | exact Nat.le_add_right _ _) : Step pm S w μ S { w with drawn := n } μ := ⟨⟨fun _ h => h, fun _ _ => rfl, Nat.le_refl _, fun _ _ => .inl rfl⟩, Nat.le_refl _, rfl, rfl, rfl, fun _ => hn, fun _ _ _ => ⟨rfl, fun _ _ => rfl⟩⟩

theorem OR.fwd {S w μ S' w' μ' m o} (hf : Fwd S w μ S' w' μ') (hb : w'.heap[m.B]? = w.heap[m.B]?) (h : OR S w μ m o) : OR S' w' μ' m o := by
  cases h with
  | cells h1 h2 h3 h4 h5 => exact .cells (hb.trans h1) h2 h3 h4 (fun i x hx => (h5 i x hx).fwd hf)
  | map h1 h2 h3 => exact .map (hb.trans h1) h2 (fun i p hp => ⟨(h3 i p hp).1.fwd hf, (h3 i p hp).2.fwd hf⟩)

theorem HR.drew {S w μ h} (hr : HR S w μ h) (n : Nat) : HR S { w with drawn := n } μ h :=
  ⟨hr.len, fun b o hb => by
    obtain ⟨m, hm, ho⟩ := hr.obj b o hb
    exact ⟨m, hm, OR.fwd (w := w) (w' := { heap := w.heap, tape := w.tape, drawn := n, os := w.os, output := w.output }) ⟨fun _ h => h, fun _ _ => rfl, Nat.le_refl _, fun _ _ => .inl rfl⟩ rfl ho⟩, hr.dead, hr.inj, hr.out, hr.lt, hr.gl.fwd (fun _ h => h) (fun _ _ => rfl)⟩

/-- The frame's temporaries. -/
structure ER (N : Nat) (S : Nat → Prop) (w : World) (μ : Mu) (e : Env) (tm : Array Value) : Prop where
  size : tm.size = N
  at_ : ∀ t, t < N → VR S w μ (e t) (tm.getD t undef)

theorem ER.fwd {N S w μ S' w' μ' e tm} (hf : Fwd S w μ S' w' μ') (h : ER N S w μ e tm) : ER N S' w' μ' e tm := ⟨h.size, fun t ht => (h.at_ t ht).fwd hf⟩

def putT (tm : Array Value) (d : Option Nat) (v : Value) : Array Value := match d with | some k => tm.setIfInBounds k v | none => tm

theorem ER.put {N S w μ e tm d x v} (h : ER N S w μ e tm) (hd : ∀ k, d = some k → k < N) (hv : VR S w μ x v) : ER N S w μ (e.put d x) (putT tm d v) := by
  cases d with
  | none => exact h
  | some k =>
    refine ⟨by simpa [putT] using h.size, fun t ht => ?_⟩
    simp only [Env.put, Env.set, putT]
    have hk := hd k rfl
    by_cases htk : t = k
    · subst htk
      simp [h.size, ht, hv]
    · rw [if_neg htk]
      have := h.at_ t ht
      simp only [Array.getD_eq_getD_getElem?] at this ⊢
      rwa [Array.getElem?_setIfInBounds_ne (Ne.symm htk)]

/-- Arguments. -/
def AR (S : Nat → Prop) (w : World) (μ : Mu) (xs : List AV) (vs : Array Value) : Prop := vs.size = xs.length ∧ ∀ (i : Nat) (x : AV), xs[i]? = some x → VR S w μ x (vs.getD i undef)

end Go.Proofs.YtbkcenkfecndjaaGreatDoor.M
