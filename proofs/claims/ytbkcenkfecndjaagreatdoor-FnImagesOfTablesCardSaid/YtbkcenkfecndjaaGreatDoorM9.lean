/-
  Rules on calls: what the arguments are known to be, what is dropped, frozen, lent.
-/
import Derived.Test.YtbkcenkfecndjaaGreatDoorM8
namespace Go.Proofs.YtbkcenkfecndjaaGreatDoor.M
open Go Go.RowKit
set_option linter.unusedVariables false
set_option linter.unusedSimpArgs false

/-! ### arguments that some world holds -/
def OkV (x : AV) : Prop := ∃ S w μ v, VR S w μ x v
def OkArgs (args : List AV) : Prop := ∃ S w μ cargs, AR S w μ args cargs
theorem OkArgs.get {args : List AV} (h : OkArgs args) {i : Nat} {x : AV} (hx : args[i]? = some x) : OkV x := by
  obtain ⟨S, w, μ, c, h⟩ := h
  exact ⟨S, w, μ, _, h.2 i x hx⟩
theorem OkV.ro {sz len : Nat} {cs : List AV} (h : OkV (.ro sz cs len)) : len ≤ 9223372036854775807 ∧ ∀ c ∈ cs, OkV c := by
  obtain ⟨S, w, μ, v, h⟩ := h
  obtain ⟨A, cap, f, _, hl, hm, _, _, _, _, hv⟩ := h.ro_
  refine ⟨Nat.le_trans hl (by simpa [maxLen] using hm), fun c hc => ?_⟩
  obtain ⟨i, hi⟩ := List.getElem?_of_mem hc
  exact ⟨S, w, μ, _, hv i c hi⟩
theorem OkV.agg {cs : List AV} (h : OkV (.agg cs)) : ∀ c ∈ cs, OkV c := by
  obtain ⟨S, w, μ, v, h⟩ := h
  obtain ⟨vs, _, _, hv⟩ := h.agg_
  intro c hc
  obtain ⟨i, hi⟩ := List.getElem?_of_mem hc
  exact ⟨S, w, μ, _, hv i c hi⟩
theorem OkV.sl {b off sz len kc : Nat} (h : OkV (.sl b off sz len kc)) : len ≤ kc ∧ kc ≤ 9223372036854775807 := by
  obtain ⟨S, w, μ, v, h⟩ := h
  obtain ⟨A, cap, om, _, _, h1, h2, h3, _⟩ := h.sl0
  exact ⟨h1, Nat.le_trans h2 (by simpa [maxLen] using h3)⟩

theorem OkV.str {s : List UInt8} (h : OkV (.str s)) : s.length ≤ 9223372036854775807 := by
  obtain ⟨S, w, μ, v, h⟩ := h
  exact h.strLen
theorem enter {P : Program} {f : FuncId} {fn : Func} {rf : RFunc} {args : List AV} {h : H} {W : Nat → Prop} {Q : AV → H → Prop} (hf : P.funcs[f]? = some fn) (hrf : rFunc P fn = some rf) (hnm : (fn.name == "runtime.NumGoroutine") = false) (hn : decide (args.length ≤ rf.n) = true)
    (hT : OkArgs args → T P (fun b => W b ∨ h.length ≤ b) rf.body (K P (fun b => W b ∨ h.length ≤ b) [] (Ends rf.res Q)) (initEnv args) h) : Call P f args h W Q := by
  by_cases hok : OkArgs args
  · exact call_intro hf hrf hnm (of_decide_eq_true hn) (hT hok)
  · refine ⟨?_, fun S w μ cargs _ ha => absurd ⟨S, w, μ, cargs, ha⟩ hok⟩
    simp only [rFunc, Option.bind_eq_some_iff] at hrf
    obtain ⟨c, hb, _⟩ := hrf
    exact ⟨fn, hf, by simp [hb], hnm⟩

theorem Call.canEnter {P f args h W} {Q : AV → H → Prop} (hc : Call P f args h W Q) : CanEnter P f := hc.1

/-! ### values that do not lean on the abstract heap, or on nothing but it -/
def Free (x : AV) : Prop := ∀ S w μ μ' v, VR S w μ x v → VR S w μ' x v
theorem free_int {k n} : Free (.int k n) := fun _ _ _ _ _ h => by rw [h.int_]; exact .int _ _
theorem free_bool {b} : Free (.bool b) := fun _ _ _ _ _ h => by rw [h.bool_]; exact .bool _
theorem free_str {s} : Free (.str s) := fun _ _ _ _ _ h => by rw [h.str_]; exact .str _ h.strLen
theorem free_nils : Free .nils := fun _ _ _ _ _ h => by rw [h.nils_]; exact .nils
theorem free_nili : Free .nili := fun _ _ _ _ _ h => by rw [h.nili_]; exact .nili
theorem free_nilp : Free .nilp := fun _ _ _ _ _ h => by cases h; exact .nilp
theorem free_ifc : Free .ifc := fun _ _ _ _ _ h => by cases h; exact .ifc _ _
theorem free_ro {sz len : Nat} {cs : List AV} (hc : ∀ c ∈ cs, Free c) : Free (.ro sz cs len) := fun S w μ μ' v h => by
  cases h with
  | ro hl hm hz h1 hS hcc hv => exact .ro hl hm hz h1 hS hcc (fun i x hx => hc x (List.mem_of_getElem? hx) _ _ _ _ _ (hv i x hx))
theorem free_agg {cs : List AV} (hc : ∀ c ∈ cs, Free c) : Free (.agg cs) := fun S w μ μ' v h => by
  cases h with
  | agg hl hv => exact .agg hl (fun i x hx => hc x (List.mem_of_getElem? hx) _ _ _ _ _ (hv i x hx))
theorem free_tup {cs : List AV} (hc : ∀ c ∈ cs, Free c) : Free (.tup cs) := fun S w μ μ' v h => by
  cases h with
  | tup hl hv => exact .tup hl (fun i x hx => hc x (List.mem_of_getElem? hx) _ _ _ _ _ (hv i x hx))
theorem free_nil_ : ∀ c ∈ ([] : List AV), Free c := fun c h => by cases h
theorem free_cons_ {x : AV} {l : List AV} (hx : Free x) (hl : ∀ c ∈ l, Free c) : ∀ c ∈ x :: l, Free c := fun c h => by
  rcases List.mem_cons.1 h with rfl | h
  · exact hx
  · exact hl c h
theorem free_map_ {α : Type} {f : α → AV} {l : List α} (hf : ∀ a, Free (f a)) : ∀ c ∈ l.map f, Free c := fun c h => by
  obtain ⟨a, _, rfl⟩ := List.mem_map.1 h
  exact hf a

/-- Blocks from n on are all that it leans on. -/
def Own (n : Nat) (x : AV) : Prop := ∀ S w μ S' w' μ' v, (∀ b, n ≤ b → μ'[b]? = μ[b]?) → VR S w μ x v → VR S' w' μ' x v
theorem own_int {n k i} : Own n (.int k i) := fun _ _ _ _ _ _ _ _ h => by rw [h.int_]; exact .int _ _
theorem own_bool {n b} : Own n (.bool b) := fun _ _ _ _ _ _ _ _ h => by rw [h.bool_]; exact .bool _
theorem own_str {n s} : Own n (.str s) := fun _ _ _ _ _ _ _ _ h => by rw [h.str_]; exact .str _ h.strLen
theorem own_nils {n} : Own n .nils := fun _ _ _ _ _ _ _ _ h => by rw [h.nils_]; exact .nils
theorem own_nilp {n} : Own n .nilp := fun _ _ _ _ _ _ _ _ h => by cases h; exact .nilp
theorem own_nili {n} : Own n .nili := fun _ _ _ _ _ _ _ _ h => by cases h; exact .nili
theorem own_ifc {n} : Own n .ifc := fun _ _ _ _ _ _ _ _ h => by cases h; exact .ifc _ _
theorem own_sl {n b off sz len kc : Nat} (hb : n ≤ b) : Own n (.sl b off sz len kc) := fun _ _ _ _ _ _ _ hm h => by
  cases h with
  | sl hb' hl hk hmx hs hz hA => exact .sl ((hm b hb).trans hb') hl hk hmx hs hz hA
theorem own_adr {n b off : Nat} (hb : n ≤ b) : Own n (.adr b off) := fun _ _ _ _ _ _ _ hm h => by
  cases h with
  | adr hb' hs hA => exact .adr ((hm b hb).trans hb') hs hA
theorem own_agg {n : Nat} {cs : List AV} (hc : ∀ c ∈ cs, Own n c) : Own n (.agg cs) := fun _ _ _ _ _ _ _ hm h => by
  cases h with
  | agg hl hv => exact .agg hl (fun i x hx => hc x (List.mem_of_getElem? hx) _ _ _ _ _ _ _ hm (hv i x hx))
theorem own_tup {n : Nat} {cs : List AV} (hc : ∀ c ∈ cs, Own n c) : Own n (.tup cs) := fun _ _ _ _ _ _ _ hm h => by
  cases h with
  | tup hl hv => exact .tup hl (fun i x hx => hc x (List.mem_of_getElem? hx) _ _ _ _ _ _ _ hm (hv i x hx))
theorem own_nil_ {n : Nat} : ∀ c ∈ ([] : List AV), Own n c := fun c h => by cases h
theorem own_cons_ {n : Nat} {x : AV} {l : List AV} (hx : Own n x) (hl : ∀ c ∈ l, Own n c) : ∀ c ∈ x :: l, Own n c := fun c h => by
  rcases List.mem_cons.1 h with rfl | h
  · exact hx
  · exact hl c h
theorem own_map_ {α : Type} {n : Nat} {f : α → AV} {l : List α} (hf : ∀ a, Own n (f a)) : ∀ c ∈ l.map f, Own n c := fun c h => by
  obtain ⟨a, _, rfl⟩ := List.mem_map.1 h
  exact hf a
theorem Own.mono {n m : Nat} {x : AV} (h : Own n x) (hm : m ≤ n) : Own m x := fun S w μ S' w' μ' v hb => h S w μ S' w' μ' v (fun b hn => hb b (Nat.le_trans hm hn))
def OwnO (n : Nat) : Option AObj → Prop
  | none => True
  | some (.cells cs) => ∀ c ∈ cs, Own n c
  | some (.map es) => ∀ p ∈ es, Own n p.1 ∧ Own n p.2

/-! ### what is seen of a value through the heap -/
inductive Vw (h : H) (n : Nat) : AV → AV → Prop
  | free {x : AV} (hf : Free x) : Vw h n x x
  | sl {b off sz len kc : Nat} {cs ts : List AV} (hb : n ≤ b) (hc : h.cells b = some cs) (hl : off + len * sz ≤ cs.length) (ht : ts.length = len * sz) (h1 : ts.all one = true)
      (hv : ∀ (i : Nat) (y t : AV), cs[off + i]? = some y → ts[i]? = some t → Vw h n y t) : Vw h n (.sl b off sz len kc) (.ro sz ts len)
  | adr {b off : Nat} {cs ts : List AV} (hb : n ≤ b) (hc : h.cells b = some cs) (hl : ts.length = cs.length) (hv : ∀ (i : Nat) (y t : AV), cs[i]? = some y → ts[i]? = some t → Vw h n y t) : Vw h n (.adr b off) (.rad ts off)
  | agg {cs ts : List AV} (hl : ts.length = cs.length) (hv : ∀ (i : Nat) (y t : AV), cs[i]? = some y → ts[i]? = some t → Vw h n y t) : Vw h n (.agg cs) (.agg ts)
  | tup {cs ts : List AV} (hl : ts.length = cs.length) (hv : ∀ (i : Nat) (y t : AV), cs[i]? = some y → ts[i]? = some t → Vw h n y t) : Vw h n (.tup cs) (.tup ts)

/-- The blocks from n on, kept as they are. -/
def Kept (S : Nat → Prop) (μ : Mu) (n : Nat) : Nat → Prop := fun B => S B ∨ ∃ (b : Nat) (m : MI), n ≤ b ∧ μ[b]? = some (some m) ∧ m.B = B

theorem Vw.sound {h n x t} (hv : Vw h n x t) {S w μ} (hr : HR S w μ h) (μ' : Mu) : ∀ {v}, VR S w μ x v → VR (Kept S μ n) w μ' t v := by
  induction hv with
  | free hf =>
    intro v h1
    have := hf S w μ μ' v h1
    exact this.fwd ⟨fun B hB => .inl hB, fun _ _ => rfl, Nat.le_refl _, fun _ _ => .inl rfl⟩
  | @sl b off sz len kc cs ts hb hc hl ht h1 _ ih =>
    intro v hx
    obtain ⟨m, arr, t', hm, hg, hn, hlen, h1', hvs⟩ := hr.cells hc
    obtain ⟨A, cap, rfl, hlk, hkc, hmx, hB, hsp, hof, hcn, hz⟩ := hx.sl_ hm
    obtain ⟨B, o, sp⟩ := A
    simp only at hB hsp hof hcn
    subst hB hsp
    have hget : ∀ i t, ts[i]? = some t → i < len * sz ∧ o = m.o + off ∧ off + i < cs.length := by
      intro i t hi
      have hlt := (List.getElem?_eq_some_iff.1 hi).1
      have hlen0 : 0 < len := by
        rcases Nat.eq_zero_or_pos len with h0 | h0
        · subst h0; simp at ht; subst ht; simp at hlt
        · exact h0
      exact ⟨by omega, hof (by omega), by omega⟩
    refine .ro (f := fun i => arr.getD (m.o + (off + i)) undef) (Nat.le_trans hlk hkc) hmx hz h1 (fun _ => ⟨.inr ⟨b, m, hb, hm, rfl⟩, rfl⟩) (fun i t hi => ?_) (fun i t hi => ?_)
    · obtain ⟨q1, q2, q3⟩ := hget i t hi
      rw [q2, cell_of hg, Array.getD_eq_getD_getElem?, Nat.add_assoc, Array.getElem?_eq_getElem (by omega)]
      rfl
    · obtain ⟨q1, q2, q3⟩ := hget i t hi
      exact ih i _ t (List.getElem?_eq_getElem q3) hi (hvs _ _ (List.getElem?_eq_getElem q3))
  | @adr b off cs ts hb hc hl _ ih =>
    intro v hx
    obtain ⟨m, arr, t', hm, hg, hn, hlen, h1', hvs⟩ := hr.cells hc
    have he := hx.adr_ hm
    subst he
    have hget : ∀ i t, ts[i]? = some t → i < cs.length := fun i t hi => by rw [← hl]; exact (List.getElem?_eq_some_iff.1 hi).1
    refine .rad (f := fun i => arr.getD (m.o + i) undef) (.inr ⟨b, m, hb, hm, rfl⟩) (fun i t hi => ?_) (fun i t hi => ?_)
    · have := hget i t hi
      rw [cell_of hg, Array.getD_eq_getD_getElem?, Array.getElem?_eq_getElem (by omega)]
      rfl
    · have := hget i t hi
      exact ih i _ t (List.getElem?_eq_getElem this) hi (hvs _ _ (List.getElem?_eq_getElem this))
  | @agg cs ts hl _ ih =>
    intro v hx
    obtain ⟨vs, rfl, hvl, hvs⟩ := hx.agg_
    refine .agg (by omega) (fun i t hi => ?_)
    have hlt : i < cs.length := by rw [← hl]; exact (List.getElem?_eq_some_iff.1 hi).1
    exact ih i _ t (List.getElem?_eq_getElem hlt) hi (hvs _ _ (List.getElem?_eq_getElem hlt))
  | @tup cs ts hl _ ih =>
    intro v hx
    obtain ⟨vs, rfl, hvl, hvs⟩ := hx.tup_
    refine .tup (by omega) (fun i t hi => ?_)
    have hlt : i < cs.length := by rw [← hl]; exact (List.getElem?_eq_some_iff.1 hi).1
    exact ih i _ t (List.getElem?_eq_getElem hlt) hi (hvs _ _ (List.getElem?_eq_getElem hlt))

theorem kept_lt {S w μ h n} (hr : HR S w μ h) : ∀ B, Kept S μ n B → B < w.heap.size := by
  rintro B (hB | ⟨b, m, _, hm, rfl⟩)
  · exact hr.lt B hB
  · exact hr.lt_of hm

def Nowhere : Nat → Prop := fun _ => False

/-- WHAT IS NEW AND SEEN IS FROZEN, what is new and not seen is forgotten: a call that writes nothing old returns what is seen. -/
theorem Call.freeze {P f args h} {R : AV → Prop} (hc : Call P f args h Nowhere (fun x h' => ∃ t, Vw h' h.length x t ∧ R t)) : Call P f args h Nowhere (fun x h' => R x ∧ h' = h) := by
  refine ⟨hc.1, fun S w μ cargs hr ha => (hc.2 S w μ cargs hr ha).mono ?_⟩
  rintro e w' ⟨v, x, h', S', μ', rfl, ⟨t, hvw, hR⟩, hv, hr', hs⟩
  have hvt := hvw.sound hr' μ hv
  have hkeep := fun b hb => hs.kept b hb (fun hh => hh)
  have hfwd : Fwd S w μ (Kept S' μ' h.length) w' μ := ⟨fun B hB => .inl (hs.s B hB), hs.blk, Nat.le_refl _, fun _ _ => .inl rfl⟩
  refine ⟨v, t, h, Kept S' μ' h.length, μ, rfl, ⟨hR, rfl⟩, hvt, ⟨hr.len, fun b o hb => ?_, hr.dead, hr.inj, fun b m hm hk => ?_, kept_lt hr', hr'.gl.fwd (fun B h => .inl h) (fun _ _ => rfl)⟩, ⟨hfwd, hs.size, hs.os, hs.output, hs.tape, hs.drawn, fun b hb _ => ⟨rfl, (hkeep b hb).2⟩⟩⟩
  · obtain ⟨m, hm, ho⟩ := hr.obj b o hb
    exact ⟨m, hm, ho.fwd hfwd ((hkeep b (mu_lt hm)).2 m hm)⟩
  · have hm' : μ'[b]? = some (some m) := (hkeep b (mu_lt hm)).1.trans hm
    rcases hk with hk | ⟨b', m', hb', hm2, he⟩
    · exact hr'.out b m hm' hk
    · have := hr'.inj b' b m' m hm2 hm' he
      have hlt := mu_lt hm
      have := hr.len
      omega

/-- What a call drops. -/
theorem Call.gc {P f args h} {R : AV → Prop} (hc : Call P f args h Nowhere (fun x _ => R x ∧ Free x)) : Call P f args h Nowhere (fun x h' => R x ∧ h' = h) :=
  Call.freeze (hc.mono (fun _ _ hx => ⟨_, .free hx.2, hx.1⟩) (fun _ _ h => h))

/-- A contract that says all of it, in the form in which it is used. -/
def Fn (P : Program) (f : FuncId) (args : List AV) (R : AV → Prop) : Prop := ∀ h, Call P f args h Nowhere (fun x h' => R x ∧ h' = h)
theorem Fn.use {P f args R h pm} {Q : AV → H → Prop} (hf : Fn P f args R) (hQ : ∀ x, R x → Q x h) : Call P f args h pm Q :=
  (hf h).mono (fun x h' hx => by obtain ⟨h1, rfl⟩ := hx; exact hQ x h1) (fun _ _ h => h.elim)

/-! ### lending -/
def dead (h : H) : H := h.map fun _ => none

theorem lend_HR {S w μ h} (hr : HR S w μ h) : HR (Kept S μ 0) w (μ.map fun _ => none) (dead h) := by
  have hn : ∀ (b : Nat) (m : MI), (μ.map fun _ => (none : Option MI))[b]? = some (some m) → False := by
    intro b m hm
    rw [List.getElem?_map, Option.map_eq_some_iff] at hm
    obtain ⟨_, _, hm⟩ := hm
    cases hm
  refine ⟨by simp [dead, hr.len], fun b o hb => ?_, fun b hb => ?_, fun b _ m _ hm => (hn b m hm).elim, fun b m hm => (hn b m hm).elim, kept_lt hr, hr.gl.fwd (fun B h => .inl h) (fun _ _ => rfl)⟩
  · simp only [dead, List.getElem?_map, Option.map_eq_some_iff] at hb
    obtain ⟨_, _, hb⟩ := hb
    cases hb
  · have hlt : b < μ.length := by
      have := (List.getElem?_eq_some_iff.1 hb).1
      simp [dead] at this
      rw [hr.len]
      exact this
    simp [List.getElem?_map, hlt]

/-- Own memory is lent to a call that only reads: what comes back leans on nothing but what is new. -/
theorem Call.lend {P f args ts h W} {Q' Q : AV → H → Prop} (hl : args.length = ts.length) (hv : ∀ (i : Nat) (x t : AV), args[i]? = some x → ts[i]? = some t → Vw h 0 x t)
    (hc : Call P f ts (dead h) Nowhere Q') (hq : ∀ x h', Q' x h' → ∃ l, h' = dead h ++ l ∧ Own h.length x ∧ (∀ o ∈ l, OwnO h.length o) ∧ Q x (h ++ l)) : Call P f args h W Q := by
  refine ⟨hc.1, fun S w μ cargs hr ha => (hc.2 _ w _ cargs (lend_HR hr) ⟨by rw [ha.1, hl], fun i t ht => ?_⟩).mono ?_⟩
  · have hlt : i < args.length := by rw [hl]; exact (List.getElem?_eq_some_iff.1 ht).1
    exact (hv i _ t (List.getElem?_eq_getElem hlt) ht).sound hr _ (ha.2 i _ (List.getElem?_eq_getElem hlt))
  rintro e w' ⟨v, x, h', S', μ', rfl, hQ', hvx, hr', hs⟩
  obtain ⟨l, rfl, hox, hol, hQ⟩ := hq x h' hQ'
  have hdl : (dead h).length = h.length := by simp [dead]
  have hlen' : μ'.length = h.length + l.length := by rw [hr'.len, List.length_append, hdl]
  have hμl := hr.len
  have hold : ∀ b, b < h.length → μ'[b]? = some none := fun b hb => hr'.dead b (by
    rw [List.getElem?_append_left (by omega)]
    simp [dead, hb])
  have hnew : ∀ b, h.length ≤ b → (μ ++ μ'.drop μ.length)[b]? = μ'[b]? := fun b hb => by
    rw [List.getElem?_append_right (by omega), List.getElem?_drop]
    congr 1
    omega
  have hpre : ∀ b, b < h.length → (μ ++ μ'.drop μ.length)[b]? = μ[b]? := fun b hb => List.getElem?_append_left (by omega)
  have hblk : ∀ B, Kept S μ 0 B → w'.heap[B]? = w.heap[B]? := hs.blk
  have hfwd : Fwd S w μ S w' (μ ++ μ'.drop μ.length) := ⟨fun _ h => h, fun B hB => hblk B (.inl hB), by simp, fun b hb => .inl (List.getElem?_append_left hb)⟩
  have hlive : ∀ (b : Nat) (m : MI), μ[b]? = some (some m) → Kept S μ 0 m.B := fun b m hm => .inr ⟨b, m, Nat.zero_le _, hm, rfl⟩
  refine ⟨v, x, h ++ l, S, μ ++ μ'.drop μ.length, rfl, hQ, hox _ _ _ _ _ _ _ hnew hvx, ⟨?_, fun b o hb => ?_, fun b hb => ?_, fun b b' m m' hm hm' he => ?_, fun b m hm hS => ?_, (fun B hB => Nat.lt_of_lt_of_le (hr.lt B hB) hs.size), hr.gl.fwd (fun _ h => h) (fun B hB => hblk B (.inl hB))⟩, ⟨hfwd, hs.size, hs.os, hs.output, hs.tape, hs.drawn, fun b hb _ => ⟨List.getElem?_append_left hb, fun m hm => hblk _ (hlive b m hm)⟩⟩⟩
  · simp
    omega
  · by_cases hlt : b < h.length
    · rw [List.getElem?_append_left hlt] at hb
      obtain ⟨m, hm, ho⟩ := hr.obj b o hb
      exact ⟨m, (hpre b hlt).trans hm, ho.fwd hfwd (hblk _ (hlive b m hm))⟩
    · rw [List.getElem?_append_right (by omega)] at hb
      obtain ⟨m, hm, ho⟩ := hr'.obj b o (by rw [List.getElem?_append_right (by omega), hdl]; exact hb)
      refine ⟨m, (hnew b (by omega)).trans hm, ?_⟩
      have hmem := hol _ (List.mem_of_getElem? hb)
      cases ho with
      | cells g1 g2 g3 g4 g5 => exact .cells g1 g2 g3 g4 (fun i y hy => hmem y (List.mem_of_getElem? hy) _ _ _ _ _ _ _ hnew (g5 i y hy))
      | map g1 g2 g3 => exact .map g1 g2 (fun i p hp => ⟨(hmem p (List.mem_of_getElem? hp)).1 _ _ _ _ _ _ _ hnew (g3 i p hp).1, (hmem p (List.mem_of_getElem? hp)).2 _ _ _ _ _ _ _ hnew (g3 i p hp).2⟩)
  · by_cases hlt : b < h.length
    · rw [List.getElem?_append_left hlt] at hb
      exact (hpre b hlt).trans (hr.dead b hb)
    · rw [List.getElem?_append_right (by omega)] at hb
      exact (hnew b (by omega)).trans (hr'.dead b (by rw [List.getElem?_append_right (by omega), hdl]; exact hb))
  · by_cases h1 : b < h.length
    · rw [hpre b h1] at hm
      by_cases h2 : b' < h.length
      · rw [hpre b' h2] at hm'
        exact hr.inj b b' m m' hm hm' he
      · rw [hnew b' (by omega)] at hm'
        exact absurd (hs.s _ (hlive b m hm)) (by rw [he]; exact hr'.out b' m' hm')
    · rw [hnew b (by omega)] at hm
      by_cases h2 : b' < h.length
      · rw [hpre b' h2] at hm'
        exact absurd (hs.s _ (hlive b' m' hm')) (by rw [← he]; exact hr'.out b m hm)
      · rw [hnew b' (by omega)] at hm'
        exact hr'.inj b b' m m' hm hm' he
  · by_cases h1 : b < h.length
    · rw [hpre b h1] at hm
      exact hr.out b m hm hS
    · rw [hnew b (by omega)] at hm
      exact hr'.out b m hm (hs.s _ (.inl hS))

/-- The same for a contract that says all of it. -/
theorem Fn.lend {P f args ts h pm} {R : AV → Prop} {Q : AV → H → Prop} (hf : Fn P f ts R) (hl : args.length = ts.length) (hv : ∀ (i : Nat) (x t : AV), args[i]? = some x → ts[i]? = some t → Vw h 0 x t) (ho : ∀ x, R x → Own h.length x)
    (hQ : ∀ x, R x → Q x h) : Call P f args h pm Q :=
  Call.lend hl hv (hf _) (fun x h' hx => ⟨[], by rw [hx.2]; simp, ho x hx.1, (fun _ h => by cases h), by simpa using hQ x hx.1⟩)
end Go.Proofs.YtbkcenkfecndjaaGreatDoor.M
