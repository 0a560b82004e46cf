/-
  Operations that make or write memory.
-/
import Derived.Test.YtbkcenkfecndjaaGreatDoorM3b
import Derived.Maps.AppendAt
namespace Go.Proofs.YtbkcenkfecndjaaGreatDoor.M
open Go Go.RowKit
set_option linter.unusedVariables false
set_option linter.unusedSimpArgs false
section
variable {P : Program} {N : Nat} {S : Nat → Prop} {w : World} {μ : Mu} {e : Env} {a : Act} {h : H} {pm : Nat → Prop}

theorem Fwd.app (S w μ) (x : Option MI) : Fwd S w μ S w (μ ++ [x]) :=
  ⟨fun _ h => h, fun _ _ => rfl, by simp, fun b hb => .inl (List.getElem?_append_left hb)⟩
theorem Step.app (pm S w μ) (x : Option MI) : Step pm S w μ S w (μ ++ [x]) :=
  ⟨Fwd.app S w μ x, Nat.le_refl _, rfl, rfl, rfl, fun _ => Nat.le_refl _, fun b hb _ => ⟨List.getElem?_append_left hb, fun _ _ => rfl⟩⟩

/-- The world alone goes on: what lies in blocks that the abstract heap knows, or that are kept, stays. -/
theorem HR.world {w' : World} (hr : HR S w μ h) (hS : ∀ B, S B → w'.heap[B]? = w.heap[B]?) (hm : ∀ (b : Nat) (m : MI), μ[b]? = some (some m) → w'.heap[m.B]? = w.heap[m.B]?) (hs : w.heap.size ≤ w'.heap.size) : HR S w' μ h :=
  ⟨hr.len, fun b o hb => by
    obtain ⟨m, hmm, ho⟩ := hr.obj b o hb
    exact ⟨m, hmm, ho.fwd ⟨fun _ h => h, hS, Nat.le_refl _, fun _ _ => .inl rfl⟩ (hm b m hmm)⟩, hr.dead, hr.inj, hr.out, (fun B hB => Nat.lt_of_lt_of_le (hr.lt B hB) hs), hr.gl.fwd (fun _ h => h) hS⟩

theorem HR.lt_of {b : Nat} {m : MI} (hr : HR S w μ h) (hm : μ[b]? = some (some m)) : m.B < w.heap.size := by
  obtain ⟨o, _, ho⟩ := hr.live hm
  exact ho.lt

theorem alloc_step (hr : HR S w μ h) (o : Obj) : HR S (w.alloc o) μ h ∧ Step pm S w μ S (w.alloc o) μ := by
  have hb : ∀ B, B < w.heap.size → (w.alloc o).heap[B]? = w.heap[B]? := fun B hB => heap_alloc_old w o B hB
  refine ⟨hr.world (fun B hB => hb B (hr.lt B hB)) (fun b m hm => hb _ (hr.lt_of hm)) (by simp), ⟨⟨fun _ h => h, fun B hB => hb B (hr.lt B hB), Nat.le_refl _, fun _ _ => .inl rfl⟩, by simp, rfl, rfl, rfl, fun _ => Nat.le_refl _, fun b _ _ => ⟨rfl, fun m hm => hb _ (hr.lt_of hm)⟩⟩⟩

/-- A block that nobody holds is taken up. -/
theorem HR.adopt {B o : Nat} {arr : Array Value} {t : TypeId} {cs : List AV} (hr : HR S w μ h) (hb : w.heap[B]? = some (.cells arr t (0, 0))) (hl : o + cs.length ≤ arr.size)
    (h1 : cs.all one = true) (hv : ∀ (i : Nat) (x : AV), cs[i]? = some x → VR S w μ x (arr.getD (o + i) undef)) (hS : ¬ S B)
    (hn : ∀ (b : Nat) (m : MI), μ[b]? = some (some m) → m.B ≠ B) : HR S w (μ ++ [some ⟨B, o, arr.size⟩]) (h ++ [some (.cells cs)]) := by
  have hf := Fwd.app S w μ (some ⟨B, o, arr.size⟩)
  have split : ∀ (b : Nat) (m : MI), (μ ++ [some (⟨B, o, arr.size⟩ : MI)])[b]? = some (some m) → (b < μ.length ∧ μ[b]? = some (some m)) ∨ (b = μ.length ∧ m = ⟨B, o, arr.size⟩) := by
    intro b m hm
    by_cases hlt : b < μ.length
    · rw [List.getElem?_append_left hlt] at hm
      exact .inl ⟨hlt, hm⟩
    · rw [List.getElem?_append_right (by omega)] at hm
      have := (List.getElem?_eq_some_iff.1 hm).1
      simp at this
      have hbe : b = μ.length := by omega
      subst hbe
      simp at hm
      exact .inr ⟨rfl, hm.symm⟩
  refine ⟨by simp [hr.len], fun b ob hob => ?_, fun b hd => ?_, fun b b' m m' hm hm' he => ?_, fun b m hm => ?_, hr.lt, hr.gl⟩
  · by_cases hlt : b < h.length
    · rw [List.getElem?_append_left hlt] at hob
      obtain ⟨m, hm, ho⟩ := hr.obj b ob hob
      exact ⟨m, by rw [List.getElem?_append_left (hr.len ▸ hlt)]; exact hm, ho.fwd hf rfl⟩
    · rw [List.getElem?_append_right (by omega)] at hob
      have := (List.getElem?_eq_some_iff.1 hob).1
      simp at this
      have hbe : b = h.length := by omega
      subst hbe
      simp at hob
      subst hob
      refine ⟨⟨B, o, arr.size⟩, by rw [← hr.len]; simp, .cells hb rfl hl (fun i x hx => ?_) (fun i x hx => (hv i x hx).fwd hf)⟩
      exact List.all_eq_true.1 h1 x (List.mem_of_getElem? hx)
  · by_cases hlt : b < h.length
    · rw [List.getElem?_append_left hlt] at hd
      rw [List.getElem?_append_left (hr.len ▸ hlt)]
      exact hr.dead b hd
    · rw [List.getElem?_append_right (by omega)] at hd
      have := (List.getElem?_eq_some_iff.1 hd).1
      simp at this
      have hbe : b = h.length := by omega
      subst hbe
      simp at hd
  · rcases split b m hm with ⟨_, q⟩ | ⟨q1, q2⟩ <;> rcases split b' m' hm' with ⟨_, q'⟩ | ⟨q1', q2'⟩
    · exact hr.inj b b' m m' q q' he
    · subst q2'; exact absurd he (hn b m q)
    · subst q2; exact absurd he.symm (hn b' m' q')
    · omega
  · rcases split b m hm with ⟨_, q⟩ | ⟨_, q⟩
    · exact hr.out b m q
    · subst q; exact hS

theorem set_get {α : Type} {l : List α} {b c : Nat} {x y : α} (h : (l.set b x)[c]? = some y) : (b = c ∧ y = x) ∨ (b ≠ c ∧ l[c]? = some y) := by
  rw [List.getElem?_set] at h
  split at h
  · split at h
    · injection h with h
      exact .inl ⟨by assumption, h.symm⟩
    · cases h
  · exact .inr ⟨by assumption, h⟩

theorem Fwd.kill (S w μ) (b : Nat) : Fwd S w μ S w (μ.set b none) :=
  ⟨fun _ h => h, fun _ _ => rfl, by simp, fun c hc => by
    by_cases hbc : b = c
    · subst hbc; right; simp [hc]
    · left; rw [List.getElem?_set_ne hbc]⟩

/-- A block dies. -/
theorem HR.kill (hr : HR S w μ h) (b : Nat) : HR S w (μ.set b none) (killed h b) := by
  refine ⟨by simp [killed, hr.len], fun c o hc => ?_, fun c hd => ?_, fun c c' m m' hm hm' he => ?_, fun c m hm => ?_, hr.lt, hr.gl⟩
  · rcases set_get hc with ⟨_, h'⟩ | ⟨hne, h'⟩
    · cases h'
    · obtain ⟨m, hm, ho⟩ := hr.obj c o h'
      exact ⟨m, by rw [List.getElem?_set_ne hne]; exact hm, ho.fwd (Fwd.kill S w μ b) rfl⟩
  · unfold killed at hd
    by_cases hbc : b = c
    · subst hbc
      have := (List.getElem?_eq_some_iff.1 hd).1
      simp at this
      simp [hr.len, this]
    · rw [List.getElem?_set_ne hbc] at hd ⊢
      exact hr.dead c hd
  · rcases set_get hm with ⟨_, q⟩ | ⟨_, q⟩
    · cases q
    · rcases set_get hm' with ⟨_, q'⟩ | ⟨_, q'⟩
      · cases q'
      · exact hr.inj c c' m m' q q' he
  · rcases set_get hm with ⟨_, q⟩ | ⟨_, q⟩
    · cases q
    · exact hr.out c m q

theorem Step.kill (S w μ) (b : Nat) (hp : pm b) : Step pm S w μ S w (μ.set b none) :=
  ⟨Fwd.kill S w μ b, Nat.le_refl _, rfl, rfl, rfl, fun _ => Nat.le_refl _, fun c hc hn => by
    have hne : b ≠ c := fun e => hn (e ▸ hp)
    exact ⟨by rw [List.getElem?_set_ne hne], fun _ _ => rfl⟩⟩

/-- A block of the call's is written: the world. -/
theorem write_world {w' : World} {b : Nat} {m : MI} (hr : HR S w μ h) (hm : μ[b]? = some (some m)) (hp : pm b) (hw : ∀ B, B ≠ m.B → w'.heap[B]? = w.heap[B]?) (hs : w'.heap.size = w.heap.size) (hos : w'.os = w.os)
    (hout : w'.output = w.output) (ht : w'.tape = w.tape ∧ w.drawn ≤ w'.drawn) : Step pm S w μ S w' μ := by
  have hSne : ∀ B, S B → B ≠ m.B := fun B hB e => hr.out b m hm (e ▸ hB)
  exact ⟨⟨fun _ h => h, fun B hB => hw B (hSne B hB), Nat.le_refl _, fun _ _ => .inl rfl⟩, by omega, hos, hout, ht.1, fun _ => ht.2, fun c hc hn => ⟨rfl, fun m' hm' => hw _ (fun e => by
    have := hr.inj c b m' m hm' hm e
    subst this
    exact hn hp)⟩⟩

theorem HR.wrote {w' : World} {b : Nat} {m : MI} {o : AObj} (hr : HR S w μ h) (hm : μ[b]? = some (some m)) (hst : Step pm S w μ S w' μ) (hw : ∀ B, B ≠ m.B → w'.heap[B]? = w.heap[B]?) (ho : OR S w' μ m o) : HR S w' μ (h.set b (some o)) := by
  refine ⟨by simp [hr.len], fun c o' hc => ?_, fun c hd => ?_, hr.inj, hr.out, (fun B hB => Nat.lt_of_lt_of_le (hr.lt B hB) hst.size), hr.gl.fwd (fun _ h => h) hst.blk⟩
  · rcases set_get hc with ⟨rfl, h'⟩ | ⟨hne, h'⟩
    · injection h' with h'
      subst h'
      exact ⟨m, hm, ho⟩
    · obtain ⟨m', hm', ho'⟩ := hr.obj c o' h'
      refine ⟨m', hm', ho'.fwd hst.toFwd (hw _ (fun e => hne ?_))⟩
      exact (hr.inj c b m' m hm' hm e).symm
  · rcases set_get hd with ⟨_, h'⟩ | ⟨hne, h'⟩
    · cases h'
    · exact hr.dead c h'

/-- Cells written one by one: the array. -/
theorem setCells_heap (B o : Nat) (t : TypeId) (fr : Nat × Nat) : ∀ (vs : List Value) (o : Nat) (w : World) (arr : Array Value), w.heap[B]? = some (.cells arr t fr) → o + vs.length ≤ arr.size →
    ∃ arr' : Array Value, (w.setCells B o vs).heap[B]? = some (.cells arr' t fr) ∧ arr'.size = arr.size ∧ (∀ i, arr'.getD i undef = if o ≤ i ∧ i < o + vs.length then vs.getD (i - o) undef else arr.getD i undef)
  | [], o, w, arr, hb, _ => ⟨arr, hb, rfl, fun i => by simp; omega⟩
  | v :: r, o, w, arr, hb, hl => by
    simp only [List.length_cons] at hl
    have hb' : (w.setCell ⟨B, o, none⟩ v).heap[B]? = some (.cells (arr.setIfInBounds o v) t fr) := by
      simp [World.setCell, Array.getElem?_modify, hb]
    obtain ⟨arr', h1, h2, h3⟩ := setCells_heap B o t fr r (o + 1) (w.setCell ⟨B, o, none⟩ v) (arr.setIfInBounds o v) hb' (by simp; omega)
    refine ⟨arr', h1, by simpa using h2, fun i => ?_⟩
    rw [h3 i]
    by_cases hi : i = o
    · subst hi
      rw [if_neg (by omega), if_pos (by simp)]
      simp [show i < arr.size by omega]
    · by_cases hj : o + 1 ≤ i ∧ i < o + 1 + r.length
      · rw [if_pos hj, if_pos (by simp; omega)]
        have : i - o = (i - (o + 1)) + 1 := by omega
        rw [this]
        simp
      · rw [if_neg hj, if_neg (by simp; omega)]
        simp only [Array.getD_eq_getD_getElem?]
        rw [Array.getElem?_setIfInBounds_ne (Ne.symm hi)]

theorem setCells_other (B : Nat) : ∀ (vs : List Value) (o : Nat) (w : World) (k : Nat), k ≠ B → (w.setCells B o vs).heap[k]? = w.heap[k]?
  | [], _, _, _, _ => rfl
  | v :: r, o, w, k, hk => by
    rw [World.setCells, setCells_other B r _ _ k hk]
    exact Below.heap_setCell _ _ _ _ hk

theorem setCells_frame (B : Nat) : ∀ (vs : List Value) (o : Nat) (w : World), (w.setCells B o vs).heap.size = w.heap.size ∧ (w.setCells B o vs).os = w.os ∧ (w.setCells B o vs).output = w.output ∧ (w.setCells B o vs).tape = w.tape ∧ w.drawn ≤ (w.setCells B o vs).drawn
  | [], _, _ => ⟨rfl, rfl, rfl, rfl, Nat.le_refl _⟩
  | v :: r, o, w => by
    rw [World.setCells]
    obtain ⟨h1, h2, h3, h4⟩ := setCells_frame B r (o + 1) (w.setCell ⟨B, o, none⟩ v)
    exact ⟨h1.trans (by simp [World.setCell]), h2, h3, h4⟩

/-- New cells over old ones in a block of the call's. -/
theorem write_cells {b : Nat} {m : MI} {arr : Array Value} {t : TypeId} {cs new : List AV} {off : Nat} {vs : List Value} (hr : HR S w μ h) (hm : μ[b]? = some (some m)) (hp : pm b)
    (hg : w.heap[m.B]? = some (.cells arr t (0, 0))) (hn : m.n = arr.size) (hl : m.o + cs.length ≤ arr.size) (h1 : ∀ (i : Nat) (x : AV), cs[i]? = some x → one x = true)
    (hv : ∀ (i : Nat) (x : AV), cs[i]? = some x → VR S w μ x (arr.getD (m.o + i) undef)) (hle : off + new.length ≤ cs.length) (h2 : new.all one = true) (hvs : vs.length = new.length)
    (hnv : ∀ (i : Nat) (x : AV), new[i]? = some x → VR S w μ x (vs.getD i undef)) :
    Step pm S w μ S (w.setCells m.B (m.o + off) vs) μ ∧ HR S (w.setCells m.B (m.o + off) vs) μ (wr h b (over cs off new)) := by
  obtain ⟨arr', q1, q2, q3⟩ := setCells_heap m.B 0 t (0, 0) vs (m.o + off) w arr hg (by omega)
  obtain ⟨f1, f2, f3, f4⟩ := setCells_frame m.B vs (m.o + off) w
  have hw : ∀ B, B ≠ m.B → (w.setCells m.B (m.o + off) vs).heap[B]? = w.heap[B]? := fun B hB => setCells_other m.B vs _ w B hB
  have hst : Step pm S w μ S (w.setCells m.B (m.o + off) vs) μ := write_world hr hm hp hw f1 f2 f3 f4
  refine ⟨hst, hr.wrote hm hst hw (.cells q1 (hn.trans q2.symm) (by rw [over_len hle]; omega) (fun i x hx => ?_) (fun i x hx => ?_))⟩
  · rw [over_get hle] at hx
    split at hx
    · exact List.all_eq_true.1 h2 x (List.mem_of_getElem? hx)
    · exact h1 i x hx
  · rw [over_get hle] at hx
    rw [q3]
    split at hx
    · rename_i hc
      rw [if_pos (by omega)]
      have := (hnv _ _ hx).fwd hst.toFwd
      rwa [show m.o + i - (m.o + off) = i - off by omega]
    · rename_i hc
      rw [if_neg (by omega)]
      exact (hv i x hx).fwd hst.toFwd
end
end Go.Proofs.YtbkcenkfecndjaaGreatDoor.M
