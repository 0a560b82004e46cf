/-
  Sums of rows over two elements, as numbers: spans, first bits, the two ways to reduce a row, and that they agree.
-/
import Derived.Test.YtbkcenkfecndjaaGreatDoorM16
namespace Go.Proofs.YtbkcenkfecndjaaGreatDoor.M
open Go Go.RowKit
/-! ### sums -/
inductive Sp (L : List Nat) : Nat → Prop
  | zero : Sp L 0
  | add {v x : Nat} (h : Sp L v) (hx : x ∈ L) : Sp L (v ^^^ x)
theorem Sp.xor {L : List Nat} {u v : Nat} (hu : Sp L u) (hv : Sp L v) : Sp L (u ^^^ v) := by
  induction hv with
  | zero => simpa using hu
  | add h hx ih =>
    rw [← Nat.xor_assoc]
    exact ih.add hx
theorem Sp.mem {L : List Nat} {x : Nat} (hx : x ∈ L) : Sp L x := by
  have := (Sp.zero (L := L)).add hx
  rwa [Nat.zero_xor] at this
theorem Sp.sub {L M : List Nat} (h : ∀ x ∈ L, Sp M x) {v : Nat} (hv : Sp L v) : Sp M v := by
  induction hv with
  | zero => exact .zero
  | add _ hx ih => exact ih.xor (h _ hx)
theorem Sp.snoc {L : List Nat} {x v : Nat} (hv : Sp (L ++ [x]) v) : Sp L v ∨ ∃ u, Sp L u ∧ v = u ^^^ x := by
  induction hv with
  | zero => exact .inl .zero
  | @add v _ _ hy ih =>
    rcases List.mem_append.1 hy with hy | hy
    · rcases ih with ih | ⟨u, hu, rfl⟩
      · exact .inl (ih.add hy)
      · refine .inr ⟨_, hu.add hy, ?_⟩
        rw [Nat.xor_assoc, Nat.xor_comm x, ← Nat.xor_assoc]
    · rw [List.mem_singleton.1 hy]
      rcases ih with ih | ⟨u, hu, rfl⟩
      · exact .inr ⟨v, ih, rfl⟩
      · refine .inl ?_
        rw [Nat.xor_assoc, Nat.xor_self, Nat.xor_zero]
        exact hu
theorem Sp.app {L : List Nat} {x v : Nat} (hv : Sp L v) : Sp (L ++ [x]) v := hv.sub fun _ hy => .mem (List.mem_append_left _ hy)
theorem Sp.bit {L : List Nat} {p : Nat} (h : ∀ x ∈ L, x.testBit p = false) {v : Nat} (hv : Sp L v) : v.testBit p = false := by
  induction hv with
  | zero => simp
  | add _ hx ih => rw [Nat.testBit_xor, ih, h _ hx]; rfl
/-! ### the first bit that is on -/
def lead : Nat → Nat → Nat
  | 0, _ => 0
  | n + 1, X => if lead n X < n then lead n X else if X.testBit n then n else n + 1
theorem lead_all {X : Nat} : ∀ {n : Nat}, lead n X ≤ n ∧ (lead n X < n → X.testBit (lead n X) = true) ∧ ∀ j, j < lead n X → X.testBit j = false
  | 0 => ⟨Nat.le_refl _, fun h => absurd h (by simp [lead]), fun j hj => by simp [lead] at hj⟩
  | n + 1 => by
    obtain ⟨h1, h2, h3⟩ := lead_all (X := X) (n := n)
    simp only [lead]
    by_cases hl : lead n X < n
    · rw [if_pos hl]
      exact ⟨by omega, fun _ => h2 hl, h3⟩
    · rw [if_neg hl]
      have he : lead n X = n := by omega
      rw [he] at h3
      cases hb : X.testBit n
      · rw [if_neg (by simp)]
        refine ⟨Nat.le_refl _, fun h => absurd h (by omega), fun j hj => ?_⟩
        by_cases hj2 : j = n
        · rw [hj2, hb]
        · exact h3 j (by omega)
      · rw [if_pos rfl]
        exact ⟨by omega, fun _ => hb, h3⟩
theorem lead_le {n X : Nat} : lead n X ≤ n := lead_all.1
theorem lead_bit {n X : Nat} (h : lead n X < n) : X.testBit (lead n X) = true := lead_all.2.1 h
theorem lead_low {n X j : Nat} (h : j < lead n X) : X.testBit j = false := lead_all.2.2 j h
theorem lead_is {n X j : Nat} (hj : j < n) (hb : X.testBit j = true) (hl : ∀ i, i < j → X.testBit i = false) : lead n X = j := by
  rcases Nat.lt_trichotomy (lead n X) j with h | h | h
  · have := lead_bit (X := X) (n := n) (by omega)
    rw [hl _ h] at this
    cases this
  · exact h
  · have := lead_low h
    rw [hb] at this
    cases this
theorem lead_none {n X : Nat} (h : lead n X = n) {j : Nat} (hj : j < n) : X.testBit j = false := lead_low (n := n) (by omega)
/-! ### rows with first bits of their own -/
structure Ech (n : Nat) (L : List Nat) : Prop where
  lt : ∀ l ∈ L, lead n l < n
  nd : (L.map (lead n)).Nodup
  piv : ∀ v, Sp L v → v ≠ 0 → ∃ l ∈ L, lead n v = lead n l
theorem sp_nil {v : Nat} (hv : Sp [] v) : v = 0 := by
  cases hv with
  | zero => rfl
  | add _ hx => cases hx
theorem Ech.nil {n : Nat} : Ech n [] := ⟨fun l h => (by cases h), by simp, fun v hv h => absurd (sp_nil hv) h⟩
theorem Ech.zero {n : Nat} {L : List Nat} (h : Ech n L) {v : Nat} (hv : Sp L v) (h0 : ∀ l ∈ L, v.testBit (lead n l) = false) : v = 0 := by
  by_cases hne : v = 0
  · exact hne
  · obtain ⟨l, hl, he⟩ := h.piv v hv hne
    have := lead_bit (X := v) (n := n) (by rw [he]; exact h.lt l hl)
    rw [he, h0 l hl] at this
    cases this
theorem Ech.snoc {n : Nat} {L : List Nat} (h : Ech n L) {x : Nat} (hx : lead n x < n) (h0 : ∀ l ∈ L, x.testBit (lead n l) = false) : Ech n (L ++ [x]) := by
  have hnx : ∀ l ∈ L, lead n l ≠ lead n x := fun l hl he => by
    have := lead_bit hx
    rw [← he, h0 l hl] at this
    cases this
  refine ⟨fun l hl => ?_, ?_, fun v hv hne => ?_⟩
  · rcases List.mem_append.1 hl with hl | hl
    · exact h.lt l hl
    · rw [List.mem_singleton.1 hl]
      exact hx
  · rw [List.map_append, List.nodup_append]
    refine ⟨h.nd, by simp, fun a ha b hb => ?_⟩
    obtain ⟨l, hl, rfl⟩ := List.mem_map.1 ha
    simp at hb
    subst hb
    exact hnx l hl
  · rcases hv.snoc with hu | ⟨u, hu, rfl⟩
    · obtain ⟨l, hl, he⟩ := h.piv v hu hne
      exact ⟨l, List.mem_append_left _ hl, he⟩
    · by_cases hu0 : u = 0
      · subst hu0
        exact ⟨x, by simp, by rw [Nat.zero_xor]⟩
      · obtain ⟨l, hl, he⟩ := h.piv u hu hu0
        have hul : lead n u < n := by rw [he]; exact h.lt l hl
        rcases Nat.lt_trichotomy (lead n x) (lead n u) with hc | hc | hc
        · refine ⟨x, by simp, lead_is hx ?_ fun i hi => ?_⟩
          · rw [Nat.testBit_xor, lead_low hc, lead_bit hx]
            rfl
          · rw [Nat.testBit_xor, lead_low (n := n) (X := u) (by omega), lead_low hi]
            rfl
        · exact absurd (he.symm.trans hc.symm) (hnx l hl)
        · refine ⟨l, List.mem_append_left _ hl, ?_⟩
          rw [← he]
          refine lead_is hul ?_ fun i hi => ?_
          · rw [Nat.testBit_xor, lead_bit hul, lead_low hc]
            rfl
          · rw [Nat.testBit_xor, lead_low hi, lead_low (n := n) (X := x) (by omega)]
            rfl
theorem Ech.of_span {n : Nat} {L M : List Nat} (h : Ech n L) (hl : M.map (lead n) = L.map (lead n)) (hs : ∀ v, Sp M v → Sp L v) : Ech n M := by
  refine ⟨fun m hm => ?_, by rw [hl]; exact h.nd, fun v hv hne => ?_⟩
  · have : lead n m ∈ L.map (lead n) := by rw [← hl]; exact List.mem_map_of_mem hm
    obtain ⟨l, h1, h2⟩ := List.mem_map.1 this
    rw [← h2]
    exact h.lt l h1
  · obtain ⟨l, h1, h2⟩ := h.piv v (hs v hv) hne
    have : lead n l ∈ M.map (lead n) := by rw [hl]; exact List.mem_map_of_mem h1
    obtain ⟨m, h3, h4⟩ := List.mem_map.1 this
    exact ⟨m, h3, by rw [h2, h4]⟩
/-! ### the first way to reduce -/
def redCol (n : Nat) (i : Nat) (L : List Nat) (x : Nat) : Nat := L.foldl (fun x l => if lead n l = i ∧ x.testBit i = true then x ^^^ l else x) x
def redTo (n : Nat) (L : List Nat) (x : Nat) : Nat → Nat
  | 0 => x
  | i + 1 => redCol n i L (redTo n L x i)
def redS (n : Nat) (L : List Nat) (x : Nat) : Nat := redTo n L x n
theorem redCol_span {n i : Nat} : ∀ {L : List Nat} {x : Nat}, ∃ u, Sp L u ∧ redCol n i L x = x ^^^ u
  | [], x => ⟨0, .zero, by simp [redCol]⟩
  | l :: L, x => by
    obtain ⟨u, hu, he⟩ := redCol_span (n := n) (i := i) (L := L) (x := if lead n l = i ∧ x.testBit i = true then x ^^^ l else x)
    have hu2 : Sp (l :: L) u := hu.sub fun y hy => .mem (List.mem_cons_of_mem _ hy)
    unfold redCol at he ⊢
    rw [List.foldl_cons, he]
    split
    · exact ⟨l ^^^ u, (Sp.mem (by simp)).xor hu2, by rw [Nat.xor_assoc]⟩
    · exact ⟨u, hu2, rfl⟩
theorem redTo_span {n : Nat} {L : List Nat} {x : Nat} : ∀ {i}, ∃ u, Sp L u ∧ redTo n L x i = x ^^^ u
  | 0 => ⟨0, .zero, by simp [redTo]⟩
  | i + 1 => by
    obtain ⟨u, hu, he⟩ := redTo_span (n := n) (L := L) (x := x) (i := i)
    obtain ⟨v, hv, hf⟩ := redCol_span (n := n) (i := i) (L := L) (x := redTo n L x i)
    exact ⟨u ^^^ v, hu.xor hv, by rw [redTo, hf, he, Nat.xor_assoc]⟩
theorem redCol_low {n i j : Nat} (hj : j < i) : ∀ {L : List Nat} {x : Nat}, (redCol n i L x).testBit j = x.testBit j
  | [], x => rfl
  | l :: L, x => by
    have := redCol_low (n := n) hj (L := L) (x := if lead n l = i ∧ x.testBit i = true then x ^^^ l else x)
    unfold redCol at this ⊢
    rw [List.foldl_cons, this]
    split
    · rename_i h
      rw [Nat.testBit_xor, lead_low (X := l) (n := n) (by omega)]
      simp
    · rfl
theorem redCol_not {n i : Nat} : ∀ {L : List Nat} {x : Nat}, i ∉ L.map (lead n) → redCol n i L x = x
  | [], x, _ => rfl
  | l :: L, x, h => by
    simp at h
    have := redCol_not (n := n) (i := i) (L := L) (x := x) (by simpa using h.2)
    unfold redCol at this ⊢
    rw [List.foldl_cons, if_neg (fun hh => h.1 hh.1.symm)]
    exact this
theorem redCol_bit {n i : Nat} (hi : i < n) : ∀ {L : List Nat} {x : Nat}, (L.map (lead n)).Nodup → i ∈ L.map (lead n) → (redCol n i L x).testBit i = false
  | [], x, _, h => by cases h
  | l :: L, x, hd, h => by
    rw [List.map_cons, List.nodup_cons] at hd
    by_cases hl : lead n l = i
    · have hn := redCol_not (n := n) (i := i) (L := L) (x := if lead n l = i ∧ x.testBit i = true then x ^^^ l else x) (by rw [← hl]; exact hd.1)
      unfold redCol at hn ⊢
      rw [List.foldl_cons, hn]
      cases hb : x.testBit i
      · rw [if_neg (by simp), hb]
      · rw [if_pos ⟨hl, rfl⟩, Nat.testBit_xor, hb]
        have := lead_bit (X := l) (n := n) (by omega)
        rw [hl] at this
        rw [this]
        rfl
    · have hm : i ∈ L.map (lead n) := by
        rcases List.mem_cons.1 h with h | h
        · exact absurd h.symm hl
        · exact h
      have := redCol_bit hi (L := L) (x := x) hd.2 hm
      unfold redCol at this ⊢
      rw [List.foldl_cons, if_neg (fun hh => hl hh.1)]
      exact this
theorem redTo_bit {n : Nat} {L : List Nat} {x : Nat} (hd : (L.map (lead n)).Nodup) (hn : ∀ l ∈ L, lead n l < n) : ∀ {i}, ∀ l ∈ L, lead n l < i → (redTo n L x i).testBit (lead n l) = false
  | 0, l, _, h => absurd h (by omega)
  | i + 1, l, hl, h => by
    rw [redTo]
    by_cases he : lead n l = i
    · rw [he]
      exact redCol_bit (by have := hn l hl; omega) hd (by rw [← he]; exact List.mem_map_of_mem hl)
    · rw [redCol_low (by omega)]
      exact redTo_bit hd hn l hl (by omega)
theorem redS_bit {n : Nat} {L : List Nat} {x : Nat} (h : Ech n L) : ∀ l ∈ L, (redS n L x).testBit (lead n l) = false := fun l hl => redTo_bit h.nd h.lt l hl (h.lt l hl)
theorem redS_span {n : Nat} {L : List Nat} {x : Nat} : ∃ u, Sp L u ∧ redS n L x = x ^^^ u := redTo_span
/-! ### the second way -/
def redI (n : Nat) (L : List Nat) (x : Nat) : Nat := L.foldl (fun x l => if x.testBit (lead n l) = true then x ^^^ l else x) x
def updI (n : Nat) (e : Nat) (L : List Nat) : List Nat := L.map fun l => if l.testBit (lead n e) = true then l ^^^ e else l
def Rref (n : Nat) (L : List Nat) : Prop := L.Pairwise fun a b => a.testBit (lead n b) = false ∧ b.testBit (lead n a) = false
theorem redI_span {n : Nat} : ∀ {L : List Nat} {x : Nat}, ∃ u, Sp L u ∧ redI n L x = x ^^^ u
  | [], x => ⟨0, .zero, by simp [redI]⟩
  | l :: L, x => by
    obtain ⟨u, hu, he⟩ := redI_span (n := n) (L := L) (x := if x.testBit (lead n l) = true then x ^^^ l else x)
    have hu2 : Sp (l :: L) u := hu.sub fun y hy => .mem (List.mem_cons_of_mem _ hy)
    unfold redI at he ⊢
    rw [List.foldl_cons, he]
    split
    · exact ⟨l ^^^ u, (Sp.mem (by simp)).xor hu2, by rw [Nat.xor_assoc]⟩
    · exact ⟨u, hu2, rfl⟩
theorem redI_keep {n p : Nat} {L : List Nat} {x : Nat} (h : ∀ l ∈ L, l.testBit p = false) : (redI n L x).testBit p = x.testBit p := by
  obtain ⟨u, hu, he⟩ := redI_span (n := n) (L := L) (x := x)
  rw [he, Nat.testBit_xor, hu.bit h]
  simp
theorem redI_bit {n : Nat} : ∀ {L : List Nat} {x : Nat}, Rref n L → (∀ l ∈ L, lead n l < n) → ∀ l ∈ L, (redI n L x).testBit (lead n l) = false
  | [], x, _, _, l, h => by cases h
  | a :: L, x, hr, hn, l, h => by
    have hr2 := List.pairwise_cons.1 hr
    rcases List.mem_cons.1 h with rfl | h
    · have hk := redI_keep (n := n) (p := lead n l) (L := L) (x := if x.testBit (lead n l) = true then x ^^^ l else x) (fun b hb => (hr2.1 b hb).2)
      unfold redI at hk ⊢
      rw [List.foldl_cons, hk]
      cases hb : x.testBit (lead n l)
      · rw [if_neg (by simp), hb]
      · rw [if_pos rfl, Nat.testBit_xor, hb, lead_bit (hn l (by simp))]
        rfl
    · have := redI_bit (n := n) (L := L) (x := if x.testBit (lead n a) = true then x ^^^ a else x) hr2.2 (fun b hb => hn b (List.mem_cons_of_mem _ hb)) l h
      unfold redI at this ⊢
      rw [List.foldl_cons]
      exact this
theorem updI_lead {n e l : Nat} (hl : lead n l < n) (h0 : e.testBit (lead n l) = false) (he : lead n e < n) : lead n (if l.testBit (lead n e) = true then l ^^^ e else l) = lead n l := by
  split
  · rename_i h
    have h1 : lead n l ≠ lead n e := fun hh => by
      have := lead_bit he
      rw [← hh, h0] at this
      cases this
    have h2 : lead n l < lead n e := by
      rcases Nat.lt_trichotomy (lead n l) (lead n e) with hc | hc | hc
      · exact hc
      · exact absurd hc h1
      · rw [lead_low hc] at h
        cases h
    refine lead_is hl ?_ fun i hi => ?_
    · rw [Nat.testBit_xor, lead_bit hl, h0]
      rfl
    · rw [Nat.testBit_xor, lead_low hi, lead_low (n := n) (X := e) (by omega)]
      rfl
  · rfl
theorem updI_leads {n e : Nat} {L : List Nat} (hn : ∀ l ∈ L, lead n l < n) (h0 : ∀ l ∈ L, e.testBit (lead n l) = false) (he : lead n e < n) : (updI n e L).map (lead n) = L.map (lead n) := by
  unfold updI
  rw [List.map_map]
  exact List.map_congr_left fun l hl => updI_lead (hn l hl) (h0 l hl) he
theorem updI_span {n e : Nat} {L : List Nat} {v : Nat} : Sp (updI n e L ++ [e]) v ↔ Sp (L ++ [e]) v := by
  have hE : ∀ M : List Nat, Sp (M ++ [e]) e := fun M => .mem (by simp)
  constructor
  · refine Sp.sub fun x hx => ?_
    rcases List.mem_append.1 hx with hx | hx
    · obtain ⟨l, hl, rfl⟩ := List.mem_map.1 hx
      have hm : Sp (L ++ [e]) l := .mem (List.mem_append_left _ hl)
      split
      · exact hm.xor (hE _)
      · exact hm
    · rw [List.mem_singleton.1 hx]
      exact hE _
  · refine Sp.sub fun x hx => ?_
    rcases List.mem_append.1 hx with hx | hx
    · have hm : Sp (updI n e L ++ [e]) (if x.testBit (lead n e) = true then x ^^^ e else x) := .mem (List.mem_append_left _ (List.mem_map_of_mem hx))
      split at hm
      · have := hm.xor (hE (updI n e L))
        rwa [Nat.xor_assoc, Nat.xor_self, Nat.xor_zero] at this
      · exact hm
    · rw [List.mem_singleton.1 hx]
      exact hE _
theorem updI_rref {n e : Nat} {L : List Nat} (hr : Rref n L) (hn : ∀ l ∈ L, lead n l < n) (h0 : ∀ l ∈ L, e.testBit (lead n l) = false) (he : lead n e < n) : Rref n (updI n e L ++ [e]) := by
  unfold Rref
  rw [List.pairwise_append]
  refine ⟨?_, by simp, fun a ha b hb => ?_⟩
  · unfold updI
    rw [List.pairwise_map]
    have hr3 : L.Pairwise fun a b => a ∈ L ∧ b ∈ L ∧ a.testBit (lead n b) = false ∧ b.testBit (lead n a) = false := by
      refine List.Pairwise.imp_of_mem ?_ hr
      exact fun ha hb h => ⟨ha, hb, h⟩
    refine hr3.imp fun {a b} h => ?_
    obtain ⟨ha, hb, h1, h2⟩ := h
    rw [updI_lead (hn b hb) (h0 b hb) he, updI_lead (hn a ha) (h0 a ha) he]
    constructor
    · split
      · rw [Nat.testBit_xor, h1, h0 b hb]; rfl
      · exact h1
    · split
      · rw [Nat.testBit_xor, h2, h0 a ha]; rfl
      · exact h2
  · obtain ⟨l, hl, rfl⟩ := List.mem_map.1 ha
    rw [List.mem_singleton.1 hb, updI_lead (hn l hl) (h0 l hl) he]
    refine ⟨?_, h0 l hl⟩
    split
    · rename_i h
      rw [Nat.testBit_xor, h, lead_bit he]; rfl
    · rename_i h
      simpa using h
/-! ### row by row -/
def stepS (n : Nat) (p : List Nat × Nat) (e : Nat) : List Nat × Nat := if lead n (redS n p.1 e) < n then (p.1 ++ [redS n p.1 e], p.2) else if (redS n p.1 e).testBit n = true ∧ p.2 = 0 then (p.1, redS n p.1 e) else p
def stepI (n : Nat) (p : List Nat × Nat) (e : Nat) : List Nat × Nat := if lead n (redI n p.1 e) < n then (updI n (redI n p.1 e) p.1 ++ [redI n p.1 e], p.2) else if (redI n p.1 e).testBit n = true ∧ p.2 = 0 then (p.1, redI n p.1 e) else p
structure Sim (n : Nat) (p q : List Nat × Nat) : Prop where
  es : Ech n p.1
  ei : Ech n q.1
  rr : Rref n q.1
  sp : ∀ v, Sp p.1 v ↔ Sp q.1 v
  len : p.1.length = q.1.length
  ref : p.2 = q.2
theorem Sim.step {n : Nat} {p q : List Nat × Nat} (h : Sim n p q) (e : Nat) : Sim n (stepS n p e) (stepI n q e) := by
  obtain ⟨u, hu, hx⟩ := redS_span (n := n) (L := p.1) (x := e)
  obtain ⟨t, ht, hy⟩ := redI_span (n := n) (L := q.1) (x := e)
  have hxb := redS_bit (x := e) h.es
  have hyb := redI_bit (x := e) h.rr h.ei.lt
  have hxy : redS n p.1 e ^^^ redI n q.1 e = u ^^^ t := by
    rw [hx, hy]
    refine Nat.eq_of_testBit_eq fun i => ?_
    simp only [Nat.testBit_xor]
    cases e.testBit i <;> cases u.testBit i <;> cases t.testBit i <;> rfl
  have hsp : Sp q.1 (redS n p.1 e ^^^ redI n q.1 e) := by
    rw [hxy]
    exact ((h.sp _).1 hu).xor ht
  have heq : ∀ {a b : Nat}, a ^^^ b = 0 → a = b := fun {a b} hab => by
    have : (a ^^^ b) ^^^ b = 0 ^^^ b := by rw [hab]
    rwa [Nat.xor_assoc, Nat.xor_self, Nat.xor_zero, Nat.zero_xor] at this
  have hz1 : lead n (redS n p.1 e) = n → redS n p.1 e = redI n q.1 e := fun hl => heq (h.ei.zero hsp fun l hm => by
    rw [Nat.testBit_xor, lead_none hl (h.ei.lt l hm), hyb l hm]; rfl)
  have hz2 : lead n (redI n q.1 e) = n → redS n p.1 e = redI n q.1 e := fun hl => heq (h.es.zero ((h.sp _).2 hsp) fun l hm => by
    rw [Nat.testBit_xor, lead_none hl (h.es.lt l hm), hxb l hm]; rfl)
  have hle1 := lead_le (n := n) (X := redS n p.1 e)
  have hle2 := lead_le (n := n) (X := redI n q.1 e)
  unfold stepS stepI
  by_cases hc : lead n (redS n p.1 e) < n
  · have hc2 : lead n (redI n q.1 e) < n := by
      rcases Nat.lt_or_eq_of_le hle2 with h5 | h5
      · exact h5
      · have := hz2 h5
        rw [this] at hc
        omega
    rw [if_pos hc, if_pos hc2]
    have hei := h.ei.snoc hc2 hyb
    refine ⟨h.es.snoc hc hxb, ?_, updI_rref h.rr h.ei.lt hyb hc2, fun v => ?_, by simp [updI, h.len], h.ref⟩
    · refine hei.of_span ?_ fun v hv => updI_span.1 hv
      rw [List.map_append, List.map_append, updI_leads h.ei.lt hyb hc2]
    · rw [updI_span]
      have hX : redS n p.1 e = redI n q.1 e ^^^ (u ^^^ t) := by
        rw [← hxy, Nat.xor_comm (redS n p.1 e), ← Nat.xor_assoc, Nat.xor_self, Nat.zero_xor]
      have hY : redI n q.1 e = redS n p.1 e ^^^ (u ^^^ t) := by
        rw [← hxy, ← Nat.xor_assoc, Nat.xor_self, Nat.zero_xor]
      constructor
      · refine Sp.sub fun z hz => ?_
        rcases List.mem_append.1 hz with hz | hz
        · exact ((h.sp z).1 (.mem hz)).app
        · rw [List.mem_singleton.1 hz, hX]
          exact (Sp.mem (by simp)).xor (((h.sp _).1 hu).xor ht).app
      · refine Sp.sub fun z hz => ?_
        rcases List.mem_append.1 hz with hz | hz
        · exact ((h.sp z).2 (.mem hz)).app
        · rw [List.mem_singleton.1 hz, hY]
          exact (Sp.mem (by simp)).xor (hu.xor ((h.sp _).2 ht)).app
  · have hxe := hz1 (by omega)
    have hc2 : ¬ lead n (redI n q.1 e) < n := by
      rw [← hxe]
      exact hc
    rw [if_neg hc, if_neg hc2, ← hxe, ← h.ref]
    split
    · exact ⟨h.es, h.ei, h.rr, h.sp, h.len, rfl⟩
    · exact h
theorem Sim.nil {n : Nat} : Sim n ([], 0) ([], 0) := ⟨.nil, .nil, .nil, fun _ => .rfl, rfl, rfl⟩
/-! ### appending what may be nothing -/
theorem S1.app0 {h : H} {sz n k by_ : Nat} {v : AV} {L new : List AV} {B : List Nat} {pm : Nat → Prop} {Q : AV → H → Prop} (hs : S1 h sz v n L B) (hpm : ∀ b ∈ B, pm b) (hn : new.length = k * sz) (hb : (n + k) * by_ ≤ 140737488355328)
    (hQ : ∀ v' h' B', S1 h' sz v' (n + k) (L ++ new) B' → h.length ≤ h'.length → (∀ b, b < h.length → b ∉ B → h'[b]? = h[b]?) → (∀ b ∈ B', b ∈ B ∨ h.length ≤ b) → (v ≠ .nils → v' ≠ .nils) → Q v' h') : apA pm h Q sz by_ (some (new, k)) v := by
  by_cases hk : k = 0
  · subst hk
    have hnew : new = [] := List.eq_nil_of_length_eq_zero (by simpa using hn)
    subst hnew
    have hq := hQ v h B (by simpa using hs) (Nat.le_refl _) (fun _ _ _ => rfl) (fun b hb => .inl hb) (fun h => h)
    rcases hs with ⟨hl, ⟨rfl, rfl, rfl⟩ | ⟨b, rfl, rfl, h5⟩⟩
    · rw [apA_nil_0 rfl]
      exact hq
    · rw [apA_sl, h5, apC_0 rfl]
      exact ⟨by omega, hq⟩
  · refine hs.app hpm hn hk hb fun v' h' B' h1 h2 h3 h4 => hQ v' h' B' h1 (by omega) h3 h4 fun _ => ?_
    rcases h1 with ⟨_, ⟨_, h0, _⟩ | ⟨b, rfl, _⟩⟩
    · omega
    · simp
theorem S1.vwI {h : H} {n0 : Nat} {v : AV} {l : List Int} {B : List Nat} {n : Nat} (hs : S1 h 1 v n (l.map (.int .i64)) B) (hb : ∀ b ∈ B, n0 ≤ b) (hnn : v ≠ .nils) : Vw h n0 v (eI (some l)) := by
  have hvw := hs.vw (ts := l.map (.int .i64)) hb rfl (one_map fun _ => rfl) (fun i y t hy ht => by
    rw [hy] at ht
    injection ht with ht
    subst ht
    obtain ⟨s, _, rfl⟩ := List.mem_map.1 (List.mem_of_getElem? hy)
    exact .free free_int)
  rcases hvw with ⟨_, h0, _⟩ | ⟨_, hv⟩
  · exact absurd h0 hnn
  · have : l.length = n := by simpa using hs.1
    subst this
    exact hv
/-! ### a set of numbers below 64, as the list of its members -/
end Go.Proofs.YtbkcenkfecndjaaGreatDoor.M
