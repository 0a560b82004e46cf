/-
  Slices of the call's own, and slices of such slices.
-/
import Derived.Test.YtbkcenkfecndjaaGreatDoorM12
namespace Go.Proofs.YtbkcenkfecndjaaGreatDoor.M
open Go Go.RowKit
set_option linter.unusedVariables false
set_option linter.unusedSimpArgs false

/-- v is a slice of the call's own with these cells; B is its block. -/
def S1 (h : H) (sz : Nat) (v : AV) (n : Nat) (L : List AV) (B : List Nat) : Prop :=
  L.length = n * sz ∧ ((v = .nils ∧ n = 0 ∧ B = []) ∨ ∃ b, v = .sl b 0 sz n n ∧ B = [b] ∧ h.cells b = some L)

theorem S1.nil {h : H} {sz : Nat} : S1 h sz .nils 0 [] [] := ⟨by simp, .inl ⟨rfl, rfl, rfl⟩⟩
theorem S1.frame {h h' : H} {sz n : Nat} {v : AV} {L : List AV} {B : List Nat} (hs : S1 h sz v n L B) (hk : ∀ b ∈ B, h'[b]? = h[b]?) : S1 h' sz v n L B := by
  obtain ⟨h1, h2⟩ := hs
  refine ⟨h1, ?_⟩
  rcases h2 with h2 | ⟨b, g1, g2, g5⟩
  · exact .inl h2
  · refine .inr ⟨b, g1, g2, ?_⟩
    rw [cells_eq, hk b (by simp [g2]), ← cells_eq]
    exact g5
theorem S1.lt {h : H} {sz n : Nat} {v : AV} {L : List AV} {B : List Nat} (hs : S1 h sz v n L B) : ∀ b ∈ B, b < h.length := by
  rcases hs.2 with ⟨_, _, rfl⟩ | ⟨b, g1, rfl, g5⟩
  · simp
  · intro b' hb'
    simp at hb'
    subst hb'
    exact cells_lt g5
theorem S1.one_ {h : H} {sz n : Nat} {v : AV} {L : List AV} {B : List Nat} (hs : S1 h sz v n L B) : one v = true ∧ cellsOf v = [v] := by
  rcases hs.2 with ⟨rfl, _, rfl⟩ | ⟨b, rfl, rfl, g5⟩ <;> exact ⟨rfl, rfl⟩
theorem S1.own {h : H} {n0 sz n : Nat} {v : AV} {L : List AV} {B : List Nat} (hs : S1 h sz v n L B) (hb : ∀ b ∈ B, n0 ≤ b) : Own n0 v := by
  rcases hs.2 with ⟨rfl, _, rfl⟩ | ⟨b, rfl, rfl, g5⟩
  · exact own_nils
  · exact own_sl (hb b (by simp))
theorem S1.app {h : H} {sz n k by_ : Nat} {v : AV} {L new : List AV} {B : List Nat} {pm : Nat → Prop} {Q : AV → H → Prop} (hs : S1 h sz v n L B) (hpm : ∀ b ∈ B, pm b) (hn : new.length = k * sz) (hk : k ≠ 0) (hb : (n + k) * by_ ≤ 140737488355328)
    (hQ : ∀ v' h' B', S1 h' sz v' (n + k) (L ++ new) B' → h.length < h'.length → (∀ b, b < h.length → b ∉ B → h'[b]? = h[b]?) → (∀ b ∈ B', b ∈ B ∨ h.length ≤ b) → Q v' h') : apA pm h Q sz by_ (some (new, k)) v := by
  obtain ⟨hl, hv⟩ := hs
  have hlen : (L ++ new).length = (n + k) * sz := by rw [List.length_append, hl, hn, Nat.add_mul]
  rcases hv with ⟨rfl, rfl, rfl⟩ | ⟨b, rfl, rfl, h5⟩
  · have hL : L = [] := List.eq_nil_of_length_eq_zero (by simpa using hl)
    subst hL
    rw [apA_nil hk]
    refine ⟨by simpa using hb, hQ _ _ [h.length] ⟨hlen, .inr ⟨h.length, by simp, rfl, by rw [cells_eq]; simp [cellsO]⟩⟩ (by simp) (fun b hb _ => List.getElem?_append_left hb) (fun b hb => .inr (by simp at hb; omega))⟩
  · have hblt := cells_lt h5
    rw [apA_sl, h5, apC_grow hk (by omega)]
    refine ⟨by omega, hpm b (by simp), hb, hQ _ _ [h.length] ⟨hlen, .inr ⟨h.length, rfl, rfl, ?_⟩⟩ (by simp [killed]) (fun b' hb' hnb => ?_) (fun b' hb' => .inr (by simp at hb'; omega))⟩
    · rw [cells_eq, List.getElem?_append_right (by simp [killed])]
      simp [killed, cellsO, ← hl]
    · unfold killed
      rw [List.getElem?_append_left (by simpa using hb'), List.getElem?_set_ne (fun he => hnb (by simp [he]))]

/-- What is seen of it, where its cells are seen as these. -/
theorem S1.vw {h : H} {n0 sz n : Nat} {v : AV} {L ts : List AV} {B : List Nat} (hs : S1 h sz v n L B) (hb : ∀ b ∈ B, n0 ≤ b) (ht : ts.length = L.length) (h1 : ts.all one = true) (hv : ∀ (i : Nat) (y t : AV), L[i]? = some y → ts[i]? = some t → Vw h n0 y t) :
    (n = 0 ∧ v = .nils ∧ Vw h n0 v .nils) ∨ (v ≠ .nils ∧ Vw h n0 v (.ro sz ts n)) := by
  obtain ⟨hl, hs⟩ := hs
  rcases hs with ⟨rfl, rfl, rfl⟩ | ⟨b, rfl, rfl, g5⟩
  · exact .inl ⟨rfl, rfl, .free free_nils⟩
  · refine .inr ⟨by simp, ?_⟩
    refine .sl (hb b (by simp)) g5 (by omega) (by omega) h1 (fun i y t hy hti => ?_)
    rw [Nat.zero_add] at hy
    exact hv i y t hy hti

/-- A row of strings whose nil one is the empty one. -/
def nS (l : List Str) : AV := eS (if l = [] then none else some l)
theorem free_eS_ (o : Option (List Str)) : Free (eS o) := by
  cases o with
  | none => exact free_nils
  | some l => exact free_ro (free_map_ fun _ => free_str)
theorem S1.vwS {h : H} {n0 : Nat} {v : AV} {l : List Str} {B : List Nat} (hs : S1 h 1 v l.length (l.map .str) B) (hb : ∀ b ∈ B, n0 ≤ b) (hnn : l = [] → v = .nils) : Vw h n0 v (nS l) := by
  have hvw := hs.vw (ts := l.map .str) hb rfl (one_map fun _ => rfl) (fun i y t hy ht => by
    rw [hy] at ht
    injection ht with ht
    subst ht
    obtain ⟨s, _, rfl⟩ := List.mem_map.1 (List.mem_of_getElem? hy)
    exact .free free_str)
  unfold nS
  by_cases hl : l = []
  · have := hnn hl
    subst this hl
    exact .free free_nils
  · rw [if_neg hl]
    rcases hvw with ⟨h0, _, _⟩ | ⟨_, hv⟩
    · exact absurd (List.eq_nil_of_length_eq_zero h0) hl
    · exact hv

/-! ### slices of slices of strings -/
/-- v is a slice of the call's own with n slices of the call's own, each in a block for itself; all blocks are from n0 on. -/
def SS (h : H) (n0 : Nat) (v : AV) (n : Nat) (L : Nat → List Str) (vs : Nat → AV) (B : List Nat) (Bs : Nat → List Nat) : Prop :=
  S1 h 1 v n ((List.range n).map vs) B ∧ (∀ b ∈ B, n0 ≤ b) ∧
  ∀ k, k < n → S1 h 1 (vs k) (L k).length ((L k).map .str) (Bs k) ∧ (L k = [] → vs k = .nils) ∧ (∀ b ∈ Bs k, n0 ≤ b ∧ b ∉ B) ∧ ∀ k', k' < n → ∀ b ∈ Bs k, b ∈ Bs k' → k = k'

theorem SS.frame {h h' : H} {n0 n : Nat} {v : AV} {L vs B Bs} (hs : SS h n0 v n L vs B Bs) (hk : ∀ b, n0 ≤ b → b < h.length → h'[b]? = h[b]?) : SS h' n0 v n L vs B Bs := by
  obtain ⟨h1, h2, h3⟩ := hs
  refine ⟨h1.frame fun b hb => hk b (h2 b hb) (h1.lt b hb), h2, fun k hkn => ?_⟩
  obtain ⟨g1, g2, g3, g4⟩ := h3 k hkn
  exact ⟨g1.frame fun b hb => hk b (g3 b hb).1 (g1.lt b hb), g2, g3, g4⟩

theorem SS.frame2 {h h' : H} {n0 n : Nat} {v : AV} {L vs B Bs} (hs : SS h n0 v n L vs B Bs) (hk : ∀ b ∈ B, h'[b]? = h[b]?) (hk2 : ∀ k, k < n → ∀ b ∈ Bs k, h'[b]? = h[b]?) : SS h' n0 v n L vs B Bs := by
  obtain ⟨h1, h2, h3⟩ := hs
  refine ⟨h1.frame hk, h2, fun k hkn => ?_⟩
  obtain ⟨g1, g2, g3, g4⟩ := h3 k hkn
  exact ⟨g1.frame (hk2 k hkn), g2, g3, g4⟩
theorem SS.out {h : H} {n0 n b kc : Nat} {L vs B Bs} (hs : SS h n0 (.sl b 0 1 n kc) n L vs B Bs) : B = [b] ∧ n = kc ∧ h.cells b = some ((List.range n).map vs) := by
  obtain ⟨⟨hl, hs⟩, _, _⟩ := hs
  rcases hs with ⟨h0, _⟩ | ⟨b2, e1, e2, e5⟩
  · cases h0
  · cases e1
    exact ⟨e2, rfl, e5⟩
theorem get_range {n : Nat} {vs : Nat → AV} {k : Nat} (hk : k < n) : ((List.range n).map vs)[k]? = some (vs k) := by simp [hk]
theorem SS.congr {h : H} {n0 n : Nat} {v : AV} {L L' : Nat → List Str} {vs B Bs} (hs : SS h n0 v n L vs B Bs) (hL : ∀ k, k < n → L' k = L k) : SS h n0 v n L' vs B Bs := by
  obtain ⟨h1, h2, h3⟩ := hs
  refine ⟨h1, h2, fun k hk => ?_⟩
  rw [hL k hk]
  exact h3 k hk
theorem SS.empty {h : H} {n0 : Nat} {L vs Bs} : SS h n0 .nils 0 L vs [] Bs := ⟨by simpa using S1.nil, by simp, fun k hk => by omega⟩
theorem Vw.mono {h : H} {n m : Nat} {x t : AV} (hv : Vw h n x t) (hm : m ≤ n) : Vw h m x t := by
  induction hv with
  | free hf => exact .free hf
  | sl hb hc hl ht h1 _ ih => exact .sl (Nat.le_trans hm hb) hc hl ht h1 ih
  | adr hb hc hl _ ih => exact .adr (Nat.le_trans hm hb) hc hl ih
  | agg hl _ ih => exact .agg hl ih
  | tup hl _ ih => exact .tup hl ih
def eSS (LL : List (List Str)) : AV := .ro 1 (LL.map nS) LL.length
theorem one_nS (l : List Str) : one (nS l) = true := one_eS
theorem SS.vw {h : H} {n0 n : Nat} {v : AV} {L vs B Bs} (hs : SS h n0 v n L vs B Bs) (hn : 0 < n) : Vw h n0 v (eSS ((List.range n).map L)) := by
  obtain ⟨h1, h2, h3⟩ := hs
  have hvw := h1.vw (n0 := n0) (ts := ((List.range n).map L).map nS) h2 (by simp) (one_map fun _ => one_nS _) (fun i y t hy ht => by
    simp only [List.getElem?_map, Option.map_eq_some_iff] at hy ht
    obtain ⟨j, hj, rfl⟩ := hy
    obtain ⟨l, ⟨j', hj', rfl⟩, rfl⟩ := ht
    rw [hj] at hj'
    injection hj' with hj'
    subst hj'
    have hjn : j < n := by simpa using List.mem_of_getElem? hj
    obtain ⟨g1, g2, g3, g4⟩ := h3 j hjn
    exact g1.vwS (fun b hb => (g3 b hb).1) g2)
  rcases hvw with ⟨h0, _, _⟩ | ⟨_, hv⟩
  · omega
  · unfold eSS
    simpa using hv

/-- One more at the end. -/
theorem SS.app {h : H} {n0 n by_ : Nat} {v x : AV} {l : List Str} {L vs B Bs Bx} {pm : Nat → Prop} {Q : AV → H → Prop} (hs : SS h n0 v n L vs B Bs) (hpm : ∀ b, n0 ≤ b → pm b) (hb : (n + 1) * by_ ≤ 140737488355328) (hn0 : n0 ≤ h.length)
    (hx : S1 h 1 x l.length (l.map .str) Bx) (hxn : l = [] → x = .nils) (hxb : ∀ b ∈ Bx, n0 ≤ b ∧ b ∉ B ∧ ∀ k, k < n → b ∉ Bs k)
    (hQ : ∀ v' h' vs' B' Bs', SS h' n0 v' (n + 1) (fun k => if k = n then l else L k) vs' B' Bs' → h.length < h'.length → (∀ b, b < h.length → b < n0 → h'[b]? = h[b]?) → Q v' h') : apA pm h Q 1 by_ (some ([x], 1)) v := by
  obtain ⟨h1, h2, h3⟩ := hs
  refine h1.app (fun b hb => hpm b (h2 b hb)) (by simp) (by omega) hb (fun v' h' B' g1 g2 g3 g4 => ?_)
  have hfr : ∀ b, b < h.length → b ∉ B → h'[b]? = h[b]? := g3
  refine hQ v' h' (fun k => if k = n then x else vs k) B' (fun k => if k = n then Bx else Bs k) ⟨?_, fun b hb => ?_, fun k hk => ?_⟩ g2 (fun b hb hbn => g3 b hb (fun hB => absurd (h2 b hB) (by omega)))
  · rw [List.range_succ, List.map_append]
    have : List.map (fun k => if k = n then x else vs k) (List.range n) = List.map vs (List.range n) := List.map_congr_left fun k hk => if_neg (by
      have : k < n := by simpa using hk
      omega)
    rw [this]
    simpa using g1
  · rcases g4 b hb with hb | hb
    · exact h2 b hb
    · omega
  · have hnB : ∀ b, b < h.length → b ∉ B → b ∉ B' := fun b hb hnb hb' => by
      rcases g4 b hb' with h5 | h5
      · exact hnb h5
      · omega
    by_cases hkn : k = n
    · subst hkn
      simp only [if_true]
      refine ⟨hx.frame fun b hb => hfr b (hx.lt b hb) (hxb b hb).2.1, hxn, fun b hb => ⟨(hxb b hb).1, hnB b (hx.lt b hb) (hxb b hb).2.1⟩, fun k' hk' b hb hb' => ?_⟩
      by_cases hk2 : k' = k
      · exact hk2.symm
      · rw [if_neg hk2] at hb'
        exact absurd hb' ((hxb b hb).2.2 k' (by omega))
    · simp only [if_neg hkn]
      obtain ⟨q1, q2, q3, q4⟩ := h3 k (by omega)
      refine ⟨q1.frame fun b hb => hfr b (q1.lt b hb) (q3 b hb).2, q2, fun b hb => ⟨(q3 b hb).1, hnB b (q1.lt b hb) (q3 b hb).2⟩, fun k' hk' b hb hb' => ?_⟩
      by_cases hk2 : k' = n
      · rw [if_pos hk2] at hb'
        exact absurd hb ((hxb b hb').2.2 k (by omega))
      · rw [if_neg hk2] at hb'
        exact q4 k' (by omega) b hb hb'

/-- One slice in it is put over by one that grew. -/
theorem SS.put {h h' : H} {n0 n j b : Nat} {x : AV} {l : List Str} {L vs Bs Bx} (hs : SS h n0 (.sl b 0 1 n n) n L vs [b] Bs) (hj : j < n)
    (hfr : ∀ b', b' < h.length → b' ∉ Bs j → h'[b']? = h[b']?) (hx : S1 h' 1 x l.length (l.map .str) Bx) (hxn : l = [] → x = .nils) (hxb : ∀ b' ∈ Bx, b' ∈ Bs j ∨ h.length ≤ b') (hlen : h.length ≤ h'.length) (hn0 : n0 ≤ h.length) :
    h'.cells b = some ((List.range n).map vs) ∧ SS (wr h' b (((List.range n).map vs).set j x)) n0 (.sl b 0 1 n n) n (fun k => if k = j then l else L k) (fun k => if k = j then x else vs k) [b] (fun k => if k = j then Bx else Bs k) := by
  have hc := hs.out.2.2
  obtain ⟨h1, h2, h3⟩ := hs
  obtain ⟨p1, p2, p3, p4⟩ := h3 j hj
  have hb0 : n0 ≤ b := h2 b (by simp)
  have hblt := cells_lt hc
  have hbj : b ∉ Bs j := fun hb => (p3 b hb).2 (by simp)
  have hc' : h'.cells b = some ((List.range n).map vs) := by
    rw [cells_eq, hfr b hblt hbj, ← cells_eq]
    exact hc
  refine ⟨hc', ⟨by simp, .inr ⟨b, rfl, rfl, ?_⟩⟩, h2, fun k hk => ?_⟩
  · rw [cells_eq]
    unfold wr
    rw [List.getElem?_set_self (by omega)]
    unfold cellsO
    simp only [Option.some.injEq]
    refine List.ext_getElem? fun i => ?_
    rw [List.getElem?_set]
    by_cases hij : j = i
    · subst hij
      simp [hj]
    · rw [if_neg hij]
      by_cases hi : i < n
      · rw [get_range hi, get_range hi, if_neg (Ne.symm hij)]
      · simp [hi]
  · have hw : ∀ b', b' ≠ b → (wr h' b (((List.range n).map vs).set j x))[b']? = h'[b']? := fun b' hb' => by
      unfold wr
      exact List.getElem?_set_ne (Ne.symm hb')
    by_cases hkj : k = j
    · subst hkj
      simp only [if_true]
      have hne : ∀ b' ∈ Bx, b' ≠ b := fun b' hb' he => by
        rcases hxb b' hb' with h5 | h5
        · exact hbj (he ▸ h5)
        · omega
      refine ⟨hx.frame fun b' hb' => hw b' (hne b' hb'), hxn, fun b' hb' => ⟨?_, by simpa using hne b' hb'⟩, fun k' hk' b' hb1 hb2 => ?_⟩
      · rcases hxb b' hb' with h5 | h5
        · exact (p3 b' h5).1
        · omega
      · by_cases hk2 : k' = k
        · exact hk2.symm
        · rw [if_neg hk2] at hb2
          rcases hxb b' hb1 with h5 | h5
          · exact p4 k' hk' b' h5 hb2
          · have := (h3 k' hk').1.lt b' hb2
            omega
    · simp only [if_neg hkj]
      obtain ⟨q1, q2, q3, q4⟩ := h3 k hk
      have hne : ∀ b' ∈ Bs k, b' ≠ b := fun b' hb' he => (q3 b' hb').2 (by simp [he])
      refine ⟨q1.frame fun b' hb' => ?_, q2, q3, fun k' hk' b' hb1 hb2 => ?_⟩
      · rw [hw b' (hne b' hb'), hfr b' (q1.lt b' hb') (fun h5 => hkj (q4 j hj b' hb' h5))]
      · by_cases hk2 : k' = j
        · rw [if_pos hk2] at hb2
          rcases hxb b' hb2 with h5 | h5
          · exact absurd (q4 j hj b' hb1 h5) hkj
          · have := q1.lt b' hb1
            omega
        · rw [if_neg hk2] at hb2
          exact q4 k' hk' b' hb1 hb2

/-- A slice of nil slices. -/
theorem SS.fresh {h : H} {n : Nat} : SS (h ++ [some (.cells (List.replicate n .nils))]) h.length (.sl h.length 0 1 n n) n (fun _ => []) (fun _ => .nils) [h.length] (fun _ => []) := by
  refine ⟨⟨by simp, .inr ⟨h.length, rfl, rfl, ?_⟩⟩, by simp, fun k hk => ⟨⟨by simp, .inl ⟨rfl, rfl, rfl⟩⟩, fun _ => rfl, by simp, by simp⟩⟩
  rw [cells_h0]
  unfold cellsO
  simp only [List.getElem?_cons_zero, Option.some.injEq]
  refine List.ext_getElem? fun i => ?_
  by_cases hi : i < n <;> simp [hi]
end Go.Proofs.YtbkcenkfecndjaaGreatDoor.M
