/-
  What the functions return.
-/
import Derived.Test.YtakjemikampncaaGreatDoorFq
import Derived.Test.YtakjemikampncaaGreatDoorShelf
import Derived.Lib.ItoaLen
namespace Go.Proofs.YtakjemikampncaaGreatDoor.M
open Go Go.RowKit
attribute [local instance] dqT
set_option linter.unusedVariables false
set_option linter.unusedSimpArgs false
set_option maxRecDepth 4000

theorem c_cmp_isNaN_int (a : Int) : Fn Tryz.prog 130 [.int .i64 a] (· = .bool false) := by
  refine Fn.of free_bool fun h => ?_
  refine enter (by kernel_rfl) e130 (by kernel_rfl) rfl fun hok => ?_
  simp only [r130, initEnv_1]
  (try (simp (disch := first | omega | (simp <;> omega) | fail) only [push_cast, ↓reduceIte, Nat.reduceEqDiff, Nat.reduceAdd, Nat.reduceMul, Nat.reduceSub, Nat.reduceLT, Int.reduceToNat]))

theorem bl_nil : ∀ a : Str, Op.bytesLess a [] = false
  | [] => rfl
  | _ :: _ => rfl
theorem bl_cons {x y : UInt8} {a b : Str} : Op.bytesLess (x :: a) (y :: b) = (decide (x < y) || (x == y && Op.bytesLess a b)) := rfl
theorem bl_irr : ∀ a : Str, Op.bytesLess a a = false
  | [] => rfl
  | x :: a => by
    rw [bl_cons, bl_irr a]
    simp
theorem bl_tri : ∀ a b : Str, Op.bytesLess a b = true ∨ a = b ∨ Op.bytesLess b a = true
  | [], [] => .inr (.inl rfl)
  | [], _ :: _ => .inl rfl
  | _ :: _, [] => .inr (.inr rfl)
  | x :: a, y :: b => by
    rw [bl_cons, bl_cons]
    have h3 : x < y ∨ x = y ∨ y < x := by
      rcases Nat.lt_trichotomy x.toNat y.toNat with h | h | h
      · exact .inl (UInt8.lt_iff_toNat_lt.2 h)
      · exact .inr (.inl (UInt8.toNat_inj.1 h))
      · exact .inr (.inr (UInt8.lt_iff_toNat_lt.2 h))
    rcases h3 with h | h | h
    · left; simp [h]
    · subst h
      rcases bl_tri a b with h1 | h1 | h1
      · left; simp [h1]
      · right; left; rw [h1]
      · right; right; simp [h1]
    · right; right; simp [h]
theorem bl_trans : ∀ {a b c : Str}, Op.bytesLess a b = true → Op.bytesLess b c = true → Op.bytesLess a c = true
  | a, b, [], h1, h2 => by rw [bl_nil] at h2; cases h2
  | a, [], z :: c, h1, h2 => by rw [bl_nil] at h1; cases h1
  | [], _ :: _, _ :: _, h1, h2 => rfl
  | x :: a, y :: b, z :: c, h1, h2 => by
    rw [bl_cons] at h1 h2 ⊢
    simp only [Bool.or_eq_true, decide_eq_true_eq, Bool.and_eq_true, beq_iff_eq] at h1 h2 ⊢
    rcases h1 with h1 | ⟨rfl, h1⟩
    · rcases h2 with h2 | ⟨rfl, h2⟩
      · exact .inl (UInt8.lt_trans h1 h2)
      · exact .inl h1
    · rcases h2 with h2 | ⟨rfl, h2⟩
      · exact .inl h2
      · exact .inr ⟨rfl, bl_trans h1 h2⟩
theorem bl_asym {a b : Str} (h1 : Op.bytesLess a b = true) (h2 : Op.bytesLess b a = true) : False := by
  have := bl_trans h1 h2
  rw [bl_irr] at this
  cases this
theorem bl_app : ∀ {a b x y : Str}, a.length = b.length → Op.bytesLess (a ++ x) (b ++ y) = (Op.bytesLess a b || (decide (a = b) && Op.bytesLess x y))
  | [], [], x, y, _ => by simp [bl_irr]
  | [], _ :: _, _, _, h => by simp at h
  | _ :: _, [], _, _, h => by simp at h
  | u :: a, v :: b, x, y, h => by
    rw [List.cons_append, List.cons_append, bl_cons, bl_cons, bl_app (by simpa using h)]
    by_cases h1 : u = v
    · subst h1
      by_cases h2 : a = b
      · simp [h2]
      · simp [h2]
    · have h3 : (u == v) = false := by simp [h1]
      simp [h1, h3]
theorem bl_take {a b : Str} {n : Nat} (h : Op.bytesLess a b = true) (ha : n ≤ a.length) (hb : n ≤ b.length) : a.take n = b.take n ∨ Op.bytesLess (a.take n) (b.take n) = true := by
  rw [← List.take_append_drop n a, ← List.take_append_drop n b, bl_app (by simp; omega)] at h
  simp only [Bool.or_eq_true, Bool.and_eq_true, decide_eq_true_eq] at h
  rcases h with h | h
  · exact .inr h
  · exact .inl h.1
/-- Two lists in strict order with the same members are one. -/
theorem pw_uniq {α : Type} {r : α → α → Prop} (hr : ∀ a b, r a b → r b a → False) : ∀ {l1 l2 : List α}, l1.Pairwise r → l2.Pairwise r → (∀ x, x ∈ l1 ↔ x ∈ l2) → l1 = l2
  | [], l2, _, _, h => by
    cases l2 with
    | nil => rfl
    | cons b l2 => exact absurd ((h b).2 (by simp)) (by simp)
  | a :: l1, [], _, _, h => absurd ((h a).1 (by simp)) (by simp)
  | a :: l1, b :: l2, h1, h2, h => by
    rw [List.pairwise_cons] at h1 h2
    have hab : a = b := by
      rcases List.mem_cons.1 ((h a).1 (by simp)) with h5 | h5
      · exact h5
      · rcases List.mem_cons.1 ((h b).2 (by simp)) with h7 | h7
        · exact h7.symm
        · exact (hr _ _ (h1.1 b h7) (h2.1 a h5)).elim
    subst hab
    congr 1
    refine pw_uniq hr h1.2 h2.2 fun x => ⟨fun hx => ?_, fun hx => ?_⟩
    · rcases List.mem_cons.1 ((h x).1 (List.mem_cons_of_mem _ hx)) with h5 | h5
      · subst h5
        exact (hr _ _ (h1.1 x hx) (h1.1 x hx)).elim
      · exact h5
    · rcases List.mem_cons.1 ((h x).2 (List.mem_cons_of_mem _ hx)) with h5 | h5
      · subst h5
        exact (hr _ _ (h2.1 x hx) (h2.1 x hx)).elim
      · exact h5
theorem pw_nodup {α : Type} {r : α → α → Prop} (hr : ∀ a, ¬ r a a) {l : List α} (h : l.Pairwise r) : l.Nodup := by
  refine h.imp fun {a b} h1 h2 => ?_
  subst h2
  exact hr _ h1
def slt (a b : Str) : Prop := Op.bytesLess a b = true
theorem slt_asym : ∀ a b, slt a b → slt b a → False := fun _ _ => bl_asym
/-- The order of nodes: shorter ones first. -/
def nltB (a b : Str) : Bool := decide (a.length < b.length) || (decide (a.length = b.length) && Op.bytesLess a b)
def nlt (a b : Str) : Prop := a.length < b.length ∨ (a.length = b.length ∧ Op.bytesLess a b = true)
theorem nltB_iff {a b : Str} : nltB a b = true ↔ nlt a b := by
  unfold nltB nlt
  simp
theorem nlt_asym : ∀ a b, nlt a b → nlt b a → False := fun a b h1 h2 => by
  unfold nlt at h1 h2
  rcases h1 with h1 | ⟨h1, h3⟩ <;> rcases h2 with h2 | ⟨h2, h4⟩
  · omega
  · omega
  · omega
  · exact bl_asym h3 h4
theorem nlt_irr : ∀ a, ¬ nlt a a := fun a h => nlt_asym a a h h
theorem nlt_trans {a b c : Str} (h1 : nlt a b) (h2 : nlt b c) : nlt a c := by
  unfold nlt at *
  rcases h1 with h1 | ⟨h1, h3⟩ <;> rcases h2 with h2 | ⟨h2, h4⟩
  · left; omega
  · left; omega
  · left; omega
  · exact .inr ⟨by omega, bl_trans h3 h4⟩
theorem nlt_tri (a b : Str) : nlt a b ∨ a = b ∨ nlt b a := by
  unfold nlt
  rcases Nat.lt_trichotomy a.length b.length with h | h | h
  · exact .inl (.inl h)
  · rcases bl_tri a b with h1 | h1 | h1
    · exact .inl (.inr ⟨h, h1⟩)
    · exact .inr (.inl h1)
    · exact .inr (.inr (.inr ⟨h.symm, h1⟩))
  · exact .inr (.inr (.inl h))

def okByte (c : UInt8) : Bool := decide (33 ≤ (c.toNat : Int)) && decide ((c.toNat : Int) ≤ 125)
def okKey (s : Str) : Bool := s.all okByte && (decide (1 ≤ (s.length : Int)) && decide ((s.length : Int) ≤ 12))
/-- Sorted, each a key. -/
def okKeysFrom (l : List Str) : Nat → Bool
  | 0 => true
  | i + 1 => okKeysFrom l i && (okKey (l.getD i []) && (decide (i = 0) || Op.bytesLess (l.getD (i - 1) []) (l.getD i [])))
def okKeys (l : List Str) : Bool := okKeysFrom l l.length && decide ((l.length : Int) ≤ 40)
theorem okKeysFrom_false {l : List Str} {i : Nat} : ∀ {j}, i ≤ j → okKeysFrom l i = false → okKeysFrom l j = false
  | 0, h, hf => by
    rw [show i = 0 by omega] at hf
    exact hf
  | j + 1, h, hf => by
    by_cases hi : i = j + 1
    · rw [← hi]
      exact hf
    · simp [okKeysFrom, okKeysFrom_false (show i ≤ j by omega) hf]

/-- Right keys. -/
theorem okKeysFrom_all {l : List Str} : ∀ {i : Nat}, okKeysFrom l i = true → i ≤ l.length → (∀ j, j < i → okKey (l.getD j []) = true) ∧ (l.take i).Pairwise slt
  | 0, _, _ => ⟨fun j hj => by omega, by simp⟩
  | i + 1, h, hi => by
    simp only [okKeysFrom, Bool.and_eq_true, Bool.or_eq_true, decide_eq_true_eq] at h
    obtain ⟨h1, h2, h3⟩ := h
    obtain ⟨g1, g2⟩ := okKeysFrom_all h1 (by omega)
    refine ⟨fun j hj => ?_, ?_⟩
    · rcases Nat.lt_or_ge j i with h5 | h5
      · exact g1 j h5
      · rw [show j = i by omega]
        exact h2
    · rw [List.take_add_one, List.getElem?_eq_getElem (by omega), Option.toList_some, List.pairwise_append]
      refine ⟨g2, by simp, fun a ha b hb => ?_⟩
      simp only [List.mem_singleton] at hb
      subst hb
      have hgi : l.getD i [] = l[i] := by simp [show i < l.length by omega]
      rw [hgi] at h3
      rcases h3 with h3 | h3
      · subst h3
        simp at ha
      · have hm : (l.take i).getLastD [] = l.getD (i - 1) [] := by
          rw [List.getLastD_eq_getLast?, List.getLast?_eq_getElem?]
          simp only [List.length_take, List.getElem?_take]
          rw [List.getD_eq_getElem?_getD]
          rw [show min i l.length = i by omega]
          by_cases h0 : i = 0
          · subst h0
            simp at ha
          · rw [if_pos (by omega)]
        by_cases hl : a = l.getD (i - 1) []
        · rw [hl]
          exact h3
        · refine bl_trans (b := l.getD (i - 1) []) ?_ h3
          obtain ⟨j, hj, rfl⟩ := List.mem_iff_getElem.1 ha
          have hj2 := hj
          rw [List.length_take] at hj2
          have hji : j ≠ i - 1 := fun h5 => hl (by subst h5; simp [show i - 1 < l.length by omega])
          have := List.pairwise_iff_getElem.1 g2 j (i - 1) hj (by rw [List.length_take]; omega) (by omega)
          unfold slt at this
          simpa [show i - 1 < l.length by omega] using this
theorem okKeys_all {l : List Str} (h : okKeys l = true) : (∀ s ∈ l, okKey s = true) ∧ l.Pairwise slt ∧ l.length ≤ 40 := by
  simp only [okKeys, Bool.and_eq_true, decide_eq_true_eq] at h
  obtain ⟨g1, g2⟩ := okKeysFrom_all h.1 (Nat.le_refl _)
  rw [List.take_length] at g2
  refine ⟨fun s hs => ?_, g2, by omega⟩
  obtain ⟨j, hj, rfl⟩ := List.mem_iff_getElem.1 hs
  have := g1 j hj
  simpa [hj] using this
theorem okKeys_of {l : List Str} (h1 : ∀ s ∈ l, okKey s = true) (h2 : l.Pairwise slt) (h3 : l.length ≤ 40) : okKeys l = true := by
  have key : ∀ i, i ≤ l.length → okKeysFrom l i = true := by
    intro i
    induction i with
    | zero => intro _; rfl
    | succ i ih =>
      intro hi
      simp only [okKeysFrom, Bool.and_eq_true, Bool.or_eq_true, decide_eq_true_eq]
      refine ⟨ih (by omega), h1 _ (by simp [show i < l.length by omega]), ?_⟩
      by_cases h0 : i = 0
      · exact .inl h0
      · right
        have := List.pairwise_iff_getElem.1 h2 (i - 1) i (by omega) (by omega) (by omega)
        unfold slt at this
        simpa [show i < l.length by omega, show i - 1 < l.length by omega] using this
  simp only [okKeys, Bool.and_eq_true, decide_eq_true_eq]
  exact ⟨key _ (Nat.le_refl _), by omega⟩
theorem okKey_len {s : Str} (h : okKey s = true) : 1 ≤ s.length ∧ s.length ≤ 12 := by
  simp only [okKey, Bool.and_eq_true, decide_eq_true_eq] at h
  omega
/-- The nodes, level by level. -/
def ndS (n : Nat) (out : List Str) (s : Str) : List Str := if n ≤ s.length ∧ s.take n ≠ out.getLastD [] then out ++ [s.take n] else out
def nodesTo (K : List Str) : Nat → List Str
  | 0 => [[]]
  | n + 1 => K.foldl (ndS (n + 1)) (nodesTo K n)
def nodesK (K : List Str) : List Str := nodesTo K 12
theorem foldl_take {α β : Type} {f : β → α → β} {b : β} {l : List α} {i : Nat} {d : α} (hi : i < l.length) : (l.take (i + 1)).foldl f b = f ((l.take i).foldl f b) (l.getD i d) := by
  rw [List.take_add_one, List.foldl_append, List.getElem?_eq_getElem hi]
  simp [hi]
structure NdI (K : List Str) (n k : Nat) (out : List Str) : Prop where
  pw : out.Pairwise nlt
  mem : ∀ x, x ∈ out ↔ (x = [] ∨ (x.length ≤ n ∧ ∃ s ∈ K, x = s.take x.length)) ∨ ∃ s ∈ K.take k, n + 1 ≤ s.length ∧ x = s.take (n + 1)
theorem NdI.step {K : List Str} (hK : K.Pairwise slt) {n k : Nat} {out : List Str} (h : NdI K n k out) (hk : k < K.length) : NdI K n (k + 1) (ndS (n + 1) out (K.getD k [])) := by
  have hg : K.getD k [] = K[k] := by simp [hk]
  have htk : K.take (k + 1) = K.take k ++ [K[k]] := by
    rw [List.take_add_one, List.getElem?_eq_getElem hk, Option.toList_some]
  have hle : ∀ x ∈ out, x.length ≤ n + 1 := fun x hx => by
    rcases (h.mem x).1 hx with (h1 | h1) | ⟨s, _, h1, h2⟩
    · rw [h1]; simp
    · omega
    · rw [h2, List.length_take]; omega
  rw [hg]
  unfold ndS
  by_cases h1 : n + 1 ≤ K[k].length
  · have hlt : ∀ y ∈ out, y.length = n + 1 → y = K[k].take (n + 1) ∨ Op.bytesLess y (K[k].take (n + 1)) = true := fun y hy hyl => by
      rcases (h.mem y).1 hy with (h3 | h3) | ⟨s, hs, h3, h4⟩
      · rw [h3] at hyl; simp at hyl
      · omega
      · obtain ⟨j, hj, rfl⟩ := List.mem_iff_getElem.1 hs
        rw [List.length_take] at hj
        rw [List.getElem_take] at h3 h4
        have := List.pairwise_iff_getElem.1 hK j k (by omega) hk (by omega)
        rw [h4]
        exact bl_take this h3 h1
    by_cases h2 : K[k].take (n + 1) = out.getLastD []
    · rw [if_neg (fun h5 => h5.2 h2)]
      have hin : K[k].take (n + 1) ∈ out := by
        rw [h2, List.getLastD_eq_getLast?]
        cases hl : out.getLast? with
        | none =>
          rw [List.getLast?_eq_none_iff] at hl
          subst hl
          have := congrArg List.length h2
          rw [List.length_take] at this
          have e : (([] : List Str).getLastD []).length = 0 := rfl
          omega
        | some y =>
          simp only [Option.getD_some]
          exact List.mem_of_getLast? hl
      refine ⟨h.pw, fun x => (h.mem x).trans ⟨fun hx => hx.imp id fun ⟨s, hs, h5⟩ => ⟨s, by rw [htk]; exact List.mem_append.2 (.inl hs), h5⟩, fun hx => ?_⟩⟩
      rcases hx with hx | ⟨s, hs, h5, h6⟩
      · exact .inl hx
      · rw [htk] at hs
        rcases List.mem_append.1 hs with hs | hs
        · exact .inr ⟨s, hs, h5, h6⟩
        · simp only [List.mem_singleton] at hs
          subst hs
          rw [h6]
          exact (h.mem _).1 hin
    · rw [if_pos ⟨h1, h2⟩]
      have hxl : (K[k].take (n + 1)).length = n + 1 := by rw [List.length_take]; omega
      have hnew : ∀ y ∈ out, nlt y (K[k].take (n + 1)) := fun y hy => by
        have hyl := hle y hy
        rcases Nat.lt_or_ge y.length (n + 1) with h5 | h5
        · left; omega
        · rcases hlt y hy (by omega) with h7 | h7
          · exfalso
            -- the last one is as great
            obtain ⟨z, hz⟩ : ∃ z, out.getLast? = some z := by
              cases hl : out.getLast? with
              | none =>
                rw [List.getLast?_eq_none_iff] at hl
                rw [hl] at hy
                cases hy
              | some z => exact ⟨z, rfl⟩
            have hzl : out.getLastD [] = z := by rw [List.getLastD_eq_getLast?, hz]; rfl
            have hzm := List.mem_of_getLast? hz
            rw [hzl] at h2
            obtain ⟨l0, rfl⟩ := List.getLast?_eq_some_iff.1 hz
            have hyz : nlt y z := by
              rcases List.mem_append.1 hy with h8 | h8
              · exact (List.pairwise_append.1 h.pw).2.2 y h8 z (by simp)
              · simp only [List.mem_singleton] at h8
                rw [h8] at h7
                exact absurd h7.symm h2
            have hzl2 := hle z hzm
            rcases hyz with h8 | ⟨h8, h9⟩
            · omega
            · rcases hlt z hzm (by omega) with h10 | h10
              · exact h2 h10.symm
              · rw [h7] at h9
                exact bl_asym h9 h10
          · exact .inr ⟨by omega, h7⟩
      refine ⟨List.pairwise_append.2 ⟨h.pw, by simp, fun a ha b hb => ?_⟩, fun x => ?_⟩
      · simp only [List.mem_singleton] at hb
        subst hb
        exact hnew a ha
      · rw [List.mem_append, List.mem_singleton, h.mem x, htk]
        constructor
        · rintro (hx | hx)
          · exact hx.imp id fun ⟨s, hs, h5⟩ => ⟨s, List.mem_append.2 (.inl hs), h5⟩
          · exact .inr ⟨K[k], List.mem_append.2 (.inr (by simp)), h1, hx⟩
        · rintro (hx | ⟨s, hs, h5, h6⟩)
          · exact .inl (.inl hx)
          · rcases List.mem_append.1 hs with hs | hs
            · exact .inl (.inr ⟨s, hs, h5, h6⟩)
            · simp only [List.mem_singleton] at hs
              subst hs
              exact .inr h6
  · rw [if_neg (fun h5 => h1 h5.1)]
    refine ⟨h.pw, fun x => (h.mem x).trans ⟨fun hx => hx.imp id fun ⟨s, hs, h5⟩ => ⟨s, by rw [htk]; exact List.mem_append.2 (.inl hs), h5⟩, fun hx => hx.imp id fun ⟨s, hs, h5, h6⟩ => ?_⟩⟩
    rw [htk] at hs
    rcases List.mem_append.1 hs with hs | hs
    · exact ⟨s, hs, h5, h6⟩
    · simp only [List.mem_singleton] at hs
      subst hs
      exact absurd h5 h1
theorem NdI.run {K : List Str} (hK : K.Pairwise slt) {n : Nat} {out : List Str} (h : NdI K n 0 out) : ∀ k, k ≤ K.length → NdI K n k ((K.take k).foldl (ndS (n + 1)) out)
  | 0, _ => by simpa using h
  | k + 1, hk => by
    rw [foldl_take (d := []) (by omega)]
    exact (NdI.run hK h k (by omega)).step hK (by omega)
theorem nodesTo_ok {K : List Str} (hK : K.Pairwise slt) : ∀ n, NdI K n 0 (nodesTo K n)
  | 0 => ⟨by simp [nodesTo], fun x => by
      simp only [nodesTo, List.mem_singleton, List.take_zero, List.not_mem_nil, false_and, exists_false, or_false]
      constructor
      · intro h; exact .inl h
      · rintro (h | ⟨h, _⟩)
        · exact h
        · exact List.eq_nil_of_length_eq_zero (by omega)⟩
  | n + 1 => by
    have := (nodesTo_ok hK n).run hK K.length (Nat.le_refl _)
    rw [List.take_length] at this
    refine ⟨this.pw, fun x => ?_⟩
    show x ∈ K.foldl (ndS (n + 1)) (nodesTo K n) ↔ _
    rw [this.mem x, List.take_length]
    simp only [List.take_zero, List.not_mem_nil, false_and, exists_false, or_false]
    constructor
    · rintro ((h | ⟨h, s, hs, h1⟩) | ⟨s, hs, h1, h2⟩)
      · exact .inl h
      · exact .inr ⟨by omega, s, hs, h1⟩
      · have hl : x.length = n + 1 := by rw [h2, List.length_take]; omega
        exact .inr ⟨by omega, s, hs, by rw [hl]; exact h2⟩
    · rintro (h | ⟨h, s, hs, h1⟩)
      · exact .inl (.inl h)
      · rcases Nat.lt_or_ge x.length (n + 1) with h5 | h5
        · exact .inl (.inr ⟨by omega, s, hs, h1⟩)
        · have hl : x.length = n + 1 := by omega
          refine .inr ⟨s, hs, ?_, by rw [← hl]; exact h1⟩
          have := congrArg List.length h1
          rw [List.length_take] at this
          omega
/-- What the nodes are. -/
theorem nodesK_ok {K : List Str} (hK : okKeys K = true) : (nodesK K).Pairwise nlt ∧ ∀ x, x ∈ nodesK K ↔ x = [] ∨ ∃ s ∈ K, x = s.take x.length := by
  obtain ⟨h1, h2, h3⟩ := okKeys_all hK
  have h := nodesTo_ok h2 12
  refine ⟨h.pw, fun x => (h.mem x).trans ?_⟩
  simp only [List.take_zero, List.not_mem_nil, false_and, exists_false, or_false]
  constructor
  · rintro (h | ⟨_, h⟩)
    · exact .inl h
    · exact .inr h
  · rintro (h | ⟨s, hs, h5⟩)
    · exact .inl h
    · refine .inr ⟨?_, s, hs, h5⟩
      have := (okKey_len (h1 s hs)).2
      have h7 := congrArg List.length h5
      rw [List.length_take] at h7
      omega

/-- What is left of a budget. -/
def szv (left : Int) (w : Nat) : Int := if (w : Int) ≤ left then left - w else -1
theorem szv_ok {left : Int} {w : Nat} (h : 0 ≤ szv left w) : (w : Int) ≤ left := by
  unfold szv at h
  split at h <;> omega
def wS (a : Option (List Str)) : Nat := (lS a).length + ((lS a).map List.length).sum
theorem sum_take_le (l : List Nat) (i : Nat) : (l.take i).sum ≤ l.sum := by
  have := congrArg List.sum (List.take_append_drop i l)
  rw [List.sum_append] at this
  omega
theorem sum_take_succ {l : List Nat} {i : Nat} (hi : i < l.length) : (l.take (i + 1)).sum = (l.take i).sum + l.getD i 0 := by
  rw [List.take_add_one, List.sum_append]
  simp [hi]

--eng eB cB
structure Bt where
  size : Int
  words : Option (List Int)
  deriving Inhabited
def cB (b : Bt) : List AV := [.int .i64 b.size, eI b.words]
theorem cB_len (b : Bt) : (cB b).length = 2 := rfl
def eB (b : Bt) : AV := .agg (cB b)
theorem free_cB {b : Bt} : ∀ c ∈ cB b, Free c := free_cons_ free_int (free_cons_ free_eI free_nil_)
theorem free_eB {b : Bt} : Free (eB b) := free_agg free_cB
def cpB (b : Bt) : Bt := ⟨b.size, some (lI b.words)⟩
/-- The last word has no bit behind the size. -/
def lastOk (size : Int) (ws : List Int) : Bool := decide (size % 16 = 0) || decide (Int.fdiv (ws.getD (ws.length - 1) 0) (2 ^ (min (size % 16).toNat IntKind.i64.bits)) = 0)
def okWords (ws : List Int) : Bool := ws.all fun w => decide (0 ≤ w) && decide (w ≤ 65535)
def okBt (b : Bt) : Bool := (decide (0 ≤ b.size) && decide (b.size ≤ 4096)) && (decide (((lI b.words).length : Int) = (b.size + 15) / 16) && (okWords (lI b.words) && lastOk b.size (lI b.words)))
theorem okBt_words {b : Bt} (h : okBt b = true) : ∃ B : Nat, lI b.words = wordsN B (lI b.words).length ∧ 0 ≤ b.size ∧ b.size ≤ 4096 ∧ ((lI b.words).length : Int) = (b.size + 15) / 16 := by
  simp only [okBt, okWords, Bool.and_eq_true, decide_eq_true_eq, List.all_eq_true] at h
  exact ⟨numW (lI b.words), (wordsN_num h.2.2.1).symm, h.1.1, h.1.2, h.2.1⟩
theorem ow_bits {h : H} {x : AV} {n : Int} {ws : List Int} {G : Nat → Prop} (ho : Ow h [x] [eB ⟨n, some ws⟩] G) : ∃ b, x = .agg [.int .i64 n, .sl b 0 1 ws.length ws.length] ∧ Ow h [.int .i64 n, .sl b 0 1 ws.length ws.length] (cB ⟨n, some ws⟩) G := by
  obtain ⟨cs, rfl, h1⟩ := Ow.openAgg (show Ow h [x] [.agg (cB ⟨n, some ws⟩)] G from ho)
  have hl : cs.length = 2 := h1.len.symm
  match cs, hl, h1 with
  | [x1, x2], _, h1 =>
    obtain ⟨F, F', f1, f2, _, _⟩ := h1.uncons
    have e1 : x1 = .int .i64 n := f1.atomOf rfl
    obtain ⟨b, e2⟩ := Ow.sl1 (show Ow h [x2] [.ro 1 _ _] F' from f2)
    subst e1 e2
    exact ⟨b, rfl, h1⟩

attribute [push_cast] eB cB
theorem at_word {B m i : Nat} {ws : List Int} (hw : ws = wordsN B m) (hi : i < 16 * m) : decide (bitsI .and .i64 (Int.fdiv (ws.getD ((i : Int) / 16).toNat 0) (2 ^ (min ((i : Int) % 16).toNat IntKind.i64.bits))) 1 = 1) = B.testBit i := by
  have e1 : ((i : Int) / 16).toNat = i / 16 := by omega
  have e2 : ((i : Int) % 16).toNat = i % 16 := by omega
  rw [hw, e1, e2, wordsN_get (by omega), at_bit wordN_lt (by omega), wordN_bit (by omega)]
  congr 1
  omega

theorem wordsN_succ {B m : Nat} : wordsN B (m + 1) = (wordN B 0 : Int) :: wordsN (B >>> 16) m := by
  unfold wordsN
  rw [List.range_succ_eq_map, List.map_cons, List.map_map]
  congr 1
  refine List.map_congr_left fun k _ => ?_
  simp only [Function.comp]
  unfold wordN
  rw [← Nat.shiftRight_add]
  congr 3
  omega
theorem numW_wordsN : ∀ {m B : Nat}, B < 2 ^ (16 * m) → numW (wordsN B m) = B
  | 0, B, h => by
    have : B = 0 := by simpa using h
    subst this
    rfl
  | m + 1, B, h => by
    have h16 : (2 : Nat) ^ 16 = 65536 := rfl
    have hlt : B >>> 16 < 2 ^ (16 * m) := by
      rw [Nat.shiftRight_eq_div_pow, Nat.div_lt_iff_lt_mul (Nat.two_pow_pos _), ← Nat.pow_add]
      rwa [show 16 * m + 16 = 16 * (m + 1) by omega]
    rw [wordsN_succ, numW, numW_wordsN hlt]
    have hw : (wordN B 0 : Int).toNat = B % 65536 := by
      rw [Int.toNat_natCast]
      rfl
    rw [hw, Nat.shiftRight_eq_div_pow, h16]
    omega
/-- A number whose bits are told. -/
def mkN (n : Nat) (g : Nat → Bool) : Nat := (List.range n).foldl (fun B i => setB B i (g i)) 0
theorem mkN_succ {n : Nat} {g : Nat → Bool} : mkN (n + 1) g = setB (mkN n g) n (g n) := by
  unfold mkN
  rw [List.range_succ, List.foldl_append]
  rfl
theorem mkN_bit {g : Nat → Bool} {j : Nat} : ∀ {n : Nat}, (mkN n g).testBit j = (decide (j < n) && g j)
  | 0 => by simp [mkN]
  | n + 1 => by
    rw [mkN_succ, setB_bit]
    by_cases h : j = n
    · subst h
      simp
    · rw [if_neg h, mkN_bit]
      congr 1
      rw [decide_eq_decide]
      omega

--eng lenA_eO iaddr_eO get_O one_eO cellsOf_eO
def eO : Option (List Bool) → AV
  | none => .nils
  | some l => .ro 1 (l.map .bool) l.length
def lO : Option (List Bool) → List Bool
  | none => []
  | some l => l
theorem lenA_eO {l : Option (List Bool)} : lenA (eO l) = some (.int .i64 (lO l).length) := by cases l <;> rfl
theorem iaddr_eO {l : Option (List Bool)} {k : IntKind} {n : Int} (h1 : 0 ≤ n) (h2 : n < (lO l).length) : iaddrA 1 (eO l) (.int k n) = some (.rad ((lO l).map .bool) n.toNat) := by
  cases l with
  | none => simp [lO] at h2; omega
  | some l => exact (iaddrA_ro h1 h2).trans (by simp [lO])
theorem get_O {l : List Bool} {i : Nat} (hi : i < l.length) : (l.map AV.bool)[i]? = some (.bool (l.getD i false)) := by simp [hi]
theorem one_eO {l : Option (List Bool)} : one (eO l) = true := by cases l <;> rfl
theorem cellsOf_eO {l : Option (List Bool)} : cellsOf (eO l) = [eO l] := by cases l <;> rfl
theorem free_eO {l : Option (List Bool)} : Free (eO l) := by
  cases l with
  | none => exact free_nils
  | some l => exact free_ro (free_map_ fun _ => free_bool)
theorem ok_eO {l : Option (List Bool)} (h : OkV (eO l)) : (lO l).length ≤ 9223372036854775807 := by
  cases l with
  | none => simp [lO]
  | some l => exact h.ro.1

attribute [push_cast] lenA_eO iaddr_eO get_O one_eO cellsOf_eO
/-- The number of a list of bits, so far. -/
def bitN (l : List Bool) (n : Nat) : Nat := mkN n fun i => l.getD i false
theorem bitN_on {l : List Bool} {i : Nat} (h : l.getD i false = true) : bitN l (i + 1) = bitN l i ||| 2 ^ i := by
  unfold bitN
  rw [mkN_succ, h]
  refine Nat.eq_of_testBit_eq fun j => ?_
  rw [setB_bit, Nat.testBit_or, Nat.testBit_two_pow]
  by_cases hj : j = i
  · simp [hj]
  · simp [hj, Ne.symm hj]
theorem bitN_off {l : List Bool} {i : Nat} (h : l.getD i false = false) : bitN l (i + 1) = bitN l i := by
  unfold bitN
  rw [mkN_succ, h]
  refine Nat.eq_of_testBit_eq fun j => ?_
  rw [setB_bit, mkN_bit]
  by_cases hj : j = i
  · simp [hj]
  · simp [hj]

/-- A child has one byte more. -/
def chB (s c : Str) : Bool := decide (c.length = s.length + 1) && decide (c.take s.length = s)
def ch (N : List Str) (s : Str) : List Str := N.filter (chB s)
theorem chB_iff {s c : Str} : chB s c = true ↔ c.length = s.length + 1 ∧ c.take s.length = s := by simp [chB]
theorem ch_mem {N : List Str} {s c : Str} : c ∈ ch N s ↔ c ∈ N ∧ chB s c = true := by simp [ch]
theorem chB_eq {s c : Str} (h : chB s c = true) : c = s ++ [c.getLastD 0] := by
  obtain ⟨h1, h2⟩ := chB_iff.1 h
  have hne : c ≠ [] := fun h5 => by rw [h5] at h1; simp at h1
  have h3 := List.dropLast_concat_getLast hne
  have h4 : c.dropLast = s := by
    rw [List.dropLast_eq_take, h1]
    simpa using h2
  rw [h4] at h3
  conv => lhs; rw [← h3]
  rw [List.getLastD_eq_getLast?, List.getLast?_eq_some_getLast hne]
  rfl
theorem chB_drop {x : Str} (h : x ≠ []) : chB x.dropLast x = true := by
  have := List.length_pos_iff.2 h
  rw [chB_iff, List.length_dropLast, List.dropLast_eq_take]
  exact ⟨by omega, rfl⟩
structure Tri (N : List Str) : Prop where
  pw : N.Pairwise nlt
  root : [] ∈ N
  up : ∀ x ∈ N, x ≠ [] → x.dropLast ∈ N
theorem nodesK_tri {K : List Str} (hK : okKeys K = true) : Tri (nodesK K) := by
  obtain ⟨h1, h2⟩ := nodesK_ok hK
  refine ⟨h1, (h2 _).2 (.inl rfl), fun x hx hne => (h2 _).2 ?_⟩
  rcases (h2 x).1 hx with h | ⟨s, hs, h⟩
  · exact absurd h hne
  · refine .inr ⟨s, hs, ?_⟩
    conv => lhs; rw [h]
    rw [List.dropLast_eq_take, List.take_take]
    congr 1
    have h5 := congrArg List.length h
    rw [List.length_take] at h5
    simp only [List.length_take, List.length_dropLast]
    omega
theorem nodesK_len {K : List Str} (hK : okKeys K = true) : ∀ x ∈ nodesK K, x.length ≤ 12 := fun x hx => by
  rcases ((nodesK_ok hK).2 x).1 hx with h | ⟨s, hs, h⟩
  · rw [h]; simp
  · have := (okKey_len ((okKeys_all hK).1 s hs)).2
    have h5 := congrArg List.length h
    rw [List.length_take] at h5
    omega
theorem Tri.head {N : List Str} (h : Tri N) : ∃ R, N = [] :: R ∧ R.Pairwise nlt ∧ ∀ x ∈ R, x ≠ [] := by
  obtain ⟨h1, h2, h3⟩ := h
  cases N with
  | nil => cases h2
  | cons a R =>
    rw [List.pairwise_cons] at h1
    have ha : a = [] := by
      rcases List.mem_cons.1 h2 with h5 | h5
      · exact h5.symm
      · rcases h1.1 _ h5 with h7 | ⟨h7, h8⟩
        · simp at h7
        · exact List.eq_nil_of_length_eq_zero (by simpa using h7)
    subst ha
    refine ⟨R, rfl, h1.2, fun x hx h5 => ?_⟩
    subst h5
    exact nlt_irr _ (h1.1 _ hx)
theorem ch_nlt {N : List Str} {a b x y : Str} (h : nlt a b) (hx : x ∈ ch N a) (hy : y ∈ ch N b) : nlt x y := by
  have hx := (ch_mem.1 hx).2
  have hy := (ch_mem.1 hy).2
  have h1 := (chB_iff.1 hx).1
  have h2 := (chB_iff.1 hy).1
  rcases h with h | ⟨h, h3⟩
  · left; omega
  · refine .inr ⟨by omega, ?_⟩
    rw [chB_eq hx, chB_eq hy, bl_app h, h3]
    rfl
theorem Tri.bfs {N : List Str} (h : Tri N) : N = [] :: N.flatMap (ch N) := by
  obtain ⟨R, h1, h2, h3⟩ := h.head
  have : R = N.flatMap (ch N) := by
    refine pw_uniq nlt_asym h2 ?_ fun x => ?_
    · rw [List.pairwise_flatMap]
      exact ⟨fun a _ => h.pw.filter _, h.pw.imp fun {a b} hab x hx y hy => ch_nlt hab hx hy⟩
    · rw [List.mem_flatMap]
      constructor
      · intro hx
        have hxN : x ∈ N := by rw [h1]; exact List.mem_cons_of_mem _ hx
        exact ⟨x.dropLast, h.up x hxN (h3 x hx), ch_mem.2 ⟨hxN, chB_drop (h3 x hx)⟩⟩
      · rintro ⟨s, hs, hx⟩
        obtain ⟨h5, h6⟩ := ch_mem.1 hx
        rw [h1] at h5
        rcases List.mem_cons.1 h5 with h7 | h7
        · have := (chB_iff.1 h6).1
          rw [h7] at this
          simp at this
        · exact h7
  rw [← this]
  exact h1
def shC (N : List Str) (s : Str) : List Bool := List.replicate (ch N s).length true ++ [false]
def shapeL (N : List Str) : List Bool := N.flatMap (shC N)
def labL (N : List Str) : Str := (N.drop 1).map (·.getLastD 0)
def endL (K N : List Str) : List Bool := N.map fun s => decide (s ∈ K)
theorem shape_len {N : List Str} : ∀ L : List Str, (L.flatMap (shC N)).length = (L.flatMap (ch N)).length + L.length
  | [] => rfl
  | s :: L => by
    rw [List.flatMap_cons, List.flatMap_cons, List.length_append, List.length_append, shape_len L]
    simp [shC]
    omega
theorem Tri.shape {N : List Str} (h : Tri N) : (shapeL N).length + 1 = 2 * N.length := by
  have h1 := congrArg List.length h.bfs
  rw [List.length_cons] at h1
  unfold shapeL
  rw [shape_len]
  omega
theorem lab_get {N : List Str} {p : Nat} (h1 : 1 ≤ p) (h2 : p < N.length) : (labL N).getD (p - 1) 0 = (N.getD p []).getLastD 0 := by
  unfold labL
  simp only [List.getD_eq_getElem?_getD, List.getElem?_map, List.getElem?_drop]
  rw [show 1 + (p - 1) = p by omega, List.getElem?_eq_getElem h2]
  rfl
/-- Reading the shape. -/
def stp (cap : Bool) (lab : Str) (st : Option (List Str × Nat)) (b : Bool) : Option (List Str × Nat) :=
  match st with
  | none => none
  | some (out, a) => if out.length ≤ a then none else if b = false then some (out, a + 1) else if lab.length < out.length ∨ (cap = true ∧ (out.getD a []).length = 12) then none else some (out ++ [out.getD a [] ++ [lab.getD (out.length - 1) 0]], a)
def decT (cap : Bool) (lab : Str) (bits : List Bool) : Option (List Str × Nat) := bits.foldl (stp cap lab) (some ([[]], 0))
theorem stp_none {cap : Bool} {lab : Str} : ∀ bits : List Bool, bits.foldl (stp cap lab) none = none
  | [] => rfl
  | b :: bits => stp_none bits
theorem stp_grow {cap : Bool} {lab : Str} : ∀ {bits : List Bool} {out : List Str} {a : Nat} {P : List Str} {a' : Nat}, bits.foldl (stp cap lab) (some (out, a)) = some (P, a') → ∃ X, P = out ++ X
  | [], out, a, P, a', h => by
    injection h with h
    injection h with h1 h2
    exact ⟨[], by rw [h1]; simp⟩
  | b :: bits, out, a, P, a', h => by
    rw [List.foldl_cons] at h
    by_cases h1 : out.length ≤ a
    · rw [show stp cap lab (some (out, a)) b = none by simp [stp, h1], stp_none] at h
      cases h
    by_cases h2 : b = false
    · rw [show stp cap lab (some (out, a)) b = some (out, a + 1) by simp [stp, h1, h2]] at h
      exact stp_grow h
    by_cases h3 : lab.length < out.length ∨ (cap = true ∧ (out.getD a []).length = 12)
    · rw [show stp cap lab (some (out, a)) b = none by simp only [stp]; rw [if_neg h1, if_neg h2, if_pos h3], stp_none] at h
      cases h
    rw [show stp cap lab (some (out, a)) b = some (out ++ [out.getD a [] ++ [lab.getD (out.length - 1) 0]], a) by simp only [stp]; rw [if_neg h1, if_neg h2, if_neg h3]] at h
    obtain ⟨X, hX⟩ := stp_grow h
    exact ⟨_, by rw [hX, List.append_assoc]⟩
theorem stp_cap {lab : Str} : ∀ {bits : List Bool} {st : Option (List Str × Nat)} {x : List Str × Nat}, bits.foldl (stp true lab) st = some x → bits.foldl (stp false lab) st = some x
  | [], st, x, h => h
  | b :: bits, none, x, h => by rw [stp_none] at h; cases h
  | b :: bits, some (out, a), x, h => by
    rw [List.foldl_cons] at h ⊢
    have key : stp true lab (some (out, a)) b = none ∨ stp true lab (some (out, a)) b = stp false lab (some (out, a)) b := by
      simp only [stp]
      by_cases h1 : out.length ≤ a
      · left; rw [if_pos h1]
      rw [if_neg h1, if_neg h1]
      by_cases h2 : b = false
      · right; rw [if_pos h2, if_pos h2]
      rw [if_neg h2, if_neg h2]
      by_cases h3 : lab.length < out.length
      · left; rw [if_pos (.inl h3)]
      by_cases h4 : (out.getD a []).length = 12
      · left; rw [if_pos (.inr ⟨trivial, h4⟩)]
      · right
        rw [if_neg (fun h5 => h5.elim h3 fun h7 => h4 h7.2), if_neg (fun h5 => h5.elim h3 fun h7 => by cases h7.1)]
    rcases key with h1 | h1
    · rw [h1, stp_none] at h
      cases h
    · rw [h1] at h
      exact stp_cap h
theorem stp_uncap {lab : Str} : ∀ {bits : List Bool} {out : List Str} {a : Nat} {P : List Str} {a' : Nat}, bits.foldl (stp false lab) (some (out, a)) = some (P, a') → (∀ x ∈ P, x.length ≤ 12) → bits.foldl (stp true lab) (some (out, a)) = some (P, a')
  | [], out, a, P, a', h, _ => h
  | b :: bits, out, a, P, a', h, hP => by
    rw [List.foldl_cons] at h ⊢
    by_cases h1 : out.length ≤ a
    · rw [show stp false lab (some (out, a)) b = none by simp [stp, h1], stp_none] at h
      cases h
    by_cases h2 : b = false
    · rw [show stp false lab (some (out, a)) b = some (out, a + 1) by simp [stp, h1, h2]] at h
      rw [show stp true lab (some (out, a)) b = some (out, a + 1) by simp [stp, h1, h2]]
      exact stp_uncap h hP
    by_cases h3 : lab.length < out.length
    · rw [show stp false lab (some (out, a)) b = none by simp only [stp]; rw [if_neg h1, if_neg h2, if_pos (.inl h3)], stp_none] at h
      cases h
    have hf : stp false lab (some (out, a)) b = some (out ++ [out.getD a [] ++ [lab.getD (out.length - 1) 0]], a) := by
      simp only [stp]
      rw [if_neg h1, if_neg h2, if_neg (fun h5 => h5.elim h3 fun h7 => by cases h7.1)]
    rw [hf] at h
    obtain ⟨X, hX⟩ := stp_grow h
    have h4 : (out.getD a []).length ≠ 12 := fun h5 => by
      have := hP (out.getD a [] ++ [lab.getD (out.length - 1) 0]) (by rw [hX]; simp)
      rw [List.length_append, h5] at this
      simp at this
    rw [show stp true lab (some (out, a)) b = some (out ++ [out.getD a [] ++ [lab.getD (out.length - 1) 0]], a) by
      simp only [stp]
      rw [if_neg h1, if_neg h2, if_neg (fun h5 => h5.elim h3 fun h7 => h4 h7.2)]]
    exact stp_uncap h hP
theorem dec_rep {cap : Bool} {N F R : List Str} {k : Nat} {s : Str} (hk : k < F.length) (hF : F.getD k [] = s) (hl : ∀ x ∈ N, x.length ≤ 12) : ∀ {C2 C1 : List Str}, N = F ++ (C1 ++ C2) ++ R → (∀ c ∈ C2, chB s c = true) → (List.replicate C2.length true).foldl (stp cap (labL N)) (some (F ++ C1, k)) = some (F ++ (C1 ++ C2), k)
  | [], C1, _, _ => by simp
  | c :: C2, C1, hN, hc => by
    have hcs := hc c (by simp)
    have hcN : c ∈ N := by rw [hN]; simp
    have hcl := hl c hcN
    have hcl2 := (chB_iff.1 hcs).1
    have hlen : (F ++ C1).length + 1 ≤ N.length := by rw [hN]; simp; omega
    have hlab : (labL N).length = N.length - 1 := by simp [labL]
    have hp : N.getD (F ++ C1).length [] = c := by
      rw [hN, List.getD_eq_getElem?_getD]
      rw [show F ++ (C1 ++ c :: C2) ++ R = (F ++ C1) ++ (c :: (C2 ++ R)) by simp, List.getElem?_append_right (Nat.le_refl _)]
      simp
    have hg : (F ++ C1).getD k [] = s := by
      rw [← hF]
      simp only [List.getD_eq_getElem?_getD]
      rw [List.getElem?_append_left hk]
    have hF1 : (F ++ C1).length = F.length + C1.length := List.length_append
    have hst : stp cap (labL N) (some (F ++ C1, k)) true = some (F ++ (C1 ++ [c]), k) := by
      simp only [stp]
      rw [if_neg (by omega), if_neg (by simp), hg, if_neg (by omega), lab_get (by omega) (by omega), hp, ← chB_eq hcs]
      simp
    rw [List.length_cons, List.replicate_succ, List.foldl_cons, hst, dec_rep (R := R) hk hF hl (by rw [hN]; simp) fun x hx => hc x (by simp [hx])]
    simp
theorem dec_shape {N : List Str} (h : Tri N) (hl : ∀ x ∈ N, x.length ≤ 12) (cap : Bool) : decT cap (labL N) (shapeL N) = some (N, N.length) := by
  have key : ∀ k, k ≤ N.length → ((N.take k).flatMap (shC N)).foldl (stp cap (labL N)) (some ([[]], 0)) = some ([] :: (N.take k).flatMap (ch N), k) := by
    intro k
    induction k with
    | zero => intro _; rfl
    | succ k ih =>
      intro hk
      have hk2 : k < N.length := by omega
      have htk : N.take (k + 1) = N.take k ++ [N[k]] := by
        rw [List.take_add_one, List.getElem?_eq_getElem hk2, Option.toList_some]
      have hsp : N = ([] :: (N.take k).flatMap (ch N)) ++ ([] ++ ch N N[k]) ++ (N.drop (k + 1)).flatMap (ch N) := by
        conv => lhs; rw [h.bfs]
        have : N = N.take k ++ (N[k] :: N.drop (k + 1)) := by
          rw [List.getElem_cons_drop, List.take_append_drop]
        conv => lhs; arg 2; arg 2; rw [this]
        rw [List.flatMap_append, List.flatMap_cons]
        simp
      have hkF : k < ([] :: (N.take k).flatMap (ch N)).length := by
        rcases Nat.lt_or_ge k ([] :: (N.take k).flatMap (ch N)).length with h5 | h5
        · exact h5
        · exfalso
          generalize hF : [] :: (N.take k).flatMap (ch N) = F at hsp h5
          have hsp2 : N = F ++ (N.drop k).flatMap (ch N) := by
            conv => lhs; rw [hsp]
            rw [← List.getElem_cons_drop hk2, List.flatMap_cons]
            simp
          have hj : F.length < N.length := by omega
          have hm : N[F.length] ∈ (N.drop k).flatMap (ch N) := by
            have h7 : N[F.length]? = ((N.drop k).flatMap (ch N))[0]? := by
              conv => lhs; rw [hsp2]
              rw [List.getElem?_append_right (Nat.le_refl _)]
              simp
            rw [List.getElem?_eq_getElem hj] at h7
            exact List.mem_of_getElem? h7.symm
          obtain ⟨s, hs, hc⟩ := List.mem_flatMap.1 hm
          obtain ⟨i, hi, rfl⟩ := List.mem_iff_getElem.1 hs
          rw [List.length_drop] at hi
          rw [List.getElem_drop] at hc
          have hcl := (chB_iff.1 (ch_mem.1 hc).2).1
          rcases Nat.lt_or_ge F.length (k + i) with h8 | h8
          · rcases List.pairwise_iff_getElem.1 h.pw F.length (k + i) hj (by omega) h8 with h9 | h9 <;> omega
          · have : N[F.length] = N[k + i] := by congr 1; omega
            rw [this] at hcl
            omega
      have hFk : ([] :: (N.take k).flatMap (ch N)).getD k [] = N[k] := by
        have h5 : N[k]? = ([] :: (N.take k).flatMap (ch N))[k]? := by
          conv => lhs; rw [hsp]
          rw [List.append_assoc, List.getElem?_append_left hkF]
        rw [List.getD_eq_getElem?_getD, ← h5, List.getElem?_eq_getElem hk2]
        rfl
      have hrep := dec_rep (cap := cap) hkF hFk hl hsp fun c hc => (ch_mem.1 hc).2
      rw [htk, List.flatMap_append, List.flatMap_append, List.foldl_append, ih (by omega)]
      simp only [List.flatMap_cons, List.flatMap_nil, List.append_nil, shC]
      rw [List.foldl_append]
      simp only [List.append_nil, List.nil_append] at hrep
      rw [hrep]
      simp only [List.foldl_cons, List.foldl_nil, stp]
      have hlen2 : ¬ ([] :: (N.take k).flatMap (ch N) ++ ch N N[k]).length ≤ k := by rw [List.length_append]; omega
      rw [if_neg hlen2]
      simp
  have := key N.length (Nat.le_refl _)
  rw [List.take_length, ← h.bfs] at this
  exact this

def sameB (a b : Bt) : Bool := decide (a.size = b.size) && decide (lI a.words = lI b.words)

def atB (b : Bt) (i : Nat) : Bool := (numW (lI b.words)).testBit i
def btL (b : Bt) : List Bool := (List.range b.size.toNat).map (atB b)
def mdB (l : List Bool) : Bt := ⟨(l.length : Int), some (wordsN (bitN l l.length) ((l.length + 15) / 16))⟩
theorem bitN_lt {l : List Bool} {n : Nat} : bitN l n < 2 ^ n := by
  refine Nat.lt_pow_two_of_testBit _ fun i hi => ?_
  unfold bitN
  rw [mkN_bit]
  simp
  omega
theorem mdB_at {l : List Bool} {i : Nat} (hi : i < l.length) : atB (mdB l) i = l.getD i false := by
  unfold atB mdB
  show (numW (wordsN _ _)).testBit i = _
  rw [numW_wordsN (Nat.lt_of_lt_of_le bitN_lt (Nat.pow_le_pow_right (by decide) (by omega)))]
  unfold bitN
  rw [mkN_bit, decide_eq_true hi]
  simp
theorem btL_md {l : List Bool} : btL (mdB l) = l := by
  unfold btL
  refine List.ext_getElem (by simp [mdB]) fun i h1 h2 => ?_
  rw [List.getElem_map, List.getElem_range, mdB_at h2]
  simp [h2]
theorem sameB_iff {a b : Bt} : sameB a b = true ↔ a.size = b.size ∧ lI a.words = lI b.words := by simp [sameB]
theorem sameB_at {a b : Bt} (h : sameB a b = true) {i : Nat} : atB b i = atB a i := by
  obtain ⟨_, h2⟩ := sameB_iff.1 h
  unfold atB
  rw [h2]
theorem sameB_btL {a b : Bt} (h : sameB a b = true) : btL b = btL a := by
  obtain ⟨h1, h2⟩ := sameB_iff.1 h
  unfold btL atB
  rw [h1, h2]
structure Tr where
  sh : Bt
  en : Bt
  lab : Str
def tK (K : List Str) : Tr := ⟨mdB (shapeL (nodesK K)), mdB (endL K (nodesK K)), labL (nodesK K)⟩
def sameT (a b : Tr) : Bool := sameB a.sh b.sh && (sameB a.en b.en && decide (a.lab = b.lab))
theorem sameT_iff {a b : Tr} : sameT a b = true ↔ sameB a.sh b.sh = true ∧ sameB a.en b.en = true ∧ a.lab = b.lab := by simp [sameT]
def okT0 (t : Tr) : Bool := (okBt t.sh && okBt t.en) && (decide (t.sh.size = 2 * t.en.size - 1) && decide ((t.lab.length : Int) = t.en.size - 1))
theorem okT0_in {t : Tr} (h : okT0 t = true) : okBt t.sh = true ∧ okBt t.en = true ∧ t.sh.size = 2 * t.en.size - 1 ∧ (t.lab.length : Int) = t.en.size - 1 := by
  simp only [okT0, Bool.and_eq_true, decide_eq_true_eq] at h
  exact ⟨h.1.1, h.1.2, h.2.1, h.2.2⟩
/-- The nodes whose bit is on. -/
def endsTo (P : List Str) (g : Nat → Bool) (k : Nat) : List Str := ((List.range k).filter g).map fun i => P.getD i []
theorem endsTo_succ {P : List Str} {g : Nat → Bool} {k : Nat} : endsTo P g (k + 1) = if g k then endsTo P g k ++ [P.getD k []] else endsTo P g k := by
  unfold endsTo
  rw [List.range_succ, List.filter_append, List.map_append]
  cases h : g k <;> simp [h]
theorem endsTo_filter {P : List Str} {g : Nat → Bool} {p : Str → Bool} : ∀ k, k ≤ P.length → (∀ i, i < k → g i = p (P.getD i [])) → endsTo P g k = (P.take k).filter p
  | 0, _, _ => by simp [endsTo]
  | k + 1, hk, h => by
    have hgk : P.getD k [] = P[k] := by simp [show k < P.length by omega]
    rw [endsTo_succ, endsTo_filter k (by omega) fun i hi => h i (by omega), h k (by omega), List.take_add_one, List.getElem?_eq_getElem (by omega), List.filter_append, hgk]
    cases hp : p P[k] <;> simp [hp]
/-- Put into a sorted list. -/
def putS : List Str → Str → List Str
  | [], s => [s]
  | x :: l, s => if Op.bytesLess x s then x :: putS l s else if x = s then x :: l else s :: x :: l
theorem putS_mem {s x : Str} : ∀ {l : List Str}, x ∈ putS l s ↔ x ∈ l ∨ x = s
  | [] => by simp [putS]
  | y :: l => by
    unfold putS
    split
    · rw [List.mem_cons, putS_mem, List.mem_cons, or_assoc]
    · split
      · rename_i h
        subst h
        simp
        exact fun h => .inl h
      · simp only [List.mem_cons]
        constructor
        · rintro (h | h | h)
          · exact .inr h
          · exact .inl (.inl h)
          · exact .inl (.inr h)
        · rintro ((h | h) | h)
          · exact .inr (.inl h)
          · exact .inr (.inr h)
          · exact .inl h
theorem putS_pw {s : Str} : ∀ {l : List Str}, l.Pairwise slt → (putS l s).Pairwise slt
  | [], _ => by simp [putS]
  | y :: l, h => by
    have h0 := h
    rw [List.pairwise_cons] at h
    unfold putS
    split
    · rename_i h1
      refine List.pairwise_cons.2 ⟨fun x hx => ?_, putS_pw h.2⟩
      rcases putS_mem.1 hx with h5 | h5
      · exact h.1 x h5
      · rw [h5]; exact h1
    · rename_i h1
      split
      · exact h0
      · rename_i h2
        have hsy : slt s y := by
          rcases bl_tri y s with h5 | h5 | h5
          · exact absurd h5 h1
          · exact absurd h5 h2
          · exact h5
        refine List.pairwise_cons.2 ⟨fun x hx => ?_, h0⟩
        rcases List.mem_cons.1 hx with h5 | h5
        · rw [h5]; exact hsy
        · exact bl_trans hsy (h.1 x h5)
theorem putL_pw : ∀ {l a : List Str}, a.Pairwise slt → (l.foldl putS a).Pairwise slt
  | [], a, h => h
  | x :: l, a, h => putL_pw (l := l) (putS_pw h)
theorem putL_mem {x : Str} : ∀ {l a : List Str}, x ∈ l.foldl putS a ↔ x ∈ a ∨ x ∈ l
  | [], a => by simp
  | y :: l, a => by
    rw [List.foldl_cons, putL_mem, putS_mem, List.mem_cons, or_assoc]
theorem putS_len {s : Str} : ∀ {l : List Str}, (putS l s).length ≤ l.length + 1
  | [] => by simp [putS]
  | y :: l => by
    unfold putS
    have := putS_len (s := s) (l := l)
    split
    · simp; omega
    · split <;> simp
/-- Where a string is put. -/
theorem putS_at {s : Str} : ∀ {l : List Str} {i : Nat}, i ≤ l.length → (∀ j, j < i → Op.bytesLess (l.getD j []) s = true) → (i < l.length → Op.bytesLess (l.getD i []) s = false) → putS l s = if i < l.length ∧ l.getD i [] = s then l else l.take i ++ [s] ++ l.drop i
  | [], i, hi, _, _ => by
    have : i = 0 := by simpa using hi
    subst this
    rfl
  | y :: l, 0, _, _, h => by
    have h1 := h (by simp)
    simp only [List.getD_cons_zero] at h1
    unfold putS
    rw [if_neg (by rw [h1]; simp)]
    simp
  | y :: l, i + 1, hi, h, h2 => by
    have h1 := h 0 (by omega)
    simp only [List.getD_cons_zero] at h1
    unfold putS
    rw [if_pos h1, putS_at (i := i) (by simpa using hi) (fun j hj => by simpa using h (j + 1) (by omega)) (fun hl => by simpa using h2 (by simpa using hl))]
    simp only [List.length_cons, List.getD_cons_succ, List.take_succ_cons, List.drop_succ_cons]
    by_cases h5 : i < l.length ∧ l.getD i [] = s
    · rw [if_pos h5, if_pos ⟨by omega, h5.2⟩]
    · rw [if_neg h5, if_neg (fun h7 => h5 ⟨by omega, h7.2⟩)]
      simp
def trKs (P : List Str) (t : Tr) : List Str := (endsTo P (atB t.en) P.length).foldl putS []
/-- The keys of a trie. -/
def trV (t : Tr) : Option (List Str) := if okT0 t then match decT false t.lab (btL t.sh) with
    | some (P, _) => if (P.length : Int) = t.en.size then if okKeys (trKs P t) && sameT (tK (trKs P t)) t then some (trKs P t) else none else none
    | none => none
  else none
structure TrI (t : Tr) (K : List Str) : Prop where
  ok0 : okT0 t = true
  keys : okKeys K = true
  same : sameT (tK K) t = true
theorem trV_some {t : Tr} {K : List Str} (h : trV t = some K) : TrI t K := by
  unfold trV at h
  split at h
  · rename_i h0
    split at h
    · split at h
      · split at h
        · rename_i h1
          rw [Bool.and_eq_true] at h1
          injection h with h
          rw [h] at h1
          exact ⟨h0, h1.1, h1.2⟩
        · cases h
      · cases h
    · cases h
  · cases h
theorem TrI.lab {t : Tr} {K : List Str} (h : TrI t K) : t.lab = labL (nodesK K) := (sameT_iff.1 h.same).2.2.symm
theorem TrI.shape {t : Tr} {K : List Str} (h : TrI t K) : btL t.sh = shapeL (nodesK K) := by
  rw [sameB_btL (sameT_iff.1 h.same).1]
  exact btL_md
theorem TrI.size {t : Tr} {K : List Str} (h : TrI t K) : t.en.size = ((nodesK K).length : Int) := by
  rw [← (sameB_iff.1 (sameT_iff.1 h.same).2.1).1]
  show ((endL K (nodesK K)).length : Int) = _
  simp [endL]
theorem TrI.at_ {t : Tr} {K : List Str} (h : TrI t K) {i : Nat} (hi : i < (nodesK K).length) : atB t.en i = decide ((nodesK K).getD i [] ∈ K) := by
  rw [sameB_at (sameT_iff.1 h.same).2.1]
  show atB (mdB (endL K (nodesK K))) i = _
  rw [mdB_at (by simpa [endL] using hi)]
  simp [endL, hi]
theorem TrI.dec {t : Tr} {K : List Str} (h : TrI t K) (cap : Bool) : decT cap t.lab (btL t.sh) = some (nodesK K, (nodesK K).length) := by
  rw [h.lab, h.shape]
  exact dec_shape (nodesK_tri h.keys) (nodesK_len h.keys) cap
theorem key_node {K : List Str} (hK : okKeys K = true) {s : Str} (hs : s ∈ K) : s ∈ nodesK K := ((nodesK_ok hK).2 s).2 (.inr ⟨s, hs, by simp⟩)
theorem TrI.ends {t : Tr} {K : List Str} (h : TrI t K) : endsTo (nodesK K) (atB t.en) (nodesK K).length = (nodesK K).filter fun s => decide (s ∈ K) := by
  rw [endsTo_filter (p := fun s => decide (s ∈ K)) _ (Nat.le_refl _) fun i hi => h.at_ hi, List.take_length]
theorem ends_mem {K : List Str} (hK : okKeys K = true) {x : Str} : x ∈ (nodesK K).filter (fun s => decide (s ∈ K)) ↔ x ∈ K := by
  rw [List.mem_filter, decide_eq_true_eq]
  exact ⟨fun h => h.2, fun h => ⟨key_node hK h, h⟩⟩
theorem trV_of {t : Tr} {K : List Str} (h : TrI t K) : trV t = some K := by
  have hk : trKs (nodesK K) t = K := by
    unfold trKs
    rw [h.ends]
    refine pw_uniq slt_asym (putL_pw (by simp)) (okKeys_all h.keys).2.1 fun x => ?_
    rw [putL_mem]
    simp only [List.not_mem_nil, false_or]
    exact ends_mem h.keys
  unfold trV
  rw [if_pos h.ok0, h.dec false]
  simp only
  rw [if_pos h.size.symm, hk, h.keys, h.same]
  rfl
/-- What the other program reads, the ends sorted. -/
theorem trV_sort {t : Tr} {P : List Str} {a : Nat} (h0 : okT0 t = true) (hd : decT true t.lab (btL t.sh) = some (P, a)) {L : List Str} (hp : L.Perm (endsTo P (fun i => decide ((i : Int) < t.en.size) && atB t.en i) P.length)) (hs : L.Pairwise fun x y => Op.bytesLess y x = false) :
    trV t = if ((P.length : Int) = t.en.size ∧ okKeys L = true) ∧ sameT (tK L) t = true then some L else none := by
  by_cases hc : ((P.length : Int) = t.en.size ∧ okKeys L = true) ∧ sameT (tK L) t = true
  · rw [if_pos hc]
    exact trV_of ⟨h0, hc.1.2, hc.2⟩
  · rw [if_neg hc]
    cases hv : trV t with
    | none => rfl
    | some K =>
      exfalso
      have h := trV_some hv
      have h1 := h.dec true
      rw [hd] at h1
      injection h1 with h1
      injection h1 with h1 h2
      have hsz := h.size
      rw [← h1] at hsz
      have he : endsTo P (fun i => decide ((i : Int) < t.en.size) && atB t.en i) P.length = (nodesK K).filter fun s => decide (s ∈ K) := by
        rw [← h.ends, h1]
        unfold endsTo
        congr 1
        refine List.filter_congr fun i hi => ?_
        have := List.mem_range.1 hi
        rw [← h1] at this
        rw [decide_eq_true (by omega)]
        rfl
      rw [he] at hp
      have hnd : L.Nodup := (hp.nodup_iff).2 ((pw_nodup nlt_irr (nodesK_ok h.keys).1).filter _)
      have hL : L = K := by
        refine pw_uniq slt_asym (List.Pairwise.imp₂ (fun x y h5 h7 => ?_) hs hnd) (okKeys_all h.keys).2.1 fun x => (hp.mem_iff).trans (ends_mem h.keys)
        rcases bl_tri x y with h8 | h8 | h8
        · exact h8
        · exact absurd h8 h7
        · rw [h8] at h5
          cases h5
      rw [hL] at hc
      exact hc ⟨⟨hsz.symm, h.keys⟩, h.same⟩
theorem trV_bad {t : Tr} (h : okT0 t = false) : trV t = none := by
  unfold trV
  rw [h]
  rfl
theorem trV_none {t : Tr} (h : decT true t.lab (btL t.sh) = none) : trV t = none := by
  cases hv : trV t with
  | none => rfl
  | some K =>
    have := (trV_some hv).dec true
    rw [h] at this
    cases this

def compD (l : List Str) : List Str := ((List.range l.length).filter fun j => decide (j = 0) || decide (l.getD (j - 1) [] ≠ l.getD j [])).map fun j => l.getD j []
theorem compD_mem {l : List Str} {x : Str} : x ∈ compD l ↔ x ∈ l := by
  unfold compD
  rw [List.mem_map]
  constructor
  · rintro ⟨j, hj, rfl⟩
    have h1 := List.mem_range.1 (List.mem_filter.1 hj).1
    simp [h1]
  · intro hx
    have hl := List.idxOf_lt_length_of_mem hx
    have hg : l[l.idxOf x] = x := List.getElem_idxOf hl
    have hgd : l.getD (l.idxOf x) [] = x := by rw [List.getD_eq_getElem?_getD, List.getElem?_eq_getElem hl, hg]; rfl
    refine ⟨l.idxOf x, List.mem_filter.2 ⟨List.mem_range.2 hl, ?_⟩, hgd⟩
    rw [hgd]
    rcases Nat.eq_zero_or_pos (l.idxOf x) with h0 | h0
    · rw [h0]
      rfl
    · have : l.getD (l.idxOf x - 1) [] ≠ x := fun h5 => by
        have h6 : l.idxOf x - 1 < l.length := by omega
        rw [List.getD_eq_getElem?_getD, List.getElem?_eq_getElem h6] at h5
        simp only [Option.getD_some] at h5
        have h7 : l = l.take (l.idxOf x - 1) ++ x :: l.drop (l.idxOf x - 1 + 1) := by
          conv => lhs; rw [← List.take_append_drop (l.idxOf x - 1) l, List.drop_eq_getElem_cons h6, h5]
        have h8 : l.idxOf x ≤ l.idxOf x - 1 := by
          have : (l.take (l.idxOf x - 1) ++ x :: l.drop (l.idxOf x - 1 + 1)).idxOf x ≤ l.idxOf x - 1 := by
            generalize l.idxOf x - 1 = k at h6 ⊢
            rw [List.idxOf_append]
            split
            · rename_i h7
              have := List.idxOf_lt_length_of_mem h7
              rw [List.length_take] at this
              omega
            · rw [List.idxOf_cons_self, List.length_take]
              omega
          rw [← h7] at this
          exact this
        omega
      rw [decide_eq_true this, Bool.or_true]
theorem compD_pw {l : List Str} (h : l.Pairwise fun x y => ¬ nlt y x) : (compD l).Pairwise nlt := by
  unfold compD
  rw [List.pairwise_map, List.pairwise_filter]
  refine List.Pairwise.imp_of_mem ?_ List.pairwise_lt_range
  intro i j hi hj hij _ hk
  have hi2 := List.mem_range.1 hi
  have hj2 := List.mem_range.1 hj
  have gd : ∀ {k : Nat} (hk : k < l.length), l.getD k [] = l[k] := fun hk => by simp [hk]
  rw [Bool.or_eq_true, decide_eq_true_eq, decide_eq_true_eq, gd hj2, gd (show j - 1 < l.length by omega)] at hk
  rw [gd hi2, gd hj2]
  have hp := List.pairwise_iff_getElem.1 h
  have h1 := hp i j hi2 hj2 hij
  rcases nlt_tri l[i] l[j] with h5 | h5 | h5
  · exact h5
  · exfalso
    rcases hk with h7 | h7
    · omega
    rcases Nat.lt_or_ge i (j - 1) with h8 | h8
    · have a := hp i (j - 1) hi2 (by omega) h8
      have b := hp (j - 1) j (by omega) hj2 (by omega)
      rw [← h5] at b h7
      rcases nlt_tri l[i] l[j - 1] with h9 | h9 | h9
      · exact b h9
      · exact h7 h9.symm
      · exact a h9
    · have : j - 1 = i := by omega
      apply h7
      rw [← h5]
      congr 1
  · exact absurd h5 h1
/-- The nodes, sorted and each once. -/
theorem nodes_comp {K l : List Str} (hK : okKeys K = true) (hp : l.Pairwise fun x y => ¬ nlt y x) (hm : ∀ x, x ∈ l ↔ x = [] ∨ ∃ s ∈ K, x = s.take x.length) : compD l = nodesK K :=
  pw_uniq nlt_asym (compD_pw hp) (nodesK_ok hK).1 fun x => compD_mem.trans ((hm x).trans ((nodesK_ok hK).2 x).symm)
/-- Shorter ones first, then by their bytes. -/
def nCmp (a b : Str) : Int := if a.length < b.length then -1 else if b.length < a.length then 1 else if Op.bytesLess a b then -1 else if a = b then 0 else 1
theorem nCmp_neg {a b : Str} : nCmp a b < 0 ↔ nlt a b := by
  unfold nCmp nlt
  split
  · rename_i h
    simp [h]
  · rename_i h
    split
    · rename_i h2
      simp
      constructor
      · omega
      · intro h3; omega
    · rename_i h2
      have e : a.length = b.length := by omega
      split
      · rename_i h3
        simp [e, h3]
      · rename_i h3
        split <;> simp [e, h3]

theorem cmpB_eq : ∀ (a b : Str), Lib.compareBytes a b = if Op.bytesLess a b then -1 else if a = b then 0 else 1
  | [], [] => rfl
  | [], _ :: _ => by simp [Lib.compareBytes, Op.bytesLess]
  | _ :: _, [] => by simp [Lib.compareBytes, Op.bytesLess]
  | x :: a, y :: b => by
    unfold Lib.compareBytes
    rw [cmpB_eq a b, bl_cons]
    by_cases h1 : x < y
    · simp [h1]
    · by_cases h2 : y < x
      · have hne : x ≠ y := fun h => by subst h; exact h1 h2
        simp [h1, h2, hne]
      · have he : x = y := UInt8.le_antisymm (UInt8.not_lt.1 h2) (UInt8.not_lt.1 h1)
        subst he
        simp [h1]
theorem cmpB_two {a b : Str} : -1 ≤ Lib.compareBytes a b ∧ Lib.compareBytes a b ≤ 1 := by
  rw [cmpB_eq]
  split
  · omega
  · split <;> omega
def cmpI (a b : Int) : Int := if a < b then -1 else if b < a then 1 else 0
theorem nCmp_or {a b : Str} : nCmp a b = if cmpI a.length b.length ≠ 0 then cmpI a.length b.length else Lib.compareBytes a b := by
  unfold nCmp cmpI
  rw [cmpB_eq]
  by_cases h1 : a.length < b.length
  · have : (a.length : Int) < b.length := by omega
    simp [h1, this]
  · have h1' : ¬ (a.length : Int) < b.length := by omega
    by_cases h2 : b.length < a.length
    · have : (b.length : Int) < a.length := by omega
      simp [h1, h1', h2, this]
    · have h2' : ¬ (b.length : Int) < a.length := by omega
      simp [h1, h1', h2, h2']

theorem c_cmp_Compare_int (a b : Int) : Fn Tryz.prog 107 [.int .i64 a, .int .i64 b] (· = .int .i64 (cmpI a b)) := by
  refine Fn.of free_int fun h => ?_
  refine enter (by kernel_rfl) e107 (by kernel_rfl) rfl fun hok => ?_
  simp only [r107, initEnv_2]
  (try (simp (disch := first | omega | (simp <;> omega) | fail) only [push_cast, ↓reduceIte, Nat.reduceEqDiff, Nat.reduceAdd, Nat.reduceMul, Nat.reduceSub, Nat.reduceLT, Int.reduceToNat]))
  refine (c_cmp_isNaN_int a).call ?_
  (try (simp (disch := first | omega | (simp <;> omega) | fail) only [push_cast, ↓reduceIte, Nat.reduceEqDiff, Nat.reduceAdd, Nat.reduceMul, Nat.reduceSub, Nat.reduceLT, Int.reduceToNat]))
  refine (c_cmp_isNaN_int b).call ?_
  unfold cmpI
  by_cases h1 : a < b
  · rw [if_pos h1]
    (try (simp (disch := first | omega | (simp <;> omega) | fail) only [push_cast, ↓reduceIte, Nat.reduceEqDiff, Nat.reduceAdd, Nat.reduceMul, Nat.reduceSub, Nat.reduceLT, Int.reduceToNat, h1]))
  · rw [if_neg h1]
    by_cases h2 : b < a
    · rw [if_pos h2]
      (try (simp (disch := first | omega | (simp <;> omega) | fail) only [push_cast, ↓reduceIte, Nat.reduceEqDiff, Nat.reduceAdd, Nat.reduceMul, Nat.reduceSub, Nat.reduceLT, Int.reduceToNat, h1, h2]))
    · rw [if_neg h2]
      (try (simp (disch := first | omega | (simp <;> omega) | fail) only [push_cast, ↓reduceIte, Nat.reduceEqDiff, Nat.reduceAdd, Nat.reduceMul, Nat.reduceSub, Nat.reduceLT, Int.reduceToNat, h1, h2]))

theorem c_strings_Compare (a b : Str) : Fn Tryz.prog 108 [.str a, .str b] (· = .int .i64 (Lib.compareBytes a b)) :=
  Fn.ofGrow (canEnter_of Tryz.func108 (by kernel_rfl) (by kernel_rfl)) fun S w μ cargs hg ha => by
    obtain ⟨v, u, rfl, hv, hu⟩ := ar_2 ha
    rw [hv.str_, hu.str_]
    have hc := Tryz.strings_Compare ⟨a.toArray⟩ ⟨b.toArray⟩ w
    have h2 := cmpB_two (a := a) (b := b)
    refine ⟨_, fun S w μ => .int .i64 _, hc.mono ?_⟩
    rintro e w' ⟨rfl, rfl⟩
    exact ⟨rfl, 0, #[], (Sort.grow_empty _).symm⟩

theorem c_cmp_Or_int (a b : Int) : Fn Tryz.prog 106 [eI (some [a, b])] (· = .int .i64 (if a ≠ 0 then a else b)) := by
  refine Fn.of free_int fun h => ?_
  refine enter (by kernel_rfl) e106 (by kernel_rfl) rfl fun hok => ?_
  simp only [r106, initEnv_1]
  have hl : (lI (some [a, b])).length = 2 := rfl
  have hlI : lI (some [a, b]) = [a, b] := rfl
  have h0 : (([a, b] : List Int).map (AV.int .i64))[0]? = some (.int .i64 a) := rfl
  have h1 : (([a, b] : List Int).map (AV.int .i64))[1]? = some (.int .i64 b) := rfl
  (try (simp (disch := first | omega | (simp <;> omega) | fail) only [push_cast, ↓reduceIte, Nat.reduceEqDiff, Nat.reduceAdd, Nat.reduceMul, Nat.reduceSub, Nat.reduceLT, Int.reduceToNat]))
  refine T_for 2 (fun i e h' => Pins e [(3, .int .i64 0), (6, eI (some [a, b])), (7, .int .i64 2), (8, .int .i64 i)] ∧ h' = h ∧ (1 ≤ i → a = 0) ∧ (2 ≤ i → b = 0)) ?_ ?_
  · (try (simp (disch := first | omega | (simp <;> omega) | fail) only [push_cast, ↓reduceIte, Nat.reduceEqDiff, Nat.reduceAdd, Nat.reduceMul, Nat.reduceSub, Nat.reduceLT, Int.reduceToNat, hl]))
    all_goals (try omega)
  rintro i e h' hi ⟨hp, rfl, ha, hb⟩
  refine T_pins hp fun e => ?_
  (try (simp (disch := first | omega | (simp <;> omega) | fail) only [push_cast, ↓reduceIte, Nat.reduceEqDiff, Nat.reduceAdd, Nat.reduceMul, Nat.reduceSub, Nat.reduceLT, Int.reduceToNat]))
  first | refine goC_split (fun hc => ?_) (fun hc => ?_) | refine cnd_split (fun hc => ?_) (fun hc => ?_)
  · (try (simp only [decide_eq_true_eq, decide_eq_false_iff_not, Bool.not_eq_true', Bool.not_eq_false', Bool.and_eq_true, Bool.or_eq_true, Int.not_lt, Int.not_le] at hc)); (try (simp (disch := first | omega | (simp <;> omega) | fail) only [push_cast, ↓reduceIte, Nat.reduceEqDiff, Nat.reduceAdd, Nat.reduceMul, Nat.reduceSub, Nat.reduceLT, Int.reduceToNat]))
    rcases (by omega : i = 0 ∨ i = 1) with rfl | rfl
    · by_cases hx : a = 0
      · subst hx
        (try (simp (disch := first | omega | (simp <;> omega) | fail) only [push_cast, ↓reduceIte, Nat.reduceEqDiff, Nat.reduceAdd, Nat.reduceMul, Nat.reduceSub, Nat.reduceLT, Int.reduceToNat, hlI, h0]))
        all_goals (try exact ⟨fun _ => trivial, fun h => by omega⟩)
      · rw [if_pos hx]
        (try (simp (disch := first | omega | (simp <;> omega) | fail) only [push_cast, ↓reduceIte, Nat.reduceEqDiff, Nat.reduceAdd, Nat.reduceMul, Nat.reduceSub, Nat.reduceLT, Int.reduceToNat, hlI, h0, hx]))
    · have ha0 := ha (Nat.le_refl _)
      subst ha0
      rw [if_neg (by simp)]
      by_cases hx : b = 0
      · subst hx
        (try (simp (disch := first | omega | (simp <;> omega) | fail) only [push_cast, ↓reduceIte, Nat.reduceEqDiff, Nat.reduceAdd, Nat.reduceMul, Nat.reduceSub, Nat.reduceLT, Int.reduceToNat, hlI, h1]))
        all_goals (try exact fun _ => trivial)
      · (try (simp (disch := first | omega | (simp <;> omega) | fail) only [push_cast, ↓reduceIte, Nat.reduceEqDiff, Nat.reduceAdd, Nat.reduceMul, Nat.reduceSub, Nat.reduceLT, Int.reduceToNat, hlI, h1, hx]))
  · (try (simp only [decide_eq_true_eq, decide_eq_false_iff_not, Bool.not_eq_true', Bool.not_eq_false', Bool.and_eq_true, Bool.or_eq_true, Int.not_lt, Int.not_le] at hc)); (try (simp (disch := first | omega | (simp <;> omega) | fail) only [push_cast, ↓reduceIte, Nat.reduceEqDiff, Nat.reduceAdd, Nat.reduceMul, Nat.reduceSub, Nat.reduceLT, Int.reduceToNat]))

theorem c_impl_nodesFor1 (a b : Str) (hok0 : a.length ≤ 9223372036854775807) (hok1 : b.length ≤ 9223372036854775807) : Fn Tryz.prog 105 [.str a, .str b] (· = .int .i64 (nCmp a b)) := by
  refine Fn.of free_int fun h => ?_
  refine enter (by kernel_rfl) e105 (by kernel_rfl) rfl fun hok => ?_
  simp only [r105, initEnv_2]
  rw [nCmp_or]
  (try (simp (disch := first | omega | (simp <;> omega) | fail) only [push_cast, ↓reduceIte, Nat.reduceEqDiff, Nat.reduceAdd, Nat.reduceMul, Nat.reduceSub, Nat.reduceLT, Int.reduceToNat]))
  refine (c_cmp_Compare_int a.length b.length).call ?_
  generalize cmpI a.length b.length = x
  (try (simp (disch := first | omega | (simp <;> omega) | fail) only [push_cast, ↓reduceIte, Nat.reduceEqDiff, Nat.reduceAdd, Nat.reduceMul, Nat.reduceSub, Nat.reduceLT, Int.reduceToNat]))
  refine (c_strings_Compare a b).call ?_
  generalize Lib.compareBytes a b = y
  (try (simp (disch := first | omega | (simp <;> omega) | fail) only [push_cast, ↓reduceIte, Nat.reduceEqDiff, Nat.reduceAdd, Nat.reduceMul, Nat.reduceSub, Nat.reduceLT, Int.reduceToNat]))
  refine ⟨rfl, ?_⟩
  refine (c_cmp_Or_int x y).lendL (.cons (vw_all (len := 2) (kc := 2) (cs := [.int .i64 x, .int .i64 y]) (Nat.zero_le _) (by rw [cells_h0]; rfl) rfl rfl (free_cons_ free_int (free_cons_ free_int free_nil_))) .nil) own_int ?_
  (try (simp (disch := first | omega | (simp <;> omega) | fail) only [push_cast, ↓reduceIte, Nat.reduceEqDiff, Nat.reduceAdd, Nat.reduceMul, Nat.reduceSub, Nat.reduceLT, Int.reduceToNat]))

end Go.Proofs.YtakjemikampncaaGreatDoor.M
