/-
  What the functions return.
-/
import Derived.Test.YtjfgmimgmapeeaaGreatFzw
import Derived.Test.YtjfgmimgmapeeaaGreatCzu
namespace Go.Proofs.YtjfgmimgmapeeaaGreat.M
open Go Go.RowKit
set_option linter.unusedVariables false
set_option linter.unusedSimpArgs false
set_option maxRecDepth 4000

/-! ### what elimination keeps: each row is a sum of lines, the refusal is a sum of rows -/
def Rep (n : Nat) (L : List Nat) (e : Nat) : Prop := ∃ v, Sp L v ∧ ∀ j, j ≤ n → e.testBit j = v.testBit j
structure Elim (n : Nat) (es : List Nat) (p : List Nat × Nat) : Prop where
  rep : p.2 = 0 → ∀ e ∈ es, Rep n p.1 e
  sub : ∀ l ∈ p.1, Sp es l
  ref : p.2 ≠ 0 → Sp es p.2 ∧ (∀ j, j < n → p.2.testBit j = false) ∧ p.2.testBit n = true
theorem Elim.nil {n : Nat} : Elim n [] ([], 0) := ⟨fun _ e h => (by cases h), fun l h => (by cases h), fun h => absurd rfl h⟩
theorem Elim.step {n e : Nat} {es : List Nat} {p : List Nat × Nat} (h : Elim n es p) : Elim n (es ++ [e]) (M.stepS n p e) := by
  obtain ⟨L, R⟩ := p
  obtain ⟨u, hu, hr⟩ := redS_span (n := n) (L := L) (x := e)
  have hue : Sp (es ++ [e]) (redS n L e) := by
    rw [hr]
    exact (Sp.mem (List.mem_append_right _ (by simp))).xor (hu.sub fun l hl => (h.sub l hl).app)
  have hex : e = u ^^^ redS n L e := by
    rw [hr, Nat.xor_comm e u, ← Nat.xor_assoc, Nat.xor_self, Nat.zero_xor]
  by_cases h1 : lead n (redS n L e) < n
  · have hs : M.stepS n (L, R) e = (L ++ [redS n L e], R) := by
      unfold M.stepS
      rw [if_pos h1]
    rw [hs]
    refine ⟨fun h0 x hx => ?_, fun l hl => ?_, fun h0 => ?_⟩
    · rcases List.mem_append.1 hx with hx | hx
      · obtain ⟨v, hv, hb⟩ := h.rep h0 x hx
        exact ⟨v, hv.app, hb⟩
      · rw [List.mem_singleton] at hx
        subst hx
        refine ⟨x, ?_, fun _ _ => rfl⟩
        have hsp : Sp (L ++ [redS n L x]) (u ^^^ redS n L x) := hu.app.xor (Sp.mem (List.mem_append_right _ (by simp)))
        rw [hex.symm] at hsp
        exact hsp
    · rcases List.mem_append.1 hl with hl | hl
      · exact (h.sub l hl).app
      · rw [List.mem_singleton] at hl
        subst hl
        exact hue
    · obtain ⟨r1, r2, r3⟩ := h.ref h0
      exact ⟨r1.app, r2, r3⟩
  · have hl : lead n (redS n L e) = n := Nat.le_antisymm lead_le (by omega)
    by_cases h2 : (redS n L e).testBit n = true ∧ R = 0
    · have hs : M.stepS n (L, R) e = (L, redS n L e) := by
        unfold M.stepS
        rw [if_neg h1, if_pos h2]
      rw [hs]
      have hne : redS n L e ≠ 0 := fun h5 => by
        rw [h5] at h2
        simp at h2
      exact ⟨fun h0 => absurd h0 hne, fun l hl => (h.sub l hl).app, fun _ => ⟨hue, fun j hj => lead_none hl hj, h2.1⟩⟩
    · have hs : M.stepS n (L, R) e = (L, R) := by
        unfold M.stepS
        rw [if_neg h1, if_neg h2]
      rw [hs]
      refine ⟨fun h0 x hx => ?_, fun l hl => (h.sub l hl).app, fun h0 => ?_⟩
      · rcases List.mem_append.1 hx with hx | hx
        · exact h.rep h0 x hx
        · rw [List.mem_singleton] at hx
          subst hx
          have hb : (redS n L x).testBit n = false := by
            cases hh : (redS n L x).testBit n
            · rfl
            · exact absurd ⟨hh, h0⟩ h2
          refine ⟨u, hu, fun j hj => ?_⟩
          have hz : (redS n L x).testBit j = false := by
            by_cases hjn : j = n
            · rw [hjn]
              exact hb
            · exact lead_none hl (by omega)
          have := congrArg (fun y => Nat.testBit y j) hex
          simp only [Nat.testBit_xor, hz, Bool.xor_false] at this
          exact this
      · obtain ⟨r1, r2, r3⟩ := h.ref h0
        exact ⟨r1.app, r2, r3⟩
theorem elim_fold {n : Nat} : ∀ {fs es : List Nat} {p : List Nat × Nat}, Elim n es p → Elim n (es ++ fs) (fs.foldl (M.stepS n) p)
  | [], es, p, h => by simpa using h
  | f :: fs, es, p, h => by
    have := elim_fold (fs := fs) (h.step (e := f))
    rwa [List.append_assoc] at this
def rowsE (s : Sy) : List Nat := (List.range (lB s.rows).length).map (rowE s (nSy s))
theorem elim_s (s : Sy) : Elim (nSy s) (rowsE s) (linS s, refN s) := by
  have := elim_fold (n := nSy s) (fs := rowsE s) Elim.nil
  rw [List.nil_append] at this
  exact this
theorem rowE_low {s : Sy} {m : Nat} (ho : OkE s (nSy s) m) {i : Nat} (hi : i < (lB s.rows).length) {j : Nat} (hj : j < nSy s) : (rowE s (nSy s) i).testBit j = (rowB s i).testBit j := by
  have := congrArg (fun y => Nat.testBit y j) (rowE_row (n := nSy s) (ho.lt i hi))
  simpa [hj] using this
/-- What a sum of rows says of a vector: whether it meets it oddly, and the right side. -/
def SatS (s : Sy) (x : Nat) : Prop := ∀ i, i < (lB s.rows).length → oddN (rowB s i) x (nSy s) = (lO s.right).getD i false
theorem satS_rows {s : Sy} {m : Nat} (ho : OkE s (nSy s) m) {x : Nat} (hx : SatS s x) : ∀ e ∈ rowsE s, oddN e x (nSy s) = rgt true (nSy s) e := by
  intro e he
  obtain ⟨i, hi, rfl⟩ := List.mem_map.1 he
  rw [List.mem_range] at hi
  have h1 : oddN (rowE s (nSy s) i) x (nSy s) = oddN (rowB s i) x (nSy s) := oddN_congr fun j hj => by rw [rowE_low ho hi hj]
  rw [h1, hx i hi]
  unfold rgt
  rw [rowE_right (ho.lt i hi)]
  rfl
/-- A solution that is told solves. -/
theorem sol_sat {s : Sy} {m : Nat} (ho : OkE s (nSy s) m) (h0 : refN s = 0) : SatS s (solN s) := by
  intro i hi
  have hE := elim_s s
  obtain ⟨v, hv, hb⟩ := hE.rep h0 (rowE s (nSy s) i) (List.mem_map.2 ⟨i, List.mem_range.2 hi, rfl⟩)
  have hl : ∀ l ∈ linS s, oddN l (solN s) (nSy s) = rgt true (nSy s) l := fun l hl =>
    fillS_sat (lin_sim s).es (fun l _ => by simp) (Nat.le_refl _) l hl (by omega)
  have h1 := Sp.sat hl hv
  have h2 : oddN (rowB s i) (solN s) (nSy s) = oddN v (solN s) (nSy s) := oddN_congr fun j hj => by
    rw [← rowE_low ho hi hj, hb j (by omega)]
  rw [h2, h1]
  unfold rgt
  rw [← hb (nSy s) (Nat.le_refl _), rowE_right (ho.lt i hi)]
  rfl
/-- What is solved is not refused. -/
theorem sat_ref {s : Sy} {m : Nat} (ho : OkE s (nSy s) m) {x : Nat} (hx : SatS s x) : refN s = 0 := by
  by_cases h0 : refN s = 0
  · exact h0
  · obtain ⟨h1, h2, h3⟩ := (elim_s s).ref h0
    have h4 := Sp.sat (satS_rows ho hx) h1
    have h5 : oddN (refN s) x (nSy s) = false := oddN_none fun j hj => by
      have : (refN s).testBit j = false := h2 j hj
      rw [this, Bool.false_and]
    rw [h5] at h4
    unfold rgt at h4
    have h3' : (refN s).testBit (nSy s) = true := h3
    rw [h3'] at h4
    cases h4
/-! ### the rows that a sum is made of -/
def sumM (f : Nat → Nat) (M : Nat) : Nat → Nat
  | 0 => 0
  | w + 1 => sumM f M w ^^^ (if M.testBit w then f w else 0)
def sumQ (f : Nat → Bool) (M : Nat) : Nat → Bool
  | 0 => false
  | w + 1 => (sumQ f M w) != (M.testBit w && f w)
theorem sumM_flip {f : Nat → Nat} {M i : Nat} : ∀ {w : Nat}, sumM f (M ^^^ 2 ^ i) w = sumM f M w ^^^ (if i < w then f i else 0)
  | 0 => by simp [sumM]
  | w + 1 => by
    rw [sumM, sumM, sumM_flip, Nat.testBit_xor, Nat.testBit_two_pow]
    refine Nat.eq_of_testBit_eq fun j => ?_
    simp only [Nat.testBit_xor]
    by_cases h1 : i = w
    · subst h1
      cases M.testBit i <;> simp
    · by_cases h2 : i < w
      · have h3 : i < w + 1 := by omega
        cases M.testBit w <;> simp [h1, h2, h3]
        cases (f w).testBit j <;> cases (f i).testBit j <;> cases (sumM f M w).testBit j <;> rfl
      · have h3 : ¬ i < w + 1 := by omega
        cases M.testBit w <;> simp [h1, h2, h3]
theorem sumQ_flip {f : Nat → Bool} {M i : Nat} : ∀ {w : Nat}, sumQ f (M ^^^ 2 ^ i) w = (sumQ f M w != (decide (i < w) && f i))
  | 0 => by simp [sumQ]
  | w + 1 => by
    rw [sumQ, sumQ, sumQ_flip, Nat.testBit_xor, Nat.testBit_two_pow]
    by_cases h1 : i = w
    · subst h1
      have : decide (i < i) = false := by simp
      rw [this]
      cases M.testBit i <;> cases f i <;> cases sumQ f M i <;> simp
    · by_cases h2 : i < w
      · have h3 : i < w + 1 := by omega
        cases M.testBit w <;> cases f i <;> cases f w <;> cases sumQ f M w <;> simp [h1, h2, h3]
      · have h3 : ¬ i < w + 1 := by omega
        cases M.testBit w <;> cases f i <;> cases f w <;> cases sumQ f M w <;> simp [h1, h2, h3]
theorem setL_fold {β : Type} {g : β → Nat → β} {M : Nat} {b : β} : (setL M).foldl (fun r i => g r i.toNat) b = (List.range 64).foldl (fun r i => if M.testBit i then g r i else r) b := by
  unfold setL
  rw [List.foldl_map, List.foldl_filter]
  congr 1
theorem sumB_set {s : Sy} {M : Nat} : sumB s (setL M) = sumM (rowB s) M 64 := by
  have key : ∀ w, (List.range w).foldl (fun r i => if M.testBit i then r ^^^ rowB s i else r) 0 = sumM (rowB s) M w := by
    intro w
    induction w with
    | zero => rfl
    | succ w ih =>
      rw [List.range_succ, List.foldl_append, ih]
      simp only [List.foldl_cons, List.foldl_nil, sumM]
      cases M.testBit w <;> simp
  unfold sumB
  rw [setL_fold (g := fun r i => r ^^^ rowB s i), key]
theorem sumR_set {s : Sy} {M : Nat} : sumR s (setL M) = sumQ (fun i => (lO s.right).getD i false) M 64 := by
  have key : ∀ w, (List.range w).foldl (fun r i => if M.testBit i then r != (lO s.right).getD i false else r) false = sumQ (fun i => (lO s.right).getD i false) M w := by
    intro w
    induction w with
    | zero => rfl
    | succ w ih =>
      rw [List.range_succ, List.foldl_append, ih]
      simp only [List.foldl_cons, List.foldl_nil, sumQ]
      cases M.testBit w <;> simp
  unfold sumR
  rw [setL_fold (g := fun r i => r != (lO s.right).getD i false), key]
/-- A sum of rows tells in its high bits which rows it is made of. -/
theorem sp_sum {s : Sy} {m : Nat} (ho : OkE s (nSy s) m) {X : Nat} (hX : Sp (rowsE s) X) : (∀ j, j < nSy s → X.testBit j = (sumB s (setL (ofN (nSy s) X))).testBit j) ∧ X.testBit (nSy s) = sumR s (setL (ofN (nSy s) X)) ∧ ∀ i, (lB s.rows).length ≤ i → (ofN (nSy s) X).testBit i = false := by
  have hnr := ho.nr
  induction hX with
  | zero =>
    have h0 : ofN (nSy s) 0 = 0 := by simp [ofN]
    rw [h0, sumB_set, sumR_set]
    have hz : ∀ w, sumM (rowB s) 0 w = 0 := fun w => by
      induction w with
      | zero => rfl
      | succ w ih => simp [sumM, ih]
    have hz2 : ∀ w, sumQ (fun i => (lO s.right).getD i false) 0 w = false := fun w => by
      induction w with
      | zero => rfl
      | succ w ih =>
        rw [sumQ, ih]
        simp
    rw [hz, hz2]
    simp
  | @add v x hv hx ih =>
    obtain ⟨i, hi, rfl⟩ := List.mem_map.1 hx
    rw [List.mem_range] at hi
    obtain ⟨i1, i2, i3⟩ := ih
    have hof : ofN (nSy s) (v ^^^ rowE s (nSy s) i) = ofN (nSy s) v ^^^ 2 ^ i := by
      have := rowE_of (n := nSy s) (ho.lt i hi)
      unfold ofN at this ⊢
      rw [Nat.shiftRight_xor_distrib, this]
    rw [hof, sumB_set, sumR_set, sumM_flip, sumQ_flip, ← sumB_set, ← sumR_set]
    refine ⟨fun j hj => ?_, ?_, fun k hk => ?_⟩
    · rw [Nat.testBit_xor, Nat.testBit_xor, i1 j hj, rowE_low ho hi hj, if_pos (by omega)]
    · rw [Nat.testBit_xor, i2, rowE_right (ho.lt i hi), decide_eq_true (by omega : i < 64), Bool.true_and]
    · rw [Nat.testBit_xor, i3 k hk, Nat.testBit_two_pow]
      have : i ≠ k := by omega
      simp [this]
/-- A refusal that is told refuses. -/
theorem ref_sum {s : Sy} {m : Nat} (ho : OkE s (nSy s) m) (h0 : refN s ≠ 0) : refSum s (setL (ofN (nSy s) (refN s))) = true := by
  obtain ⟨h1, h2, h3⟩ := (elim_s s).ref h0
  obtain ⟨q1, q2, _⟩ := sp_sum ho h1
  unfold refSum
  rw [Bool.and_eq_true]
  refine ⟨by rw [← q2]; exact h3, ?_⟩
  unfold noBit
  rw [List.all_eq_true]
  intro j hj
  have hj2 : j < nSy s := List.mem_range.1 hj
  rw [← q1 j hj2]
  have := h2 j hj2
  simp only at this
  rw [this]
  rfl
theorem sumB_snoc {s : Sy} {l : List Int} {i : Int} : sumB s (l ++ [i]) = sumB s l ^^^ rowB s i.toNat := by
  unfold sumB
  rw [List.foldl_append]
  rfl
theorem sumR_snoc {s : Sy} {l : List Int} {i : Int} : sumR s (l ++ [i]) = (sumR s l != (lO s.right).getD i.toNat false) := by
  unfold sumR
  rw [List.foldl_append]
  rfl
theorem sat_sum {s : Sy} {x : Nat} (hx : SatS s x) (l : List Int) (hl : ∀ i ∈ l, i.toNat < (lB s.rows).length) : oddN (sumB s l) x (nSy s) = sumR s l := by
  have key : ∀ k, k ≤ l.length → oddN (sumB s (l.take k)) x (nSy s) = sumR s (l.take k) := by
    intro k
    induction k with
    | zero =>
      intro _
      have : oddN 0 x (nSy s) = false := oddN_none fun j _ => by simp
      exact this
    | succ k ih =>
      intro hk
      have hkl : k < l.length := by omega
      rw [sumB_take hkl, sumR_take hkl, oddN_xor, ih (by omega), hx _ (hl _ (by simp [hkl]))]
  have := key l.length (Nat.le_refl _)
  rwa [List.take_length] at this
/-- What is refused has no solution. -/
theorem refSum_ref {s : Sy} {m : Nat} (ho : OkE s (nSy s) m) {l : List Int} (hl : ∀ i ∈ l, i.toNat < (lB s.rows).length) (hr : refSum s l = true) : refN s ≠ 0 := by
  intro h0
  have h1 := sat_sum (sol_sat ho h0) l hl
  unfold refSum at hr
  rw [Bool.and_eq_true] at hr
  obtain ⟨r1, r2⟩ := hr
  have h2 : oddN (sumB s l) (solN s) (nSy s) = false := oddN_none fun j hj => by
    have := List.all_eq_true.1 r2 j (List.mem_range.2 hj)
    simp only [Bool.not_eq_true'] at this
    rw [this, Bool.false_and]
  rw [h2, r1] at h1
  cases h1
/-- A null vector added to a solution gives a solution. -/
theorem null_sat {s : Sy} {m : Nat} (ho : OkE s (nSy s) m) (h0 : refN s = 0) {v : Nat} (hv : ∀ l ∈ linS s, oddN l v (nSy s) = false) {x : Nat} (hx : SatS s x) : SatS s (x ^^^ v) := by
  intro i hi
  rw [oddN_xor2, hx i hi]
  obtain ⟨u, hu, hb⟩ := (elim_s s).rep h0 (rowE s (nSy s) i) (List.mem_map.2 ⟨i, List.mem_range.2 hi, rfl⟩)
  have hl : ∀ l ∈ linS s, oddN l v (nSy s) = rgt false (nSy s) l := fun l hl => by
    rw [hv l hl]
    rfl
  have h1 := Sp.sat hl hu
  have h2 : oddN (rowB s i) v (nSy s) = oddN u v (nSy s) := oddN_congr fun j hj => by
    rw [← rowE_low ho hi hj, hb j (by omega)]
  rw [h2, h1]
  unfold rgt
  simp

theorem tri_three {seed seg : Int} {key : Str} (hg : 1 ≤ seg) : ∃ a b c : Nat, tri seed key seg 3 = [(a : Int), (b : Int), (c : Int)] ∧ a < b ∧ b < c ∧ (c : Int) < 3 * seg := by
  obtain ⟨a0, a1⟩ := placeV_bd (seed := seed) (part := 0) (s := key) (n := seg) (by omega)
  obtain ⟨b0, b1⟩ := placeV_bd (seed := seed) (part := 1) (s := key) (n := seg) (by omega)
  obtain ⟨c0, c1⟩ := placeV_bd (seed := seed) (part := 2) (s := key) (n := seg) (by omega)
  refine ⟨(placeV seed 0 key seg).toNat, (placeV seed 1 key seg + seg).toNat, (placeV seed 2 key seg + 2 * seg).toNat, ?_, by omega, by omega, by omega⟩
  rw [Int.toNat_of_nonneg a0, Int.toNat_of_nonneg (by omega), Int.toNat_of_nonneg (by omega)]
  simp [tri, List.range_succ]
theorem oddN_edge3 {a b c x n : Nat} (hab : a < b) (hbc : b < c) (hc : c < n) : oddN (edgeN [(a : Int), (b : Int), (c : Int)]) x n = (x.testBit a != (x.testBit b != x.testBit c)) := by
  have h1 : oddN (edgeN [(a : Int), (b : Int), (c : Int)]) x n = oddN (2 ^ a ^^^ (2 ^ b ^^^ 2 ^ c)) x n := oddN_congr fun j _ => by
    have h2 : (edgeN [(a : Int), (b : Int), (c : Int)]).testBit j = (2 ^ a ^^^ (2 ^ b ^^^ 2 ^ c)).testBit j := by
      rw [edgeN_bit (by simp), Nat.testBit_xor, Nat.testBit_xor, Nat.testBit_two_pow, Nat.testBit_two_pow, Nat.testBit_two_pow]
      by_cases h1 : a = j
      · subst h1
        have e1 : ¬ b = a := by omega
        have e2 : ¬ c = a := by omega
        simp [e1, e2]
      · by_cases h2 : b = j
        · subst h2
          have e1 : ¬ a = b := by omega
          have e2 : ¬ c = b := by omega
          simp [e1, e2]
        · by_cases h3 : c = j
          · subst h3
            simp [h1, h2]
          · have : ¬ ((j : Int) = a ∨ (j : Int) = b ∨ (j : Int) = c) := by omega
            simp [h1, h2, h3, this]
    rw [h2]
  have one : ∀ p : Nat, p < n → oddN (2 ^ p) x n = x.testBit p := fun p hp => by
    rw [oddN_one hp fun j hj hne => by rw [Nat.testBit_two_pow]; simp [Ne.symm hne], Nat.testBit_two_pow]
    simp
  rw [h1, oddN_xor, oddN_xor, one a (by omega), one b (by omega), one c hc]
theorem rowB_tab {seed seg : Int} {keys : Option (List Str)} {vals : Option (List Int)} {width : Int} (F : TaskF seed seg width keys vals) {j k : Nat} (hk : k < (lS keys).length) : rowB (tabSy seed seg keys vals j) k = edgeN (tri seed ((lS keys).getD k []) seg 3) := by
  have h1 : (lB (tabSy seed seg keys vals j).rows).getD k default = rowT (nT seg) (mT seg) (tri seed ((lS keys).getD k []) seg 3) := by
    show (lB (optB ((edges seed (lS keys) seg).map (rowT (nT seg) (mT seg))))).getD k default = _
    rw [lB_optB]
    simp [edges, hk]
  unfold rowB
  rw [h1]
  show numW (wordsN (edgeN (tri seed ((lS keys).getD k []) seg 3)) (mT seg)) = _
  refine numW_wordsN (Nat.lt_of_lt_of_le (edgeN_lt (n := nT seg) fun p hp => F.eb _ (List.mem_map.2 ⟨(lS keys).getD k [], getD_mem hk, rfl⟩) p hp) (Nat.pow_le_pow_right (by decide) ?_))
  have := F.mm
  omega
/-- What is built by solving gives each key its value. -/
theorem tab_val {seed seg width : Int} {keys : Option (List Str)} {vals : Option (List Int)} (hk : taskOk seed seg width keys vals = true) (hall : allOk (tabSy seed seg keys vals) width.toNat = true) {k : Nat} (hkk : k < (lS keys).length) :
    ((valT seed seg (cellsL (bitsT (tabSy seed seg keys vals)) (nT seg) width.toNat 0) ((lS keys).getD k []) : Nat) : Int) = (lI vals).getD k 0 := by
  have F := task_facts hk
  have hkv : k < (lI vals).length := by rw [F.vl]; exact hkk
  have hvb : 0 ≤ (lI vals).getD k 0 ∧ (lI vals).getD k 0 ≤ ((2 ^ width.toNat : Nat) : Int) - 1 := by
    simp only [taskOk, Bool.and_eq_true, decide_eq_true_eq] at hk
    obtain ⟨_, _, _, va⟩ := hk
    have := List.all_eq_true.1 va _ (getD_mem (d := 0) hkv)
    simpa only [Bool.and_eq_true, decide_eq_true_eq] using this
  obtain ⟨V, hV⟩ : ∃ V : Nat, (lI vals).getD k 0 = (V : Int) := ⟨((lI vals).getD k 0).toNat, (Int.toNat_of_nonneg hvb.1).symm⟩
  have hVlt : V < 2 ^ width.toNat := by omega
  obtain ⟨a, b, c, ht, hab, hbc, hc⟩ := tri_three (seed := seed) (key := (lS keys).getD k []) F.g0
  have hcn : c < nT seg := by have := F.nn; omega
  rw [hV]
  congr 1
  have hcell : ∀ p : Nat, p < nT seg → cellAt (cellsL (bitsT (tabSy seed seg keys vals)) (nT seg) width.toNat 0) (p : Int) = mkN width.toNat (bitsT (tabSy seed seg keys vals) p) := fun p hp => by
    unfold cellAt cellsL
    simp [hp]
  have hval : valT seed seg (cellsL (bitsT (tabSy seed seg keys vals)) (nT seg) width.toNat 0) ((lS keys).getD k []) = mkN width.toNat (bitsT (tabSy seed seg keys vals) a) ^^^ mkN width.toNat (bitsT (tabSy seed seg keys vals) b) ^^^ mkN width.toNat (bitsT (tabSy seed seg keys vals) c) := by
    unfold valT
    rw [ht]
    unfold xorT
    simp only [List.foldl_cons, List.foldl_nil]
    rw [hcell a (by omega), hcell b (by omega), hcell c hcn, Nat.zero_xor]
  rw [hval]
  refine Nat.eq_of_testBit_eq fun j => ?_
  rw [Nat.testBit_xor, Nat.testBit_xor, mkN_bit, mkN_bit, mkN_bit]
  by_cases hj : j < width.toNat
  · have hr : refN (tabSy seed seg keys vals j) = 0 := by
      have := List.all_eq_true.1 hall j (List.mem_range.2 hj)
      simpa using this
    obtain ⟨m, ho⟩ := okE_n (F.ok j)
    have hrl : k < (lB (tabSy seed seg keys vals j).rows).length := by
      show k < (lB (optB ((edges seed (lS keys) seg).map (rowT (nT seg) (mT seg))))).length
      rw [lB_optB, List.length_map, edges_len]
      exact hkk
    have hs := sol_sat ho hr k hrl
    rw [rowB_tab F hkk, ht, nSy_tab, oddN_edge3 hab hbc hcn] at hs
    have hrt : (lO (tabSy seed seg keys vals j).right).getD k false = V.testBit j := by
      show (bitR (lI vals) j).getD k false = _
      have : (bitR (lI vals) j).getD k false = ((lI vals).getD k 0).toNat.testBit j := by simp [bitR, hkv]
      rw [this, hV, Int.toNat_natCast]
    rw [hrt] at hs
    rw [← hs]
    simp only [hj, decide_true, Bool.true_and, bitsT]
    cases (solN (tabSy seed seg keys vals j)).testBit a <;> cases (solN (tabSy seed seg keys vals j)).testBit b <;> cases (solN (tabSy seed seg keys vals j)).testBit c <;> rfl
  · have hz : V.testBit j = false := Nat.testBit_lt_two_pow (Nat.lt_of_lt_of_le hVlt (Nat.pow_le_pow_right (by decide) (by omega)))
    rw [hz]
    simp [hj]
/-- The sum of two tables gives the sum of their values. -/
def addT (l m : List Int) : List Int := (List.range l.length).map fun p => (((l.getD p 0).toNat ^^^ (m.getD p 0).toNat : Nat) : Int)
theorem addT_len {l m : List Int} : (addT l m).length = l.length := by simp [addT]
theorem addT_cell {l m : List Int} {p : Int} (h0 : 0 ≤ p) (h1 : p < l.length) : cellAt (addT l m) p = cellAt l p ^^^ cellAt m p := by
  have h2 : p.toNat < l.length := by omega
  unfold cellAt addT
  simp [h2]
theorem val_add {seed seg : Int} {l m : List Int} {key : Str} (hg : 1 ≤ seg) (hl : (l.length : Int) = 3 * seg) : valT seed seg (addT l m) key = valT seed seg l key ^^^ valT seed seg m key := by
  obtain ⟨a, b, c, ht, hab, hbc, hc⟩ := tri_three (seed := seed) (key := key) hg
  unfold valT
  rw [ht]
  unfold xorT
  simp only [List.foldl_cons, List.foldl_nil, Nat.zero_xor]
  rw [addT_cell (by omega) (by omega), addT_cell (by omega) (by omega), addT_cell (by omega) (by omega)]
  refine Nat.eq_of_testBit_eq fun j => ?_
  simp only [Nat.testBit_xor]
  cases (cellAt l a).testBit j <;> cases (cellAt l b).testBit j <;> cases (cellAt l c).testBit j <;> cases (cellAt m a).testBit j <;> cases (cellAt m b).testBit j <;> cases (cellAt m c).testBit j <;> rfl

def retV (a b w : Int) (l : Option (List Int)) (key : Str) : AV := if tblOk a b w l && okKey key then .tup [.int .i64 (valT a b (lI l) key : Nat), .bool true] else .tup [.int .i64 0, .bool false]
theorem free_retV {a b w : Int} {l : Option (List Int)} {key : Str} : Free (retV a b w l key) := by
  unfold retV
  split
  · exact free_tup (free_cons_ free_int (free_cons_ free_bool free_nil_))
  · exact free_tup (free_cons_ free_int (free_cons_ free_bool free_nil_))
def addOk (a b w : Int) (l : Option (List Int)) (a2 b2 w2 : Int) (l2 : Option (List Int)) : Bool := tblOk a b w l && tblOk a2 b2 w2 l2 && (decide (a = a2) && (decide (b = b2) && decide (w = w2)))
def addV (a b w : Int) (l : Option (List Int)) (a2 b2 w2 : Int) (l2 : Option (List Int)) : AV := if addOk a b w l a2 b2 w2 l2 then .tup [eTab a b w (some (addT (lI l) (lI l2))), .bool true] else .tup [eTab 0 0 0 none, .bool false]
/-- The sum so far. -/
def addTo (l m : List Int) (i : Nat) : List Int := (List.range l.length).map fun p => if p < i then (((l.getD p 0).toNat ^^^ (m.getD p 0).toNat : Nat) : Int) else l.getD p 0
theorem addTo_len {l m : List Int} {i : Nat} : (addTo l m i).length = l.length := by simp [addTo]
theorem addTo_0 {l m : List Int} : addTo l m 0 = l := by
  refine List.ext_getElem? fun p => ?_
  by_cases hp : p < l.length
  · simp [addTo, hp]
  · rw [List.getElem?_eq_none (by rw [addTo_len]; omega), List.getElem?_eq_none (by omega)]
theorem addTo_all {l m : List Int} : addTo l m l.length = addT l m := by
  unfold addTo addT
  refine List.map_congr_left fun p hp => ?_
  rw [if_pos (List.mem_range.1 hp)]
theorem addTo_get {l m : List Int} {i : Nat} (hi : i < l.length) : ((addTo l m i).map (AV.int .i64))[i]? = some (.int .i64 (l.getD i 0)) := by simp [addTo, hi]
theorem addTo_put {l m : List Int} {i : Nat} {x : Int} (hi : i < l.length) (hx : x = (((l.getD i 0).toNat ^^^ (m.getD i 0).toNat : Nat) : Int)) : over ((addTo l m i).map (AV.int .i64)) i [.int .i64 x] = (addTo l m (i + 1)).map (.int .i64) := by
  rw [over_set (by simp [addTo_len, hi])]
  refine List.ext_getElem? fun p => ?_
  by_cases hp : p < l.length
  · by_cases h2 : p = i
    · subst h2
      rw [List.getElem?_set_self (by simp [addTo_len, hi])]
      simp [addTo, hi, hx]
    · rw [List.getElem?_set_ne (Ne.symm h2)]
      have : (p < i + 1) = (p < i) := by rw [eq_iff_iff]; omega
      simp [addTo, hp, this]
  · rw [List.getElem?_eq_none (by simp [addTo_len]; omega), List.getElem?_eq_none (by simp [addTo_len]; omega)]
theorem addT_take {l m : List Int} {i : Nat} (hi : i < l.length) : (addT l m).take (i + 1) = (addT l m).take i ++ [(((l.getD i 0).toNat ^^^ (m.getD i 0).toNat : Nat) : Int)] := by
  rw [List.take_add_one]
  congr 1
  simp [addT, hi]
theorem cell_nat {a b w : Int} {l : Option (List Int)} (F : TblF a b w l) {i : Nat} (hi : i < (lI l).length) : ∃ x : Nat, (lI l).getD i 0 = (x : Int) ∧ x < 256 := by
  have hb := F.cb ((lI l).getD i 0) (getD_mem hi)
  have hw := pow_le256 (w := w.toNat) (by have := F.w1; omega)
  exact ⟨((lI l).getD i 0).toNat, (Int.toNat_of_nonneg hb.1).symm, by omega⟩
/-- A table being added up. -/
def AdS (h g : H) (bx : List AV) (a b w : Int) (v : AV) (L : List Int) : Prop := g.cells (h.length + 1) = some bx ∧ g.cells (h.length + 2) = some [.int .i64 0, .int .i64 0, .int .i64 0, .nils] ∧ g.cells (h.length + 3) = some [.int .i64 a, .int .i64 b, .int .i64 w, v] ∧ ∃ B, S1 g 1 v L.length (L.map (.int .i64)) B ∧ ∀ k ∈ B, h.length + 4 ≤ k
theorem AdS.app {h g : H} {bx : List AV} {a b w q : Int} {v : AV} {L : List Int} {pm : Nat → Prop} {Q : AV → H → Prop} (hp : AdS h g bx a b w v L) (hpm : ∀ k, h.length ≤ k → pm k) (hN : L.length ≤ 1000000)
    (hQ : ∀ v' g2, AdS h (wr g2 (h.length + 3) [.int .i64 a, .int .i64 b, .int .i64 w, v']) bx a b w v' (L ++ [q]) → g2.cells (h.length + 3) = some [.int .i64 a, .int .i64 b, .int .i64 w, v] → one v' = true → cellsOf v' = [v'] → Q v' g2) : apA pm (g ++ [some (.cells [.int .i64 q])]) Q 1 8 (some ([.int .i64 q], 1)) v := by
  obtain ⟨p1, p2, p3, Bv, p7, p8⟩ := hp
  have l3 := cells_lt p3
  refine (p7.frame (h' := g ++ _) fun k hk => List.getElem?_append_left (p7.lt k hk)).app0 (new := [.int .i64 q]) (k := 1) (by_ := 8) (fun k hk => hpm k (by have := p8 k hk; omega)) rfl (by omega) fun w2 g2 B2 a1 a2 a3 a4 a5 => ?_
  simp only [List.length_append, List.length_cons, List.length_nil] at a2 a3 a4
  have hk2 : ∀ k, k ≤ h.length + 3 → g2[k]? = g[k]? := fun k hk => (a3 k (by omega) fun h5 => by have := p8 k h5; omega).trans (List.getElem?_append_left (by omega))
  have hwk : ∀ k, k ≠ h.length + 3 → (wr g2 (h.length + 3) [.int .i64 a, .int .i64 b, .int .i64 w, w2])[k]? = g2[k]? := fun k hk => by
    unfold wr
    rw [List.getElem?_set_ne (Ne.symm hk)]
  have hB2 : ∀ k ∈ B2, h.length + 4 ≤ k := fun k hk => by
    rcases a4 k hk with h5 | h5
    · exact p8 k h5
    · omega
  have ho := a1.one_
  refine hQ w2 g2 ⟨cells_keep ((hwk _ (by omega)).trans (hk2 _ (by omega))) p1, cells_keep ((hwk _ (by omega)).trans (hk2 _ (by omega))) p2, cells_wr2 (by omega), B2, ?_, hB2⟩ (cells_keep (hk2 _ (by omega)) p3) ho.1 ho.2
  have := a1.frame (h' := wr g2 (h.length + 3) [.int .i64 a, .int .i64 b, .int .i64 w, w2]) fun k hk => hwk k (by have := hB2 k hk; omega)
  simpa using this
theorem vw_tab {h : H} {n0 : Nat} {a b w : Int} {v : AV} {L : List Int} {B : List Nat} (hs : S1 h 1 v L.length (L.map (.int .i64)) B) (hb : ∀ k ∈ B, n0 ≤ k) (hL : L ≠ []) (q : Bool) : Vw h n0 (.tup [.agg [.int .i64 a, .int .i64 b, .int .i64 w, v], .bool q]) (.tup [eTab a b w (some L), .bool q]) := by
  rcases hs.2 with ⟨_, h0, _⟩ | ⟨bv, rfl, rfl, hc⟩
  · exact absurd (List.eq_nil_of_length_eq_zero h0) hL
  · refine .tup rfl fun j y t hy ht => ?_
    rcases j with _ | _ | j
    · simp at hy ht
      subst hy ht
      refine .agg rfl fun j y t hy ht => ?_
      rcases j with _ | _ | _ | _ | j
      · simp at hy ht
        subst hy ht
        exact .free free_int
      · simp at hy ht
        subst hy ht
        exact .free free_int
      · simp at hy ht
        subst hy ht
        exact .free free_int
      · simp at hy ht
        subst hy ht
        exact vw_all (hb bv (by simp)) hc (by simp) (one_map fun _ => rfl) (free_map_ fun _ => free_int)
      · simp at hy
    · simp at hy ht
      subst hy ht
      exact .free free_bool
    · simp at hy

theorem c_spec_RetrieveValue (a b w : Int) (l : Option (List Int)) (key : Str) : Fn Tryz.prog 26 [eTab a b w l, .str key] (· = retV a b w l key) := by
  refine Fn.of free_retV fun h => ?_
  unfold eTab
  refine enter (by kernel_rfl) e26 (by kernel_rfl) rfl fun hok => ?_
  simp only [r26, initEnv_2]
  (try (simp (disch := first | omega | (simp <;> omega) | fail) only [push_cast, ↓reduceIte, Nat.reduceEqDiff, Nat.reduceAdd, Nat.reduceMul, Nat.reduceSub, Nat.reduceLT, Int.reduceToNat]))
  refine (c_spec_reTable a b w l).call ?_
  unfold retV
  cases hk : tblOk a b w l
  · (try (simp (disch := first | omega | (simp <;> omega) | fail) only [push_cast, ↓reduceIte, Nat.reduceEqDiff, Nat.reduceAdd, Nat.reduceMul, Nat.reduceSub, Nat.reduceLT, Int.reduceToNat]))
    all_goals (try rfl)
  (try (simp (disch := first | omega | (simp <;> omega) | fail) only [push_cast, ↓reduceIte, Nat.reduceEqDiff, Nat.reduceAdd, Nat.reduceMul, Nat.reduceSub, Nat.reduceLT, Int.reduceToNat]))
  refine (c_spec_IsKey key).call ?_
  cases hs : okKey key
  · (try (simp (disch := first | omega | (simp <;> omega) | fail) only [push_cast, ↓reduceIte, Nat.reduceEqDiff, Nat.reduceAdd, Nat.reduceMul, Nat.reduceSub, Nat.reduceLT, Int.reduceToNat]))
    all_goals (try rfl)
  (try (simp (disch := first | omega | (simp <;> omega) | fail) only [push_cast, ↓reduceIte, Nat.reduceEqDiff, Nat.reduceAdd, Nat.reduceMul, Nat.reduceSub, Nat.reduceLT, Int.reduceToNat]))
  refine (c_spec_reValue a b w l key hk).call ?_
  (try (simp (disch := first | omega | (simp <;> omega) | fail) only [push_cast, ↓reduceIte, Nat.reduceEqDiff, Nat.reduceAdd, Nat.reduceMul, Nat.reduceSub, Nat.reduceLT, Int.reduceToNat]))
  all_goals (try rfl)

theorem c_impl_RetrieveValue (a b w : Int) (l : Option (List Int)) (key : Str) : Fn Tryz.prog 25 [eTab a b w l, .str key] (· = retV a b w l key) := by
  refine Fn.of free_retV fun h => ?_
  unfold eTab
  refine enter (by kernel_rfl) e25 (by kernel_rfl) rfl fun hok => ?_
  simp only [r25, initEnv_2]
  (try (simp (disch := first | omega | (simp <;> omega) | fail) only [push_cast, ↓reduceIte, Nat.reduceEqDiff, Nat.reduceAdd, Nat.reduceMul, Nat.reduceSub, Nat.reduceLT, Int.reduceToNat]))
  refine (c_impl_IsTable a b w l).call ?_
  unfold retV
  cases hk : tblOk a b w l
  · (try (simp (disch := first | omega | (simp <;> omega) | fail) only [push_cast, ↓reduceIte, Nat.reduceEqDiff, Nat.reduceAdd, Nat.reduceMul, Nat.reduceSub, Nat.reduceLT, Int.reduceToNat]))
    all_goals (try rfl)
  (try (simp (disch := first | omega | (simp <;> omega) | fail) only [push_cast, ↓reduceIte, Nat.reduceEqDiff, Nat.reduceAdd, Nat.reduceMul, Nat.reduceSub, Nat.reduceLT, Int.reduceToNat]))
  refine (c_impl_IsKey key).call ?_
  cases hs : okKey key
  · (try (simp (disch := first | omega | (simp <;> omega) | fail) only [push_cast, ↓reduceIte, Nat.reduceEqDiff, Nat.reduceAdd, Nat.reduceMul, Nat.reduceSub, Nat.reduceLT, Int.reduceToNat]))
    all_goals (try rfl)
  (try (simp (disch := first | omega | (simp <;> omega) | fail) only [push_cast, ↓reduceIte, Nat.reduceEqDiff, Nat.reduceAdd, Nat.reduceMul, Nat.reduceSub, Nat.reduceLT, Int.reduceToNat]))
  refine (c_impl_Table_of a b w l key hk).lendL (.adr (cs := [.int .i64 a, .int .i64 b, .int .i64 w, eI l]) (by rw [cells_h0]; rfl) (free_cons_ free_int (free_cons_ free_int (free_cons_ free_int (free_cons_ free_eI free_nil_)))) (.free free_str .nil)) own_int ?_
  (try (simp (disch := first | omega | (simp <;> omega) | fail) only [push_cast, ↓reduceIte, Nat.reduceEqDiff, Nat.reduceAdd, Nat.reduceMul, Nat.reduceSub, Nat.reduceLT, Int.reduceToNat]))
  all_goals (try rfl)

theorem c_laws_pSameInts (a b : Option (List Int)) : Fn Tryz.prog 38 [eI a, eI b] (· = .bool (decide (lI a = lI b))) := by
  refine Fn.of free_bool fun h => ?_
  refine enter (by kernel_rfl) e38 (by kernel_rfl) rfl fun hok => ?_
  simp only [r38, initEnv_2]
  have ha := ok_eI (okV_0 hok)
  have hb := ok_eI (okV_1 hok)
  (try (simp (disch := first | omega | (simp <;> omega) | fail) only [push_cast, ↓reduceIte, Nat.reduceEqDiff, Nat.reduceAdd, Nat.reduceMul, Nat.reduceSub, Nat.reduceLT, Int.reduceToNat]))
  first | refine goC_split (fun hc => ?_) (fun hc => ?_) | refine cnd_split (fun hc => ?_) (fun hc => ?_)
  · (try (simp only [decide_eq_true_eq, decide_eq_false_iff_not, Bool.not_eq_true', Bool.not_eq_false', Bool.and_eq_true, Bool.or_eq_true, Int.not_lt, Int.not_le] at hc)); (try (simp (disch := first | omega | (simp <;> omega) | fail) only [push_cast, ↓reduceIte, Nat.reduceEqDiff, Nat.reduceAdd, Nat.reduceMul, Nat.reduceSub, Nat.reduceLT, Int.reduceToNat]))
    have : lI a ≠ lI b := fun h => hc (by rw [h])
    rw [decide_eq_false this]
  (try (simp only [decide_eq_true_eq, decide_eq_false_iff_not, Bool.not_eq_true', Bool.not_eq_false', Bool.and_eq_true, Bool.or_eq_true, Int.not_lt, Int.not_le] at hc)); (try (simp (disch := first | omega | (simp <;> omega) | fail) only [push_cast, ↓reduceIte, Nat.reduceEqDiff, Nat.reduceAdd, Nat.reduceMul, Nat.reduceSub, Nat.reduceLT, Int.reduceToNat]))
  have hll : (lI a).length = (lI b).length := by omega
  refine T_for (lI a).length (fun i e h' => Pins e [(0, eI a), (1, eI b), (12, .int .i64 (lI a).length), (13, .int .i64 i)] ∧ h' = h ∧ (lI a).take i = (lI b).take i) ?_ ?_
  · (try (simp (disch := first | omega | (simp <;> omega) | fail) only [push_cast, ↓reduceIte, Nat.reduceEqDiff, Nat.reduceAdd, Nat.reduceMul, Nat.reduceSub, Nat.reduceLT, Int.reduceToNat]))
    all_goals (try simp)
  rintro i e h' hi ⟨hp, rfl, ht⟩
  refine T_pins hp fun e => ?_
  (try (simp (disch := first | omega | (simp <;> omega) | fail) only [push_cast, ↓reduceIte, Nat.reduceEqDiff, Nat.reduceAdd, Nat.reduceMul, Nat.reduceSub, Nat.reduceLT, Int.reduceToNat]))
  first | refine goC_split (fun hd => ?_) (fun hd => ?_) | refine cnd_split (fun hd => ?_) (fun hd => ?_)
  · (try (simp only [decide_eq_true_eq, decide_eq_false_iff_not, Bool.not_eq_true', Bool.not_eq_false', Bool.and_eq_true, Bool.or_eq_true, Int.not_lt, Int.not_le] at hd)); (try (simp (disch := first | omega | (simp <;> omega) | fail) only [push_cast, ↓reduceIte, Nat.reduceEqDiff, Nat.reduceAdd, Nat.reduceMul, Nat.reduceSub, Nat.reduceLT, Int.reduceToNat]))
    have hi2 : i < (lI a).length := by omega
    have hi3 : i < (lI b).length := by omega
    have ha1 : (lI a).take (i + 1) = (lI a).take i ++ [(lI a).getD i 0] := by
      rw [List.take_add_one]
      simp [hi2]
    have hb1 : (lI b).take (i + 1) = (lI b).take i ++ [(lI b).getD i 0] := by
      rw [List.take_add_one]
      simp [hi3]
    (try (simp (disch := first | omega | (simp <;> omega) | fail) only [push_cast, ↓reduceIte, Nat.reduceEqDiff, Nat.reduceAdd, Nat.reduceMul, Nat.reduceSub, Nat.reduceLT, Int.reduceToNat]))
    first | refine goC_split (fun he => ?_) (fun he => ?_) | refine cnd_split (fun he => ?_) (fun he => ?_)
    · (try (simp only [decide_eq_true_eq, decide_eq_false_iff_not, Bool.not_eq_true', Bool.not_eq_false', Bool.and_eq_true, Bool.or_eq_true, Int.not_lt, Int.not_le] at he)); (try (simp (disch := first | omega | (simp <;> omega) | fail) only [push_cast, ↓reduceIte, Nat.reduceEqDiff, Nat.reduceAdd, Nat.reduceMul, Nat.reduceSub, Nat.reduceLT, Int.reduceToNat]))
      have : lI a ≠ lI b := fun h => he (by rw [h])
      rw [decide_eq_false this]
    · (try (simp only [decide_eq_true_eq, decide_eq_false_iff_not, Bool.not_eq_true', Bool.not_eq_false', Bool.and_eq_true, Bool.or_eq_true, Int.not_lt, Int.not_le] at he)); (try (simp (disch := first | omega | (simp <;> omega) | fail) only [push_cast, ↓reduceIte, Nat.reduceEqDiff, Nat.reduceAdd, Nat.reduceMul, Nat.reduceSub, Nat.reduceLT, Int.reduceToNat]))
      rw [ha1, hb1, ht, he]
      (try (simp (disch := first | omega | (simp <;> omega) | fail) only [push_cast, ↓reduceIte, Nat.reduceEqDiff, Nat.reduceAdd, Nat.reduceMul, Nat.reduceSub, Nat.reduceLT, Int.reduceToNat]))
  · (try (simp only [decide_eq_true_eq, decide_eq_false_iff_not, Bool.not_eq_true', Bool.not_eq_false', Bool.and_eq_true, Bool.or_eq_true, Int.not_lt, Int.not_le] at hd)); (try (simp (disch := first | omega | (simp <;> omega) | fail) only [push_cast, ↓reduceIte, Nat.reduceEqDiff, Nat.reduceAdd, Nat.reduceMul, Nat.reduceSub, Nat.reduceLT, Int.reduceToNat]))
    have : lI a = lI b := by
      rw [List.take_of_length_le (by omega), List.take_of_length_le (by omega)] at ht
      exact ht
    rw [decide_eq_true this]

theorem c_laws_rSameTable (a b w : Int) (l : Option (List Int)) : Fn Tryz.prog 23 [eTab a b w l, eTab a b w l] (· = .bool true) := by
  refine Fn.of free_bool fun h => ?_
  unfold eTab
  refine enter (by kernel_rfl) e23 (by kernel_rfl) rfl fun hok => ?_
  simp only [r23, initEnv_2]
  (try (simp (disch := first | omega | (simp <;> omega) | fail) only [push_cast, ↓reduceIte, Nat.reduceEqDiff, Nat.reduceAdd, Nat.reduceMul, Nat.reduceSub, Nat.reduceLT, Int.reduceToNat]))
  refine (c_laws_pSameInts l l).call ?_
  have hd : decide (lI l = lI l) = true := decide_eq_true rfl
  rw [hd]
  (try (simp (disch := first | omega | (simp <;> omega) | fail) only [push_cast, ↓reduceIte, Nat.reduceEqDiff, Nat.reduceAdd, Nat.reduceMul, Nat.reduceSub, Nat.reduceLT, Int.reduceToNat]))

theorem c_spec_AddTables (a b w a2 b2 w2 : Int) (l l2 : Option (List Int)) : Fn Tryz.prog 22 [eTab a b w l, eTab a2 b2 w2 l2] (· = addV a b w l a2 b2 w2 l2) := by
  refine Fn.froze_ fun h => ?_
  unfold eTab
  refine enter (by kernel_rfl) e22 (by kernel_rfl) rfl fun hok => ?_
  simp only [r22, initEnv_2]
  have hno : ∀ g : H, ∃ t, Vw g h.length (.tup [.agg [.int .i64 0, .int .i64 0, .int .i64 0, .nils], .bool false]) t ∧ t = .tup [eTab 0 0 0 none, .bool false] := fun g => ⟨_, .free (free_tup (free_cons_ (show Free (eTab 0 0 0 none) from free_eTab) (free_cons_ free_bool free_nil_))), rfl⟩
  have hz : fillA [.int .i64 0, .int .i64 0, .int .i64 0, .nils] [] = some [.int .i64 0, .int .i64 0, .int .i64 0, AV.nils] := rfl
  unfold addV addOk
  (try (simp (disch := first | omega | (simp <;> omega) | fail) only [push_cast, ↓reduceIte, Nat.reduceEqDiff, Nat.reduceAdd, Nat.reduceMul, Nat.reduceSub, Nat.reduceLT, Int.reduceToNat]))
  refine (c_spec_reTable a b w l).call ?_
  cases hk : tblOk a b w l
  · (try (simp (disch := first | omega | (simp <;> omega) | fail) only [push_cast, ↓reduceIte, Nat.reduceEqDiff, Nat.reduceAdd, Nat.reduceMul, Nat.reduceSub, Nat.reduceLT, Int.reduceToNat, hz]))
    all_goals (try exact hno _)
  (try (simp (disch := first | omega | (simp <;> omega) | fail) only [push_cast, ↓reduceIte, Nat.reduceEqDiff, Nat.reduceAdd, Nat.reduceMul, Nat.reduceSub, Nat.reduceLT, Int.reduceToNat]))
  refine (c_spec_reTable a2 b2 w2 l2).call ?_
  cases hk2 : tblOk a2 b2 w2 l2
  · (try (simp (disch := first | omega | (simp <;> omega) | fail) only [push_cast, ↓reduceIte, Nat.reduceEqDiff, Nat.reduceAdd, Nat.reduceMul, Nat.reduceSub, Nat.reduceLT, Int.reduceToNat, hz]))
    all_goals (try exact hno _)
  by_cases h1 : a = a2
  case neg =>
    (try (simp (disch := first | omega | (simp <;> omega) | fail) only [push_cast, ↓reduceIte, Nat.reduceEqDiff, Nat.reduceAdd, Nat.reduceMul, Nat.reduceSub, Nat.reduceLT, Int.reduceToNat, h1, hz]))
    all_goals (try exact hno _)
  by_cases h2 : b = b2
  case neg =>
    (try (simp (disch := first | omega | (simp <;> omega) | fail) only [push_cast, ↓reduceIte, Nat.reduceEqDiff, Nat.reduceAdd, Nat.reduceMul, Nat.reduceSub, Nat.reduceLT, Int.reduceToNat, h1, h2, hz]))
    all_goals (try exact hno _)
  by_cases h3 : w = w2
  case neg =>
    (try (simp (disch := first | omega | (simp <;> omega) | fail) only [push_cast, ↓reduceIte, Nat.reduceEqDiff, Nat.reduceAdd, Nat.reduceMul, Nat.reduceSub, Nat.reduceLT, Int.reduceToNat, h1, h2, h3, hz]))
    all_goals (try exact hno _)
  subst h1 h2 h3
  have F := tbl_facts hk
  have F2 := tbl_facts hk2
  have hle : (lI l).length = (lI l2).length := by have := F.ll; have := F2.ll; omega
  have hle1 : (lI l).length ≤ 100 := by have := F.ll; have := F.g1; omega
  have hdd : (decide True && (decide True && decide True)) = true := rfl
  have hS0 : AdS h (h ++ [some (.cells [.int .i64 a, .int .i64 b, .int .i64 w, eI l]), some (.cells [.int .i64 a, .int .i64 b, .int .i64 w, eI l2]), some (.cells [.int .i64 0, .int .i64 0, .int .i64 0, .nils]), some (.cells [.int .i64 a, .int .i64 b, .int .i64 w, .nils])]) [.int .i64 a, .int .i64 b, .int .i64 w, eI l2] a b w .nils [] :=
    ⟨by rw [cells_hk]; rfl, by rw [cells_hk]; rfl, by rw [cells_hk]; rfl, [], S1.nil, by simp⟩
  (try (simp (disch := first | omega | (simp <;> omega) | fail) only [push_cast, ↓reduceIte, Nat.reduceEqDiff, Nat.reduceAdd, Nat.reduceMul, Nat.reduceSub, Nat.reduceLT, Int.reduceToNat]))
  refine T_for (lI l).length (fun i e g => ∃ v, Pins e [(3, .adr (h.length + 1) 0), (4, .adr (h.length + 2) 0), (6, .adr (h.length + 3) 0), (47, eI l), (48, .int .i64 (lI l).length), (49, .int .i64 i)] ∧ AdS h g [.int .i64 a, .int .i64 b, .int .i64 w, eI l2] a b w v ((addT (lI l) (lI l2)).take i)) ?_ ?_
  · refine ⟨.nils, ?_, hS0⟩
    (try (simp (disch := first | omega | (simp <;> omega) | fail) only [push_cast, ↓reduceIte, Nat.reduceEqDiff, Nat.reduceAdd, Nat.reduceMul, Nat.reduceSub, Nat.reduceLT, Int.reduceToNat]))
    all_goals (try simp)
  rintro i e g hi ⟨v, hp, hS⟩
  refine T_pins hp fun e => ?_
  have c1 := hS.1
  have c2 := hS.2.1
  have c3 := hS.2.2.1
  (try (simp (disch := first | omega | (simp <;> omega) | fail) only [push_cast, ↓reduceIte, Nat.reduceEqDiff, Nat.reduceAdd, Nat.reduceMul, Nat.reduceSub, Nat.reduceLT, Int.reduceToNat]))
  first | refine goC_split (fun hc => ?_) (fun hc => ?_) | refine cnd_split (fun hc => ?_) (fun hc => ?_)
  · (try (simp only [decide_eq_true_eq, decide_eq_false_iff_not, Bool.not_eq_true', Bool.not_eq_false', Bool.and_eq_true, Bool.or_eq_true, Int.not_lt, Int.not_le] at hc)); (try (simp (disch := first | omega | (simp <;> omega) | fail) only [push_cast, ↓reduceIte, Nat.reduceEqDiff, Nat.reduceAdd, Nat.reduceMul, Nat.reduceSub, Nat.reduceLT, Int.reduceToNat]))
    have hi2 : i < (lI l).length := by omega
    obtain ⟨x, hx, hxl⟩ := cell_nat F hi2
    obtain ⟨y, hy, hyl⟩ := cell_nat F2 (show i < (lI l2).length by omega)
    have hxo := bitsI_xor (x := x) (y := y) (by omega) (by omega)
    have htk := addT_take (l := lI l) (m := lI l2) hi2
    rw [hx, hy, Int.toNat_natCast, Int.toNat_natCast] at htk
    have hlt : ((addT (lI l) (lI l2)).take i).length ≤ 1000000 := by simp; omega
    have c32 : ∀ l' : H, H.cells (g ++ l') (h.length + 3) = some [.int .i64 a, .int .i64 b, .int .i64 w, v] := fun l' => cells_app c3
    have c12 : ∀ l' : H, H.cells (g ++ l') (h.length + 1) = some [.int .i64 a, .int .i64 b, .int .i64 w, eI l2] := fun l' => cells_app c1
    (try (simp (disch := first | omega | (simp <;> omega) | fail) only [push_cast, ↓reduceIte, Nat.reduceEqDiff, Nat.reduceAdd, Nat.reduceMul, Nat.reduceSub, Nat.reduceLT, Int.reduceToNat, c1, c3, c32, c12, hx, hy, hxo, reads, List.mem_cons, List.mem_append, List.not_mem_nil, nat_ff, or_self, or_false, false_or, not_false_eq_true]))
    repeat' (with_reducible refine And.intro ?_ ?_)
    all_goals
      refine hS.app (fun k hk => Or.inr hk) hlt fun v2 g2 hS2 c4 o1 o2 => ?_
      rw [← htk] at hS2
      (try (simp (disch := first | omega | (simp <;> omega) | fail) only [push_cast, ↓reduceIte, Nat.reduceEqDiff, Nat.reduceAdd, Nat.reduceMul, Nat.reduceSub, Nat.reduceLT, Int.reduceToNat, c4, o1, o2, reads, List.mem_cons, List.mem_append, List.not_mem_nil, nat_ff, or_self, or_false, false_or, not_false_eq_true]))
      all_goals (try exact ⟨v2, hS2⟩)
      all_goals (try exact hS2)
  · (try (simp only [decide_eq_true_eq, decide_eq_false_iff_not, Bool.not_eq_true', Bool.not_eq_false', Bool.and_eq_true, Bool.or_eq_true, Int.not_lt, Int.not_le] at hc)); (try (simp (disch := first | omega | (simp <;> omega) | fail) only [push_cast, ↓reduceIte, Nat.reduceEqDiff, Nat.reduceAdd, Nat.reduceMul, Nat.reduceSub, Nat.reduceLT, Int.reduceToNat]))
    have hie : i = (lI l).length := by omega
    subst hie
    rw [List.take_of_length_le (by rw [addT_len]; exact Nat.le_refl _)] at hS
    obtain ⟨_, _, _, B, h7, h8⟩ := id hS
    have ho := h7.one_
    have hne : addT (lI l) (lI l2) ≠ [] := fun h0 => by
      have h1 : (addT (lI l) (lI l2)).length = 0 := by rw [h0]; rfl
      rw [addT_len] at h1
      have h2 := F.ll
      have h3 := F.g0
      omega
    have hw := cells_wr2 (cells_lt c2) (cs := [AV.int .i64 a, .int .i64 b, .int .i64 w, v])
    have hpm : (h.length ≤ h.length + 2) = True := by simp
    have hfin := vw_tab (a := a) (b := b) (w := w) (n0 := h.length) (h7.frame (h' := wr g (h.length + 2) [.int .i64 a, .int .i64 b, .int .i64 w, v]) fun k hk => by
      have := h8 k hk
      unfold wr
      rw [List.getElem?_set_ne (by omega)]) (fun k hk => by have := h8 k hk; omega) hne true
    (try (simp (disch := first | omega | (simp <;> omega) | fail) only [push_cast, ↓reduceIte, Nat.reduceEqDiff, Nat.reduceAdd, Nat.reduceMul, Nat.reduceSub, Nat.reduceLT, Int.reduceToNat, c3, c2, hpm, hw, ho.1, ho.2, reads, List.mem_cons, List.mem_append, List.not_mem_nil, nat_ff, or_self, or_false, false_or, not_false_eq_true]))
    all_goals (try exact ⟨_, hfin, rfl⟩)
    all_goals (try exact ⟨_, hfin, by simp⟩)

/-- A table being added up in place: the results' box, its own box, its cells. -/
def AdI2 (h g : H) (b6 bc : Nat) (a b w : Int) (L : List Int) : Prop := g.cells (h.length + 2) = some [.int .i64 0, .int .i64 0, .int .i64 0, .nils] ∧ g.cells b6 = some [.int .i64 a, .int .i64 b, .int .i64 w, .sl bc 0 1 L.length L.length] ∧ g.cells bc = some (L.map (.int .i64)) ∧ h.length + 3 ≤ b6 ∧ h.length + 3 ≤ bc ∧ b6 ≠ bc
theorem AdI2.put {h g : H} {b6 bc : Nat} {a b w : Int} {L L' : List Int} (hp : AdI2 h g b6 bc a b w L) (hl : L'.length = L.length) : AdI2 h (wr g bc (L'.map (.int .i64))) b6 bc a b w L' := by
  obtain ⟨p1, p2, p3, p4, p5, p6⟩ := hp
  have hw : ∀ k, k ≠ bc → (wr g bc (L'.map (AV.int .i64)))[k]? = g[k]? := fun k hk => by
    unfold wr
    rw [List.getElem?_set_ne (Ne.symm hk)]
  exact ⟨cells_keep (hw _ (by omega)) p1, by rw [hl]; exact cells_keep (hw _ p6) p2, cells_wr2 (cells_lt p3), p4, p5, p6⟩
theorem c_impl_AddTables (a b w a2 b2 w2 : Int) (l l2 : Option (List Int)) : Fn Tryz.prog 21 [eTab a b w l, eTab a2 b2 w2 l2] (· = addV a b w l a2 b2 w2 l2) := by
  refine Fn.froze_ fun h => ?_
  unfold eTab
  refine enter (by kernel_rfl) e21 (by kernel_rfl) rfl fun hok => ?_
  simp only [r21, initEnv_2]
  generalize hD : RCode.dreg (.fl ⟨some 39, .v (.faddr 0 (.t 2)), none⟩ _) = D
  have hno : ∀ g : H, ∃ t, Vw g h.length (.tup [.agg [.int .i64 0, .int .i64 0, .int .i64 0, .nils], .bool false]) t ∧ t = .tup [eTab 0 0 0 none, .bool false] := fun g => ⟨_, .free (free_tup (free_cons_ (show Free (eTab 0 0 0 none) from free_eTab) (free_cons_ free_bool free_nil_))), rfl⟩
  have hz : fillA [.int .i64 0, .int .i64 0, .int .i64 0, .nils] [] = some [.int .i64 0, .int .i64 0, .int .i64 0, AV.nils] := rfl
  unfold addV addOk
  (try (simp (disch := first | omega | (simp <;> omega) | fail) only [push_cast, ↓reduceIte, Nat.reduceEqDiff, Nat.reduceAdd, Nat.reduceMul, Nat.reduceSub, Nat.reduceLT, Int.reduceToNat]))
  refine (c_impl_IsTable a b w l).call ?_
  cases hk : tblOk a b w l
  · (try (simp (disch := first | omega | (simp <;> omega) | fail) only [push_cast, ↓reduceIte, Nat.reduceEqDiff, Nat.reduceAdd, Nat.reduceMul, Nat.reduceSub, Nat.reduceLT, Int.reduceToNat, hz]))
    all_goals (try exact hno _)
  (try (simp (disch := first | omega | (simp <;> omega) | fail) only [push_cast, ↓reduceIte, Nat.reduceEqDiff, Nat.reduceAdd, Nat.reduceMul, Nat.reduceSub, Nat.reduceLT, Int.reduceToNat]))
  refine (c_impl_IsTable a2 b2 w2 l2).call ?_
  cases hk2 : tblOk a2 b2 w2 l2
  · (try (simp (disch := first | omega | (simp <;> omega) | fail) only [push_cast, ↓reduceIte, Nat.reduceEqDiff, Nat.reduceAdd, Nat.reduceMul, Nat.reduceSub, Nat.reduceLT, Int.reduceToNat, hz]))
    all_goals (try exact hno _)
  by_cases h1 : a = a2
  case neg =>
    (try (simp (disch := first | omega | (simp <;> omega) | fail) only [push_cast, ↓reduceIte, Nat.reduceEqDiff, Nat.reduceAdd, Nat.reduceMul, Nat.reduceSub, Nat.reduceLT, Int.reduceToNat, h1, hz]))
    all_goals (try exact hno _)
  by_cases h2 : b = b2
  case neg =>
    (try (simp (disch := first | omega | (simp <;> omega) | fail) only [push_cast, ↓reduceIte, Nat.reduceEqDiff, Nat.reduceAdd, Nat.reduceMul, Nat.reduceSub, Nat.reduceLT, Int.reduceToNat, h1, h2, hz]))
    all_goals (try exact hno _)
  by_cases h3 : w = w2
  case neg =>
    (try (simp (disch := first | omega | (simp <;> omega) | fail) only [push_cast, ↓reduceIte, Nat.reduceEqDiff, Nat.reduceAdd, Nat.reduceMul, Nat.reduceSub, Nat.reduceLT, Int.reduceToNat, h1, h2, h3, hz]))
    all_goals (try exact hno _)
  subst h1 h2 h3
  have F := tbl_facts hk
  have F2 := tbl_facts hk2
  have hle : (lI l).length = (lI l2).length := by have := F.ll; have := F2.ll; omega
  have hle1 : (lI l).length ≤ 100 := by have := F.ll; have := F.g1; omega
  obtain ⟨L, rfl⟩ : ∃ L, l = some L := by
    cases l with
    | none =>
      have h2 := F.ll
      have h3 := F.g0
      simp [lI] at h2
      omega
    | some L => exact ⟨L, rfl⟩
  have hlL : lI (some L) = L := rfl
  rw [hlL] at hle hle1
  have hg0 : ∃ g0 : H, g0 = h ++ [some (.cells [.int .i64 a, .int .i64 b, .int .i64 w, eI (some L)]), some (.cells [.int .i64 a, .int .i64 b, .int .i64 w, eI l2]), some (.cells [.int .i64 0, .int .i64 0, .int .i64 0, .nils])] := ⟨_, rfl⟩
  (try (simp (disch := first | omega | (simp <;> omega) | fail) only [push_cast, ↓reduceIte, Nat.reduceEqDiff, Nat.reduceAdd, Nat.reduceMul, Nat.reduceSub, Nat.reduceLT, Int.reduceToNat]))
  refine T_cut (fun e g => ∃ b6 bc, Pins e [(3, .adr (h.length + 1) 0), (4, .adr (h.length + 2) 0), (6, .adr b6 0)] ∧ g.cells (h.length + 1) = some [.int .i64 a, .int .i64 b, .int .i64 w, eI l2] ∧ AdI2 h g b6 bc a b w L) ?_ ?_
  · rw [← hD]
    (try (simp (disch := first | omega | (simp <;> omega) | fail) only [push_cast, ↓reduceIte, Nat.reduceEqDiff, Nat.reduceAdd, Nat.reduceMul, Nat.reduceSub, Nat.reduceLT, Int.reduceToNat, reads, List.mem_cons, List.mem_append, List.not_mem_nil, nat_ff, or_self, or_false, false_or, not_false_eq_true]))
    repeat' (with_reducible refine And.intro ?_ ?_)
    all_goals
      refine (c_Clone_ints_own L (by omega) _).mono (fun x g1 hx => ?_) (fun _ _ h => h.elim)
      obtain ⟨bc, rfl, t1, ⟨p, rfl⟩, t3⟩ := hx
      simp only [List.length_append, List.length_cons, List.length_nil] at t1
      have tl := cells_lt t3
      (try (simp (disch := first | omega | (simp <;> omega) | fail) only [push_cast, ↓reduceIte, Nat.reduceEqDiff, Nat.reduceAdd, Nat.reduceMul, Nat.reduceSub, Nat.reduceLT, Int.reduceToNat, reads, List.mem_cons, List.mem_append, List.not_mem_nil, nat_ff, or_self, or_false, false_or, not_false_eq_true]))
      first
        | (refine ⟨_, bc, rfl, by rw [cells_hk]; simp [cellsO], by rw [cells_hk]; simp [cellsO], ?_, by omega, by omega, by simp at tl; omega⟩
           have := cells_app (l := [some (AObj.cells [.int .i64 a, .int .i64 b, .int .i64 w, .sl bc 0 1 L.length L.length])]) t3
           simpa using this)
        | (refine ⟨_, bc, rfl, by rw [cells_hk]; simp [cellsO], by rw [cells_hk]; simp [cellsO], ?_, by omega, by omega, by omega⟩
           rw [cells_eq, List.getElem?_append_right (by simp; omega)] at t3
           rw [show h ++ some (AObj.cells [.int .i64 a, .int .i64 b, .int .i64 w, eI (some L)]) :: some (AObj.cells [.int .i64 a, .int .i64 b, .int .i64 w, eI l2]) :: some (AObj.cells [.int .i64 0, .int .i64 0, .int .i64 0, .nils]) :: some (AObj.cells [.int .i64 a, .int .i64 b, .int .i64 w, .sl bc 0 1 L.length L.length]) :: p = (h ++ [some (AObj.cells [.int .i64 a, .int .i64 b, .int .i64 w, eI (some L)]), some (AObj.cells [.int .i64 a, .int .i64 b, .int .i64 w, eI l2]), some (AObj.cells [.int .i64 0, .int .i64 0, .int .i64 0, .nils]), some (AObj.cells [.int .i64 a, .int .i64 b, .int .i64 w, .sl bc 0 1 L.length L.length])]) ++ p by simp]
           rw [cells_eq, List.getElem?_append_right (by simp; omega)]
           simpa using t3)
  · rintro e g ⟨b6, bc, hp, c1, hI⟩
    refine K_pins hp fun e => ?_
    (try (simp (disch := first | omega | (simp <;> omega) | fail) only [push_cast, ↓reduceIte, Nat.reduceEqDiff, Nat.reduceAdd, Nat.reduceMul, Nat.reduceSub, Nat.reduceLT, Int.reduceToNat, c1]))
    refine T_for (lI l2).length (fun i e g => Pins e [(4, .adr (h.length + 2) 0), (6, .adr b6 0), (50, eI l2), (51, .int .i64 (lI l2).length), (52, .int .i64 i)] ∧ AdI2 h g b6 bc a b w (addTo L (lI l2) i)) ?_ ?_
    · (try (simp (disch := first | omega | (simp <;> omega) | fail) only [push_cast, ↓reduceIte, Nat.reduceEqDiff, Nat.reduceAdd, Nat.reduceMul, Nat.reduceSub, Nat.reduceLT, Int.reduceToNat]))
      rw [addTo_0]
      all_goals (try exact hI)
    rintro i e g hi ⟨hp, hI⟩
    refine T_pins hp fun e => ?_
    obtain ⟨c2, c6, cc, q4, q5, q6⟩ := id hI
    rw [addTo_len] at c6
    (try (simp (disch := first | omega | (simp <;> omega) | fail) only [push_cast, ↓reduceIte, Nat.reduceEqDiff, Nat.reduceAdd, Nat.reduceMul, Nat.reduceSub, Nat.reduceLT, Int.reduceToNat]))
    first | refine goC_split (fun hc => ?_) (fun hc => ?_) | refine cnd_split (fun hc => ?_) (fun hc => ?_)
    · (try (simp only [decide_eq_true_eq, decide_eq_false_iff_not, Bool.not_eq_true', Bool.not_eq_false', Bool.and_eq_true, Bool.or_eq_true, Int.not_lt, Int.not_le] at hc)); (try (simp (disch := first | omega | (simp <;> omega) | fail) only [push_cast, ↓reduceIte, Nat.reduceEqDiff, Nat.reduceAdd, Nat.reduceMul, Nat.reduceSub, Nat.reduceLT, Int.reduceToNat]))
      have hi2 : i < L.length := by omega
      obtain ⟨x, hx, hxl⟩ := cell_nat F hi2
      obtain ⟨y, hy, hyl⟩ := cell_nat F2 (show i < (lI l2).length by omega)
      rw [hlL] at hx
      have hxo := bitsI_xor (x := x) (y := y) (by omega) (by omega)
      have hgt := addTo_get (m := lI l2) hi2
      rw [hx] at hgt
      have hput := addTo_put (m := lI l2) (x := ((x ^^^ y : Nat) : Int)) hi2 (by rw [hx, hy, Int.toNat_natCast, Int.toNat_natCast])
      have hll : ((addTo L (lI l2) i).map (AV.int .i64)).length = L.length := by simp [addTo_len]
      have hI2 := hI.put (L' := addTo L (lI l2) (i + 1)) (by rw [addTo_len, addTo_len])
      have hpm : (h.length ≤ bc) = True := by simp; omega
      (try (simp (disch := first | omega | (simp <;> omega) | fail) only [push_cast, ↓reduceIte, Nat.reduceEqDiff, Nat.reduceAdd, Nat.reduceMul, Nat.reduceSub, Nat.reduceLT, Int.reduceToNat, c6, cc, hy, hgt, hxo, hput, hll, hpm]))
      all_goals (try exact hI2)
    · (try (simp only [decide_eq_true_eq, decide_eq_false_iff_not, Bool.not_eq_true', Bool.not_eq_false', Bool.and_eq_true, Bool.or_eq_true, Int.not_lt, Int.not_le] at hc)); (try (simp (disch := first | omega | (simp <;> omega) | fail) only [push_cast, ↓reduceIte, Nat.reduceEqDiff, Nat.reduceAdd, Nat.reduceMul, Nat.reduceSub, Nat.reduceLT, Int.reduceToNat]))
      have hie : i = L.length := by omega
      subst hie
      rw [addTo_all] at cc
      have hne : addT L (lI l2) ≠ [] := fun h0 => by
        have h1 : (addT L (lI l2)).length = 0 := by rw [h0]; rfl
        rw [addT_len] at h1
        have h2 := F.ll
        have h3 := F.g0
        rw [hlL] at h2
        omega
      have hw := cells_wr2 (cells_lt c2) (cs := [AV.int .i64 a, .int .i64 b, .int .i64 w, .sl bc 0 1 L.length L.length])
      have hpm : (h.length ≤ h.length + 2) = True := by simp
      have hs : S1 (wr g (h.length + 2) [AV.int .i64 a, .int .i64 b, .int .i64 w, .sl bc 0 1 L.length L.length]) 1 (.sl bc 0 1 L.length L.length) (addT L (lI l2)).length ((addT L (lI l2)).map (.int .i64)) [bc] :=
        ⟨by simp, .inr ⟨bc, by rw [addT_len], rfl, cells_keep (by unfold wr; rw [List.getElem?_set_ne (by omega)]) cc⟩⟩
      have hfin := vw_tab (a := a) (b := b) (w := w) (n0 := h.length) hs (fun k hk => by simp at hk; omega) hne true
      (try (simp (disch := first | omega | (simp <;> omega) | fail) only [push_cast, ↓reduceIte, Nat.reduceEqDiff, Nat.reduceAdd, Nat.reduceMul, Nat.reduceSub, Nat.reduceLT, Int.reduceToNat, c6, c2, hpm, hw]))
      all_goals (try exact ⟨_, hfin, rfl⟩)
      all_goals (try exact ⟨_, hfin, by simp [hlL]⟩)

end Go.Proofs.YtjfgmimgmapeeaaGreat.M
