/-
  What the functions return.
-/
import Derived.Test.YtjfgmimgmapeeaaGreatFyt
import Derived.Test.YtjfgmimgmapeeaaGreatCys
namespace Go.Proofs.YtjfgmimgmapeeaaGreat.M
open Go Go.RowKit
set_option linter.unusedVariables false
set_option linter.unusedSimpArgs false
set_option maxRecDepth 4000

/-! ### what elimination keeps: each row is a sum of lines, the refusal is a sum of rows -/
def Rep (n : Nat) (L : List Nat) (e : Nat) : Prop := ∃ v, Sp L v ∧ ∀ j, j ≤ n → e.testBit j = v.testBit j
structure Elim (n : Nat) (es : List Nat) (p : List Nat × Nat) : Prop where
  rep : p.2 = 0 → ∀ e ∈ es, Rep n p.1 e
  sub : ∀ l ∈ p.1, Sp es l
  ref : p.2 ≠ 0 → Sp es p.2 ∧ (∀ j, j < n → p.2.testBit j = false) ∧ p.2.testBit n = true
theorem Elim.nil {n : Nat} : Elim n [] ([], 0) := ⟨fun _ e h => (by cases h), fun l h => (by cases h), fun h => absurd rfl h⟩
theorem Elim.step {n e : Nat} {es : List Nat} {p : List Nat × Nat} (h : Elim n es p) : Elim n (es ++ [e]) (M.stepS n p e) := by
  obtain ⟨L, R⟩ := p
  obtain ⟨u, hu, hr⟩ := redS_span (n := n) (L := L) (x := e)
  have hue : Sp (es ++ [e]) (redS n L e) := by
    rw [hr]
    exact (Sp.mem (List.mem_append_right _ (by simp))).xor (hu.sub fun l hl => (h.sub l hl).app)
  have hex : e = u ^^^ redS n L e := by
    rw [hr, Nat.xor_comm e u, ← Nat.xor_assoc, Nat.xor_self, Nat.zero_xor]
  by_cases h1 : lead n (redS n L e) < n
  · have hs : M.stepS n (L, R) e = (L ++ [redS n L e], R) := by
      unfold M.stepS
      rw [if_pos h1]
    rw [hs]
    refine ⟨fun h0 x hx => ?_, fun l hl => ?_, fun h0 => ?_⟩
    · rcases List.mem_append.1 hx with hx | hx
      · obtain ⟨v, hv, hb⟩ := h.rep h0 x hx
        exact ⟨v, hv.app, hb⟩
      · rw [List.mem_singleton] at hx
        subst hx
        refine ⟨x, ?_, fun _ _ => rfl⟩
        have hsp : Sp (L ++ [redS n L x]) (u ^^^ redS n L x) := hu.app.xor (Sp.mem (List.mem_append_right _ (by simp)))
        rw [hex.symm] at hsp
        exact hsp
    · rcases List.mem_append.1 hl with hl | hl
      · exact (h.sub l hl).app
      · rw [List.mem_singleton] at hl
        subst hl
        exact hue
    · obtain ⟨r1, r2, r3⟩ := h.ref h0
      exact ⟨r1.app, r2, r3⟩
  · have hl : lead n (redS n L e) = n := Nat.le_antisymm lead_le (by omega)
    by_cases h2 : (redS n L e).testBit n = true ∧ R = 0
    · have hs : M.stepS n (L, R) e = (L, redS n L e) := by
        unfold M.stepS
        rw [if_neg h1, if_pos h2]
      rw [hs]
      have hne : redS n L e ≠ 0 := fun h5 => by
        rw [h5] at h2
        simp at h2
      exact ⟨fun h0 => absurd h0 hne, fun l hl => (h.sub l hl).app, fun _ => ⟨hue, fun j hj => lead_none hl hj, h2.1⟩⟩
    · have hs : M.stepS n (L, R) e = (L, R) := by
        unfold M.stepS
        rw [if_neg h1, if_neg h2]
      rw [hs]
      refine ⟨fun h0 x hx => ?_, fun l hl => (h.sub l hl).app, fun h0 => ?_⟩
      · rcases List.mem_append.1 hx with hx | hx
        · exact h.rep h0 x hx
        · rw [List.mem_singleton] at hx
          subst hx
          have hb : (redS n L x).testBit n = false := by
            cases hh : (redS n L x).testBit n
            · rfl
            · exact absurd ⟨hh, h0⟩ h2
          refine ⟨u, hu, fun j hj => ?_⟩
          have hz : (redS n L x).testBit j = false := by
            by_cases hjn : j = n
            · rw [hjn]
              exact hb
            · exact lead_none hl (by omega)
          have := congrArg (fun y => Nat.testBit y j) hex
          simp only [Nat.testBit_xor, hz, Bool.xor_false] at this
          exact this
      · obtain ⟨r1, r2, r3⟩ := h.ref h0
        exact ⟨r1.app, r2, r3⟩
theorem elim_fold {n : Nat} : ∀ {fs es : List Nat} {p : List Nat × Nat}, Elim n es p → Elim n (es ++ fs) (fs.foldl (M.stepS n) p)
  | [], es, p, h => by simpa using h
  | f :: fs, es, p, h => by
    have := elim_fold (fs := fs) (h.step (e := f))
    rwa [List.append_assoc] at this
def rowsE (s : Sy) : List Nat := (List.range (lB s.rows).length).map (rowE s (nSy s))
theorem elim_s (s : Sy) : Elim (nSy s) (rowsE s) (linS s, refN s) := by
  have := elim_fold (n := nSy s) (fs := rowsE s) Elim.nil
  rw [List.nil_append] at this
  exact this
theorem rowE_low {s : Sy} {m : Nat} (ho : OkE s (nSy s) m) {i : Nat} (hi : i < (lB s.rows).length) {j : Nat} (hj : j < nSy s) : (rowE s (nSy s) i).testBit j = (rowB s i).testBit j := by
  have := congrArg (fun y => Nat.testBit y j) (rowE_row (n := nSy s) (ho.lt i hi))
  simpa [hj] using this
/-- What a sum of rows says of a vector: whether it meets it oddly, and the right side. -/
def SatS (s : Sy) (x : Nat) : Prop := ∀ i, i < (lB s.rows).length → oddN (rowB s i) x (nSy s) = (lO s.right).getD i false
/-- A solution that is told solves. -/
theorem sol_sat {s : Sy} {m : Nat} (ho : OkE s (nSy s) m) (h0 : refN s = 0) : SatS s (solN s) := by
  intro i hi
  have hE := elim_s s
  obtain ⟨v, hv, hb⟩ := hE.rep h0 (rowE s (nSy s) i) (List.mem_map.2 ⟨i, List.mem_range.2 hi, rfl⟩)
  have hl : ∀ l ∈ linS s, oddN l (solN s) (nSy s) = rgt true (nSy s) l := fun l hl =>
    fillS_sat (lin_sim s).es (fun l _ => by simp) (Nat.le_refl _) l hl (by omega)
  have h1 := Sp.sat hl hv
  have h2 : oddN (rowB s i) (solN s) (nSy s) = oddN v (solN s) (nSy s) := oddN_congr fun j hj => by
    rw [← rowE_low ho hi hj, hb j (by omega)]
  rw [h2, h1]
  unfold rgt
  rw [← hb (nSy s) (Nat.le_refl _), rowE_right (ho.lt i hi)]
  rfl
/-! ### the rows that a sum is made of -/
def sumM (f : Nat → Nat) (M : Nat) : Nat → Nat
  | 0 => 0
  | w + 1 => sumM f M w ^^^ (if M.testBit w then f w else 0)
def sumQ (f : Nat → Bool) (M : Nat) : Nat → Bool
  | 0 => false
  | w + 1 => (sumQ f M w) != (M.testBit w && f w)
theorem sumM_flip {f : Nat → Nat} {M i : Nat} : ∀ {w : Nat}, sumM f (M ^^^ 2 ^ i) w = sumM f M w ^^^ (if i < w then f i else 0)
  | 0 => by simp [sumM]
  | w + 1 => by
    rw [sumM, sumM, sumM_flip, Nat.testBit_xor, Nat.testBit_two_pow]
    refine Nat.eq_of_testBit_eq fun j => ?_
    simp only [Nat.testBit_xor]
    by_cases h1 : i = w
    · subst h1
      cases M.testBit i <;> simp
    · by_cases h2 : i < w
      · have h3 : i < w + 1 := by omega
        cases M.testBit w <;> simp [h1, h2, h3]
        cases (f w).testBit j <;> cases (f i).testBit j <;> cases (sumM f M w).testBit j <;> rfl
      · have h3 : ¬ i < w + 1 := by omega
        cases M.testBit w <;> simp [h1, h2, h3]
theorem sumQ_flip {f : Nat → Bool} {M i : Nat} : ∀ {w : Nat}, sumQ f (M ^^^ 2 ^ i) w = (sumQ f M w != (decide (i < w) && f i))
  | 0 => by simp [sumQ]
  | w + 1 => by
    rw [sumQ, sumQ, sumQ_flip, Nat.testBit_xor, Nat.testBit_two_pow]
    by_cases h1 : i = w
    · subst h1
      have : decide (i < i) = false := by simp
      rw [this]
      cases M.testBit i <;> cases f i <;> cases sumQ f M i <;> simp
    · by_cases h2 : i < w
      · have h3 : i < w + 1 := by omega
        cases M.testBit w <;> cases f i <;> cases f w <;> cases sumQ f M w <;> simp [h1, h2, h3]
      · have h3 : ¬ i < w + 1 := by omega
        cases M.testBit w <;> cases f i <;> cases f w <;> cases sumQ f M w <;> simp [h1, h2, h3]
theorem setL_fold {β : Type} {g : β → Nat → β} {M : Nat} {b : β} : (setL M).foldl (fun r i => g r i.toNat) b = (List.range 64).foldl (fun r i => if M.testBit i then g r i else r) b := by
  unfold setL
  rw [List.foldl_map, List.foldl_filter]
  congr 1
theorem sumB_set {s : Sy} {M : Nat} : sumB s (setL M) = sumM (rowB s) M 64 := by
  have key : ∀ w, (List.range w).foldl (fun r i => if M.testBit i then r ^^^ rowB s i else r) 0 = sumM (rowB s) M w := by
    intro w
    induction w with
    | zero => rfl
    | succ w ih =>
      rw [List.range_succ, List.foldl_append, ih]
      simp only [List.foldl_cons, List.foldl_nil, sumM]
      cases M.testBit w <;> simp
  unfold sumB
  rw [setL_fold (g := fun r i => r ^^^ rowB s i), key]
theorem sumR_set {s : Sy} {M : Nat} : sumR s (setL M) = sumQ (fun i => (lO s.right).getD i false) M 64 := by
  have key : ∀ w, (List.range w).foldl (fun r i => if M.testBit i then r != (lO s.right).getD i false else r) false = sumQ (fun i => (lO s.right).getD i false) M w := by
    intro w
    induction w with
    | zero => rfl
    | succ w ih =>
      rw [List.range_succ, List.foldl_append, ih]
      simp only [List.foldl_cons, List.foldl_nil, sumQ]
      cases M.testBit w <;> simp
  unfold sumR
  rw [setL_fold (g := fun r i => r != (lO s.right).getD i false), key]
/-- A sum of rows tells in its high bits which rows it is made of. -/
theorem sp_sum {s : Sy} {m : Nat} (ho : OkE s (nSy s) m) {X : Nat} (hX : Sp (rowsE s) X) : (∀ j, j < nSy s → X.testBit j = (sumB s (setL (ofN (nSy s) X))).testBit j) ∧ X.testBit (nSy s) = sumR s (setL (ofN (nSy s) X)) ∧ ∀ i, (lB s.rows).length ≤ i → (ofN (nSy s) X).testBit i = false := by
  have hnr := ho.nr
  induction hX with
  | zero =>
    have h0 : ofN (nSy s) 0 = 0 := by simp [ofN]
    rw [h0, sumB_set, sumR_set]
    have hz : ∀ w, sumM (rowB s) 0 w = 0 := fun w => by
      induction w with
      | zero => rfl
      | succ w ih => simp [sumM, ih]
    have hz2 : ∀ w, sumQ (fun i => (lO s.right).getD i false) 0 w = false := fun w => by
      induction w with
      | zero => rfl
      | succ w ih =>
        rw [sumQ, ih]
        simp
    rw [hz, hz2]
    simp
  | @add v x hv hx ih =>
    obtain ⟨i, hi, rfl⟩ := List.mem_map.1 hx
    rw [List.mem_range] at hi
    obtain ⟨i1, i2, i3⟩ := ih
    have hof : ofN (nSy s) (v ^^^ rowE s (nSy s) i) = ofN (nSy s) v ^^^ 2 ^ i := by
      have := rowE_of (n := nSy s) (ho.lt i hi)
      unfold ofN at this ⊢
      rw [Nat.shiftRight_xor_distrib, this]
    rw [hof, sumB_set, sumR_set, sumM_flip, sumQ_flip, ← sumB_set, ← sumR_set]
    refine ⟨fun j hj => ?_, ?_, fun k hk => ?_⟩
    · rw [Nat.testBit_xor, Nat.testBit_xor, i1 j hj, rowE_low ho hi hj, if_pos (by omega)]
    · rw [Nat.testBit_xor, i2, rowE_right (ho.lt i hi), decide_eq_true (by omega : i < 64), Bool.true_and]
    · rw [Nat.testBit_xor, i3 k hk, Nat.testBit_two_pow]
      have : i ≠ k := by omega
      simp [this]
/-- A refusal that is told refuses. -/
theorem ref_sum {s : Sy} {m : Nat} (ho : OkE s (nSy s) m) (h0 : refN s ≠ 0) : refSum s (setL (ofN (nSy s) (refN s))) = true := by
  obtain ⟨h1, h2, h3⟩ := (elim_s s).ref h0
  obtain ⟨q1, q2, _⟩ := sp_sum ho h1
  unfold refSum
  rw [Bool.and_eq_true]
  refine ⟨by rw [← q2]; exact h3, ?_⟩
  unfold noBit
  rw [List.all_eq_true]
  intro j hj
  have hj2 : j < nSy s := List.mem_range.1 hj
  rw [← q1 j hj2]
  have := h2 j hj2
  simp only at this
  rw [this]
  rfl
theorem tri_three {seed seg : Int} {key : Str} (hg : 1 ≤ seg) : ∃ a b c : Nat, tri seed key seg 3 = [(a : Int), (b : Int), (c : Int)] ∧ a < b ∧ b < c ∧ (c : Int) < 3 * seg := by
  obtain ⟨a0, a1⟩ := placeV_bd (seed := seed) (part := 0) (s := key) (n := seg) (by omega)
  obtain ⟨b0, b1⟩ := placeV_bd (seed := seed) (part := 1) (s := key) (n := seg) (by omega)
  obtain ⟨c0, c1⟩ := placeV_bd (seed := seed) (part := 2) (s := key) (n := seg) (by omega)
  refine ⟨(placeV seed 0 key seg).toNat, (placeV seed 1 key seg + seg).toNat, (placeV seed 2 key seg + 2 * seg).toNat, ?_, by omega, by omega, by omega⟩
  rw [Int.toNat_of_nonneg a0, Int.toNat_of_nonneg (by omega), Int.toNat_of_nonneg (by omega)]
  simp [tri, List.range_succ]
theorem oddN_edge3 {a b c x n : Nat} (hab : a < b) (hbc : b < c) (hc : c < n) : oddN (edgeN [(a : Int), (b : Int), (c : Int)]) x n = (x.testBit a != (x.testBit b != x.testBit c)) := by
  have h1 : oddN (edgeN [(a : Int), (b : Int), (c : Int)]) x n = oddN (2 ^ a ^^^ (2 ^ b ^^^ 2 ^ c)) x n := oddN_congr fun j _ => by
    have h2 : (edgeN [(a : Int), (b : Int), (c : Int)]).testBit j = (2 ^ a ^^^ (2 ^ b ^^^ 2 ^ c)).testBit j := by
      rw [edgeN_bit (by simp), Nat.testBit_xor, Nat.testBit_xor, Nat.testBit_two_pow, Nat.testBit_two_pow, Nat.testBit_two_pow]
      by_cases h1 : a = j
      · subst h1
        have e1 : ¬ b = a := by omega
        have e2 : ¬ c = a := by omega
        simp [e1, e2]
      · by_cases h2 : b = j
        · subst h2
          have e1 : ¬ a = b := by omega
          have e2 : ¬ c = b := by omega
          simp [e1, e2]
        · by_cases h3 : c = j
          · subst h3
            simp [h1, h2]
          · have : ¬ ((j : Int) = a ∨ (j : Int) = b ∨ (j : Int) = c) := by omega
            simp [h1, h2, h3, this]
    rw [h2]
  have one : ∀ p : Nat, p < n → oddN (2 ^ p) x n = x.testBit p := fun p hp => by
    rw [oddN_one hp fun j hj hne => by rw [Nat.testBit_two_pow]; simp [Ne.symm hne], Nat.testBit_two_pow]
    simp
  rw [h1, oddN_xor, oddN_xor, one a (by omega), one b (by omega), one c hc]
theorem rowB_tab {seed seg : Int} {keys : Option (List Str)} {vals : Option (List Int)} {width : Int} (F : TaskF seed seg width keys vals) {j k : Nat} (hk : k < (lS keys).length) : rowB (tabSy seed seg keys vals j) k = edgeN (tri seed ((lS keys).getD k []) seg 3) := by
  have h1 : (lB (tabSy seed seg keys vals j).rows).getD k default = rowT (nT seg) (mT seg) (tri seed ((lS keys).getD k []) seg 3) := by
    show (lB (optB ((edges seed (lS keys) seg).map (rowT (nT seg) (mT seg))))).getD k default = _
    rw [lB_optB]
    simp [edges, hk]
  unfold rowB
  rw [h1]
  show numW (wordsN (edgeN (tri seed ((lS keys).getD k []) seg 3)) (mT seg)) = _
  refine numW_wordsN (Nat.lt_of_lt_of_le (edgeN_lt (n := nT seg) fun p hp => F.eb _ (List.mem_map.2 ⟨(lS keys).getD k [], getD_mem hk, rfl⟩) p hp) (Nat.pow_le_pow_right (by decide) ?_))
  have := F.mm
  omega
/-- What is built by solving gives each key its value. -/
theorem tab_val {seed seg width : Int} {keys : Option (List Str)} {vals : Option (List Int)} (hk : taskOk seed seg width keys vals = true) (hall : allOk (tabSy seed seg keys vals) width.toNat = true) {k : Nat} (hkk : k < (lS keys).length) :
    ((valT seed seg (cellsL (bitsT (tabSy seed seg keys vals)) (nT seg) width.toNat 0) ((lS keys).getD k []) : Nat) : Int) = (lI vals).getD k 0 := by
  have F := task_facts hk
  have hkv : k < (lI vals).length := by rw [F.vl]; exact hkk
  have hvb : 0 ≤ (lI vals).getD k 0 ∧ (lI vals).getD k 0 ≤ ((2 ^ width.toNat : Nat) : Int) - 1 := by
    simp only [taskOk, Bool.and_eq_true, decide_eq_true_eq] at hk
    obtain ⟨_, _, _, va⟩ := hk
    have := List.all_eq_true.1 va _ (getD_mem (d := 0) hkv)
    simpa only [Bool.and_eq_true, decide_eq_true_eq] using this
  obtain ⟨V, hV⟩ : ∃ V : Nat, (lI vals).getD k 0 = (V : Int) := ⟨((lI vals).getD k 0).toNat, (Int.toNat_of_nonneg hvb.1).symm⟩
  have hVlt : V < 2 ^ width.toNat := by omega
  obtain ⟨a, b, c, ht, hab, hbc, hc⟩ := tri_three (seed := seed) (key := (lS keys).getD k []) F.g0
  have hcn : c < nT seg := by have := F.nn; omega
  rw [hV]
  congr 1
  have hcell : ∀ p : Nat, p < nT seg → cellAt (cellsL (bitsT (tabSy seed seg keys vals)) (nT seg) width.toNat 0) (p : Int) = mkN width.toNat (bitsT (tabSy seed seg keys vals) p) := fun p hp => by
    unfold cellAt cellsL
    simp [hp]
  have hval : valT seed seg (cellsL (bitsT (tabSy seed seg keys vals)) (nT seg) width.toNat 0) ((lS keys).getD k []) = mkN width.toNat (bitsT (tabSy seed seg keys vals) a) ^^^ mkN width.toNat (bitsT (tabSy seed seg keys vals) b) ^^^ mkN width.toNat (bitsT (tabSy seed seg keys vals) c) := by
    unfold valT
    rw [ht]
    unfold xorT
    simp only [List.foldl_cons, List.foldl_nil]
    rw [hcell a (by omega), hcell b (by omega), hcell c hcn, Nat.zero_xor]
  rw [hval]
  refine Nat.eq_of_testBit_eq fun j => ?_
  rw [Nat.testBit_xor, Nat.testBit_xor, mkN_bit, mkN_bit, mkN_bit]
  by_cases hj : j < width.toNat
  · have hr : refN (tabSy seed seg keys vals j) = 0 := by
      have := List.all_eq_true.1 hall j (List.mem_range.2 hj)
      simpa using this
    obtain ⟨m, ho⟩ := okE_n (F.ok j)
    have hrl : k < (lB (tabSy seed seg keys vals j).rows).length := by
      show k < (lB (optB ((edges seed (lS keys) seg).map (rowT (nT seg) (mT seg))))).length
      rw [lB_optB, List.length_map, edges_len]
      exact hkk
    have hs := sol_sat ho hr k hrl
    rw [rowB_tab F hkk, ht, nSy_tab, oddN_edge3 hab hbc hcn] at hs
    have hrt : (lO (tabSy seed seg keys vals j).right).getD k false = V.testBit j := by
      show (bitR (lI vals) j).getD k false = _
      have : (bitR (lI vals) j).getD k false = ((lI vals).getD k 0).toNat.testBit j := by simp [bitR, hkv]
      rw [this, hV, Int.toNat_natCast]
    rw [hrt] at hs
    rw [← hs]
    simp only [hj, decide_true, Bool.true_and, bitsT]
    cases (solN (tabSy seed seg keys vals j)).testBit a <;> cases (solN (tabSy seed seg keys vals j)).testBit b <;> cases (solN (tabSy seed seg keys vals j)).testBit c <;> rfl
  · have hz : V.testBit j = false := Nat.testBit_lt_two_pow (Nat.lt_of_lt_of_le hVlt (Nat.pow_le_pow_right (by decide) (by omega)))
    rw [hz]
    simp [hj]
def edgeOk (n : Int) (e : List Int) : Bool := decide (e.length = 3) && decide (0 ≤ e.getD 0 0) && decide (e.getD 0 0 < e.getD 1 0) && decide (e.getD 1 0 < e.getD 2 0) && decide (e.getD 2 0 < n)
def hyOk (n : Int) (o : Option (List (List Int))) : Bool := (lIS o).all (edgeOk n) && (decide (1 ≤ n) && decide (n ≤ 72)) && decide (((lIS o).length : Int) ≤ 40)
theorem all_take {α : Type} {f : α → Bool} {l : List α} {i : Nat} {d : α} (hi : i < l.length) : (l.take (i + 1)).all f = ((l.take i).all f && f (l.getD i d)) := by
  rw [List.take_add_one, List.all_append]
  simp [hi]
theorem all_no {α : Type} {f : α → Bool} {l : List α} {i : Nat} {d : α} (hi : i < l.length) (hf : f (l.getD i d) = false) : l.all f = false := by
  rw [← Bool.not_eq_true, List.all_eq_true]
  intro h
  have := h _ (getD_mem (d := d) hi)
  rw [hf] at this
  cases this
theorem ow_tupB {h : H} {x t1 : AV} {q : Bool} {G : Nat → Prop} (ho : Ow h [x] [.tup [t1, .bool q]] G) : ∃ y, x = .tup [y, .bool q] ∧ Ow h [y] [t1] G := by
  obtain ⟨cs, rfl, h1⟩ := ho.openTup
  have hl := h1.len
  match cs, hl, h1 with
  | [y1, y2], _, h1 =>
    obtain ⟨F1, F2, w1, w2, q1, q2⟩ := h1.uncons
    have := w2.atomOf rfl
    subst this
    exact ⟨y1, rfl, w1.mono q1⟩
theorem three_of {e : List Int} (h : e.length = 3) : ∃ a b c, e = [a, b, c] := by
  match e, h with
  | [a, b, c], _ => exact ⟨a, b, c, rfl⟩
theorem edgeOk_three {n a b c : Int} : edgeOk n [a, b, c] = (decide (0 ≤ a) && decide (a < b) && decide (b < c) && decide (c < n)) := rfl
structure HyF (n : Nat) (o : Option (List (List Int))) : Prop where
  n1 : 1 ≤ n
  n2 : n ≤ 72
  el : (lIS o).length ≤ 40
  e3 : ∀ e ∈ lIS o, e.length = 3
  eb : ∀ e ∈ lIS o, ∀ p ∈ e, 0 ≤ p ∧ p < (n : Int)
theorem hy_facts {n : Int} {o : Option (List (List Int))} (h : hyOk n o = true) : ∃ m : Nat, n = m ∧ HyF m o := by
  simp only [hyOk, Bool.and_eq_true, decide_eq_true_eq] at h
  obtain ⟨⟨ha, h1, h2⟩, h3⟩ := h
  refine ⟨n.toNat, by omega, by omega, by omega, by omega, fun e he => ?_, fun e he p hp => ?_⟩
  · have := List.all_eq_true.1 ha e he
    simp only [edgeOk, Bool.and_eq_true, decide_eq_true_eq] at this
    exact this.1.1.1.1
  · have hk := List.all_eq_true.1 ha e he
    have h3 : e.length = 3 := by
      simp only [edgeOk, Bool.and_eq_true, decide_eq_true_eq] at hk
      exact hk.1.1.1.1
    obtain ⟨a, b, c, rfl⟩ := three_of h3
    rw [edgeOk_three] at hk
    simp only [Bool.and_eq_true, decide_eq_true_eq] at hk
    simp only [List.mem_cons, List.not_mem_nil, or_false] at hp
    omega
theorem hyOk_edges {seed seg : Int} {ks : List Str} (g0 : 1 ≤ seg) (g1 : seg ≤ 24) (hk : ks.length ≤ 40) : hyOk (3 * seg) (optE (edges seed ks seg)) = true := by
  unfold hyOk
  rw [lIS_optE, edges_len]
  simp only [Bool.and_eq_true, decide_eq_true_eq]
  refine ⟨⟨List.all_eq_true.2 fun e he => ?_, by omega, by omega⟩, by omega⟩
  obtain ⟨k, _, rfl⟩ := List.mem_map.1 he
  obtain ⟨a, b, c, ht, h1, h2, h3⟩ := tri_three (seed := seed) (key := k) g0
  rw [ht, edgeOk_three]
  simp only [Bool.and_eq_true, decide_eq_true_eq]
  omega

theorem c_impl_isEdge (e : List Int) (n : Int) : Fn Tryz.prog 150 [eI (some e), .int .i64 n] (· = .bool (edgeOk n e)) := by
  refine Fn.of free_bool fun h => ?_
  refine enter (by kernel_rfl) e150 (by kernel_rfl) rfl fun hok => ?_
  simp only [r150, initEnv_2]
  have hlE : lI (some e) = e := rfl
  by_cases h3 : e.length = 3
  · obtain ⟨a, b, c, rfl⟩ := three_of h3
    rw [edgeOk_three]
    have hi0 : iaddrA 1 (eI (some [a, b, c])) (.int .i64 0) = some (.rad [.int .i64 a, .int .i64 b, .int .i64 c] 0) := (iaddr_eI (by omega) (by show (0 : Int) < 3; omega)).trans rfl
    have hi1 : iaddrA 1 (eI (some [a, b, c])) (.int .i64 1) = some (.rad [.int .i64 a, .int .i64 b, .int .i64 c] 1) := (iaddr_eI (by omega) (by show (1 : Int) < 3; omega)).trans rfl
    have hi2 : iaddrA 1 (eI (some [a, b, c])) (.int .i64 2) = some (.rad [.int .i64 a, .int .i64 b, .int .i64 c] 2) := (iaddr_eI (by omega) (by show (2 : Int) < 3; omega)).trans rfl
    have hg : ([AV.int .i64 a, .int .i64 b, .int .i64 c][0]? = some (.int .i64 a)) ∧ ([AV.int .i64 a, .int .i64 b, .int .i64 c][1]? = some (.int .i64 b)) ∧ ([AV.int .i64 a, .int .i64 b, .int .i64 c][2]? = some (.int .i64 c)) := ⟨rfl, rfl, rfl⟩
    by_cases h0 : 0 ≤ a
    · by_cases h1 : a < b
      · by_cases h2 : b < c
        · by_cases h4 : c < n
          · (try (simp (disch := first | omega | (simp <;> omega) | fail) only [push_cast, ↓reduceIte, Nat.reduceEqDiff, Nat.reduceAdd, Nat.reduceMul, Nat.reduceSub, Nat.reduceLT, Int.reduceToNat, hlE, hi0, hi1, hi2, hg.1, hg.2.1, hg.2.2, h0, h1, h2, h4]))
          · (try (simp (disch := first | omega | (simp <;> omega) | fail) only [push_cast, ↓reduceIte, Nat.reduceEqDiff, Nat.reduceAdd, Nat.reduceMul, Nat.reduceSub, Nat.reduceLT, Int.reduceToNat, hlE, hi0, hi1, hi2, hg.1, hg.2.1, hg.2.2, h0, h1, h2, h4]))
        · (try (simp (disch := first | omega | (simp <;> omega) | fail) only [push_cast, ↓reduceIte, Nat.reduceEqDiff, Nat.reduceAdd, Nat.reduceMul, Nat.reduceSub, Nat.reduceLT, Int.reduceToNat, hlE, hi0, hi1, hi2, hg.1, hg.2.1, hg.2.2, h0, h1, h2]))
      · (try (simp (disch := first | omega | (simp <;> omega) | fail) only [push_cast, ↓reduceIte, Nat.reduceEqDiff, Nat.reduceAdd, Nat.reduceMul, Nat.reduceSub, Nat.reduceLT, Int.reduceToNat, hlE, hi0, hi1, hi2, hg.1, hg.2.1, hg.2.2, h0, h1]))
    · (try (simp (disch := first | omega | (simp <;> omega) | fail) only [push_cast, ↓reduceIte, Nat.reduceEqDiff, Nat.reduceAdd, Nat.reduceMul, Nat.reduceSub, Nat.reduceLT, Int.reduceToNat, hlE, hi0, hi1, hi2, hg.1, hg.2.1, hg.2.2, h0]))
  · have hk : edgeOk n e = false := by simp [edgeOk, h3]
    rw [hk]
    have h3' : ¬ (e.length : Int) = 3 := by omega
    (try (simp (disch := first | omega | (simp <;> omega) | fail) only [push_cast, ↓reduceIte, Nat.reduceEqDiff, Nat.reduceAdd, Nat.reduceMul, Nat.reduceSub, Nat.reduceLT, Int.reduceToNat, hlE, h3']))

theorem c_impl_IsHyper_1 (e : List Int) (n : Int) (w : AV) : Fn Tryz.prog 149 [eI (some e), .rad [.int .i64 n, w] 0] (· = .bool (!(edgeOk n e))) := by
  refine Fn.of free_bool fun h => ?_
  refine enter (by kernel_rfl) e149 (by kernel_rfl) rfl fun hok => ?_
  simp only [r149, initEnv_1]
  (try (simp (disch := first | omega | (simp <;> omega) | fail) only [push_cast, ↓reduceIte, Nat.reduceEqDiff, Nat.reduceAdd, Nat.reduceMul, Nat.reduceSub, Nat.reduceLT, Int.reduceToNat]))
  refine (c_impl_isEdge e n).call ?_
  cases edgeOk n e <;> (try (simp (disch := first | omega | (simp <;> omega) | fail) only [push_cast, ↓reduceIte, Nat.reduceEqDiff, Nat.reduceAdd, Nat.reduceMul, Nat.reduceSub, Nat.reduceLT, Int.reduceToNat]))

theorem c_IndexFunc_IS (a : Option (List (List Int))) (f b0 : Nat) (cs : List AV) (g : List Int → Bool) (hg : ∀ x, Fn Tryz.prog f [eI (some x), .rad cs 0] (· = .bool (g x))) (hfree : ∀ c ∈ cs, Free c) (h : H) (hb : h.cells b0 = some cs) (hlen : (lIS a).length ≤ 1000) :
    Call Tryz.prog 181 [eIS a, .fn f [.adr b0 0]] h Nowhere (fun x h' => (∃ n : Int, x = .int .i64 n ∧ decide (0 ≤ n) = !((lIS a).all fun m => !g m)) ∧ h' = h) := by
  refine Call.gc (Call.mono (?_ : Call Tryz.prog 181 [eIS a, .fn f [.adr b0 0]] h Nowhere (fun x _ => ∃ n : Int, x = .int .i64 n ∧ decide (0 ≤ n) = !((lIS a).all fun m => !g m))) (fun x _ ⟨n, hn, hx⟩ => ⟨⟨n, hn, hx⟩, by rw [hn]; exact free_int⟩) (fun _ _ h => h))
  refine enter (by kernel_rfl) e181 (by kernel_rfl) rfl fun hok => ?_
  simp only [r181, initEnv_2]
  (try (simp (disch := first | omega | (simp <;> omega) | fail) only [push_cast, ↓reduceIte, Nat.reduceEqDiff, Nat.reduceAdd, Nat.reduceMul, Nat.reduceSub, Nat.reduceLT, Int.reduceToNat]))
  refine T_for (lIS a).length (fun i e h' => Pins e [(0, eIS a), (1, .fn f [.adr b0 0]), (7, .int .i64 (lIS a).length), (8, .int .i64 i)] ∧ h' = h ∧ ((lIS a).take i).all (fun m => !g m) = true) ?_ ?_
  · (try (simp (disch := first | omega | (simp <;> omega) | fail) only [push_cast, ↓reduceIte, Nat.reduceEqDiff, Nat.reduceAdd, Nat.reduceMul, Nat.reduceSub, Nat.reduceLT, Int.reduceToNat]))
    all_goals (try simp)
  rintro i e h' hi ⟨hp, rfl, ha⟩
  refine T_pins hp fun e => ?_
  (try (simp (disch := first | omega | (simp <;> omega) | fail) only [push_cast, ↓reduceIte, Nat.reduceEqDiff, Nat.reduceAdd, Nat.reduceMul, Nat.reduceSub, Nat.reduceLT, Int.reduceToNat]))
  first | refine goC_split (fun hc => ?_) (fun hc => ?_) | refine cnd_split (fun hc => ?_) (fun hc => ?_)
  · (try (simp only [decide_eq_true_eq, decide_eq_false_iff_not, Bool.not_eq_true', Bool.not_eq_false', Bool.and_eq_true, Bool.or_eq_true, Int.not_lt, Int.not_le] at hc)); (try (simp (disch := first | omega | (simp <;> omega) | fail) only [push_cast, ↓reduceIte, Nat.reduceEqDiff, Nat.reduceAdd, Nat.reduceMul, Nat.reduceSub, Nat.reduceLT, Int.reduceToNat]))
    have hi2 : i < (lIS a).length := by omega
    (try (simp (disch := first | omega | (simp <;> omega) | fail) only [push_cast, ↓reduceIte, Nat.reduceEqDiff, Nat.reduceAdd, Nat.reduceMul, Nat.reduceSub, Nat.reduceLT, Int.reduceToNat]))
    refine (hg ((lIS a).getD i [])).lendL (.free free_eI (.adr hb hfree .nil)) own_bool ?_
    have hn := all_take (f := fun m => !g m) (d := ([] : List Int)) hi2
    cases hk : g ((lIS a).getD i [])
    · (try (simp (disch := first | omega | (simp <;> omega) | fail) only [push_cast, ↓reduceIte, Nat.reduceEqDiff, Nat.reduceAdd, Nat.reduceMul, Nat.reduceSub, Nat.reduceLT, Int.reduceToNat]))
      rw [hn, ha, hk]
      all_goals (try rfl)
    · (try (simp (disch := first | omega | (simp <;> omega) | fail) only [push_cast, ↓reduceIte, Nat.reduceEqDiff, Nat.reduceAdd, Nat.reduceMul, Nat.reduceSub, Nat.reduceLT, Int.reduceToNat]))
      refine ⟨_, rfl, ?_⟩
      rw [all_no (f := fun m => !g m) (d := ([] : List Int)) hi2 (by rw [hk]; rfl)]
      simp
  · (try (simp only [decide_eq_true_eq, decide_eq_false_iff_not, Bool.not_eq_true', Bool.not_eq_false', Bool.and_eq_true, Bool.or_eq_true, Int.not_lt, Int.not_le] at hc)); (try (simp (disch := first | omega | (simp <;> omega) | fail) only [push_cast, ↓reduceIte, Nat.reduceEqDiff, Nat.reduceAdd, Nat.reduceMul, Nat.reduceSub, Nat.reduceLT, Int.reduceToNat]))
    have : (lIS a).take i = lIS a := List.take_of_length_le (by omega)
    rw [this] at ha
    refine ⟨_, rfl, ?_⟩
    rw [ha]
    rfl

theorem c_ContainsFunc_IS (a : Option (List (List Int))) (f b0 : Nat) (cs : List AV) (g : List Int → Bool) (hg : ∀ x, Fn Tryz.prog f [eI (some x), .rad cs 0] (· = .bool (g x))) (hfree : ∀ c ∈ cs, Free c) (h : H) (hb : h.cells b0 = some cs) (hlen : (lIS a).length ≤ 1000) :
    Call Tryz.prog 148 [eIS a, .fn f [.adr b0 0]] h Nowhere (fun x h' => x = .bool (!((lIS a).all fun m => !g m)) ∧ h' = h) := by
  refine Call.gc (Call.mono (?_ : Call Tryz.prog 148 [eIS a, .fn f [.adr b0 0]] h Nowhere (fun x _ => x = .bool (!((lIS a).all fun m => !g m)))) (fun x _ hx => ⟨hx, by rw [hx]; exact free_bool⟩) (fun _ _ h => h))
  refine enter (by kernel_rfl) e148 (by kernel_rfl) rfl fun hok => ?_
  simp only [r148, initEnv_2]
  (try (simp (disch := first | omega | (simp <;> omega) | fail) only [push_cast, ↓reduceIte, Nat.reduceEqDiff, Nat.reduceAdd, Nat.reduceMul, Nat.reduceSub, Nat.reduceLT, Int.reduceToNat]))
  refine (c_IndexFunc_IS a f b0 cs g hg hfree h hb hlen).mono (fun x h' hx => ?_) (fun _ _ h => h.elim)
  obtain ⟨⟨n, rfl, hn⟩, rfl⟩ := hx
  rw [← hn]
  (try (simp (disch := first | omega | (simp <;> omega) | fail) only [push_cast, ↓reduceIte, Nat.reduceEqDiff, Nat.reduceAdd, Nat.reduceMul, Nat.reduceSub, Nat.reduceLT, Int.reduceToNat]))
  (first | refine goC_split (fun hc => ?_) (fun hc => ?_) | refine cnd_split (fun hc => ?_) (fun hc => ?_)) <;> ((try (simp (disch := first | omega | (simp <;> omega) | fail) only [push_cast, ↓reduceIte, Nat.reduceEqDiff, Nat.reduceAdd, Nat.reduceMul, Nat.reduceSub, Nat.reduceLT, Int.reduceToNat]))) <;> (try rw [hc])

theorem c_impl_IsHyper (n : Int) (o : Option (List (List Int))) (hl : (lIS o).length ≤ 1000) : Fn Tryz.prog 100 [eHy n o] (· = .bool (hyOk n o)) := by
  refine Fn.of free_bool fun h => ?_
  unfold eHy
  refine enter (by kernel_rfl) e100 (by kernel_rfl) rfl fun hok => ?_
  simp only [r100, initEnv_1]
  (try (simp (disch := first | omega | (simp <;> omega) | fail) only [push_cast, ↓reduceIte, Nat.reduceEqDiff, Nat.reduceAdd, Nat.reduceMul, Nat.reduceSub, Nat.reduceLT, Int.reduceToNat]))
  refine (c_ContainsFunc_IS o _ h.length [.int .i64 n, eIS o] (fun b => !(edgeOk n b)) (fun x => c_impl_IsHyper_1 x n (eIS o)) (free_cons_ free_int (free_cons_ free_eIS free_nil_)) _ (by rw [cells_h0]; rfl) hl).mono (fun x h' hx => ?_) (fun _ _ h => h.elim)
  obtain ⟨rfl, rfl⟩ := hx
  have hm : ((lIS o).all fun m => !!(edgeOk n m)) = (lIS o).all (edgeOk n) := by
    simp only [Bool.not_not]
  rw [hm]
  unfold hyOk
  cases h0 : (lIS o).all (edgeOk n)
  · (try (simp (disch := first | omega | (simp <;> omega) | fail) only [push_cast, ↓reduceIte, Nat.reduceEqDiff, Nat.reduceAdd, Nat.reduceMul, Nat.reduceSub, Nat.reduceLT, Int.reduceToNat]))
    all_goals (try simp)
  (try (simp (disch := first | omega | (simp <;> omega) | fail) only [push_cast, ↓reduceIte, Nat.reduceEqDiff, Nat.reduceAdd, Nat.reduceMul, Nat.reduceSub, Nat.reduceLT, Int.reduceToNat]))
  refine (c_impl_in _ _ _).call ?_
  cases h1 : (decide (1 ≤ n) && decide (n ≤ 72))
  · (try (simp (disch := first | omega | (simp <;> omega) | fail) only [push_cast, ↓reduceIte, Nat.reduceEqDiff, Nat.reduceAdd, Nat.reduceMul, Nat.reduceSub, Nat.reduceLT, Int.reduceToNat]))
  by_cases h2 : ((lIS o).length : Int) ≤ 40
  · (try (simp (disch := first | omega | (simp <;> omega) | fail) only [push_cast, ↓reduceIte, Nat.reduceEqDiff, Nat.reduceAdd, Nat.reduceMul, Nat.reduceSub, Nat.reduceLT, Int.reduceToNat, h2]))
    all_goals (try simp)
  · (try (simp (disch := first | omega | (simp <;> omega) | fail) only [push_cast, ↓reduceIte, Nat.reduceEqDiff, Nat.reduceAdd, Nat.reduceMul, Nat.reduceSub, Nat.reduceLT, Int.reduceToNat, h2]))
    all_goals (try simp [h2])

theorem c_impl_HyperOf (seed seg : Int) (keys : Option (List Str)) (s0 : 0 ≤ seed) (s1 : seed ≤ 9999) (hk : okKeys (lS keys) = true) (g0 : 1 ≤ seg) (g1 : seg ≤ 24) : Fn Tryz.prog 39 [.int .i64 seed, eS keys, .int .i64 seg] (· = .tup [eHy (3 * seg) (optE (edges seed (lS keys) seg)), .bool true]) := by
  refine Fn.of (free_tup (free_cons_ free_eHy (free_cons_ free_bool free_nil_))) fun h => ?_
  refine enter (by kernel_rfl) e39 (by kernel_rfl) rfl fun hok => ?_
  simp only [r39, initEnv_3]
  have hkl : (lS keys).length ≤ 1000 := by
    have h3 := hk
    rw [okKeys, Bool.and_eq_true, decide_eq_true_eq] at h3
    omega
  have hph := c_impl_hyper seed keys seg s0 s1 g0 g1 hkl
  generalize optE (edges seed (lS keys) seg) = oE at *
  unfold eHy at *
  have hs : (decide (0 ≤ seed) && decide (seed ≤ 9999)) = true := by simp [s0, s1]
  have hg : (decide (1 ≤ seg) && decide (seg ≤ 24)) = true := by simp [g0, g1]
  (try (simp (disch := first | omega | (simp <;> omega) | fail) only [push_cast, ↓reduceIte, Nat.reduceEqDiff, Nat.reduceAdd, Nat.reduceMul, Nat.reduceSub, Nat.reduceLT, Int.reduceToNat]))
  refine (c_impl_isSeed _).call ?_
  rw [hs]
  (try (simp (disch := first | omega | (simp <;> omega) | fail) only [push_cast, ↓reduceIte, Nat.reduceEqDiff, Nat.reduceAdd, Nat.reduceMul, Nat.reduceSub, Nat.reduceLT, Int.reduceToNat]))
  refine (c_impl_AreKeys _).call ?_
  rw [hk]
  (try (simp (disch := first | omega | (simp <;> omega) | fail) only [push_cast, ↓reduceIte, Nat.reduceEqDiff, Nat.reduceAdd, Nat.reduceMul, Nat.reduceSub, Nat.reduceLT, Int.reduceToNat]))
  refine (c_impl_segmentOk _).call ?_
  rw [hg]
  (try (simp (disch := first | omega | (simp <;> omega) | fail) only [push_cast, ↓reduceIte, Nat.reduceEqDiff, Nat.reduceAdd, Nat.reduceMul, Nat.reduceSub, Nat.reduceLT, Int.reduceToNat]))
  refine hph.call ?_
  have hw := cells_wr2 (h := h ++ [some (.cells [.int .i64 0, .nils])]) (b := h.length) (by simp) (cs := [AV.int .i64 (3 * seg), eIS oE])
  have hpm : (h.length ≤ h.length) = True := by simp
  (try (simp (disch := first | omega | (simp <;> omega) | fail) only [push_cast, ↓reduceIte, Nat.reduceEqDiff, Nat.reduceAdd, Nat.reduceMul, Nat.reduceSub, Nat.reduceLT, Int.reduceToNat, hw, hpm]))

theorem c_impl_SystemOf (n m : Nat) (o : Option (List (List Int))) (R : List Bool) (hm : (((n : Int) + 15) / 16) = (m : Int)) (hk : hyOk n o = true) (hR : R.length = (lIS o).length) : Fn Tryz.prog 40 [eHy n o, eO (some R)] (· = .tup [eSy (sysT n m (lIS o) R), .bool true]) := by
  refine Fn.of (free_tup (free_cons_ free_eSy (free_cons_ free_bool free_nil_))) fun h => ?_
  obtain ⟨n', hn', F⟩ := hy_facts hk
  obtain rfl : n' = n := by omega
  have hsy := c_impl_systemOf n' m o R F.n1 F.n2 hm F.el (by have := F.el; omega) F.eb
  have hih := c_impl_IsHyper (n' : Int) o (by have := F.el; omega)
  rw [hk] at hih
  generalize sysT n' m (lIS o) R = sy at *
  unfold eHy at *
  refine enter (by kernel_rfl) e40 (by kernel_rfl) rfl fun hok => ?_
  simp only [r40, initEnv_2]
  (try (simp (disch := first | omega | (simp <;> omega) | fail) only [push_cast, ↓reduceIte, Nat.reduceEqDiff, Nat.reduceAdd, Nat.reduceMul, Nat.reduceSub, Nat.reduceLT, Int.reduceToNat]))
  refine hih.call ?_
  have hR2 : (((lO (some R)).length : Nat) : Int) = (lIS o).length := by show ((R.length : Nat) : Int) = _; omega
  (try (simp (disch := first | omega | (simp <;> omega) | fail) only [push_cast, ↓reduceIte, Nat.reduceEqDiff, Nat.reduceAdd, Nat.reduceMul, Nat.reduceSub, Nat.reduceLT, Int.reduceToNat, hR2]))
  refine hsy.call ?_
  have hw := cells_wr2 (h := h ++ [some (.cells [.int .i64 n', eIS o]), some (.cells [.int .i64 0, .nils, .nils])]) (b := h.length + 1) (by simp) (cs := [AV.int .i64 sy.size, eBS sy.rows, eO sy.right])
  have hpm : (h.length ≤ h.length + 1) = True := by simp
  (try (simp (disch := first | omega | (simp <;> omega) | fail) only [push_cast, ↓reduceIte, Nat.reduceEqDiff, Nat.reduceAdd, Nat.reduceMul, Nat.reduceSub, Nat.reduceLT, Int.reduceToNat, hw, hpm]))

def noneLeft (n : Nat) (E : List (List Int)) : Bool := decide ((leftTo (peelV n E).2 E.length).length = 0)
theorem c_impl_Hyper_order_o (n : Nat) (o : Option (List (List Int))) (F : HyF n o) :
    FnO Tryz.prog 82 [.rad [.int .i64 n, eIS o] 0] (· = .tup [eSt (peelV n (lIS o)).1, .bool (noneLeft n (lIS o))]) := by
  intro h
  refine enter (by kernel_rfl) e82 (by kernel_rfl) rfl fun hok => ?_
  simp only [r82, initEnv_1]
  have hfr : Free (.rad [.int .i64 n, eIS o] 0) := free_rad (free_cons_ free_int (free_cons_ free_eIS free_nil_))
  (try (simp (disch := first | omega | (simp <;> omega) | fail) only [push_cast, ↓reduceIte, Nat.reduceEqDiff, Nat.reduceAdd, Nat.reduceMul, Nat.reduceSub, Nat.reduceLT, Int.reduceToNat]))
  refine (c_impl_Hyper_peel_o n o F.eb (by have := F.n2; omega) (by have := F.el; omega) (fun e he => by rw [F.e3 e he]; omega)).go fun x t g2 ht hext how => ?_
  subst ht
  obtain ⟨cs, rfl, how2⟩ := how.openTup
  have hl := how2.len
  obtain ⟨y1, y2, rfl⟩ : ∃ y1 y2, cs = [y1, y2] := by
    match cs, hl with
    | [y1, y2], _ => exact ⟨y1, y2, rfl⟩
  obtain ⟨F1, F2, w1, w2, q1, q2⟩ := how2.uncons
  obtain ⟨b, rfl, _, _⟩ := ow_intsP w2
  have hfin : ∀ q : Bool, Ow g2 [.tup [y1, .bool q]] [.tup [eSt (peelV n (lIS o)).1, .bool q]] fun c => h.length ≤ c := fun q => Ow.tupOf (w1.two (.atom rfl .nil) (F' := fun _ => False) (fun c hc => (q1 c hc).1) (fun _ h => h.elim))
  have hnl : (nI (leftTo (peelV n (lIS o)).2 (lIS o).length)).length = (leftTo (peelV n (lIS o)).2 (lIS o).length).length := by simp [nI]
  rw [hnl]
  unfold noneLeft
  (try (simp (disch := first | omega | (simp <;> omega) | fail) only [push_cast, ↓reduceIte, Nat.reduceEqDiff, Nat.reduceAdd, Nat.reduceMul, Nat.reduceSub, Nat.reduceLT, Int.reduceToNat]))
  by_cases h0 : (leftTo (peelV n (lIS o)).2 (lIS o).length).length = 0
  · have h0' : (((leftTo (peelV n (lIS o)).2 (lIS o).length).length : Nat) : Int) = 0 := by omega
    rw [decide_eq_true h0]
    (try (simp (disch := first | omega | (simp <;> omega) | fail) only [push_cast, ↓reduceIte, Nat.reduceEqDiff, Nat.reduceAdd, Nat.reduceMul, Nat.reduceSub, Nat.reduceLT, Int.reduceToNat, h0']))
    all_goals (try exact ⟨_, hfin true, rfl⟩)
  · have h0' : ¬ (((leftTo (peelV n (lIS o)).2 (lIS o).length).length : Nat) : Int) = 0 := by omega
    rw [decide_eq_false h0]
    (try (simp (disch := first | omega | (simp <;> omega) | fail) only [push_cast, ↓reduceIte, Nat.reduceEqDiff, Nat.reduceAdd, Nat.reduceMul, Nat.reduceSub, Nat.reduceLT, Int.reduceToNat, h0']))
    all_goals (try exact ⟨_, hfin false, rfl⟩)

theorem c_impl_PeelOrder (n : Nat) (o : Option (List (List Int))) (hk : hyOk n o = true) : Fn Tryz.prog 42 [eHy n o] (fun x => ∃ v, x = .tup [v, .bool (noneLeft n (lIS o))]) := by
  obtain ⟨n', hn', F⟩ := hy_facts hk
  obtain rfl : n' = n := by omega
  have hih := c_impl_IsHyper (n' : Int) o (by have := F.el; omega)
  rw [hk] at hih
  have hord := c_impl_Hyper_order_o n' o F
  refine Fn.froze_ fun h => ?_
  unfold eHy at *
  refine enter (by kernel_rfl) e42 (by kernel_rfl) rfl fun hok => ?_
  simp only [r42, initEnv_1]
  (try (simp (disch := first | omega | (simp <;> omega) | fail) only [push_cast, ↓reduceIte, Nat.reduceEqDiff, Nat.reduceAdd, Nat.reduceMul, Nat.reduceSub, Nat.reduceLT, Int.reduceToNat]))
  refine hih.call ?_
  (try (simp (disch := first | omega | (simp <;> omega) | fail) only [push_cast, ↓reduceIte, Nat.reduceEqDiff, Nat.reduceAdd, Nat.reduceMul, Nat.reduceSub, Nat.reduceLT, Int.reduceToNat]))
  refine hord.goL (.adr (by rw [cells_h0]; rfl) (free_cons_ free_int (free_cons_ free_eIS free_nil_)) .nil) fun x t g2 ht hext how => ?_
  subst ht
  obtain ⟨y, rfl, how2⟩ := ow_tupB how
  cases noneLeft n' (lIS o)
  · (try (simp (disch := first | omega | (simp <;> omega) | fail) only [push_cast, ↓reduceIte, Nat.reduceEqDiff, Nat.reduceAdd, Nat.reduceMul, Nat.reduceSub, Nat.reduceLT, Int.reduceToNat]))
    all_goals (try exact ⟨_, .free (free_tup (free_cons_ free_nils (free_cons_ free_bool free_nil_))), _, rfl⟩)
  · (try (simp (disch := first | omega | (simp <;> omega) | fail) only [push_cast, ↓reduceIte, Nat.reduceEqDiff, Nat.reduceAdd, Nat.reduceMul, Nat.reduceSub, Nat.reduceLT, Int.reduceToNat]))
    refine ⟨.tup [eSt (peelV n' (lIS o)).1, .bool true], vw_tupL rfl fun i y t hy ht => ?_, _, rfl⟩
    rcases i with _ | _ | i
    · simp at hy ht
      subst hy ht
      exact how2.vw1 fun c hc => by have := hc.1; simp at this; omega
    · simp at hy ht
      subst hy ht
      exact .free free_bool
    · simp at hy

end Go.Proofs.YtjfgmimgmapeeaaGreat.M
